/-
  The functions that the law reaches, as the abstract machine runs them, printed by program. No condition.
-/
import Derived.Test.YtobifggnopkeeaaGreatDoorS0
namespace Go.Proofs.YtobifggnopkeeaaGreatDoor.Eng
open Go Go.Eng
set_option linter.unusedVariables false
set_option maxRecDepth 100000

noncomputable def k156d0 : KD := 
(dLook (nat_lit 14) [] [(nat_lit 13)] (lkPick g19 g29 q0) p30 (dEnd [(nat_lit 16), (nat_lit 17), (nat_lit 18), (nat_lit 19), (nat_lit 20), (nat_lit 21), (nat_lit 22), (nat_lit 23), (nat_lit 24), (nat_lit 25), (nat_lit 26), (nat_lit 27), (nat_lit 28), (nat_lit 29), (nat_lit 30)]))
noncomputable def k156d1 : KD := 
(dIf [] (wantT g19) p29 (dTurn (nat_lit 13) [] [] true (xCall q242 [g23, g28]) p29 k156d0) k156d0)
noncomputable def k156d2 : KD := 
(dIf [] (wantT g19) p28 (dLook (nat_lit 12) [] [] (lkLoad1 g27) p28 k156d1) k156d1)
noncomputable def k156d3 : KD := 
(dIf [] (wantT g19) p27 (dLook (nat_lit 11) [] [] (lkIxSl (nat_lit 1) g24 g26) p27 k156d2) k156d2)
noncomputable def k156d4 : KD := 
(dIf [] (wantT g19) p26 (dLook (nat_lit 10) [] [] (lkBin .sub g25 q12) p26 k156d3) k156d3)
noncomputable def k156d5 : KD := 
(dIf [] (wantT g19) p25 (dLook (nat_lit 9) [] [] (lkMove g7) p25 k156d4) k156d4)
noncomputable def k156d6 : KD := 
(dIf [] (wantT g19) p24 (dLook (nat_lit 8) [] [] (lkMove g0) p24 k156d5) k156d5)
noncomputable def k156d7 : KD := 
(dIf [] (wantT g19) p23 (dLook (nat_lit 7) [] [] (lkLoad1 g22) p23 k156d6) k156d6)
noncomputable def k156d8 : KD := 
(dIf [] (wantT g19) p22 (dLook (nat_lit 6) [] [] (lkIxSl (nat_lit 1) g20 g21) p22 k156d7) k156d7)
noncomputable def k156d9 : KD := 
(dIf [] (wantT g19) p21 (dLook (nat_lit 5) [] [] (lkMove g7) p21 k156d8) k156d8)
noncomputable def k156 : KFun := ⟨[], (kSeq (oSet (xMove g1) p8 
(oSet (xLook (lkBin .add g8 q12)) p9 
(oSet (xMove g9) p6 
oEnd))) (kBlock (nat_lit 0) (kLoop (kSeq (kSeq (oSet (xMove g6) p10 
(oSet (xMove g2) p11 
(oSet (xLook (lkBin .lss g10 g11)) p12 
oEnd))) (kCond g12 kSkip (kExit (nat_lit 0)))) (kSeq (kBlock (nat_lit 1) (kSeq (oSet (xMove g6) p15 
(oSet (xMove g15) p7 
oEnd)) (kBlock (nat_lit 2) (kLoop (kSeq (kSeq (kDraw 
(dLook (nat_lit 0) [] [] (lkMove g7) p16 
(dLook (nat_lit 1) [] [] (lkMove g1) p17 
(dLook (nat_lit 2) [] [] (lkBin .gtr g16 g17) p18 
(dLook (nat_lit 3) [] [] (lkMove g18) p19 
(dIf [] (wantT g19) p20 (dLook (nat_lit 4) [] [] (lkMove g0) p20 k156d9) k156d9)))))) (kCond g30 kSkip (kExit (nat_lit 2)))) (kSeq (kBlock (nat_lit 3) (kDraw 
(dLook (nat_lit 0) [] [] (lkMove g0) p33 
(dLook (nat_lit 1) [] [] (lkMove g7) p34 
(dLook (nat_lit 2) [] [] (lkMove g0) p35 
(dLook (nat_lit 3) [] [] (lkMove g7) p36 
(dLook (nat_lit 4) [] [] (lkBin .sub g36 q12) p37 
(dLook (nat_lit 5) [] [] (lkMove g0) p38 
(dLook (nat_lit 6) [] [] (lkMove g7) p39 
(dLook (nat_lit 7) [] [] (lkBin .sub g39 q12) p40 
(dLook (nat_lit 8) [] [] (lkIxSl (nat_lit 1) g38 g40) p41 
(dLook (nat_lit 9) [] [] (lkLoad1 g41) p42 
(dLook (nat_lit 10) [] [] (lkMove g0) p43 
(dLook (nat_lit 11) [] [] (lkMove g7) p44 
(dLook (nat_lit 12) [] [] (lkIxSl (nat_lit 1) g43 g44) p45 
(dLook (nat_lit 13) [] [] (lkLoad1 g45) p46 
(dLook (nat_lit 14) [] [] (lkIxSl (nat_lit 1) g33 g34) p47 
(dTurn (nat_lit 15) [] [] true (xTurn (tnStore (nat_lit 1) g47 g42)) noDst 
(dLook (nat_lit 16) [] [(nat_lit 15)] (lkIxSl (nat_lit 1) g35 g37) p48 
(dTurn (nat_lit 17) [] [(nat_lit 15)] true (xTurn (tnStore (nat_lit 1) g48 g46)) noDst (dEnd [(nat_lit 33), (nat_lit 34), (nat_lit 35), (nat_lit 36), (nat_lit 37), (nat_lit 38), (nat_lit 39), (nat_lit 40), (nat_lit 41), (nat_lit 42), (nat_lit 43), (nat_lit 44), (nat_lit 45), (nat_lit 46), (nat_lit 47), (nat_lit 48)]))))))))))))))))))))) (oSet (xMove g7) p31 
(oSet (xLook (lkBin .sub g31 q12)) p32 
(oSet (xMove g32) p7 
oEnd))))))))) (oSet (xMove g6) p13 
(oSet (xLook (lkBin .add g13 q12)) p14 
(oSet (xMove g14) p6 
oEnd))))))))⟩
def q316 : OpdF := kC (.int .u64 (.ofNat (nat_lit 1)))
def q317 : OpdF := kC (.int .i64 (.ofNat (nat_lit 50)))
def q322 : OpdF := kC (.int .u64 (.ofNat (nat_lit 16)))
def q324 : OpdF := kC (.string ⟨⟨[0, 1, 2, 2, 3, 3, 3, 3, 4, 4, 4, 4, 4, 4, 4, 4, 5, 5, 5, 5, 5, 5, 5, 5, 5, 5, 5, 5, 5, 5, 5, 5, 6, 6, 6, 6, 6, 6, 6, 6, 6, 6, 6, 6, 6, 6, 6, 6, 6, 6, 6, 6, 6, 6, 6, 6, 6, 6, 6, 6, 6, 6, 6, 6, 7, 7, 7, 7, 7, 7, 7, 7, 7, 7, 7, 7, 7, 7, 7, 7, 7, 7, 7, 7, 7, 7, 7, 7, 7, 7, 7, 7, 7, 7, 7, 7, 7, 7, 7, 7, 7, 7, 7, 7, 7, 7, 7, 7, 7, 7, 7, 7, 7, 7, 7, 7, 7, 7, 7, 7, 7, 7, 7, 7, 7, 7, 7, 7, 8, 8, 8, 8, 8, 8, 8, 8, 8, 8, 8, 8, 8, 8, 8, 8, 8, 8, 8, 8, 8, 8, 8, 8, 8, 8, 8, 8, 8, 8, 8, 8, 8, 8, 8, 8, 8, 8, 8, 8, 8, 8, 8, 8, 8, 8, 8, 8, 8, 8, 8, 8, 8, 8, 8, 8, 8, 8, 8, 8, 8, 8, 8, 8, 8, 8, 8, 8, 8, 8, 8, 8, 8, 8, 8, 8, 8, 8, 8, 8, 8, 8, 8, 8, 8, 8, 8, 8, 8, 8, 8, 8, 8, 8, 8, 8, 8, 8, 8, 8, 8, 8, 8, 8, 8, 8, 8, 8, 8, 8, 8, 8, 8, 8, 8, 8, 8, 8, 8, 8, 8, 8, 8, 8, 8, 8, 8, 8]⟩⟩)
def q325 : OpdF := kC (.int .u64 (.ofNat (nat_lit 4294967296)))
def q326 : OpdF := kC (.int .u64 (.ofNat (nat_lit 32)))
def q327 : OpdF := kC (.int .u64 (.ofNat (nat_lit 65536)))
def q328 : OpdF := kC (.int .u64 (.ofNat (nat_lit 256)))
noncomputable def k166 : KFun := ⟨[rTmp (nat_lit 2) g2], (kSeq (oSet (xMove q8) p2 
oEnd) (kSeq (kSeq (oSet (xMove g0) p3 
(oSet (xLook (lkBin .geq g3 q325)) p4 
oEnd)) (kCond g4 (kSeq (oSet (xMove g0) p5 
(oSet (xLook (lkBin .shr g5 q326)) p6 
(oSet (xMove g6) p0 
oEnd))) (oSet (xMove q69) p2 
oEnd)) kSkip)) (kSeq (kSeq (oSet (xMove g0) p7 
(oSet (xLook (lkBin .geq g7 q327)) p8 
oEnd)) (kCond g8 (kSeq (oSet (xMove g0) p9 
(oSet (xLook (lkBin .shr g9 q322)) p10 
(oSet (xMove g10) p0 
oEnd))) (oSet (xMove g2) p11 
(oSet (xLook (lkBin .add g11 q40)) p12 
(oSet (xMove g12) p2 
oEnd)))) kSkip)) (kSeq (kSeq (oSet (xMove g0) p13 
(oSet (xLook (lkBin .geq g13 q328)) p14 
oEnd)) (kCond g14 (kSeq (oSet (xMove g0) p15 
(oSet (xLook (lkBin .shr g15 q181)) p16 
(oSet (xMove g16) p0 
oEnd))) (oSet (xMove g2) p17 
(oSet (xLook (lkBin .add g17 q41)) p18 
(oSet (xMove g18) p2 
oEnd)))) kSkip)) (kSeq (oSet (xMove g2) p19 
(oSet (xMove g0) p20 
(oSet (xLook (lkIntTo .u8 g20)) p21 
(oSet (xLook (lkIxStr q324 g21)) p22 
(oSet (xLook (lkIntTo .i64 g22)) p23 
(oSet (xLook (lkBin .add g19 g23)) p24 
(oSet (xMove g24) p2 
oEnd))))))) kRet)))))⟩
noncomputable def k167 : KFun := ⟨[rTmp (nat_lit 6) g6, rTmp (nat_lit 7) g7], (kSeq (oSet (xMove q8) p6 
(oSet (xMove q0) p7 
oEnd)) (kSeq (oSet (xMove g0) p12 
(oSet (xLook (lkLen .sl g12)) p13 
(oSet (xMove g13) p8 
oEnd))) (kSeq (oSet (xMove g8) p14 
(oSet (xMove q8) p9 
(oSet (xMove g14) p10 
oEnd))) (kSeq (kBlock (nat_lit 0) (kLoop (kSeq (kSeq (oSet (xMove g9) p15 
(oSet (xMove g10) p16 
(oSet (xLook (lkBin .lss g15 g16)) p17 
oEnd))) (kCond g17 kSkip (kExit (nat_lit 0)))) (kBlock (nat_lit 1) (kSeq (oSet (xMove g9) p18 
(oSet (xMove g10) p19 
(oSet (xLook (lkBin .add g18 g19)) p20 
(oSet (xLook (lkIntTo .u64 g20)) p21 
(oSet (xLook (lkBin .shr g21 q316)) p22 
(oSet (xLook (lkIntTo .i64 g22)) p23 
(oSet (xMove g23) p11 
oEnd))))))) (kSeq (oSet (xMove g2) p24 
(oSet (xMove g0) p25 
(oSet (xMove g11) p26 
(oSet (xLook (lkIxSl (nat_lit 67) g25 g26)) p27 
(oSet (xLook (lkLoadN (nat_lit 67) g27)) p28 
(oSet (xMove g1) p29 
(oSet (xCall g24 [g28, g29]) p30 
(oSet (xLook (lkBin .lss g30 q8)) p31 
oEnd)))))))) (kCond g31 (oSet (xMove g11) p32 
(oSet (xLook (lkBin .add g32 q12)) p33 
(oSet (xMove g33) p9 
oEnd))) (oSet (xMove g11) p34 
(oSet (xMove g34) p10 
oEnd))))))))) (kSeq (oSet (xMove g9) p35 
(oSet (xMove g9) p36 
(oSet (xMove g8) p37 
(oSet (xLook (lkBin .lss g36 g37)) p38 
(oSet (xMove g38) p39 
(oSetIf (wantT g39) (xMove g2) p40 
(oSetIf (wantT g39) (xMove g0) p41 
(oSetIf (wantT g39) (xMove g9) p42 
(oSetIf (wantT g39) (xLook (lkIxSl (nat_lit 67) g41 g42)) p43 
(oSetIf (wantT g39) (xLook (lkLoadN (nat_lit 67) g43)) p44 
(oSetIf (wantT g39) (xMove g1) p45 
(oSetIf (wantT g39) (xCall g40 [g44, g45]) p46 
(oSetIf (wantT g39) (xLook (lkEq false .int g46 q8)) p47 
(oSet (xLook (lkPick g39 g47 q0)) p48 
(oSet (xMove g35) p6 
(oSet (xMove g48) p7 
oEnd)))))))))))))))) kRet)))))⟩
def q329 : OpdF := kC (.func (.func (nat_lit 169)) ⟨[]⟩ ⟨[]⟩)
noncomputable def k168 : KFun := ⟨[rTmp (nat_lit 4) g4], (kSeq (oSet (xTurn (tnBox g0)) p2 
(oSet (xMove q8) p4 
oEnd)) (kSeq (oSet (xLook (lkFieldAddr (nat_lit 0) g2)) p5 
(oSet (xLook (lkLoad1 g5)) p6 
(oSet (xMove g1) p7 
(oSet (xCall q329 [g6, g7]) p8 
(oSet (xMove g8) p4 
oEnd))))) kRet))⟩
def q330 : OpdF := kC (.func (.func (nat_lit 238)) ⟨[]⟩ ⟨[]⟩)
noncomputable def k169 : KFun := ⟨[rTmp (nat_lit 4) g4], (kSeq (oSet (xMove q8) p4 
oEnd) (kSeq (oSet (xMove g0) p5 
(oSet (xMove g1) p6 
(oSet (xCall q330 [g5, g6]) p7 
(oSet (xMove g7) p4 
oEnd)))) kRet))⟩
def q331 : List Value := [(.pointer none), (.int .i64 (.ofNat (nat_lit 0))), (.map none)]
def q332 : OpdF := kC (.func (.func (nat_lit 239)) ⟨[]⟩ ⟨[]⟩)
def q333 : CCode := (.region false [⟨none, (some (nat_lit 9)), (.move (.tmp (nat_lit 24))), (nat_lit 0), [], []⟩])
def q334 : CCode := (.block (nat_lit 1) (.region false [⟨none, (some (nat_lit 25)), (.load1 (.tmp (nat_lit 7))), (nat_lit 0), [], []⟩,
⟨none, (some (nat_lit 26)), (.move (.tmp (nat_lit 9))), (nat_lit 1), [], []⟩,
⟨none, (some (nat_lit 27)), (.buildSlice [(.string ⟨⟨[]⟩⟩)] [⟨(nat_lit 0), (nat_lit 1), (.tmp (nat_lit 26))⟩] (nat_lit 1)), (nat_lit 2), [], []⟩,
⟨none, (some (nat_lit 28)), (.append (nat_lit 1) (.tmp (nat_lit 25)) (.tmp (nat_lit 27))), (nat_lit 3), [], []⟩,
⟨none, none, (.store (nat_lit 1) (.tmp (nat_lit 7)) (.tmp (nat_lit 28))), (nat_lit 4), [], []⟩]))
noncomputable def k170 : KFun := ⟨[rTmp (nat_lit 4) g4, rTmp (nat_lit 5) g5], (kSeq (oSet (xTurn (tnBox g1)) p3 
(oSet (xMove q23) p4 
(oSet (xMove q5) p5 
oEnd))) (kSeq (oSet (xMove g0) p10 
(oSet (xTurn (tnMkMap (.many (nat_lit 32) .u8))) p11 
(oSet (xLook (lkBuild q331 [((nat_lit 0), (nat_lit 1), g10), ((nat_lit 2), (nat_lit 1), g11)])) p12 
(oSet (xTurn (tnBox g12)) p13 
(oSet (xMove g13) p6 
oEnd))))) (kSeq (kSeq (oSet (xMove g0) p14 
(oSet (xCall q209 [g14]) p15 
oEnd)) (kCond g15 (kSeq (oSet (xMove g6) p16 
(oSet (xNil g16) p17 
(oSet (xLook (lkFieldAddr (nat_lit 1) g17)) p18 
(oDo (xTurn (tnStore (nat_lit 1) g18 q12)) 
oEnd)))) (kSeq (oSet (xMove g6) p19 
(oSet (xMove q23) p4 
(oSet (xMove g19) p5 
oEnd))) kRet)) kSkip)) (kSeq (oSet (xTurn (tnAlloc q14)) p7 
oEnd) (kSeq (kSeq (oSet (xMove g6) p20 
(oSet (xLook (lkLoadN (nat_lit 32) g3)) p21 
(oSet (xCall q332 [g20, g21]) p22 
oEnd))) (kBlock (nat_lit 0) (kRange g22 [(nat_lit 23), (nat_lit 24)] q333 q334))) (kSeq (kSeq (oSet (xMove g6) p29 
(oSet (xNil g29) p30 
(oSet (xLook (lkFieldAddr (nat_lit 1) g30)) p31 
(oSet (xLook (lkLoad1 g31)) p32 
(oSet (xLook (lkEq true .int g32 q8)) p33 
oEnd))))) (kCond g33 (kSeq (oSet (xMove g6) p34 
(oSet (xMove q23) p4 
(oSet (xMove g34) p5 
oEnd))) kRet) kSkip)) (kSeq (oSet (xLook (lkLoad1 g7)) p35 
(oSet (xMove g6) p36 
(oSet (xMove g35) p4 
(oSet (xMove g36) p5 
oEnd)))) kRet)))))))⟩
def q335 : OpdF := kC (.int .i64 (.ofNat (nat_lit 15)))
def q338 : OpdF := kC (.func (.func (nat_lit 241)) ⟨[]⟩ ⟨[]⟩)
noncomputable def k172 : KFun := ⟨[rTmp (nat_lit 2) g2], (kSeq (oSet (xMove q8) p2 
oEnd) (kSeq (kSeq (oSet (xMove g0) p4 
(oSet (xLook (lkLen .sl g4)) p5 
(oSet (xMove q8) p6 
oEnd))) (kBlock (nat_lit 0) (kLoop (kSeq (oSet (xLook (lkBin .lss g6 g5)) p7 
oEnd) (kSeq (kCond g7 kSkip (kExit (nat_lit 0))) (kSeq (kBlock (nat_lit 1) (kSeq (oSet (xMove g6) p8 
(oSet (xMove g8) p3 
oEnd)) (kSeq (oSet (xMove g0) p9 
(oSet (xMove g3) p10 
(oSet (xCall q338 [g9, g10]) p11 
oEnd))) (kCond g11 (kSeq (oSet (xMove g3) p12 
(oSet (xMove g12) p2 
oEnd)) kRet) kSkip)))) (oSet (xLook (lkBin .add g6 q12)) p13 
(oSet (xMove g13) p6 
oEnd)))))))) (kSeq (oSet (xMove q88) p2 
oEnd) kRet)))⟩
noncomputable def k174 : KFun := ⟨[rTmp (nat_lit 2) g2], (kSeq (oSet (xMove q8) p2 
oEnd) (kSeq (kSeq (oSet (xMove g0) p4 
(oSet (xLook (lkBin .lss g4 q8)) p5 
oEnd)) (kCond g5 (kSeq (oSet (xMove q8) p2 
oEnd) kRet) kSkip)) (kSeq (oSet (xMove q12) p3 
oEnd) (kSeq (kSeq (oSet (xMove g0) p6 
(oSet (xLook (lkBin .shr g6 q143)) p7 
(oSet (xMove g7) p0 
oEnd))) (kBlock (nat_lit 0) (kLoop (kSeq (kSeq (oSet (xMove g0) p8 
(oSet (xLook (lkBin .gtr g8 q8)) p9 
oEnd)) (kCond g9 kSkip (kExit (nat_lit 0)))) (kSeq (kBlock (nat_lit 1) (oSet (xMove g3) p12 
(oSet (xLook (lkBin .add g12 q12)) p13 
(oSet (xMove g13) p3 
oEnd)))) (oSet (xMove g0) p10 
(oSet (xLook (lkBin .shr g10 q143)) p11 
(oSet (xMove g11) p0 
oEnd)))))))) (kSeq (oSet (xMove g3) p14 
(oSet (xMove g14) p2 
oEnd)) kRet)))))⟩
noncomputable def k176 : KFun := ⟨[], (kSeq (oSet (xLook (lkLoad1 g1)) p4 
(oSet (xTurn (tnRangeMap g4)) p5 
oEnd)) (kBlock (nat_lit 0) (kLoop (kSeq (oSet (xNextMap g5) p6 
(oSet (xLook (lkExtract (nat_lit 0) g6)) p7 
oEnd)) (kSeq (kCond g7 kSkip (kExit (nat_lit 0))) (kBlock (nat_lit 1) (kSeq (oSet (xLook (lkEntry g5)) p8 
(oSet (xLook (lkExtract (nat_lit 0) g8)) p9 
(oSet (xMove g9) p3 
oEnd))) (kSeq (oSet (xMove g0) p10 
(oSet (xMove g3) p11 
(oSet (xCall g10 [g11]) p12 
(oSet (xLook (lkUn .not g12)) p13 
oEnd)))) (kCond g13 kRet kSkip)))))))))⟩
noncomputable def k177 : KFun := ⟨[rTmp (nat_lit 2) g2], (kSeq (oSet (xMove q0) p2 
oEnd) (kSeq (oSet (xMove g0) p3 
(oSet (xLook (lkEq false .ptr g3 q5)) p4 
(oSet (xMove g4) p5 
(oSetIf (wantF g5) (xMove g0) p6 
(oSetIf (wantF g5) (xNil g6) p7 
(oSetIf (wantF g5) (xLook (lkFieldAddr (nat_lit 0) g7)) p8 
(oSetIf (wantF g5) (xLook (lkLoad1 g8)) p9 
(oSetIf (wantF g5) (xLook (lkUn .not g9)) p10 
(oSet (xLook (lkPick g5 q3 g10)) p11 
(oSet (xMove g11) p2 
oEnd)))))))))) kRet))⟩
def q349 : List Value := [(.int .u32 (.ofNat (nat_lit 0))), (.int .u32 (.ofNat (nat_lit 0))), (.int .u32 (.ofNat (nat_lit 0))), (.int .u32 (.ofNat (nat_lit 0))), (.int .u32 (.ofNat (nat_lit 0))), (.int .u32 (.ofNat (nat_lit 0))), (.int .u32 (.ofNat (nat_lit 0))), (.int .u32 (.ofNat (nat_lit 0)))]
def q350 : OpdF := kC (.int .u32 (.ofNat (nat_lit 1779033703)))
def q351 : OpdF := kC (.int .u32 (.ofNat (nat_lit 3144134277)))
def q352 : OpdF := kC (.int .u32 (.ofNat (nat_lit 1013904242)))
def q353 : OpdF := kC (.int .u32 (.ofNat (nat_lit 2773480762)))
def q354 : OpdF := kC (.int .u32 (.ofNat (nat_lit 1359893119)))
def q355 : OpdF := kC (.int .u32 (.ofNat (nat_lit 2600822924)))
def q356 : OpdF := kC (.int .u32 (.ofNat (nat_lit 528734635)))
def q357 : OpdF := kC (.int .u32 (.ofNat (nat_lit 1541459225)))
noncomputable def k180 : KFun := ⟨[rCellN (nat_lit 0) g0 (nat_lit 8)], (kSeq (oSet (xTurn (tnAlloc q349)) p0 
oEnd) (kSeq (oSet (xLook (lkBuild q349 [((nat_lit 0), (nat_lit 1), q350), ((nat_lit 1), (nat_lit 1), q351), ((nat_lit 2), (nat_lit 1), q352), ((nat_lit 3), (nat_lit 1), q353), ((nat_lit 4), (nat_lit 1), q354), ((nat_lit 5), (nat_lit 1), q355), ((nat_lit 6), (nat_lit 1), q356), ((nat_lit 7), (nat_lit 1), q357)])) p1 
(oDo (xTurn (tnStore (nat_lit 8) g0 g1)) 
oEnd)) kRet))⟩
noncomputable def k181 : KFun := ⟨[rTmp (nat_lit 2) g2], (kSeq (oSet (xMove q0) p2 
oEnd) (kSeq (oSet (xMove g0) p3 
(oSet (xLook (lkEq false .ptr g3 q5)) p4 
(oSet (xMove g4) p5 
(oSetIf (wantF g5) (xMove g0) p6 
(oSetIf (wantF g5) (xNil g6) p7 
(oSetIf (wantF g5) (xLook (lkFieldAddr (nat_lit 0) g7)) p8 
(oSetIf (wantF g5) (xLook (lkLoad1 g8)) p9 
(oSetIf (wantF g5) (xLook (lkUn .not g9)) p10 
(oSet (xLook (lkPick g5 q3 g10)) p11 
(oSet (xMove g11) p2 
oEnd)))))))))) kRet))⟩
def q358 : List Value := [(.int .u32 (.ofNat (nat_lit 0))), (.int .u32 (.ofNat (nat_lit 0))), (.int .u32 (.ofNat (nat_lit 0))), (.int .u32 (.ofNat (nat_lit 0))), (.int .u32 (.ofNat (nat_lit 0))), (.int .u32 (.ofNat (nat_lit 0))), (.int .u32 (.ofNat (nat_lit 0))), (.int .u32 (.ofNat (nat_lit 0))), (.int .u32 (.ofNat (nat_lit 0))), (.int .u32 (.ofNat (nat_lit 0))), (.int .u32 (.ofNat (nat_lit 0))), (.int .u32 (.ofNat (nat_lit 0))), (.int .u32 (.ofNat (nat_lit 0))), (.int .u32 (.ofNat (nat_lit 0))), (.int .u32 (.ofNat (nat_lit 0))), (.int .u32 (.ofNat (nat_lit 0))), (.int .u32 (.ofNat (nat_lit 0))), (.int .u32 (.ofNat (nat_lit 0))), (.int .u32 (.ofNat (nat_lit 0))), (.int .u32 (.ofNat (nat_lit 0))), (.int .u32 (.ofNat (nat_lit 0))), (.int .u32 (.ofNat (nat_lit 0))), (.int .u32 (.ofNat (nat_lit 0))), (.int .u32 (.ofNat (nat_lit 0))), (.int .u32 (.ofNat (nat_lit 0))), (.int .u32 (.ofNat (nat_lit 0))), (.int .u32 (.ofNat (nat_lit 0))), (.int .u32 (.ofNat (nat_lit 0))), (.int .u32 (.ofNat (nat_lit 0))), (.int .u32 (.ofNat (nat_lit 0))), (.int .u32 (.ofNat (nat_lit 0))), (.int .u32 (.ofNat (nat_lit 0))), (.int .u32 (.ofNat (nat_lit 0))), (.int .u32 (.ofNat (nat_lit 0))), (.int .u32 (.ofNat (nat_lit 0))), (.int .u32 (.ofNat (nat_lit 0))), (.int .u32 (.ofNat (nat_lit 0))), (.int .u32 (.ofNat (nat_lit 0))), (.int .u32 (.ofNat (nat_lit 0))), (.int .u32 (.ofNat (nat_lit 0))), (.int .u32 (.ofNat (nat_lit 0))), (.int .u32 (.ofNat (nat_lit 0))), (.int .u32 (.ofNat (nat_lit 0))), (.int .u32 (.ofNat (nat_lit 0))), (.int .u32 (.ofNat (nat_lit 0))), (.int .u32 (.ofNat (nat_lit 0))), (.int .u32 (.ofNat (nat_lit 0))), (.int .u32 (.ofNat (nat_lit 0))), (.int .u32 (.ofNat (nat_lit 0))), (.int .u32 (.ofNat (nat_lit 0))), (.int .u32 (.ofNat (nat_lit 0))), (.int .u32 (.ofNat (nat_lit 0))), (.int .u32 (.ofNat (nat_lit 0))), (.int .u32 (.ofNat (nat_lit 0))), (.int .u32 (.ofNat (nat_lit 0))), (.int .u32 (.ofNat (nat_lit 0))), (.int .u32 (.ofNat (nat_lit 0))), (.int .u32 (.ofNat (nat_lit 0))), (.int .u32 (.ofNat (nat_lit 0))), (.int .u32 (.ofNat (nat_lit 0))), (.int .u32 (.ofNat (nat_lit 0))), (.int .u32 (.ofNat (nat_lit 0))), (.int .u32 (.ofNat (nat_lit 0))), (.int .u32 (.ofNat (nat_lit 0)))]
def q359 : OpdF := kC (.int .u64 (.ofNat (nat_lit 24)))
def q360 : OpdF := kC (.int .u64 (.ofNat (nat_lit 10)))
def q361 : OpdF := kC (.func (.func (nat_lit 242)) ⟨[]⟩ ⟨[]⟩)
def q362 : OpdF := kC (.int .i64 (.ofNat (nat_lit 19)))
def q363 : OpdF := kC (.int .i64 (.ofNat (nat_lit 17)))
def q364 : OpdF := kC (.int .u64 (.ofNat (nat_lit 3)))
def q365 : OpdF := kC (.int .i64 (.ofNat (nat_lit 18)))
def q366 : OpdF := kC (.func (.func (nat_lit 243)) ⟨[]⟩ ⟨[]⟩)
def q367 : OpdF := kC (.int .i64 (.ofNat (nat_lit 25)))
def q368 : OpdF := kC (.int .i64 (.ofNat (nat_lit 13)))
def q369 : OpdF := kC (.int .i64 (.ofNat (nat_lit 22)))
noncomputable def k182 : KFun := ⟨[rCellN (nat_lit 4) g4 (nat_lit 8)], (kSeq (oSet (xTurn (tnBox g0)) p2 
(oSet (xTurn (tnAlloc q349)) p4 
oEnd)) (kSeq (oSet (xTurn (tnAlloc q358)) p5 
oEnd) (kSeq (kSeq (oSet (xMove q8) p23 
oEnd) (kBlock (nat_lit 0) (kLoop (kSeq (oSet (xLook (lkBin .lss g23 q40)) p24 
oEnd) (kSeq (kCond g24 kSkip (kExit (nat_lit 0))) (kSeq (kBlock (nat_lit 1) (kSeq (oSet (xMove g23) p25 
(oSet (xMove g25) p6 
oEnd)) (kDraw 
(dLook (nat_lit 0) [] [] (lkMove g6) p26 
(dLook (nat_lit 1) [] [] (lkMove g1) p27 
(dLook (nat_lit 2) [] [] (lkMove g6) p28 
(dLook (nat_lit 3) [] [] (lkBin .mul q70 g28) p29 
(dLook (nat_lit 4) [] [] (lkIxSl (nat_lit 1) g27 g29) p30 
(dLook (nat_lit 5) [] [] (lkLoad1 g30) p31 
(dLook (nat_lit 6) [] [] (lkIntTo .u32 g31) p32 
(dLook (nat_lit 7) [] [] (lkBin .shl g32 q359) p33 
(dLook (nat_lit 8) [] [] (lkMove g1) p34 
(dLook (nat_lit 9) [] [] (lkMove g6) p35 
(dLook (nat_lit 10) [] [] (lkBin .mul q70 g35) p36 
(dLook (nat_lit 11) [] [] (lkBin .add g36 q12) p37 
(dLook (nat_lit 12) [] [] (lkIxSl (nat_lit 1) g34 g37) p38 
(dLook (nat_lit 13) [] [] (lkLoad1 g38) p39 
(dLook (nat_lit 14) [] [] (lkIntTo .u32 g39) p40 
(dLook (nat_lit 15) [] [] (lkBin .shl g40 q322) p41 
(dLook (nat_lit 16) [] [] (lkBin .or g33 g41) p42 
(dLook (nat_lit 17) [] [] (lkMove g1) p43 
(dLook (nat_lit 18) [] [] (lkMove g6) p44 
(dLook (nat_lit 19) [] [] (lkBin .mul q70 g44) p45 
(dLook (nat_lit 20) [] [] (lkBin .add g45 q9) p46 
(dLook (nat_lit 21) [] [] (lkIxSl (nat_lit 1) g43 g46) p47 
(dLook (nat_lit 22) [] [] (lkLoad1 g47) p48 
(dLook (nat_lit 23) [] [] (lkIntTo .u32 g48) p49 
(dLook (nat_lit 24) [] [] (lkBin .shl g49 q181) p50 
(dLook (nat_lit 25) [] [] (lkBin .or g42 g50) p51 
(dLook (nat_lit 26) [] [] (lkMove g1) p52 
(dLook (nat_lit 27) [] [] (lkMove g6) p53 
(dLook (nat_lit 28) [] [] (lkBin .mul q70 g53) p54 
(dLook (nat_lit 29) [] [] (lkBin .add g54 q68) p55 
(dLook (nat_lit 30) [] [] (lkIxSl (nat_lit 1) g52 g55) p56 
(dLook (nat_lit 31) [] [] (lkLoad1 g56) p57 
(dLook (nat_lit 32) [] [] (lkIntTo .u32 g57) p58 
(dLook (nat_lit 33) [] [] (lkBin .or g51 g58) p59 
(dLook (nat_lit 34) [] [] (lkIxArr (nat_lit 64) (nat_lit 1) g5 g26) p60 
(dTurn (nat_lit 35) [] [] true (xTurn (tnStore (nat_lit 1) g60 g59)) noDst (dEnd [(nat_lit 26), (nat_lit 27), (nat_lit 28), (nat_lit 29), (nat_lit 30), (nat_lit 31), (nat_lit 32), (nat_lit 33), (nat_lit 34), (nat_lit 35), (nat_lit 36), (nat_lit 37), (nat_lit 38), (nat_lit 39), (nat_lit 40), (nat_lit 41), (nat_lit 42), (nat_lit 43), (nat_lit 44), (nat_lit 45), (nat_lit 46), (nat_lit 47), (nat_lit 48), (nat_lit 49), (nat_lit 50), (nat_lit 51), (nat_lit 52), (nat_lit 53), (nat_lit 54), (nat_lit 55), (nat_lit 56), (nat_lit 57), (nat_lit 58), (nat_lit 59), (nat_lit 60)])))))))))))))))))))))))))))))))))))))))) (oSet (xLook (lkBin .add g23 q12)) p61 
(oSet (xMove g61) p23 
oEnd)))))))) (kSeq (kSeq (oSet (xMove q40) p7 
oEnd) (kBlock (nat_lit 2) (kLoop (kSeq (kSeq (oSet (xMove g7) p62 
(oSet (xLook (lkBin .lss g62 q180)) p63 
oEnd)) (kCond g63 kSkip (kExit (nat_lit 2)))) (kSeq (kBlock (nat_lit 3) (kSeq (kDraw 
(dLook (nat_lit 0) [] [] (lkMove g7) p66 
(dLook (nat_lit 1) [] [] (lkBin .sub g66 q335) p67 
(dLook (nat_lit 2) [] [] (lkIxArr (nat_lit 64) (nat_lit 1) g5 g67) p68 
(dLook (nat_lit 3) [] [] (lkLoad1 g68) p69 
(dLook (nat_lit 4) [] [] (lkMove g7) p70 
(dLook (nat_lit 5) [] [] (lkBin .sub g70 q9) p71 
(dLook (nat_lit 6) [] [] (lkIxArr (nat_lit 64) (nat_lit 1) g5 g71) p72 
(dLook (nat_lit 7) [] [] (lkLoad1 g72) p73 
(dLook (nat_lit 8) [] [] (lkMove g69) p8 
(dLook (nat_lit 9) [] [] (lkMove g73) p9 (dEnd [(nat_lit 66), (nat_lit 67), (nat_lit 68), (nat_lit 69), (nat_lit 70), (nat_lit 71), (nat_lit 72), (nat_lit 73), (nat_lit 8), (nat_lit 9)])))))))))))) (kDraw 
(dLook (nat_lit 0) [] [] (lkMove g7) p74 
(dLook (nat_lit 1) [] [] (lkMove g7) p75 
(dLook (nat_lit 2) [] [] (lkBin .sub g75 q40) p76 
(dLook (nat_lit 3) [] [] (lkIxArr (nat_lit 64) (nat_lit 1) g5 g76) p77 
(dLook (nat_lit 4) [] [] (lkLoad1 g77) p78 
(dLook (nat_lit 5) [] [] (lkMove g8) p79 
(dTurn (nat_lit 6) [(nat_lit 4)] [] true (xCall q361 [g79, q22]) p80 
(dLook (nat_lit 7) [] [] (lkMove g8) p81 
(dTurn (nat_lit 8) [(nat_lit 4)] [(nat_lit 6)] true (xCall q361 [g81, q365]) p82 
(dLook (nat_lit 9) [] [(nat_lit 6), (nat_lit 8)] (lkBin .xor g80 g82) p83 
(dLook (nat_lit 10) [] [] (lkMove g8) p84 
(dLook (nat_lit 11) [] [] (lkBin .shr g84 q364) p85 
(dLook (nat_lit 12) [] [(nat_lit 6), (nat_lit 8)] (lkBin .xor g83 g85) p86 
(dLook (nat_lit 13) [] [(nat_lit 6), (nat_lit 8)] (lkBin .add g78 g86) p87 
(dLook (nat_lit 14) [] [] (lkMove g7) p88 
(dLook (nat_lit 15) [] [] (lkBin .sub g88 q22) p89 
(dLook (nat_lit 16) [] [] (lkIxArr (nat_lit 64) (nat_lit 1) g5 g89) p90 
(dLook (nat_lit 17) [(nat_lit 6), (nat_lit 8)] [] (lkLoad1 g90) p91 
(dLook (nat_lit 18) [] [(nat_lit 6), (nat_lit 8)] (lkBin .add g87 g91) p92 
(dLook (nat_lit 19) [] [] (lkMove g9) p93 
(dTurn (nat_lit 20) [(nat_lit 4), (nat_lit 17)] [(nat_lit 6), (nat_lit 8)] true (xCall q361 [g93, q363]) p94 
(dLook (nat_lit 21) [] [] (lkMove g9) p95 
(dTurn (nat_lit 22) [(nat_lit 4), (nat_lit 17)] [(nat_lit 6), (nat_lit 8), (nat_lit 20)] true (xCall q361 [g95, q362]) p96 
(dLook (nat_lit 23) [] [(nat_lit 6), (nat_lit 8), (nat_lit 20), (nat_lit 22)] (lkBin .xor g94 g96) p97 
(dLook (nat_lit 24) [] [] (lkMove g9) p98 
(dLook (nat_lit 25) [] [] (lkBin .shr g98 q360) p99 
(dLook (nat_lit 26) [] [(nat_lit 6), (nat_lit 8), (nat_lit 20), (nat_lit 22)] (lkBin .xor g97 g99) p100 
(dLook (nat_lit 27) [] [(nat_lit 6), (nat_lit 8), (nat_lit 20), (nat_lit 22)] (lkBin .add g92 g100) p101 
(dLook (nat_lit 28) [] [(nat_lit 6), (nat_lit 8), (nat_lit 20), (nat_lit 22)] (lkIxArr (nat_lit 64) (nat_lit 1) g5 g74) p102 
(dTurn (nat_lit 29) [] [(nat_lit 6), (nat_lit 8), (nat_lit 20), (nat_lit 22)] true (xTurn (tnStore (nat_lit 1) g102 g101)) noDst (dEnd [(nat_lit 74), (nat_lit 75), (nat_lit 76), (nat_lit 77), (nat_lit 78), (nat_lit 79), (nat_lit 80), (nat_lit 81), (nat_lit 82), (nat_lit 83), (nat_lit 84), (nat_lit 85), (nat_lit 86), (nat_lit 87), (nat_lit 88), (nat_lit 89), (nat_lit 90), (nat_lit 91), (nat_lit 92), (nat_lit 93), (nat_lit 94), (nat_lit 95), (nat_lit 96), (nat_lit 97), (nat_lit 98), (nat_lit 99), (nat_lit 100), (nat_lit 101), (nat_lit 102)])))))))))))))))))))))))))))))))))) (oSet (xMove g7) p64 
(oSet (xLook (lkBin .add g64 q12)) p65 
(oSet (xMove g65) p7 
oEnd)))))))) (kSeq (oSet (xLook (lkLoadN (nat_lit 8) g2)) p103 
(oSet (xTurn (tnAlloc q349)) p10 
(oDo (xTurn (tnStore (nat_lit 8) g10 g103)) 
oEnd))) (kSeq (kSeq (oSet (xCall q366 []) p104 
(oSet (xMove q8) p105 
oEnd)) (kBlock (nat_lit 4) (kLoop (kSeq (oSet (xLook (lkBin .lss g105 q180)) p106 
oEnd) (kSeq (kCond g106 kSkip (kExit (nat_lit 4))) (kSeq (kBlock (nat_lit 5) (kSeq (oSet (xMove g105) p107 
(oSet (xLook (lkIxVal1 (nat_lit 64) g104 g105)) p108 
(oSet (xMove g107) p11 
(oSet (xMove g108) p12 
oEnd)))) (kSeq (kDraw 
(dLook (nat_lit 0) [] [] (lkIxArr (nat_lit 8) (nat_lit 1) g10 q8) p109 
(dLook (nat_lit 1) [] [] (lkLoad1 g109) p110 
(dLook (nat_lit 2) [] [] (lkIxArr (nat_lit 8) (nat_lit 1) g10 q12) p111 
(dLook (nat_lit 3) [] [] (lkLoad1 g111) p112 
(dLook (nat_lit 4) [] [] (lkIxArr (nat_lit 8) (nat_lit 1) g10 q9) p113 
(dLook (nat_lit 5) [] [] (lkLoad1 g113) p114 
(dLook (nat_lit 6) [] [] (lkIxArr (nat_lit 8) (nat_lit 1) g10 q70) p115 
(dLook (nat_lit 7) [] [] (lkLoad1 g115) p116 
(dLook (nat_lit 8) [] [] (lkIxArr (nat_lit 8) (nat_lit 1) g10 q86) p117 
(dLook (nat_lit 9) [] [] (lkLoad1 g117) p118 
(dLook (nat_lit 10) [] [] (lkIxArr (nat_lit 8) (nat_lit 1) g10 q20) p119 
(dLook (nat_lit 11) [] [] (lkLoad1 g119) p120 
(dLook (nat_lit 12) [] [] (lkIxArr (nat_lit 8) (nat_lit 1) g10 q22) p121 
(dLook (nat_lit 13) [] [] (lkLoad1 g121) p122 
(dLook (nat_lit 14) [] [] (lkMove g110) p13 
(dLook (nat_lit 15) [] [] (lkMove g112) p14 
(dLook (nat_lit 16) [] [] (lkMove g114) p15 
(dLook (nat_lit 17) [] [] (lkMove g116) p16 
(dLook (nat_lit 18) [] [] (lkMove g118) p17 
(dLook (nat_lit 19) [] [] (lkMove g120) p18 
(dLook (nat_lit 20) [] [] (lkMove g122) p19 (dEnd [(nat_lit 109), (nat_lit 110), (nat_lit 111), (nat_lit 112), (nat_lit 113), (nat_lit 114), (nat_lit 115), (nat_lit 116), (nat_lit 117), (nat_lit 118), (nat_lit 119), (nat_lit 120), (nat_lit 121), (nat_lit 122), (nat_lit 13), (nat_lit 14), (nat_lit 15), (nat_lit 16), (nat_lit 17), (nat_lit 18), (nat_lit 19)]))))))))))))))))))))))) (kSeq (kDraw 
(dLook (nat_lit 0) [] [] (lkMove g19) p123 
(dLook (nat_lit 1) [] [] (lkMove g16) p124 
(dTurn (nat_lit 2) [] [] true (xCall q361 [g124, q20]) p125 
(dLook (nat_lit 3) [] [] (lkMove g16) p126 
(dTurn (nat_lit 4) [] [(nat_lit 2)] true (xCall q361 [g126, q73]) p127 
(dLook (nat_lit 5) [] [(nat_lit 2), (nat_lit 4)] (lkBin .xor g125 g127) p128 
(dLook (nat_lit 6) [] [] (lkMove g16) p129 
(dTurn (nat_lit 7) [] [(nat_lit 2), (nat_lit 4)] true (xCall q361 [g129, q367]) p130 
(dLook (nat_lit 8) [] [(nat_lit 2), (nat_lit 4), (nat_lit 7)] (lkBin .xor g128 g130) p131 
(dLook (nat_lit 9) [] [(nat_lit 2), (nat_lit 4), (nat_lit 7)] (lkBin .add g123 g131) p132 
(dLook (nat_lit 10) [] [] (lkMove g16) p133 
(dLook (nat_lit 11) [] [] (lkMove g17) p134 
(dLook (nat_lit 12) [] [] (lkBin .and g133 g134) p135 
(dLook (nat_lit 13) [] [] (lkMove g16) p136 
(dLook (nat_lit 14) [] [] (lkUn .xor g136) p137 
(dLook (nat_lit 15) [] [] (lkMove g18) p138 
(dLook (nat_lit 16) [] [] (lkBin .and g137 g138) p139 
(dLook (nat_lit 17) [] [] (lkBin .xor g135 g139) p140 
(dLook (nat_lit 18) [] [(nat_lit 2), (nat_lit 4), (nat_lit 7)] (lkBin .add g132 g140) p141 
(dLook (nat_lit 19) [] [] (lkMove g12) p142 
(dLook (nat_lit 20) [] [(nat_lit 2), (nat_lit 4), (nat_lit 7)] (lkBin .add g141 g142) p143 
(dLook (nat_lit 21) [] [] (lkMove g11) p144 
(dLook (nat_lit 22) [] [] (lkIxArr (nat_lit 64) (nat_lit 1) g5 g144) p145 
(dLook (nat_lit 23) [(nat_lit 2), (nat_lit 4), (nat_lit 7)] [] (lkLoad1 g145) p146 
(dLook (nat_lit 24) [] [(nat_lit 2), (nat_lit 4), (nat_lit 7)] (lkBin .add g143 g146) p147 
(dLook (nat_lit 25) [] [(nat_lit 2), (nat_lit 4), (nat_lit 7)] (lkMove g147) p20 (dEnd [(nat_lit 123), (nat_lit 124), (nat_lit 125), (nat_lit 126), (nat_lit 127), (nat_lit 128), (nat_lit 129), (nat_lit 130), (nat_lit 131), (nat_lit 132), (nat_lit 133), (nat_lit 134), (nat_lit 135), (nat_lit 136), (nat_lit 137), (nat_lit 138), (nat_lit 139), (nat_lit 140), (nat_lit 141), (nat_lit 142), (nat_lit 143), (nat_lit 144), (nat_lit 145), (nat_lit 146), (nat_lit 147), (nat_lit 20)])))))))))))))))))))))))))))) (kSeq (oSet (xMove g13) p148 
(oSet (xCall q361 [g148, q9]) p149 
(oSet (xMove g13) p150 
(oSet (xCall q361 [g150, q368]) p151 
(oSet (xLook (lkBin .xor g149 g151)) p152 
(oSet (xMove g13) p153 
(oSet (xCall q361 [g153, q369]) p154 
(oSet (xLook (lkBin .xor g152 g154)) p155 
(oSet (xMove g13) p156 
(oSet (xMove g14) p157 
(oSet (xLook (lkBin .and g156 g157)) p158 
(oSet (xMove g13) p159 
(oSet (xMove g15) p160 
(oSet (xLook (lkBin .and g159 g160)) p161 
(oSet (xLook (lkBin .xor g158 g161)) p162 
(oSet (xMove g14) p163 
(oSet (xMove g15) p164 
(oSet (xLook (lkBin .and g163 g164)) p165 
(oSet (xLook (lkBin .xor g162 g165)) p166 
(oSet (xLook (lkBin .add g155 g166)) p167 
(oSet (xMove g167) p21 
oEnd))))))))))))))))))))) (oSet (xMove g20) p168 
(oSet (xMove g21) p169 
(oSet (xLook (lkBin .add g168 g169)) p170 
(oSet (xMove g13) p171 
(oSet (xMove g14) p172 
(oSet (xMove g15) p173 
(oSet (xLook (lkIxArr (nat_lit 8) (nat_lit 1) g10 q68)) p174 
(oSet (xLook (lkLoad1 g174)) p175 
(oSet (xMove g20) p176 
(oSet (xLook (lkBin .add g175 g176)) p177 
(oSet (xMove g16) p178 
(oSet (xMove g17) p179 
(oSet (xMove g18) p180 
(oSet (xLook (lkBuild q349 [((nat_lit 0), (nat_lit 1), g170), ((nat_lit 1), (nat_lit 1), g171), ((nat_lit 2), (nat_lit 1), g172), ((nat_lit 3), (nat_lit 1), g173), ((nat_lit 4), (nat_lit 1), g177), ((nat_lit 5), (nat_lit 1), g178), ((nat_lit 6), (nat_lit 1), g179), ((nat_lit 7), (nat_lit 1), g180)])) p181 
(oDo (xTurn (tnStore (nat_lit 8) g10 g181)) 
oEnd)))))))))))))))))))) (oSet (xLook (lkBin .add g105 q12)) p182 
(oSet (xMove g182) p105 
oEnd)))))))) (kSeq (kSeq (oSet (xMove q8) p183 
oEnd) (kBlock (nat_lit 6) (kLoop (kSeq (oSet (xLook (lkBin .lss g183 q41)) p184 
oEnd) (kSeq (kCond g184 kSkip (kExit (nat_lit 6))) (kSeq (kBlock (nat_lit 7) (kSeq (oSet (xMove g183) p185 
(oSet (xMove g185) p22 
oEnd)) (kDraw 
(dLook (nat_lit 0) [] [] (lkMove g22) p186 
(dLook (nat_lit 1) [] [] (lkIxArr (nat_lit 8) (nat_lit 1) g2 g186) p187 
(dLook (nat_lit 2) [] [] (lkLoad1 g187) p188 
(dLook (nat_lit 3) [] [] (lkMove g22) p189 
(dLook (nat_lit 4) [] [] (lkIxArr (nat_lit 8) (nat_lit 1) g10 g189) p190 
(dLook (nat_lit 5) [] [] (lkLoad1 g190) p191 
(dLook (nat_lit 6) [] [] (lkBin .add g188 g191) p192 
(dLook (nat_lit 7) [] [] (lkIxArr (nat_lit 8) (nat_lit 1) g2 g186) p193 
(dTurn (nat_lit 8) [] [] true (xTurn (tnStore (nat_lit 1) g193 g192)) noDst (dEnd [(nat_lit 186), (nat_lit 187), (nat_lit 188), (nat_lit 189), (nat_lit 190), (nat_lit 191), (nat_lit 192), (nat_lit 193)]))))))))))))) (oSet (xLook (lkBin .add g183 q12)) p194 
(oSet (xMove g194) p183 
oEnd)))))))) (kSeq (oSet (xLook (lkLoadN (nat_lit 8) g2)) p195 
(oDo (xTurn (tnStore (nat_lit 8) g4 g195)) 
oEnd)) kRet))))))))⟩
def q370 : List Value := [(.bool false)]
noncomputable def k183 : KFun := ⟨[rCell1 (nat_lit 4) g4], (kSeq (oSet (xTurn (tnBox g0)) p2 
(oSet (xTurn (tnAlloc q370)) p4 
oEnd)) (kSeq (kSeq (oSet (xLook (lkLoad1 g2)) p6 
(oSet (xLook (lkEq false .ptr g6 q5)) p7 
(oSet (xMove g7) p8 
(oSetIf (wantF g8) (xLook (lkLoad1 g2)) p9 
(oSetIf (wantF g8) (xNil g9) p10 
(oSetIf (wantF g8) (xLook (lkFieldAddr (nat_lit 0) g10)) p11 
(oSetIf (wantF g8) (xCall q257 [g11]) p12 
(oSet (xLook (lkPick g8 q3 g12)) p13 
(oSet (xMove g13) p14 
(oSetIf (wantF g14) (xLook (lkLoad1 g2)) p15 
(oSetIf (wantF g14) (xNil g15) p16 
(oSetIf (wantF g14) (xLook (lkFieldAddr (nat_lit 0) g16)) p17 
(oSetIf (wantF g14) (xLook (lkFieldAddr (nat_lit 2) g17)) p18 
(oSetIf (wantF g14) (xLook (lkFieldAddr (nat_lit 0) g18)) p19 
(oSetIf (wantF g14) (xLook (lkLoad1 g19)) p20 
(oSetIf (wantF g14) (xLook (lkEq true .int g20 q8)) p21 
(oSet (xLook (lkPick g14 q3 g21)) p22 
oEnd))))))))))))))))) (kCond g22 (kSeq (oDo (xTurn (tnStore (nat_lit 1) g4 q0)) 
oEnd) kRet) kSkip)) (kSeq (oSet (xLook (lkLoad1 g2)) p23 
(oSet (xNil g23) p24 
(oSet (xLook (lkFieldAddr (nat_lit 4) g24)) p25 
(oSet (xLook (lkLoad1 g25)) p26 
(oSet (xTurn (tnAlloc q108)) p5 
(oDo (xTurn (tnStore (nat_lit 1) g5 g26)) 
oEnd)))))) (kSeq (oSet (xLook (lkMkFunc (.func (nat_lit 244)) [] [g4, g5, g2])) p27 
(oDo (xDefer g27 []) 
oEnd)) (kSeq (oSet (xMove g1) p28 
(oSet (xCall g28 []) p29 
oEnd)) kRet)))))⟩
def q371 : OpdF := kC (.func (.func (nat_lit 185)) ⟨[]⟩ ⟨[]⟩)
noncomputable def k184 : KFun := ⟨[], (oSet (xLook (lkLoad1 g0)) p3 
(oSet (xLook (lkLoad1 g1)) p4 
(oSet (xCall q371 [g3, q8, g4, q68]) p5 
(oDo (xTurn (tnStore (nat_lit 1) g2 g5)) 
oEnd))))⟩
def q372 : OpdF := kC (.func (.func (nat_lit 187)) ⟨[]⟩ ⟨[]⟩)
def q373 : OpdF := kC (.int .u8 (.ofNat (nat_lit 127)))
def q374 : OpdF := kC (.int .u8 (.ofNat (nat_lit 0)))
noncomputable def k185 : KFun := ⟨[rTmp (nat_lit 8) g8], (kSeq (oSet (xMove q8) p8 
oEnd) (kSeq (oSet (xMove g0) p14 
(oSet (xNil g14) p15 
(oSet (xLook (lkFieldAddr (nat_lit 4) g15)) p16 
(oSet (xLook (lkLoad1 g16)) p17 
(oSet (xTurn (tnAlloc q108)) p9 
(oDo (xTurn (tnStore (nat_lit 1) g9 g17)) 
(oSet (xMove q8) p10 
(oSet (xMove q8) p11 
oEnd)))))))) (kSeq (oSet (xLook (lkMkFunc (.func (nat_lit 245)) [] [g9])) p18 
(oSet (xMove g18) p12 
oEnd)) (kSeq (kBlock (nat_lit 0) (kLoop (kBlock (nat_lit 1) (kSeq (oSet (xMove g0) p19 
(oSet (xCall q372 [g19, q12]) p20 
(oSet (xLook (lkIxSl (nat_lit 1) g20 q8)) p21 
(oSet (xLook (lkLoad1 g21)) p22 
(oSet (xMove g22) p13 
oEnd))))) (kSeq (oSet (xMove g10) p23 
(oSet (xMove g13) p24 
(oSet (xLook (lkBin .and g24 q373)) p25 
(oSet (xLook (lkIntTo .i64 g25)) p26 
(oSet (xMove g11) p27 
(oSet (xLook (lkBin .mul q22 g27)) p28 
(oSet (xLook (lkBin .shl g26 g28)) p29 
(oSet (xLook (lkBin .or g23 g29)) p30 
(oSet (xMove g30) p10 
oEnd))))))))) (kSeq (oSet (xMove g11) p31 
(oSet (xLook (lkBin .add g31 q12)) p32 
(oSet (xMove g32) p11 
oEnd))) (kSeq (kSeq (oSet (xMove g13) p33 
(oSet (xLook (lkBin .lss g33 q193)) p34 
oEnd)) (kCond g34 (kSeq (kSeq (oSet (xMove g13) p35 
(oSet (xLook (lkEq false .int g35 q374)) p36 
(oSet (xMove g36) p37 
(oSetIf (wantT g37) (xMove g11) p38 
(oSetIf (wantT g37) (xLook (lkBin .gtr g38 q12)) p39 
(oSet (xLook (lkPick g37 g39 q0)) p40 
oEnd)))))) (kCond g40 (oSet (xMove g12) p41 
(oSet (xCall g41 [q70]) p42 
oEnd)) kSkip)) (kExit (nat_lit 0))) kSkip)) (kSeq (oSet (xMove g11) p43 
(oSet (xLook (lkEq false .int g43 q182)) p44 
oEnd)) (kCond g44 (oSet (xMove g12) p45 
(oSet (xCall g45 [q86]) p46 
oEnd)) kSkip))))))))) (kSeq (kBlock (nat_lit 2) (kSeq (oSet (xMove g10) p48 
(oSet (xMove g1) p49 
(oSet (xLook (lkBin .lss g48 g49)) p50 
(oSet (xMove g50) p47 
oEnd)))) (kCond g47 (oSet (xMove g12) p51 
(oSet (xCall g51 [q86]) p52 
oEnd)) (kSeq (oSet (xMove g10) p54 
(oSet (xMove g2) p55 
(oSet (xLook (lkBin .gtr g54 g55)) p56 
(oSet (xMove g56) p53 
oEnd)))) (kCond g53 (oSet (xMove g12) p57 
(oSet (xMove g3) p58 
(oSet (xCall g57 [g58]) p59 
oEnd))) kSkip))))) (kSeq (oSet (xMove g10) p60 
(oSet (xMove g60) p8 
oEnd)) kRet))))))⟩
noncomputable def k186 : KFun := ⟨[], (kDraw 
(dLook (nat_lit 0) [] [] (lkLoad1 g0) p3 
(dLook (nat_lit 1) [] [] (lkLoad1 g0) p4 
(dLook (nat_lit 2) [] [] (lkLoad1 g1) p5 
(dTurn (nat_lit 3) [(nat_lit 0)] [] true (xCall q371 [g4, q8, g5, q68]) p6 
(dTurn (nat_lit 4) [] [(nat_lit 3)] true (xCall q372 [g3, g6]) p7 
(dLook (nat_lit 5) [] [(nat_lit 3), (nat_lit 4)] (lkBytesTo g7) p8 
(dTurn (nat_lit 6) [] [(nat_lit 3), (nat_lit 4)] true (xTurn (tnStore (nat_lit 1) g2 g8)) noDst (dEnd [(nat_lit 3), (nat_lit 4), (nat_lit 5), (nat_lit 6), (nat_lit 7), (nat_lit 8)])))))))))⟩
noncomputable def k187 : KFun := ⟨[rTmp (nat_lit 4) g4], (kSeq (oSet (xMove q23) p4 
oEnd) (kSeq (kSeq (kDraw 
(dLook (nat_lit 0) [] [] (lkMove g1) p5 
(dLook (nat_lit 1) [] [] (lkMove g0) p6 
(dTurn (nat_lit 2) [] [] false (xNil g6) p7 
(dLook (nat_lit 3) [] [] (lkFieldAddr (nat_lit 0) g7) p8 
(dLook (nat_lit 4) [] [] (lkFieldAddr (nat_lit 1) g8) p9 
(dLook (nat_lit 5) [] [] (lkLoad1 g9) p10 
(dLook (nat_lit 6) [] [] (lkLen .sl g10) p11 
(dLook (nat_lit 7) [] [] (lkMove g0) p12 
(dTurn (nat_lit 8) [] [] false (xNil g12) p13 
(dLook (nat_lit 9) [] [] (lkFieldAddr (nat_lit 4) g13) p14 
(dLook (nat_lit 10) [] [] (lkLoad1 g14) p15 
(dLook (nat_lit 11) [] [] (lkBin .sub g11 g15) p16 
(dLook (nat_lit 12) [] [] (lkBin .gtr g5 g16) p17 (dEnd [(nat_lit 5), (nat_lit 6), (nat_lit 7), (nat_lit 8), (nat_lit 9), (nat_lit 10), (nat_lit 11), (nat_lit 12), (nat_lit 13), (nat_lit 14), (nat_lit 15), (nat_lit 16), (nat_lit 17)]))))))))))))))) (kCond g17 (oSet (xMove g0) p18 
(oSet (xNil g18) p19 
(oSet (xLook (lkFieldAddr (nat_lit 0) g19)) p20 
(oSet (xLook (lkFieldAddr (nat_lit 1) g20)) p21 
(oSet (xLook (lkLoad1 g21)) p22 
(oSet (xLook (lkLen .sl g22)) p23 
(oSet (xLook (lkBuild q35 [((nat_lit 0), (nat_lit 1), q70), ((nat_lit 1), (nat_lit 1), g23)])) p24 
(oSet (xLook (lkBuild q35 [((nat_lit 0), (nat_lit 2), g24)])) p25 
(oSet (xLook (lkMkIface (nat_lit 399) g25)) p26 
(oDo (xPanic g26) 
oEnd)))))))))) kSkip)) (kSeq (oSet (xMove g0) p27 
(oSet (xNil g27) p28 
(oSet (xLook (lkFieldAddr (nat_lit 4) g28)) p29 
(oSet (xLook (lkLoad1 g29)) p30 
(oSet (xMove g1) p31 
(oSet (xLook (lkBin .add g30 g31)) p32 
(oSet (xNil g27) p33 
(oSet (xLook (lkFieldAddr (nat_lit 4) g33)) p34 
(oDo (xTurn (tnStore (nat_lit 1) g34 g32)) 
oEnd))))))))) (kSeq (kDraw 
(dLook (nat_lit 0) [] [] (lkMove g0) p35 
(dTurn (nat_lit 1) [] [] false (xNil g35) p36 
(dLook (nat_lit 2) [] [] (lkFieldAddr (nat_lit 0) g36) p37 
(dLook (nat_lit 3) [] [] (lkFieldAddr (nat_lit 1) g37) p38 
(dLook (nat_lit 4) [] [] (lkLoad1 g38) p39 
(dLook (nat_lit 5) [] [] (lkMove g0) p40 
(dTurn (nat_lit 6) [] [] false (xNil g40) p41 
(dLook (nat_lit 7) [] [] (lkFieldAddr (nat_lit 4) g41) p42 
(dLook (nat_lit 8) [] [] (lkLoad1 g42) p43 
(dLook (nat_lit 9) [] [] (lkMove g1) p44 
(dLook (nat_lit 10) [] [] (lkBin .sub g43 g44) p45 
(dLook (nat_lit 11) [] [] (lkMove g0) p46 
(dTurn (nat_lit 12) [] [] false (xNil g46) p47 
(dLook (nat_lit 13) [] [] (lkFieldAddr (nat_lit 4) g47) p48 
(dLook (nat_lit 14) [] [] (lkLoad1 g48) p49 
(dLook (nat_lit 15) [] [] (lkSliceSl (nat_lit 1) g39 (some g45) (some g49) none) p50 
(dLook (nat_lit 16) [] [] (lkMove g50) p4 (dEnd [(nat_lit 35), (nat_lit 36), (nat_lit 37), (nat_lit 38), (nat_lit 39), (nat_lit 40), (nat_lit 41), (nat_lit 42), (nat_lit 43), (nat_lit 44), (nat_lit 45), (nat_lit 46), (nat_lit 47), (nat_lit 48), (nat_lit 49), (nat_lit 50), (nat_lit 4)]))))))))))))))))))) kRet))))⟩
noncomputable def k188 : KFun := ⟨[], (oSet (xLook (lkLoad1 g0)) p4 
(oSet (xLook (lkLoad1 g1)) p5 
(oSet (xLook (lkLoad1 g2)) p6 
(oSet (xCall q371 [g4, g5, g6, q86]) p7 
(oDo (xTurn (tnStore (nat_lit 1) g3 g7)) 
oEnd)))))⟩
def q375 : OpdF := kC (.func (.func (nat_lit 246)) ⟨[]⟩ ⟨[]⟩)
noncomputable def k189 : KFun := ⟨[rTmp (nat_lit 2) g2], (kSeq (oSet (xMove q104) p2 
oEnd) (kSeq (oSet (xMove g0) p3 
(oSet (xCall q375 [g3, q273]) p4 
(oSet (xMove g4) p2 
oEnd))) kRet))⟩
noncomputable def k190 : KFun := ⟨[rTmp (nat_lit 4) g4], (kSeq (oSet (xMove q8) p4 
oEnd) (kSeq (kSeq (oSet (xMove g0) p6 
(oSet (xLook (lkLen .sl g6)) p7 
(oSet (xMove q8) p8 
oEnd))) (kBlock (nat_lit 0) (kLoop (kSeq (oSet (xLook (lkBin .lss g8 g7)) p9 
oEnd) (kSeq (kCond g9 kSkip (kExit (nat_lit 0))) (kSeq (kBlock (nat_lit 1) (kSeq (oSet (xMove g8) p10 
(oSet (xMove g10) p5 
oEnd)) (kSeq (oSet (xMove g1) p11 
(oSet (xMove g0) p12 
(oSet (xMove g5) p13 
(oSet (xLook (lkIxSl (nat_lit 1) g12 g13)) p14 
(oSet (xLook (lkLoad1 g14)) p15 
(oSet (xLook (lkEq false .str g11 g15)) p16 
oEnd)))))) (kCond g16 (kSeq (oSet (xMove g5) p17 
(oSet (xMove g17) p4 
oEnd)) kRet) kSkip)))) (oSet (xLook (lkBin .add g8 q12)) p18 
(oSet (xMove g18) p8 
oEnd)))))))) (kSeq (oSet (xMove q88) p4 
oEnd) kRet)))⟩
def q376 : OpdF := kC (.int .i64 (.ofNat (nat_lit 14)))
def q377 : List Value := [(.slice none (nat_lit 0) (nat_lit 0)), (.int .i64 (.ofNat (nat_lit 0))), (.int .u8 (.ofNat (nat_lit 0))), (.int .u8 (.ofNat (nat_lit 0))), (.int .u8 (.ofNat (nat_lit 0))), (.int .u8 (.ofNat (nat_lit 0))), (.int .u8 (.ofNat (nat_lit 0))), (.int .u8 (.ofNat (nat_lit 0))), (.int .u8 (.ofNat (nat_lit 0))), (.int .u8 (.ofNat (nat_lit 0))), (.int .u8 (.ofNat (nat_lit 0))), (.int .u8 (.ofNat (nat_lit 0))), (.int .u8 (.ofNat (nat_lit 0))), (.int .u8 (.ofNat (nat_lit 0))), (.int .u8 (.ofNat (nat_lit 0))), (.int .u8 (.ofNat (nat_lit 0))), (.int .u8 (.ofNat (nat_lit 0))), (.int .u8 (.ofNat (nat_lit 0))), (.int .u8 (.ofNat (nat_lit 0))), (.int .u8 (.ofNat (nat_lit 0))), (.int .u8 (.ofNat (nat_lit 0))), (.int .u8 (.ofNat (nat_lit 0))), (.int .u8 (.ofNat (nat_lit 0))), (.int .u8 (.ofNat (nat_lit 0))), (.int .u8 (.ofNat (nat_lit 0))), (.int .u8 (.ofNat (nat_lit 0))), (.int .u8 (.ofNat (nat_lit 0))), (.int .u8 (.ofNat (nat_lit 0))), (.int .u8 (.ofNat (nat_lit 0))), (.int .u8 (.ofNat (nat_lit 0))), (.int .u8 (.ofNat (nat_lit 0))), (.int .u8 (.ofNat (nat_lit 0))), (.int .u8 (.ofNat (nat_lit 0))), (.int .u8 (.ofNat (nat_lit 0))), (.int .i64 (.ofNat (nat_lit 0))), (.int .i64 (.ofNat (nat_lit 0)))]
def q378 : OpdF := kC (.func (.func (nat_lit 247)) ⟨[]⟩ ⟨[]⟩)
def q379 : OpdF := kC (.func (.func (nat_lit 248)) ⟨[]⟩ ⟨[]⟩)
noncomputable def k192 : KFun := ⟨[rCellN (nat_lit 2) g2 (nat_lit 35), rTmp (nat_lit 3) g3], (kSeq (oSet (xTurn (tnAlloc q95)) p2 
(oSet (xMove q0) p3 
oEnd)) (kSeq (kSeq (oSet (xMove g0) p6 
(oSet (xLook (lkLen .sl g6)) p7 
(oSet (xLook (lkEq true .int g7 q180)) p8 
(oSet (xMove g8) p9 
(oSetIf (wantF g9) (xMove g0) p10 
(oSetIf (wantF g9) (xLook (lkIxSl (nat_lit 1) g10 q8)) p11 
(oSetIf (wantF g9) (xLook (lkLoad1 g11)) p12 
(oSetIf (wantF g9) (xLook (lkEq true .int g12 q61)) p13 
(oSet (xLook (lkPick g9 q3 g13)) p14 
(oSet (xMove g14) p15 
(oSetIf (wantF g15) (xMove g0) p16 
(oSetIf (wantF g15) (xLook (lkIxSl (nat_lit 1) g16 q12)) p17 
(oSetIf (wantF g15) (xLook (lkLoad1 g17)) p18 
(oSetIf (wantF g15) (xLook (lkEq true .int g18 q64)) p19 
(oSet (xLook (lkPick g15 q3 g19)) p20 
oEnd))))))))))))))) (kCond g20 (kSeq (oSet (xLook (lkBuild q95 [])) p21 
(oDo (xTurn (tnStore (nat_lit 35) g2 g21)) 
(oSet (xMove q0) p3 
oEnd))) kRet) kSkip)) (kSeq (oSet (xMove g0) p22 
(oSet (xLook (lkSliceSl (nat_lit 1) g22 none (some q317) none)) p23 
(oSet (xCall q65 [g23]) p24 
(oSet (xTurn (tnAlloc q66)) p4 
(oDo (xTurn (tnStore (nat_lit 32) g4 g24)) 
oEnd))))) (kSeq (kSeq (kDraw 
(dLook (nat_lit 0) [] [] (lkSliceArr (nat_lit 32) (nat_lit 1) g4 none (some q376) none) p25 
(dLook (nat_lit 1) [] [] (lkMove g0) p26 
(dLook (nat_lit 2) [] [] (lkSliceSl (nat_lit 1) g26 (some q317) none none) p27 
(dTurn (nat_lit 3) [] [] true (xCall q72 [g25, g27]) p28 
(dLook (nat_lit 4) [] [(nat_lit 3)] (lkUn .not g28) p29 (dEnd [(nat_lit 25), (nat_lit 26), (nat_lit 27), (nat_lit 28), (nat_lit 29)]))))))) (kCond g29 (kSeq (oSet (xLook (lkBuild q95 [])) p30 
(oDo (xTurn (tnStore (nat_lit 35) g2 g30)) 
(oSet (xMove q0) p3 
oEnd))) kRet) kSkip)) (kSeq (oSet (xMove g0) p31 
(oSet (xLook (lkSliceSl (nat_lit 1) g31 (some q9) none none)) p32 
(oSet (xLook (lkBuild q14 [((nat_lit 0), (nat_lit 1), g32)])) p33 
(oSet (xLook (lkBuild q377 [((nat_lit 0), (nat_lit 1), g33)])) p34 
(oSet (xTurn (tnBox g34)) p35 
(oSet (xMove g35) p5 
oEnd)))))) (kSeq (kSeq (oSet (xMove g5) p36 
(oSet (xNil g36) p37 
(oSet (xLook (lkFieldAddr (nat_lit 0) g37)) p38 
(oSet (xLook (lkFieldAddr (nat_lit 0) g38)) p39 
(oSet (xLook (lkLoad1 g39)) p40 
(oSet (xLook (lkIxSl (nat_lit 1) g40 q8)) p41 
(oSet (xLook (lkLoad1 g41)) p42 
(oSet (xLook (lkEq true .int g42 q374)) p43 
oEnd)))))))) (kCond g43 (kSeq (oSet (xLook (lkBuild q95 [])) p44 
(oDo (xTurn (tnStore (nat_lit 35) g2 g44)) 
(oSet (xMove q0) p3 
oEnd))) kRet) kSkip)) (kSeq (oSet (xMove g5) p45 
(oSet (xMove g5) p46 
(oSet (xNil g46) p47 
(oSet (xLook (lkFieldAddr (nat_lit 0) g47)) p48 
(oSet (xCall q378 [g48, q41]) p49 
(oSet (xNil g45) p50 
(oSet (xLook (lkFieldAddr (nat_lit 1) g50)) p51 
(oSet (xLook (lkFieldAddr (nat_lit 0) g51)) p52 
(oDo (xTurn (tnStore (nat_lit 1) g52 g49)) 
oEnd))))))))) (kSeq (kDraw 
(dLook (nat_lit 0) [] [] (lkMove g5) p53 
(dTurn (nat_lit 1) [] [] false (xNil g53) p54 
(dLook (nat_lit 2) [] [] (lkFieldAddr (nat_lit 1) g54) p55 
(dLook (nat_lit 3) [] [] (lkFieldAddr (nat_lit 1) g55) p56 
(dLook (nat_lit 4) [] [] (lkSliceArr (nat_lit 32) (nat_lit 1) g56 none none none) p57 
(dLook (nat_lit 5) [] [] (lkMove g5) p58 
(dTurn (nat_lit 6) [] [] false (xNil g58) p59 
(dLook (nat_lit 7) [] [] (lkFieldAddr (nat_lit 0) g59) p60 
(dLook (nat_lit 8) [] [] (lkFieldAddr (nat_lit 0) g60) p61 
(dLook (nat_lit 9) [] [] (lkLoad1 g61) p62 
(dTurn (nat_lit 10) [] [] true (xTurn (tnCopy (nat_lit 1) g57 g62)) p63 (dEnd [(nat_lit 53), (nat_lit 54), (nat_lit 55), (nat_lit 56), (nat_lit 57), (nat_lit 58), (nat_lit 59), (nat_lit 60), (nat_lit 61), (nat_lit 62), (nat_lit 63)]))))))))))))) (kSeq (oSet (xMove g5) p64 
(oSet (xMove g5) p65 
(oSet (xNil g65) p66 
(oSet (xLook (lkFieldAddr (nat_lit 0) g66)) p67 
(oSet (xLook (lkFieldAddr (nat_lit 0) g67)) p68 
(oSet (xLook (lkLoad1 g68)) p69 
(oSet (xLook (lkSliceSl (nat_lit 1) g69 (some q69) none none)) p70 
(oSet (xNil g64) p71 
(oSet (xLook (lkFieldAddr (nat_lit 0) g71)) p72 
(oSet (xLook (lkFieldAddr (nat_lit 0) g72)) p73 
(oDo (xTurn (tnStore (nat_lit 1) g73 g70)) 
oEnd))))))))))) (kSeq (kDraw 
(dLook (nat_lit 0) [] [] (lkMove g5) p74 
(dLook (nat_lit 1) [] [] (lkMove g5) p75 
(dLook (nat_lit 2) [] [] (lkMove g5) p76 
(dTurn (nat_lit 3) [] [] false (xNil g76) p77 
(dLook (nat_lit 4) [] [] (lkFieldAddr (nat_lit 0) g77) p78 
(dTurn (nat_lit 5) [] [] true (xCall q378 [g78, q70]) p79 
(dLook (nat_lit 6) [] [] (lkMove g5) p80 
(dTurn (nat_lit 7) [] [] false (xNil g80) p81 
(dLook (nat_lit 8) [] [] (lkFieldAddr (nat_lit 0) g81) p82 
(dTurn (nat_lit 9) [] [(nat_lit 5)] true (xCall q378 [g82, q70]) p83 
(dTurn (nat_lit 10) [] [(nat_lit 5), (nat_lit 9)] false (xNil g74) p84 
(dLook (nat_lit 11) [] [(nat_lit 5), (nat_lit 9)] (lkFieldAddr (nat_lit 1) g84) p85 
(dLook (nat_lit 12) [] [(nat_lit 5), (nat_lit 9)] (lkFieldAddr (nat_lit 33) g85) p86 
(dTurn (nat_lit 13) [] [(nat_lit 5), (nat_lit 9)] true (xTurn (tnStore (nat_lit 1) g86 g79)) noDst 
(dTurn (nat_lit 14) [] [(nat_lit 5), (nat_lit 9), (nat_lit 13)] false (xNil g75) p87 
(dLook (nat_lit 15) [] [(nat_lit 5), (nat_lit 9), (nat_lit 13)] (lkFieldAddr (nat_lit 1) g87) p88 
(dLook (nat_lit 16) [] [(nat_lit 5), (nat_lit 9), (nat_lit 13)] (lkFieldAddr (nat_lit 34) g88) p89 
(dTurn (nat_lit 17) [] [(nat_lit 5), (nat_lit 9), (nat_lit 13)] true (xTurn (tnStore (nat_lit 1) g89 g83)) noDst (dEnd [(nat_lit 74), (nat_lit 75), (nat_lit 76), (nat_lit 77), (nat_lit 78), (nat_lit 79), (nat_lit 80), (nat_lit 81), (nat_lit 82), (nat_lit 83), (nat_lit 84), (nat_lit 85), (nat_lit 86), (nat_lit 87), (nat_lit 88), (nat_lit 89)])))))))))))))))))))) (kSeq (kSeq (oSet (xMove g5) p90 
(oSet (xNil g90) p91 
(oSet (xLook (lkFieldAddr (nat_lit 1) g91)) p92 
(oSet (xLook (lkLoadN (nat_lit 35) g92)) p93 
(oSet (xCall q379 [g93]) p94 
(oSet (xLook (lkEq true .int g94 q8)) p95 
oEnd)))))) (kCond g95 (kSeq (oSet (xLook (lkBuild q95 [])) p96 
(oDo (xTurn (tnStore (nat_lit 35) g2 g96)) 
(oSet (xMove q0) p3 
oEnd))) kRet) kSkip)) (kSeq (oSet (xMove g5) p97 
(oSet (xNil g97) p98 
(oSet (xLook (lkFieldAddr (nat_lit 1) g98)) p99 
(oSet (xLook (lkLoadN (nat_lit 35) g99)) p100 
(oDo (xTurn (tnStore (nat_lit 35) g2 g100)) 
(oSet (xMove q3) p3 
oEnd)))))) kRet))))))))))))⟩
def q383 : OpdF := kC (.func (.func (nat_lit 252)) ⟨[]⟩ ⟨[]⟩)
noncomputable def k197 : KFun := ⟨[rTmp (nat_lit 2) g2], (kSeq (oSet (xMove q8) p2 
oEnd) (kSeq (kBlock (nat_lit 0) (kSeq (oSet (xMove g0) p4 
(oSet (xCall q383 [g4]) p5 
(oSet (xMove g5) p3 
oEnd))) (kCond g3 (kSeq (oSet (xMove q12) p2 
oEnd) kRet) (kSeq (oSet (xMove g0) p7 
(oSet (xNil g7) p8 
(oSet (xLook (lkFieldAddr (nat_lit 39) g8)) p9 
(oSet (xLook (lkLoad1 g9)) p10 
(oSet (xMove g10) p6 
oEnd))))) (kCond g6 (kSeq (oSet (xMove q273) p2 
oEnd) kRet) kSkip))))) (kSeq (oSet (xMove q8) p2 
oEnd) kRet)))⟩
noncomputable def k198d0 : KD := 
(dLook (nat_lit 16) [] [(nat_lit 6), (nat_lit 14)] (lkPick g28 q3 g34) p35 
(dLook (nat_lit 17) [] [(nat_lit 6), (nat_lit 14)] (lkMove g35) p4 (dEnd [(nat_lit 19), (nat_lit 20), (nat_lit 21), (nat_lit 22), (nat_lit 23), (nat_lit 24), (nat_lit 25), (nat_lit 26), (nat_lit 27), (nat_lit 28), (nat_lit 29), (nat_lit 30), (nat_lit 31), (nat_lit 32), (nat_lit 33), (nat_lit 34), (nat_lit 35), (nat_lit 4)])))
noncomputable def k198d1 : KD := 
(dIf [(nat_lit 6), (nat_lit 14)] (wantF g28) p34 (dLook (nat_lit 15) [] [(nat_lit 6), (nat_lit 14)] (lkBin .geq g33 q8) p34 k198d0) k198d0)
noncomputable def k198d2 : KD := 
(dIf [(nat_lit 6)] (wantF g28) p33 (dTurn (nat_lit 14) [] [(nat_lit 6)] true (xCall q280 [g31, g32]) p33 k198d1) k198d1)
noncomputable def k198d3 : KD := 
(dIf [(nat_lit 6)] (wantF g28) p32 (dLook (nat_lit 13) [] [(nat_lit 6)] (lkLoadN (nat_lit 32) g3) p32 k198d2) k198d2)
noncomputable def k198d4 : KD := 
(dIf [(nat_lit 6)] (wantF g28) p31 (dLook (nat_lit 12) [] [(nat_lit 6)] (lkFieldAddr (nat_lit 0) g30) p31 k198d3) k198d3)
noncomputable def k198d5 : KD := 
(dIf [(nat_lit 6)] (wantF g28) p30 (dTurn (nat_lit 11) [] [(nat_lit 6)] false (xNil g29) p30 k198d4) k198d4)
noncomputable def k198d6 : KD := 
(dLook (nat_lit 8) [] [(nat_lit 6)] (lkPick g20 g26 q0) p27 
(dLook (nat_lit 9) [] [(nat_lit 6)] (lkMove g27) p28 
(dIf [(nat_lit 6)] (wantF g28) p29 (dLook (nat_lit 10) [] [(nat_lit 6)] (lkMove g0) p29 k198d5) k198d5)))
def q384 : OpdF := kC (.func (.func (nat_lit 253)) ⟨[]⟩ ⟨[]⟩)
noncomputable def k198d7 : KD := 
(dIf [(nat_lit 6)] (wantT g20) p26 (dLook (nat_lit 7) [] [(nat_lit 6)] (lkUn .not g25) p26 k198d6) k198d6)
noncomputable def k198d8 : KD := 
(dIf [] (wantT g20) p25 (dTurn (nat_lit 6) [] [] true (xCall q384 [g23, g24]) p25 k198d7) k198d7)
noncomputable def k198d9 : KD := 
(dIf [] (wantT g20) p24 (dLook (nat_lit 5) [] [] (lkLoadN (nat_lit 32) g3) p24 k198d8) k198d8)
noncomputable def k198d10 : KD := 
(dIf [] (wantT g20) p23 (dLook (nat_lit 4) [] [] (lkFieldAddr (nat_lit 0) g22) p23 k198d9) k198d9)
noncomputable def k198d11 : KD := 
(dIf [] (wantT g20) p22 (dTurn (nat_lit 3) [] [] false (xNil g21) p22 k198d10) k198d10)
noncomputable def k198 : KFun := ⟨[rTmp (nat_lit 4) g4], (kSeq (oSet (xTurn (tnBox g1)) p3 
(oSet (xMove q0) p4 
oEnd)) (kSeq (kSeq (oSet (xMove g0) p7 
(oSet (xCall q278 [g7]) p8 
(oSet (xLook (lkEq true .int g8 q8)) p9 
oEnd))) (kCond g9 (kSeq (oSet (xMove q0) p4 
oEnd) kRet) kSkip)) (kSeq (kDraw 
(dLook (nat_lit 0) [] [] (lkMove g0) p11 
(dTurn (nat_lit 1) [] [] false (xNil g11) p12 
(dLook (nat_lit 2) [] [] (lkFieldAddr (nat_lit 38) g12) p13 
(dLook (nat_lit 3) [] [] (lkLoad1 g13) p14 
(dLook (nat_lit 4) [] [] (lkLoadN (nat_lit 32) g3) p15 
(dLook (nat_lit 5) [] [] (lkLookup (.many (nat_lit 32) .u8) (.agg ⟨[(.int .i64 (.ofNat (nat_lit 0))), (.int .i64 (.ofNat (nat_lit 0)))]⟩) true g14 g15) p16 
(dLook (nat_lit 6) [] [] (lkMove g16) p10 
(dLook (nat_lit 7) [] [] (lkExtract (nat_lit 0) g10) p17 
(dLook (nat_lit 8) [] [] (lkExtract (nat_lit 1) g10) p18 
(dTurn (nat_lit 9) [] [] false (xTurn (tnAlloc q35)) p5 
(dTurn (nat_lit 10) [] [] true (xTurn (tnStore (nat_lit 2) g5 g17)) noDst 
(dLook (nat_lit 11) [] [(nat_lit 10)] (lkMove g18) p6 (dEnd [(nat_lit 11), (nat_lit 12), (nat_lit 13), (nat_lit 14), (nat_lit 15), (nat_lit 16), (nat_lit 10), (nat_lit 17), (nat_lit 18), (nat_lit 5), (nat_lit 6)])))))))))))))) (kSeq (kDraw 
(dLook (nat_lit 0) [] [] (lkMove g6) p19 
(dLook (nat_lit 1) [] [] (lkMove g19) p20 
(dIf [] (wantT g20) p21 (dLook (nat_lit 2) [] [] (lkMove g0) p21 k198d11) k198d11)))) kRet))))⟩
def q385 : OpdF := kC (.func (.func (nat_lit 254)) ⟨[]⟩ ⟨[]⟩)
noncomputable def k199 : KFun := ⟨[rTmp (nat_lit 4) g4], (kSeq (oSet (xTurn (tnBox g1)) p3 
(oSet (xMove q8) p4 
oEnd)) (kSeq (oSet (xMove g0) p5 
(oSet (xNil g5) p6 
(oSet (xLook (lkFieldAddr (nat_lit 0) g6)) p7 
(oSet (xLook (lkLoad1 g7)) p8 
(oSet (xLook (lkMkFunc (.func (nat_lit 255)) [] [g3])) p9 
(oSet (xCall q385 [g8, g9]) p10 
(oSet (xMove g10) p4 
oEnd))))))) kRet))⟩
noncomputable def k201 : KFun := ⟨[rTmp (nat_lit 4) g4], (kSeq (oSet (xMove q0) p4 
oEnd) (kSeq (oSet (xMove g0) p5 
(oSet (xMove g1) p6 
(oSet (xNil g5) p7 
(oSet (xLook (lkIxArr (nat_lit 256) (nat_lit 1) g7 g6)) p8 
(oSet (xLook (lkLoad1 g8)) p9 
(oSet (xMove g9) p4 
oEnd)))))) kRet))⟩
def q392 : OpdF := kC (.func (.func (nat_lit 207)) ⟨[]⟩ ⟨[]⟩)
noncomputable def k206 : KFun := ⟨[], (kSeq (oSet (xLook (lkLoad1 g1)) p8 
(oSet (xLook (lkLen .sl g8)) p9 
(oSet (xMove q8) p10 
oEnd))) (kBlock (nat_lit 0) (kLoop (kSeq (oSet (xLook (lkBin .lss g10 g9)) p11 
oEnd) (kSeq (kCond g11 kSkip (kExit (nat_lit 0))) (kSeq (kBlock (nat_lit 1) (kSeq (oSet (xMove g10) p12 
(oSet (xLook (lkIxSl (nat_lit 1) g8 g10)) p13 
(oSet (xLook (lkLoad1 g13)) p14 
(oSet (xMove g12) p4 
(oSet (xMove g14) p5 
oEnd))))) (kSeq (oSet (xMove g5) p16 
(oSet (xLook (lkLoad1 g2)) p17 
(oSet (xNil g17) p18 
(oSet (xLook (lkFieldAddr (nat_lit 0) g18)) p19 
(oSet (xLook (lkFieldAddr (nat_lit 0) g19)) p20 
(oSet (xLook (lkLoad1 g20)) p21 
(oSet (xCall q392 [g16, g21]) p22 
(oSet (xMove g22) p15 
(oSet (xLook (lkExtract (nat_lit 0) g15)) p23 
(oSet (xLook (lkExtract (nat_lit 1) g15)) p24 
(oSet (xTurn (tnAlloc q223)) p6 
(oDo (xTurn (tnStore (nat_lit 5) g6 g23)) 
(oSet (xMove g24) p7 
oEnd))))))))))))) (kSeq (kSeq (oSet (xMove g7) p25 
(oSet (xLook (lkEq true .int g25 q8)) p26 
oEnd)) (kCond g26 (oSet (xLook (lkLoad1 g2)) p27 
(oSet (xMove g7) p28 
(oSet (xNil g27) p29 
(oSet (xLook (lkFieldAddr (nat_lit 0) g29)) p30 
(oSet (xLook (lkFieldAddr (nat_lit 1) g30)) p31 
(oDo (xTurn (tnStore (nat_lit 1) g31 g28)) 
oEnd)))))) kSkip)) (kSeq (kDraw 
(dLook (nat_lit 0) [] [] (lkLoad1 g2) p32 
(dTurn (nat_lit 1) [] [] false (xNil g32) p33 
(dLook (nat_lit 2) [] [] (lkFieldAddr (nat_lit 0) g33) p34 
(dLook (nat_lit 3) [] [] (lkFieldAddr (nat_lit 4) g6) p35 
(dLook (nat_lit 4) [] [] (lkLoad1 g35) p36 
(dTurn (nat_lit 5) [] [] true (xCall q225 [g34, g36]) p37 (dEnd [(nat_lit 32), (nat_lit 33), (nat_lit 34), (nat_lit 35), (nat_lit 36), (nat_lit 37)])))))))) (kSeq (oSet (xLook (lkLoad1 g2)) p38 
(oSet (xNil g38) p39 
(oSet (xLook (lkFieldAddr (nat_lit 0) g39)) p40 
(oSet (xLook (lkFieldAddr (nat_lit 1) g40)) p41 
(oSet (xLook (lkLoad1 g41)) p42 
(oSet (xLook (lkEq true .int g42 q8)) p43 
(oSet (xMove g43) p44 
(oSetIf (wantF g44) (xMove g0) p45 
(oSetIf (wantF g44) (xMove g4) p46 
(oSetIf (wantF g44) (xLook (lkLoadN (nat_lit 5) g6)) p47 
(oSetIf (wantF g44) (xCall g45 [g46, g47]) p48 
(oSetIf (wantF g44) (xLook (lkUn .not g48)) p49 
(oSet (xLook (lkPick g44 q3 g49)) p50 
oEnd))))))))))))) (kCond g50 kRet kSkip))))))) (oSet (xLook (lkBin .add g10 q12)) p51 
(oSet (xMove g51) p10 
oEnd))))))))⟩
def q393 : List Value := [(.string ⟨⟨[]⟩⟩), (.string ⟨⟨[]⟩⟩), (.string ⟨⟨[]⟩⟩), (.string ⟨⟨[]⟩⟩), (.string ⟨⟨[]⟩⟩), (.string ⟨⟨[]⟩⟩), (.string ⟨⟨[]⟩⟩), (.string ⟨⟨[]⟩⟩), (.map none), (.slice none (nat_lit 0) (nat_lit 0)), (.int .i64 (.ofNat (nat_lit 0))), (.int .i64 (.ofNat (nat_lit 0))), (.int .i64 (.ofNat (nat_lit 0))), (.slice none (nat_lit 0) (nat_lit 0)), (.slice none (nat_lit 0) (nat_lit 0)), (.slice none (nat_lit 0) (nat_lit 0))]
def q394 : OpdF := kC (.func (.func (nat_lit 259)) ⟨[]⟩ ⟨[]⟩)
def q395 : OpdF := kC (.func (.func (nat_lit 261)) ⟨[]⟩ ⟨[]⟩)
def q396 : OpdF := kC (.func (.func (nat_lit 260)) ⟨[]⟩ ⟨[]⟩)
def q397 : OpdF := kC (.func (.func (nat_lit 262)) ⟨[]⟩ ⟨[]⟩)
noncomputable def k207 : KFun := ⟨[rCellN (nat_lit 4) g4 (nat_lit 5), rTmp (nat_lit 5) g5], (kSeq (oSet (xTurn (tnAlloc q223)) p4 
(oSet (xMove q8) p5 
oEnd)) (kSeq (kSeq (oSet (xMove g0) p11 
(oSet (xCall q132 [g11]) p12 
(oSet (xMove g12) p10 
(oSet (xLook (lkExtract (nat_lit 0) g10)) p13 
(oSet (xLook (lkExtract (nat_lit 1) g10)) p14 
(oSet (xMove g13) p6 
(oSet (xMove g14) p7 
oEnd))))))) (kSeq (oSet (xMove g6) p15 
(oSet (xLook (lkEq true .int g15 q8)) p16 
oEnd)) (kCond g16 (kSeq (oSet (xLook (lkBuild q223 [])) p17 
(oSet (xMove g6) p18 
(oDo (xTurn (tnStore (nat_lit 5) g4 g17)) 
(oSet (xMove g18) p5 
oEnd)))) kRet) kSkip))) (kSeq (kSeq (oSet (xMove g1) p19 
(oSet (xCall q204 [g19]) p20 
(oSet (xMove g20) p8 
oEnd))) (kSeq (oSet (xMove g8) p21 
(oSet (xLook (lkEq true .int g21 q8)) p22 
oEnd)) (kCond g22 (kSeq (oSet (xLook (lkBuild q223 [])) p23 
(oSet (xMove g8) p24 
(oDo (xTurn (tnStore (nat_lit 5) g4 g23)) 
(oSet (xMove g24) p5 
oEnd)))) kRet) kSkip))) (kSeq (oSet (xTurn (tnMkMap (.one .str))) p25 
(oSet (xLook (lkBuild q57 [((nat_lit 0), (nat_lit 1), g25)])) p26 
(oSet (xMove g1) p27 
(oSet (xLook (lkBuild q393 [((nat_lit 8), (nat_lit 1), g26), ((nat_lit 9), (nat_lit 1), g27)])) p28 
(oSet (xTurn (tnBox g28)) p29 
(oSet (xMove g29) p9 
oEnd)))))) (kSeq (oSet (xMove g9) p30 
(oSet (xMove g0) p31 
(oSet (xCall q394 [g30, g31]) p32 
oEnd))) (kSeq (kDraw 
(dLook (nat_lit 0) [] [] (lkMove g9) p33 
(dLook (nat_lit 1) [] [] (lkMove g9) p34 
(dLook (nat_lit 2) [] [] (lkMove g9) p35 
(dTurn (nat_lit 3) [] [] false (xNil g35) p36 
(dLook (nat_lit 4) [] [] (lkFieldAddr (nat_lit 11) g36) p37 
(dLook (nat_lit 5) [] [] (lkFieldAddr (nat_lit 2) g37) p38 
(dLook (nat_lit 6) [] [] (lkLoad1 g38) p39 
(dTurn (nat_lit 7) [] [] true (xCall q396 [g39]) p40 
(dLook (nat_lit 8) [] [] (lkMove g9) p41 
(dTurn (nat_lit 9) [] [] false (xNil g41) p42 
(dLook (nat_lit 10) [] [] (lkFieldAddr (nat_lit 11) g42) p43 
(dLook (nat_lit 11) [] [] (lkFieldAddr (nat_lit 3) g43) p44 
(dLook (nat_lit 12) [(nat_lit 7)] [] (lkLoad1 g44) p45 
(dTurn (nat_lit 13) [] [(nat_lit 7)] true (xCall q395 [g45]) p46 
(dTurn (nat_lit 14) [] [(nat_lit 7), (nat_lit 13)] false (xNil g33) p47 
(dLook (nat_lit 15) [] [(nat_lit 7), (nat_lit 13)] (lkFieldAddr (nat_lit 11) g47) p48 
(dLook (nat_lit 16) [] [(nat_lit 7), (nat_lit 13)] (lkFieldAddr (nat_lit 2) g48) p49 
(dTurn (nat_lit 17) [] [(nat_lit 7), (nat_lit 13)] true (xTurn (tnStore (nat_lit 1) g49 g40)) noDst 
(dTurn (nat_lit 18) [] [(nat_lit 7), (nat_lit 13), (nat_lit 17)] false (xNil g34) p50 
(dLook (nat_lit 19) [] [(nat_lit 7), (nat_lit 13), (nat_lit 17)] (lkFieldAddr (nat_lit 11) g50) p51 
(dLook (nat_lit 20) [] [(nat_lit 7), (nat_lit 13), (nat_lit 17)] (lkFieldAddr (nat_lit 3) g51) p52 
(dTurn (nat_lit 21) [] [(nat_lit 7), (nat_lit 13), (nat_lit 17)] true (xTurn (tnStore (nat_lit 1) g52 g46)) noDst (dEnd [(nat_lit 33), (nat_lit 34), (nat_lit 35), (nat_lit 36), (nat_lit 37), (nat_lit 38), (nat_lit 39), (nat_lit 40), (nat_lit 41), (nat_lit 42), (nat_lit 43), (nat_lit 44), (nat_lit 45), (nat_lit 46), (nat_lit 47), (nat_lit 48), (nat_lit 49), (nat_lit 50), (nat_lit 51), (nat_lit 52)])))))))))))))))))))))))) (kSeq (kSeq (oSet (xMove g9) p53 
(oSet (xNil g53) p54 
(oSet (xLook (lkFieldAddr (nat_lit 11) g54)) p55 
(oSet (xLook (lkFieldAddr (nat_lit 0) g55)) p56 
(oSet (xLook (lkLoad1 g56)) p57 
(oSet (xLook (lkEq false .int g57 q8)) p58 
oEnd)))))) (kCond g58 (oSet (xMove g9) p59 
(oSet (xMove g9) p60 
(oSet (xNil g60) p61 
(oSet (xLook (lkFieldAddr (nat_lit 8) g61)) p62 
(oSet (xCall q397 [g62]) p63 
(oSet (xNil g59) p64 
(oSet (xLook (lkFieldAddr (nat_lit 11) g64)) p65 
(oSet (xLook (lkFieldAddr (nat_lit 4) g65)) p66 
(oDo (xTurn (tnStore (nat_lit 1) g66 g63)) 
oEnd))))))))) kSkip)) (kSeq (oSet (xMove g9) p67 
(oSet (xNil g67) p68 
(oSet (xLook (lkFieldAddr (nat_lit 11) g68)) p69 
(oSet (xLook (lkLoadN (nat_lit 5) g69)) p70 
(oDo (xTurn (tnStore (nat_lit 5) g4 g70)) 
(oSet (xMove q8) p5 
oEnd)))))) kRet))))))))⟩
noncomputable def k208 : KFun := ⟨[rTmp (nat_lit 4) g4], (kSeq (oSet (xMove q8) p4 
oEnd) (kSeq (kSeq (oSet (xMove g0) p6 
(oSet (xLook (lkLen .sl g6)) p7 
(oSet (xMove q8) p8 
oEnd))) (kBlock (nat_lit 0) (kLoop (kSeq (oSet (xLook (lkBin .lss g8 g7)) p9 
oEnd) (kSeq (kCond g9 kSkip (kExit (nat_lit 0))) (kSeq (kBlock (nat_lit 1) (kSeq (oSet (xMove g8) p10 
(oSet (xMove g10) p5 
oEnd)) (kSeq (oSet (xMove g1) p11 
(oSet (xMove g0) p12 
(oSet (xMove g5) p13 
(oSet (xLook (lkIxSl (nat_lit 1) g12 g13)) p14 
(oSet (xLook (lkLoad1 g14)) p15 
(oSet (xCall g11 [g15]) p16 
oEnd)))))) (kCond g16 (kSeq (oSet (xMove g5) p17 
(oSet (xMove g17) p4 
oEnd)) kRet) kSkip)))) (oSet (xLook (lkBin .add g8 q12)) p18 
(oSet (xMove g18) p8 
oEnd)))))))) (kSeq (oSet (xMove q88) p4 
oEnd) kRet)))⟩
def q398 : OpdF := kC (.int .u8 (.ofNat (nat_lit 8)))
noncomputable def k209 : KFun := ⟨[rTmp (nat_lit 6) g6], (kSeq (oSet (xTurn (tnBox g2)) p5 
(oSet (xMove q0) p6 
oEnd)) (kSeq (oSet (xMove g1) p7 
(oSet (xLook (lkEq false .int g7 q41)) p8 
(oSet (xMove g8) p9 
(oSetIf (wantF g9) (xLook (lkIxArr (nat_lit 32) (nat_lit 1) g5 q8)) p10 
(oSetIf (wantF g9) (xLook (lkLoad1 g10)) p11 
(oSetIf (wantF g9) (xLook (lkBin .rem g11 q398)) p12 
(oSetIf (wantF g9) (xLook (lkEq false .int g12 q374)) p13 
(oSetIf (wantF g9) (xMove g13) p14 
(oSetIf (wantT g14) (xMove g0) p15 
(oSetIf (wantT g14) (xLook (lkEq false .int g15 q8)) p16 
(oSetIf (wantT g14) (xMove g16) p17 
(oSetIf (wantF g17) (xMove g1) p18 
(oSetIf (wantF g17) (xLook (lkBin .gtr g18 q12)) p19 
(oSetIf (wantT g14) (xLook (lkPick g17 q3 g19)) p20 
(oSetIf (wantF g9) (xLook (lkPick g14 g20 q0)) p21 
(oSet (xLook (lkPick g9 q3 g21)) p22 
(oSet (xMove g22) p6 
oEnd))))))))))))))))) kRet))⟩
def q399 : OpdF := kC (.func (.func (nat_lit 263)) ⟨[]⟩ ⟨[]⟩)
def q400 : OpdF := kC (.func (.func (nat_lit 264)) ⟨[]⟩ ⟨[]⟩)
noncomputable def k210 : KFun := ⟨[rCellN (nat_lit 4) g4 (nat_lit 33), rTmp (nat_lit 5) g5], (kSeq (oSet (xTurn (tnBox g0)) p2 
(oSet (xTurn (tnAlloc q292)) p4 
(oSet (xMove q8) p5 
oEnd))) (kSeq (oSet (xCall q135 []) p14 
(oSet (xMove g14) p6 
oEnd)) (kSeq (oSet (xMove g6) p15 
(oSet (xLook (lkFieldAddr (nat_lit 0) g2)) p16 
(oSet (xLook (lkLoad1 g16)) p17 
(oSet (xCall q137 [g15, g17]) p18 
oEnd)))) (kSeq (oSet (xMove g6) p19 
(oSet (xLook (lkFieldAddr (nat_lit 1) g2)) p20 
(oSet (xLook (lkLoad1 g20)) p21 
(oSet (xLook (lkLen .sl g21)) p22 
(oSet (xLook (lkFieldAddr (nat_lit 2) g2)) p23 
(oSet (xLook (lkLoad1 g23)) p24 
(oSet (xLook (lkLen .sl g24)) p25 
(oSet (xLook (lkBin .add g22 g25)) p26 
(oSet (xCall q137 [g19, g26]) p27 
oEnd))))))))) (kSeq (kSeq (oSet (xLook (lkFieldAddr (nat_lit 1) g2)) p28 
(oSet (xLook (lkLoad1 g28)) p29 
(oSet (xLook (lkLen .sl g29)) p30 
(oSet (xMove q8) p31 
oEnd)))) (kBlock (nat_lit 0) (kLoop (kSeq (oSet (xLook (lkBin .lss g31 g30)) p32 
oEnd) (kSeq (kCond g32 kSkip (kExit (nat_lit 0))) (kSeq (kBlock (nat_lit 1) (kSeq (oSet (xLook (lkIxSl (nat_lit 1) g29 g31)) p33 
(oSet (xLook (lkLoad1 g33)) p34 
(oSet (xMove g34) p8 
oEnd))) (oSet (xMove g6) p35 
(oSet (xMove g8) p36 
(oSet (xCall q138 [g35, g36]) p37 
oEnd))))) (oSet (xLook (lkBin .add g31 q12)) p38 
(oSet (xMove g38) p31 
oEnd)))))))) (kSeq (kSeq (oSet (xLook (lkFieldAddr (nat_lit 2) g2)) p39 
(oSet (xLook (lkLoad1 g39)) p40 
(oSet (xLook (lkLen .sl g40)) p41 
(oSet (xMove q8) p42 
oEnd)))) (kBlock (nat_lit 2) (kLoop (kSeq (oSet (xLook (lkBin .lss g42 g41)) p43 
oEnd) (kSeq (kCond g43 kSkip (kExit (nat_lit 2))) (kSeq (kBlock (nat_lit 3) (kSeq (oSet (xLook (lkIxSl (nat_lit 33) g40 g42)) p44 
(oSet (xLook (lkLoadN (nat_lit 33) g44)) p45 
(oSet (xTurn (tnAlloc q292)) p10 
(oDo (xTurn (tnStore (nat_lit 33) g10 g45)) 
oEnd)))) (kSeq (oSet (xMove g6) p46 
(oSet (xLook (lkFieldAddr (nat_lit 0) g10)) p47 
(oSet (xLook (lkLoadN (nat_lit 32) g47)) p48 
(oSet (xCall q399 [g46, g48]) p49 
oEnd)))) (oSet (xMove g6) p50 
(oSet (xLook (lkFieldAddr (nat_lit 32) g10)) p51 
(oSet (xLook (lkLoad1 g51)) p52 
(oSet (xCall q137 [g50, g52]) p53 
oEnd))))))) (oSet (xLook (lkBin .add g42 q12)) p54 
(oSet (xMove g54) p42 
oEnd)))))))) (kSeq (oSet (xMove g6) p56 
(oSet (xCall q136 [g56]) p57 
(oSet (xMove g57) p55 
(oSet (xLook (lkExtract (nat_lit 0) g55)) p58 
(oSet (xLook (lkExtract (nat_lit 1) g55)) p59 
(oSet (xMove g58) p11 
(oSet (xMove g59) p12 
oEnd))))))) (kSeq (kSeq (oSet (xMove g12) p60 
(oSet (xLook (lkEq true .int g60 q8)) p61 
oEnd)) (kCond g61 (kSeq (oSet (xLook (lkBuild q292 [])) p62 
(oSet (xMove g12) p63 
(oDo (xTurn (tnStore (nat_lit 33) g4 g62)) 
(oSet (xMove g63) p5 
oEnd)))) kRet) kSkip)) (kSeq (oSet (xMove g1) p65 
(oSet (xMove g11) p66 
(oSet (xCall q229 [g65, g66]) p67 
(oSet (xMove g67) p64 
(oSet (xLook (lkExtract (nat_lit 0) g64)) p68 
(oSet (xLook (lkExtract (nat_lit 1) g64)) p69 
(oSet (xTurn (tnAlloc q66)) p13 
(oDo (xTurn (tnStore (nat_lit 32) g13 g68)) 
(oSet (xMove g69) p12 
oEnd))))))))) (kSeq (kDraw 
(dLook (nat_lit 0) [] [] (lkLoadN (nat_lit 32) g13) p70 
(dLook (nat_lit 1) [] [] (lkLoadN (nat_lit 3) g2) p71 
(dTurn (nat_lit 2) [(nat_lit 0)] [] true (xCall q400 [g71]) p72 
(dLook (nat_lit 3) [] [(nat_lit 2)] (lkBuild q292 [((nat_lit 0), (nat_lit 32), g70), ((nat_lit 32), (nat_lit 1), g72)]) p73 
(dLook (nat_lit 4) [] [] (lkMove g12) p74 
(dTurn (nat_lit 5) [] [(nat_lit 2)] true (xTurn (tnStore (nat_lit 33) g4 g73)) noDst 
(dLook (nat_lit 6) [] [(nat_lit 2), (nat_lit 5)] (lkMove g74) p5 (dEnd [(nat_lit 70), (nat_lit 71), (nat_lit 72), (nat_lit 73), (nat_lit 74), (nat_lit 5)]))))))))) kRet))))))))))⟩
noncomputable def k213 : KFun := ⟨[], (kSeq (oSet (xTurn (tnBox g0)) p3 
oEnd) (kSeq (oSet (xLook (lkFieldAddr (nat_lit 0) g3)) p8 
(oSet (xLook (lkLoad1 g8)) p9 
(oSet (xMove g1) p10 
(oSet (xLook (lkLen .sl g10)) p11 
(oSet (xCall q137 [g9, g11]) p12 
oEnd))))) (kSeq (oSet (xMove g1) p13 
(oSet (xLook (lkLen .sl g13)) p14 
(oSet (xMove q8) p15 
oEnd))) (kBlock (nat_lit 0) (kLoop (kSeq (oSet (xLook (lkBin .lss g15 g14)) p16 
oEnd) (kSeq (kCond g16 kSkip (kExit (nat_lit 0))) (kSeq (kBlock (nat_lit 1) (kSeq (oSet (xLook (lkIxSl (nat_lit 1) g13 g15)) p17 
(oSet (xLook (lkLoad1 g17)) p18 
(oSet (xMove g18) p7 
oEnd))) (oSet (xMove g2) p19 
(oSet (xMove g7) p20 
(oSet (xCall g19 [g20]) p21 
oEnd))))) (oSet (xLook (lkBin .add g15 q12)) p22 
(oSet (xMove g22) p15 
oEnd))))))))))⟩
noncomputable def k214 : KFun := ⟨[], (kSeq (oSet (xTurn (tnBox g0)) p3 
oEnd) (kSeq (oSet (xLook (lkFieldAddr (nat_lit 0) g3)) p8 
(oSet (xLook (lkLoad1 g8)) p9 
(oSet (xMove g1) p10 
(oSet (xLook (lkLen .sl g10)) p11 
(oSet (xCall q137 [g9, g11]) p12 
oEnd))))) (kSeq (oSet (xMove g1) p13 
(oSet (xLook (lkLen .sl g13)) p14 
(oSet (xMove q8) p15 
oEnd))) (kBlock (nat_lit 0) (kLoop (kSeq (oSet (xLook (lkBin .lss g15 g14)) p16 
oEnd) (kSeq (kCond g16 kSkip (kExit (nat_lit 0))) (kSeq (kBlock (nat_lit 1) (kSeq (oSet (xLook (lkIxSl (nat_lit 2) g13 g15)) p17 
(oSet (xLook (lkLoadN (nat_lit 2) g17)) p18 
(oSet (xTurn (tnAlloc q287)) p7 
(oDo (xTurn (tnStore (nat_lit 2) g7 g18)) 
oEnd)))) (oSet (xMove g2) p19 
(oSet (xLook (lkLoadN (nat_lit 2) g7)) p20 
(oSet (xCall g19 [g20]) p21 
oEnd))))) (oSet (xLook (lkBin .add g15 q12)) p22 
(oSet (xMove g22) p15 
oEnd))))))))))⟩
noncomputable def k216 : KFun := ⟨[], (kSeq (oSet (xTurn (tnBox g0)) p3 
oEnd) (kSeq (oSet (xLook (lkFieldAddr (nat_lit 0) g3)) p8 
(oSet (xLook (lkLoad1 g8)) p9 
(oSet (xMove g1) p10 
(oSet (xLook (lkLen .sl g10)) p11 
(oSet (xCall q137 [g9, g11]) p12 
oEnd))))) (kSeq (oSet (xMove g1) p13 
(oSet (xLook (lkLen .sl g13)) p14 
(oSet (xMove q8) p15 
oEnd))) (kBlock (nat_lit 0) (kLoop (kSeq (oSet (xLook (lkBin .lss g15 g14)) p16 
oEnd) (kSeq (kCond g16 kSkip (kExit (nat_lit 0))) (kSeq (kBlock (nat_lit 1) (kSeq (oSet (xLook (lkIxSl (nat_lit 3) g13 g15)) p17 
(oSet (xLook (lkLoadN (nat_lit 3) g17)) p18 
(oSet (xTurn (tnAlloc q303)) p7 
(oDo (xTurn (tnStore (nat_lit 3) g7 g18)) 
oEnd)))) (oSet (xMove g2) p19 
(oSet (xLook (lkLoadN (nat_lit 3) g7)) p20 
(oSet (xCall g19 [g20]) p21 
oEnd))))) (oSet (xLook (lkBin .add g15 q12)) p22 
(oSet (xMove g22) p15 
oEnd))))))))))⟩
noncomputable def k218 : KFun := ⟨[], (kSeq (oSet (xMove q41) p2 
oEnd) (kBlock (nat_lit 0) (kLoop (kSeq (kSeq (oSet (xMove g0) p3 
(oSet (xMove g2) p4 
(oSet (xCall g3 [g4]) p5 
oEnd))) (kCond g5 kSkip (kExit (nat_lit 0)))) (kSeq (kBlock (nat_lit 1) kSkip) (oSet (xMove g2) p6 
(oSet (xLook (lkBin .add g6 q41)) p7 
(oSet (xMove g7) p2 
oEnd))))))))⟩
noncomputable def k219 : KFun := ⟨[rTmp (nat_lit 2) g2], (kSeq (oSet (xMove q0) p2 
oEnd) (kSeq (kSeq (oSet (xMove q12) p3 
oEnd) (kBlock (nat_lit 0) (kLoop (kSeq (kSeq (oSet (xMove g3) p4 
(oSet (xMove g0) p5 
(oSet (xLook (lkLen .sl g5)) p6 
(oSet (xLook (lkBin .lss g4 g6)) p7 
oEnd)))) (kCond g7 kSkip (kExit (nat_lit 0)))) (kSeq (kBlock (nat_lit 1) (kSeq (kDraw 
(dLook (nat_lit 0) [] [] (lkMove g0) p10 
(dLook (nat_lit 1) [] [] (lkMove g3) p11 
(dLook (nat_lit 2) [] [] (lkIxSl (nat_lit 1) g10 g11) p12 
(dLook (nat_lit 3) [] [] (lkLoad1 g12) p13 
(dLook (nat_lit 4) [] [] (lkMove g0) p14 
(dLook (nat_lit 5) [] [] (lkMove g3) p15 
(dLook (nat_lit 6) [] [] (lkBin .sub g15 q12) p16 
(dLook (nat_lit 7) [] [] (lkIxSl (nat_lit 1) g14 g16) p17 
(dLook (nat_lit 8) [] [] (lkLoad1 g17) p18 
(dLook (nat_lit 9) [] [] (lkBin .leq g13 g18) p19 (dEnd [(nat_lit 10), (nat_lit 11), (nat_lit 12), (nat_lit 13), (nat_lit 14), (nat_lit 15), (nat_lit 16), (nat_lit 17), (nat_lit 18), (nat_lit 19)])))))))))))) (kCond g19 (kSeq (oSet (xMove q0) p2 
oEnd) kRet) kSkip))) (oSet (xMove g3) p8 
(oSet (xLook (lkBin .add g8 q12)) p9 
(oSet (xMove g9) p3 
oEnd)))))))) (kSeq (oSet (xMove q3) p2 
oEnd) kRet)))⟩
noncomputable def k220 : KFun := ⟨[rTmp (nat_lit 2) g2], (kSeq (oSet (xTurn (tnBox g0)) p1 
(oSet (xMove q23) p2 
oEnd)) (kSeq (oSet (xMove q23) p3 
oEnd) (kSeq (kSeq (oSet (xLook (lkFieldAddr (nat_lit 4) g1)) p6 
(oSet (xLook (lkLoad1 g6)) p7 
(oSet (xLook (lkLen .sl g7)) p8 
(oSet (xMove q8) p9 
oEnd)))) (kBlock (nat_lit 0) (kLoop (kSeq (oSet (xLook (lkBin .lss g9 g8)) p10 
oEnd) (kSeq (kCond g10 kSkip (kExit (nat_lit 0))) (kSeq (kBlock (nat_lit 1) (kSeq (oSet (xLook (lkIxSl (nat_lit 3) g7 g9)) p11 
(oSet (xLook (lkLoadN (nat_lit 3) g11)) p12 
(oSet (xTurn (tnAlloc q303)) p5 
(oDo (xTurn (tnStore (nat_lit 3) g5 g12)) 
oEnd)))) (oSet (xMove g3) p13 
(oSet (xLook (lkFieldAddr (nat_lit 0) g5)) p14 
(oSet (xLook (lkLoad1 g14)) p15 
(oSet (xTurn (tnBuildSlice q17 [((nat_lit 0), (nat_lit 1), g15)] (nat_lit 1))) p16 
(oSet (xTurn (tnAppend (nat_lit 1) g13 g16)) p17 
(oSet (xMove g17) p3 
oEnd)))))))) (oSet (xLook (lkBin .add g9 q12)) p18 
(oSet (xMove g18) p9 
oEnd)))))))) (kSeq (oSet (xMove g3) p19 
(oSet (xMove g19) p2 
oEnd)) kRet))))⟩
noncomputable def k221d0 : KD := 
(dLook (nat_lit 17) [] [] (lkPick g32 q3 g36) p37 (dEnd [(nat_lit 20), (nat_lit 21), (nat_lit 22), (nat_lit 23), (nat_lit 24), (nat_lit 25), (nat_lit 26), (nat_lit 27), (nat_lit 28), (nat_lit 29), (nat_lit 30), (nat_lit 31), (nat_lit 32), (nat_lit 33), (nat_lit 34), (nat_lit 35), (nat_lit 36), (nat_lit 37)]))
noncomputable def k221d1 : KD := 
(dIf [] (wantF g32) p36 (dLook (nat_lit 16) [] [] (lkBin .gtr g35 q180) p36 k221d0) k221d0)
noncomputable def k221d2 : KD := 
(dIf [] (wantF g32) p35 (dLook (nat_lit 15) [] [] (lkLen .str g34) p35 k221d1) k221d1)
noncomputable def k221d3 : KD := 
(dIf [] (wantF g32) p34 (dLook (nat_lit 14) [] [] (lkLoad1 g33) p34 k221d2) k221d2)
noncomputable def k221d4 : KD := 
(dLook (nat_lit 11) [] [] (lkPick g26 q3 g30) p31 
(dLook (nat_lit 12) [] [] (lkMove g31) p32 
(dIf [] (wantF g32) p33 (dLook (nat_lit 13) [] [] (lkFieldAddr (nat_lit 1) g5) p33 k221d3) k221d3)))
noncomputable def k221d5 : KD := 
(dIf [] (wantF g26) p30 (dLook (nat_lit 10) [] [] (lkBin .gtr g29 q180) p30 k221d4) k221d4)
noncomputable def k221d6 : KD := 
(dIf [] (wantF g26) p29 (dLook (nat_lit 9) [] [] (lkLen .str g28) p29 k221d5) k221d5)
noncomputable def k221d7 : KD := 
(dIf [] (wantF g26) p28 (dLook (nat_lit 8) [] [] (lkLoad1 g27) p28 k221d6) k221d6)
noncomputable def k221 : KFun := ⟨[rTmp (nat_lit 2) g2], (kSeq (oSet (xMove q0) p2 
oEnd) (kSeq (oSet (xMove g0) p6 
(oSet (xCall q395 [g6]) p7 
(oSet (xMove g7) p3 
oEnd))) (kSeq (kSeq (oSet (xMove g3) p8 
(oSet (xLook (lkLen .sl g8)) p9 
(oSet (xMove g0) p10 
(oSet (xLook (lkLen .sl g10)) p11 
(oSet (xLook (lkEq true .int g9 g11)) p12 
oEnd))))) (kCond g12 (kSeq (oSet (xMove q0) p2 
oEnd) kRet) kSkip)) (kSeq (kSeq (oSet (xMove g0) p13 
(oSet (xLook (lkLen .sl g13)) p14 
(oSet (xMove q8) p15 
oEnd))) (kBlock (nat_lit 0) (kLoop (kSeq (oSet (xLook (lkBin .lss g15 g14)) p16 
oEnd) (kSeq (kCond g16 kSkip (kExit (nat_lit 0))) (kSeq (kBlock (nat_lit 1) (kSeq (oSet (xMove g15) p17 
(oSet (xLook (lkIxSl (nat_lit 2) g13 g15)) p18 
(oSet (xLook (lkLoadN (nat_lit 2) g18)) p19 
(oSet (xTurn (tnAlloc q287)) p5 
(oSet (xMove g17) p4 
(oDo (xTurn (tnStore (nat_lit 2) g5 g19)) 
oEnd)))))) (kSeq (kDraw 
(dLook (nat_lit 0) [] [] (lkLoadN (nat_lit 2) g5) p20 
(dLook (nat_lit 1) [] [] (lkMove g3) p21 
(dLook (nat_lit 2) [] [] (lkMove g4) p22 
(dLook (nat_lit 3) [] [] (lkIxSl (nat_lit 2) g21 g22) p23 
(dLook (nat_lit 4) [] [] (lkLoadN (nat_lit 2) g23) p24 
(dLook (nat_lit 5) [] [] (lkEq true (.flat [.str, .str]) g20 g24) p25 
(dLook (nat_lit 6) [] [] (lkMove g25) p26 
(dIf [] (wantF g26) p27 (dLook (nat_lit 7) [] [] (lkFieldAddr (nat_lit 0) g5) p27 k221d7) k221d7))))))))) (kCond g37 (kSeq (oSet (xMove q0) p2 
oEnd) kRet) kSkip)))) (oSet (xLook (lkBin .add g15 q12)) p38 
(oSet (xMove g38) p15 
oEnd)))))))) (kSeq (oSet (xMove q3) p2 
oEnd) kRet)))))⟩
def q401 : OpdF := kC (.func (.func (nat_lit 265)) ⟨[]⟩ ⟨[]⟩)
def q402 : OpdF := kC (.func (.func (nat_lit 266)) ⟨[]⟩ ⟨[]⟩)
def q403 : OpdF := kC (.func (.func (nat_lit 267)) ⟨[]⟩ ⟨[]⟩)
noncomputable def k223 : KFun := ⟨[rTmp (nat_lit 4) g4, rTmp (nat_lit 5) g5], (kSeq (oSet (xMove q23) p4 
(oSet (xMove q8) p5 
oEnd)) (kSeq (kSeq (oSet (xMove g0) p12 
(oSet (xCall q204 [g12]) p13 
(oSet (xMove g13) p6 
oEnd))) (kSeq (oSet (xMove g6) p14 
(oSet (xLook (lkEq true .int g14 q8)) p15 
oEnd)) (kCond g15 (kSeq (oSet (xMove g6) p16 
(oSet (xMove q23) p4 
(oSet (xMove g16) p5 
oEnd))) kRet) kSkip))) (kSeq (oSet (xTurn (tnMkMap (.one .str))) p17 
(oSet (xLook (lkBuild q57 [((nat_lit 0), (nat_lit 1), g17)])) p18 
(oSet (xTurn (tnAlloc q57)) p7 
(oDo (xTurn (tnStore (nat_lit 1) g7 g18)) 
oEnd)))) (kSeq (kSeq (oSet (xMove g0) p19 
(oSet (xLook (lkLen .sl g19)) p20 
(oSet (xMove q8) p21 
oEnd))) (kBlock (nat_lit 0) (kLoop (kSeq (oSet (xLook (lkBin .lss g21 g20)) p22 
oEnd) (kSeq (kCond g22 kSkip (kExit (nat_lit 0))) (kSeq (kBlock (nat_lit 1) (kSeq (oSet (xLook (lkIxSl (nat_lit 2) g19 g21)) p23 
(oSet (xLook (lkLoadN (nat_lit 2) g23)) p24 
(oSet (xTurn (tnAlloc q287)) p9 
(oDo (xTurn (tnStore (nat_lit 2) g9 g24)) 
oEnd)))) (oSet (xLook (lkFieldAddr (nat_lit 0) g7)) p25 
(oSet (xLook (lkLoad1 g25)) p26 
(oSet (xLook (lkFieldAddr (nat_lit 0) g9)) p27 
(oSet (xLook (lkLoad1 g27)) p28 
(oSet (xLook (lkFieldAddr (nat_lit 1) g9)) p29 
(oSet (xLook (lkLoad1 g29)) p30 
(oSet (xLook (lkBuild q17 [((nat_lit 0), (nat_lit 1), g30)])) p31 
(oDo (xTurn (tnMapUpdate (.one .str) g26 g28 g31)) 
oEnd)))))))))) (oSet (xLook (lkBin .add g21 q12)) p32 
(oSet (xMove g32) p21 
oEnd)))))))) (kSeq (kSeq (oSet (xMove g1) p33 
(oSet (xLook (lkLen .sl g33)) p34 
(oSet (xMove q8) p35 
oEnd))) (kBlock (nat_lit 2) (kLoop (kSeq (oSet (xLook (lkBin .lss g35 g34)) p36 
oEnd) (kSeq (kCond g36 kSkip (kExit (nat_lit 2))) (kSeq (kBlock (nat_lit 3) (kSeq (oSet (xLook (lkIxSl (nat_lit 3) g33 g35)) p37 
(oSet (xLook (lkLoadN (nat_lit 3) g37)) p38 
(oSet (xTurn (tnAlloc q303)) p11 
(oDo (xTurn (tnStore (nat_lit 3) g11 g38)) 
oEnd)))) (kSeq (kSeq (oSet (xLook (lkLoadN (nat_lit 3) g11)) p39 
(oSet (xCall q401 [g39]) p40 
(oSet (xLook (lkUn .not g40)) p41 
oEnd))) (kCond g41 (kSeq (oSet (xMove q23) p4 
(oSet (xMove q9) p5 
oEnd)) kRet) kSkip)) (oSet (xLook (lkLoadN (nat_lit 1) g7)) p42 
(oSet (xLook (lkLoadN (nat_lit 3) g11)) p43 
(oSet (xCall q402 [g42, g43]) p44 
oEnd)))))) (oSet (xLook (lkBin .add g35 q12)) p45 
(oSet (xMove g45) p35 
oEnd)))))))) (kSeq (kSeq (oSet (xLook (lkFieldAddr (nat_lit 0) g7)) p46 
(oSet (xLook (lkLoad1 g46)) p47 
(oSet (xLook (lkLen .map g47)) p48 
(oSet (xLook (lkBin .gtr g48 q85)) p49 
oEnd)))) (kCond g49 (kSeq (oSet (xMove q23) p4 
(oSet (xMove q68) p5 
oEnd)) kRet) kSkip)) (kSeq (oSet (xLook (lkLoadN (nat_lit 1) g7)) p50 
(oSet (xCall q403 [g50]) p51 
(oSet (xMove g51) p4 
(oSet (xMove q8) p5 
oEnd)))) kRet)))))))⟩
def q414 : OpdF := kC (.func (.func (nat_lit 274)) ⟨[]⟩ ⟨[]⟩)
def q415 : OpdF := kC (.func (.func (nat_lit 273)) ⟨[]⟩ ⟨[]⟩)
noncomputable def k229 : KFun := ⟨[rTmp (nat_lit 4) g4, rTmp (nat_lit 5) g5], (kSeq (oSet (xMove q8) p4 
(oSet (xMove q8) p5 
oEnd)) (kSeq (oSet (xMove g0) p10 
(oSet (xCall q414 [g10]) p11 
(oSet (xMove g1) p12 
(oSet (xCall q415 [g11, g12]) p13 
(oSet (xMove g13) p9 
(oSet (xLook (lkExtract (nat_lit 0) g9)) p14 
(oSet (xLook (lkExtract (nat_lit 1) g9)) p15 
(oSet (xLook (lkExtract (nat_lit 2) g9)) p16 
(oSet (xMove g14) p6 
(oSet (xMove g15) p7 
(oSet (xMove g16) p8 
oEnd))))))))))) (kSeq (kSeq (oSet (xMove g8) p17 
(oSet (xLook (lkEq true .int g17 q8)) p18 
oEnd)) (kCond g18 (kSeq (oSet (xMove q8) p4 
(oSet (xMove q41) p5 
oEnd)) kRet) kSkip)) (kSeq (oSet (xMove g6) p19 
(oSet (xMove g19) p4 
(oSet (xMove q8) p5 
oEnd))) kRet))))⟩
def q417 : OpdF := kC (.int .u64 (.ofNat (nat_lit 0)))
def q421 : OpdF := kC (.func (.func (nat_lit 277)) ⟨[]⟩ ⟨[]⟩)
noncomputable def k238 : KFun := ⟨[rTmp (nat_lit 4) g4], (kSeq (oSet (xMove q8) p4 
oEnd) (kSeq (oSet (xMove g0) p5 
(oSet (xMove g1) p6 
(oSet (xCall q421 [g5, g6]) p7 
(oSet (xMove g7) p4 
oEnd)))) kRet))⟩
noncomputable def k239 : KFun := ⟨[rTmp (nat_lit 4) g4], (kSeq (oSet (xTurn (tnBox g0)) p2 
(oSet (xTurn (tnBox g1)) p3 
(oSet (xMove q53) p4 
oEnd))) (kSeq (oSet (xLook (lkMkFunc (.func (nat_lit 278)) [] [g2, g3])) p5 
(oSet (xMove g5) p4 
oEnd)) kRet))⟩
def q422 : OpdF := kC (.int .u32 (.ofNat (nat_lit 0)))
def q423 : OpdF := kC (.func (.func (nat_lit 281)) ⟨[]⟩ ⟨[]⟩)
noncomputable def k242 : KFun := ⟨[rTmp (nat_lit 4) g4], (kSeq (oSet (xMove q422) p4 
oEnd) (kSeq (oSet (xMove g0) p5 
(oSet (xMove g1) p6 
(oSet (xLook (lkUn .neg g6)) p7 
(oSet (xCall q423 [g5, g7]) p8 
(oSet (xMove g8) p4 
oEnd))))) kRet))⟩
def q424 : OpdF := kC (.int .u32 (.ofNat (nat_lit 1116352408)))
def q425 : OpdF := kC (.int .u32 (.ofNat (nat_lit 1899447441)))
def q426 : OpdF := kC (.int .u32 (.ofNat (nat_lit 3049323471)))
def q427 : OpdF := kC (.int .u32 (.ofNat (nat_lit 3921009573)))
def q428 : OpdF := kC (.int .u32 (.ofNat (nat_lit 961987163)))
def q429 : OpdF := kC (.int .u32 (.ofNat (nat_lit 1508970993)))
def q430 : OpdF := kC (.int .u32 (.ofNat (nat_lit 2453635748)))
def q431 : OpdF := kC (.int .u32 (.ofNat (nat_lit 2870763221)))
def q432 : OpdF := kC (.int .u32 (.ofNat (nat_lit 3624381080)))
def q433 : OpdF := kC (.int .u32 (.ofNat (nat_lit 310598401)))
def q434 : OpdF := kC (.int .u32 (.ofNat (nat_lit 607225278)))
def q435 : OpdF := kC (.int .u32 (.ofNat (nat_lit 1426881987)))
def q436 : OpdF := kC (.int .u32 (.ofNat (nat_lit 1925078388)))
def q437 : OpdF := kC (.int .u32 (.ofNat (nat_lit 2162078206)))
def q438 : OpdF := kC (.int .u32 (.ofNat (nat_lit 2614888103)))
def q439 : OpdF := kC (.int .u32 (.ofNat (nat_lit 3248222580)))
def q440 : OpdF := kC (.int .u32 (.ofNat (nat_lit 3835390401)))
def q441 : OpdF := kC (.int .u32 (.ofNat (nat_lit 4022224774)))
def q442 : OpdF := kC (.int .u32 (.ofNat (nat_lit 264347078)))
def q443 : OpdF := kC (.int .u32 (.ofNat (nat_lit 604807628)))
def q444 : OpdF := kC (.int .u32 (.ofNat (nat_lit 770255983)))
def q445 : OpdF := kC (.int .u32 (.ofNat (nat_lit 1249150122)))
def q446 : OpdF := kC (.int .u32 (.ofNat (nat_lit 1555081692)))
def q447 : OpdF := kC (.int .u32 (.ofNat (nat_lit 1996064986)))
def q448 : OpdF := kC (.int .u32 (.ofNat (nat_lit 2554220882)))
def q449 : OpdF := kC (.int .u32 (.ofNat (nat_lit 2821834349)))
def q450 : OpdF := kC (.int .u32 (.ofNat (nat_lit 2952996808)))
def q451 : OpdF := kC (.int .u32 (.ofNat (nat_lit 3210313671)))
def q452 : OpdF := kC (.int .u32 (.ofNat (nat_lit 3336571891)))
def q453 : OpdF := kC (.int .u32 (.ofNat (nat_lit 3584528711)))
def q454 : OpdF := kC (.int .u32 (.ofNat (nat_lit 113926993)))
def q455 : OpdF := kC (.int .u32 (.ofNat (nat_lit 338241895)))
def q456 : OpdF := kC (.int .u32 (.ofNat (nat_lit 666307205)))
def q457 : OpdF := kC (.int .u32 (.ofNat (nat_lit 773529912)))
def q458 : OpdF := kC (.int .u32 (.ofNat (nat_lit 1294757372)))
def q459 : OpdF := kC (.int .u32 (.ofNat (nat_lit 1396182291)))
def q460 : OpdF := kC (.int .u32 (.ofNat (nat_lit 1695183700)))
def q461 : OpdF := kC (.int .u32 (.ofNat (nat_lit 1986661051)))
def q462 : OpdF := kC (.int .u32 (.ofNat (nat_lit 2177026350)))
def q463 : OpdF := kC (.int .u32 (.ofNat (nat_lit 2456956037)))
def q464 : OpdF := kC (.int .u32 (.ofNat (nat_lit 2730485921)))
def q465 : OpdF := kC (.int .u32 (.ofNat (nat_lit 2820302411)))
def q466 : OpdF := kC (.int .u32 (.ofNat (nat_lit 3259730800)))
def q467 : OpdF := kC (.int .u32 (.ofNat (nat_lit 3345764771)))
def q468 : OpdF := kC (.int .u32 (.ofNat (nat_lit 3516065817)))
def q469 : OpdF := kC (.int .u32 (.ofNat (nat_lit 3600352804)))
def q470 : OpdF := kC (.int .u32 (.ofNat (nat_lit 4094571909)))
def q471 : OpdF := kC (.int .u32 (.ofNat (nat_lit 275423344)))
def q472 : OpdF := kC (.int .u32 (.ofNat (nat_lit 430227734)))
def q473 : OpdF := kC (.int .u32 (.ofNat (nat_lit 506948616)))
def q474 : OpdF := kC (.int .u32 (.ofNat (nat_lit 659060556)))
def q475 : OpdF := kC (.int .u32 (.ofNat (nat_lit 883997877)))
def q476 : OpdF := kC (.int .u32 (.ofNat (nat_lit 958139571)))
def q477 : OpdF := kC (.int .u32 (.ofNat (nat_lit 1322822218)))
def q478 : OpdF := kC (.int .u32 (.ofNat (nat_lit 1537002063)))
def q479 : OpdF := kC (.int .u32 (.ofNat (nat_lit 1747873779)))
def q480 : OpdF := kC (.int .u32 (.ofNat (nat_lit 1955562222)))
def q481 : OpdF := kC (.int .u32 (.ofNat (nat_lit 2024104815)))
def q482 : OpdF := kC (.int .u32 (.ofNat (nat_lit 2227730452)))
def q483 : OpdF := kC (.int .u32 (.ofNat (nat_lit 2361852424)))
def q484 : OpdF := kC (.int .u32 (.ofNat (nat_lit 2428436474)))
def q485 : OpdF := kC (.int .u32 (.ofNat (nat_lit 2756734187)))
def q486 : OpdF := kC (.int .u32 (.ofNat (nat_lit 3204031479)))
def q487 : OpdF := kC (.int .u32 (.ofNat (nat_lit 3329325298)))
noncomputable def k243 : KFun := ⟨[rCellN (nat_lit 0) g0 (nat_lit 64)], (kSeq (oSet (xTurn (tnAlloc q358)) p0 
oEnd) (kSeq (oSet (xLook (lkBuild q358 [((nat_lit 0), (nat_lit 1), q424), ((nat_lit 1), (nat_lit 1), q425), ((nat_lit 2), (nat_lit 1), q426), ((nat_lit 3), (nat_lit 1), q427), ((nat_lit 4), (nat_lit 1), q428), ((nat_lit 5), (nat_lit 1), q429), ((nat_lit 6), (nat_lit 1), q430), ((nat_lit 7), (nat_lit 1), q431), ((nat_lit 8), (nat_lit 1), q432), ((nat_lit 9), (nat_lit 1), q433), ((nat_lit 10), (nat_lit 1), q434), ((nat_lit 11), (nat_lit 1), q435), ((nat_lit 12), (nat_lit 1), q436), ((nat_lit 13), (nat_lit 1), q437), ((nat_lit 14), (nat_lit 1), q438), ((nat_lit 15), (nat_lit 1), q439), ((nat_lit 16), (nat_lit 1), q440), ((nat_lit 17), (nat_lit 1), q441), ((nat_lit 18), (nat_lit 1), q442), ((nat_lit 19), (nat_lit 1), q443), ((nat_lit 20), (nat_lit 1), q444), ((nat_lit 21), (nat_lit 1), q445), ((nat_lit 22), (nat_lit 1), q446), ((nat_lit 23), (nat_lit 1), q447), ((nat_lit 24), (nat_lit 1), q448), ((nat_lit 25), (nat_lit 1), q449), ((nat_lit 26), (nat_lit 1), q450), ((nat_lit 27), (nat_lit 1), q451), ((nat_lit 28), (nat_lit 1), q452), ((nat_lit 29), (nat_lit 1), q453), ((nat_lit 30), (nat_lit 1), q454), ((nat_lit 31), (nat_lit 1), q455), ((nat_lit 32), (nat_lit 1), q456), ((nat_lit 33), (nat_lit 1), q457), ((nat_lit 34), (nat_lit 1), q458), ((nat_lit 35), (nat_lit 1), q459), ((nat_lit 36), (nat_lit 1), q460), ((nat_lit 37), (nat_lit 1), q461), ((nat_lit 38), (nat_lit 1), q462), ((nat_lit 39), (nat_lit 1), q463), ((nat_lit 40), (nat_lit 1), q464), ((nat_lit 41), (nat_lit 1), q465), ((nat_lit 42), (nat_lit 1), q466), ((nat_lit 43), (nat_lit 1), q467), ((nat_lit 44), (nat_lit 1), q468), ((nat_lit 45), (nat_lit 1), q469), ((nat_lit 46), (nat_lit 1), q470), ((nat_lit 47), (nat_lit 1), q471), ((nat_lit 48), (nat_lit 1), q472), ((nat_lit 49), (nat_lit 1), q473), ((nat_lit 50), (nat_lit 1), q474), ((nat_lit 51), (nat_lit 1), q475), ((nat_lit 52), (nat_lit 1), q476), ((nat_lit 53), (nat_lit 1), q477), ((nat_lit 54), (nat_lit 1), q478), ((nat_lit 55), (nat_lit 1), q479), ((nat_lit 56), (nat_lit 1), q480), ((nat_lit 57), (nat_lit 1), q481), ((nat_lit 58), (nat_lit 1), q482), ((nat_lit 59), (nat_lit 1), q483), ((nat_lit 60), (nat_lit 1), q484), ((nat_lit 61), (nat_lit 1), q485), ((nat_lit 62), (nat_lit 1), q486), ((nat_lit 63), (nat_lit 1), q487)])) p1 
(oDo (xTurn (tnStore (nat_lit 64) g0 g1)) 
oEnd)) kRet))⟩
noncomputable def k244 : KFun := ⟨[], (kSeq (oSet xRecover p6 
oEnd) (kBlock (nat_lit 0) (kSeq (oSet (xLook (lkEq false .ifaceNil g6 q202)) p8 
oEnd) (kCond g8 (kSeq (oSet (xMove g6) p3 
oEnd) (oDo (xTurn (tnStore (nat_lit 1) g0 q3)) 
oEnd)) (kSeq (oSet (xLook (lkAssertT (nat_lit 399) (.agg ⟨[(.int .i64 (.ofNat (nat_lit 0))), (.int .i64 (.ofNat (nat_lit 0)))]⟩) true g6)) p9 
(oSet (xLook (lkExtract (nat_lit 1) g9)) p10 
(oSet (xLook (lkExtract (nat_lit 0) g9)) p11 
oEnd))) (kCond g10 (kSeq (oSet (xTurn (tnAlloc q35)) p4 
(oDo (xTurn (tnStore (nat_lit 2) g4 g11)) 
oEnd)) (kDraw 
(dLook (nat_lit 0) [] [] (lkLoad1 g2) p12 
(dLook (nat_lit 1) [] [] (lkLoad1 g2) p13 
(dLook (nat_lit 2) [] [] (lkLoad1 g1) p14 
(dLook (nat_lit 3) [] [] (lkFieldAddr (nat_lit 0) g4) p15 
(dLook (nat_lit 4) [] [] (lkLoadN (nat_lit 2) g15) p16 
(dTurn (nat_lit 5) [] [] false (xNil g12) p17 
(dLook (nat_lit 6) [] [] (lkFieldAddr (nat_lit 4) g17) p18 
(dTurn (nat_lit 7) [(nat_lit 4)] [] true (xTurn (tnStore (nat_lit 1) g18 g14)) noDst 
(dTurn (nat_lit 8) [] [(nat_lit 7)] false (xNil g13) p19 
(dLook (nat_lit 9) [] [(nat_lit 7)] (lkFieldAddr (nat_lit 0) g19) p20 
(dLook (nat_lit 10) [] [(nat_lit 7)] (lkFieldAddr (nat_lit 2) g20) p21 
(dTurn (nat_lit 11) [] [(nat_lit 7)] true (xTurn (tnStore (nat_lit 2) g21 g16)) noDst (dEnd [(nat_lit 12), (nat_lit 13), (nat_lit 14), (nat_lit 15), (nat_lit 16), (nat_lit 17), (nat_lit 18), (nat_lit 19), (nat_lit 20), (nat_lit 21)]))))))))))))))) (kSeq (oSet (xMove g6) p5 
oEnd) (oSet (xMove g5) p7 
(oDo (xPanic g7) 
oEnd)))))))))⟩
def q488 : OpdF := kC (.int .i64 (.ofNat (nat_lit 100)))
def q489 : OpdF := kC (.func (.func (nat_lit 282)) ⟨[]⟩ ⟨[]⟩)
def q490 : List Value := [(.int .u8 (.ofNat (nat_lit 0))), (.int .u8 (.ofNat (nat_lit 0))), (.int .u8 (.ofNat (nat_lit 0))), (.int .u8 (.ofNat (nat_lit 0))), (.int .u8 (.ofNat (nat_lit 0))), (.int .u8 (.ofNat (nat_lit 0))), (.int .u8 (.ofNat (nat_lit 0))), (.int .u8 (.ofNat (nat_lit 0))), (.int .u8 (.ofNat (nat_lit 0))), (.int .u8 (.ofNat (nat_lit 0))), (.int .u8 (.ofNat (nat_lit 0))), (.int .u8 (.ofNat (nat_lit 0))), (.int .u8 (.ofNat (nat_lit 0))), (.int .u8 (.ofNat (nat_lit 0))), (.int .u8 (.ofNat (nat_lit 0))), (.int .u8 (.ofNat (nat_lit 0))), (.int .u8 (.ofNat (nat_lit 0))), (.int .u8 (.ofNat (nat_lit 0))), (.int .u8 (.ofNat (nat_lit 0))), (.int .u8 (.ofNat (nat_lit 0))), (.int .u8 (.ofNat (nat_lit 0))), (.int .u8 (.ofNat (nat_lit 0))), (.int .u8 (.ofNat (nat_lit 0))), (.int .u8 (.ofNat (nat_lit 0)))]
def q491 : OpdF := kC (.func (.func (nat_lit 283)) ⟨[]⟩ ⟨[]⟩)
def q492 : OpdF := kC (.func (.func (nat_lit 284)) ⟨[]⟩ ⟨[]⟩)
def q493 : OpdF := kC (.int .u8 (.ofNat (nat_lit 45)))
def q494 : OpdF := kC (.func (.func (nat_lit 285)) ⟨[]⟩ ⟨[]⟩)
noncomputable def k246 : KFun := ⟨[rTmp (nat_lit 4) g4], (kSeq (oSet (xMove q104) p4 
oEnd) (kSeq (kSeq (oSet (xMove g1) p10 
(oSet (xLook (lkEq false .int g10 q273)) p11 
oEnd)) (kCond g11 (kSeq (kSeq (oSet (xMove g0) p12 
(oSet (xLook (lkBin .leq q8 g12)) p13 
(oSet (xMove g13) p14 
(oSetIf (wantT g14) (xMove g0) p15 
(oSetIf (wantT g14) (xLook (lkBin .lss g15 q488)) p16 
(oSet (xLook (lkPick g14 g16 q0)) p17 
oEnd)))))) (kCond g17 (kSeq (oSet (xMove g0) p18 
(oSet (xCall q489 [g18]) p19 
(oSet (xMove g19) p4 
oEnd))) kRet) kSkip)) (kSeq (oSet (xTurn (tnAlloc q490)) p5 
oEnd) (kSeq (oSet (xMove g0) p20 
(oSet (xLook (lkIntTo .u64 g20)) p21 
(oSet (xMove g21) p6 
oEnd))) (kSeq (kSeq (oSet (xMove g0) p22 
(oSet (xLook (lkBin .lss g22 q8)) p23 
oEnd)) (kCond g23 (oSet (xMove g6) p24 
(oSet (xLook (lkUn .neg g24)) p25 
(oSet (xMove g25) p6 
oEnd))) kSkip)) (kSeq (oSet (xMove g6) p26 
(oSet (xCall q491 [g26]) p27 
(oSet (xMove g27) p7 
oEnd))) (kSeq (oSet (xMove g7) p28 
(oSet (xLook (lkBin .add q12 g28)) p29 
(oSet (xLook (lkSliceArr (nat_lit 24) (nat_lit 1) g5 (some q12) (some g29) none)) p30 
(oSet (xMove g6) p31 
(oSet (xCall q492 [g30, g31]) p32 
oEnd))))) (kSeq (kSeq (oSet (xMove g0) p33 
(oSet (xLook (lkBin .lss g33 q8)) p34 
oEnd)) (kCond g34 (kSeq (oSet (xLook (lkIxArr (nat_lit 24) (nat_lit 1) g5 q8)) p35 
(oDo (xTurn (tnStore (nat_lit 1) g35 q493)) 
oEnd)) (kSeq (oSet (xMove g7) p36 
(oSet (xLook (lkBin .add q12 g36)) p37 
(oSet (xLook (lkSliceArr (nat_lit 24) (nat_lit 1) g5 none (some g37) none)) p38 
(oSet (xLook (lkBytesTo g38)) p39 
(oSet (xMove g39) p4 
oEnd))))) kRet)) kSkip)) (kSeq (oSet (xMove g7) p40 
(oSet (xLook (lkBin .add q12 g40)) p41 
(oSet (xLook (lkSliceArr (nat_lit 24) (nat_lit 1) g5 (some q12) (some g41) none)) p42 
(oSet (xLook (lkBytesTo g42)) p43 
(oSet (xMove g43) p4 
oEnd))))) kRet)))))))) kSkip)) (kSeq (oSet (xMove g0) p45 
(oSet (xLook (lkIntTo .u64 g45)) p46 
(oSet (xMove g1) p47 
(oSet (xMove g0) p48 
(oSet (xLook (lkBin .lss g48 q8)) p49 
(oSet (xCall q494 [q23, g46, g47, g49, q0]) p50 
(oSet (xMove g50) p44 
(oSet (xLook (lkExtract (nat_lit 0) g44)) p51 
(oSet (xLook (lkExtract (nat_lit 1) g44)) p52 
(oSet (xMove g51) p8 
(oSet (xMove g52) p9 
oEnd))))))))))) (kSeq (oSet (xMove g9) p53 
(oSet (xMove g53) p4 
oEnd)) kRet))))⟩
noncomputable def k252 : KFun := ⟨[rTmp (nat_lit 2) g2], (kSeq (oSet (xMove q0) p2 
oEnd) (kSeq (oSet (xMove g0) p3 
(oSet (xLook (lkEq false .ptr g3 q5)) p4 
(oSet (xMove g4) p5 
(oSetIf (wantF g5) (xMove g0) p6 
(oSetIf (wantF g5) (xNil g6) p7 
(oSetIf (wantF g5) (xLook (lkFieldAddr (nat_lit 2) g7)) p8 
(oSetIf (wantF g5) (xLook (lkLoad1 g8)) p9 
(oSetIf (wantF g5) (xLook (lkEq false .ptr g9 q5)) p10 
(oSet (xLook (lkPick g5 q3 g10)) p11 
(oSet (xMove g11) p2 
oEnd)))))))))) kRet))⟩
noncomputable def k254 : KFun := ⟨[rTmp (nat_lit 4) g4], (kSeq (oSet (xMove q8) p4 
oEnd) (kSeq (kSeq (oSet (xMove g0) p6 
(oSet (xLook (lkLen .sl g6)) p7 
(oSet (xMove q8) p8 
oEnd))) (kBlock (nat_lit 0) (kLoop (kSeq (oSet (xLook (lkBin .lss g8 g7)) p9 
oEnd) (kSeq (kCond g9 kSkip (kExit (nat_lit 0))) (kSeq (kBlock (nat_lit 1) (kSeq (oSet (xMove g8) p10 
(oSet (xMove g10) p5 
oEnd)) (kSeq (oSet (xMove g1) p11 
(oSet (xMove g0) p12 
(oSet (xMove g5) p13 
(oSet (xLook (lkIxSl (nat_lit 35) g12 g13)) p14 
(oSet (xLook (lkLoadN (nat_lit 35) g14)) p15 
(oSet (xCall g11 [g15]) p16 
oEnd)))))) (kCond g16 (kSeq (oSet (xMove g5) p17 
(oSet (xMove g17) p4 
oEnd)) kRet) kSkip)))) (oSet (xLook (lkBin .add g8 q12)) p18 
(oSet (xMove g18) p8 
oEnd)))))))) (kSeq (oSet (xMove q88) p4 
oEnd) kRet)))⟩
noncomputable def k255 : KFun := ⟨[rTmp (nat_lit 3) g3], (kSeq (oSet (xTurn (tnBox g0)) p2 
(oSet (xMove q0) p3 
oEnd)) (kSeq (oSet (xLook (lkFieldAddr (nat_lit 2) g2)) p4 
(oSet (xLook (lkLoadN (nat_lit 32) g4)) p5 
(oSet (xLook (lkLoadN (nat_lit 32) g1)) p6 
(oSet (xLook (lkEq false (.flat [(.int .u8), (.int .u8), (.int .u8), (.int .u8), (.int .u8), (.int .u8), (.int .u8), (.int .u8), (.int .u8), (.int .u8), (.int .u8), (.int .u8), (.int .u8), (.int .u8), (.int .u8), (.int .u8), (.int .u8), (.int .u8), (.int .u8), (.int .u8), (.int .u8), (.int .u8), (.int .u8), (.int .u8), (.int .u8), (.int .u8), (.int .u8), (.int .u8), (.int .u8), (.int .u8), (.int .u8), (.int .u8)]) g5 g6)) p7 
(oSet (xMove g7) p3 
oEnd))))) kRet))⟩
def q506 : OpdF := kC (.int .u64 (.ofNat (nat_lit 31)))
def q516 : OpdF := kC (.int .u64 (.ofNat (nat_lit 18)))
def q522 : OpdF := kC (.func (.func (nat_lit 300)) ⟨[]⟩ ⟨[]⟩)
def q523 : List Value := [.nilFunc, .nilFunc, .nilFunc, .nilFunc, .nilFunc, .nilFunc, .nilFunc, .nilFunc, .nilFunc, .nilFunc, .nilFunc, .nilFunc, .nilFunc, .nilFunc, .nilFunc, .nilFunc]
def q524 : OpdF := kC (.func (.func (nat_lit 301)) ⟨[]⟩ ⟨[]⟩)
noncomputable def k259 : KFun := ⟨[], (kSeq (oSet (xTurn (tnBox g0)) p2 
oEnd) (kSeq (oSet (xLook (lkMkFunc (.func (nat_lit 299)) [] [g2])) p6 
(oDo (xDefer g6 []) 
oEnd)) (kSeq (oSet (xCall q522 []) p7 
(oSet (xTurn (tnAlloc q523)) p4 
(oDo (xTurn (tnStore (nat_lit 16) g4 g7)) 
oEnd))) (kBlock (nat_lit 0) (kLoop (kSeq (kSeq (oSet (xLook (lkLoad1 g2)) p8 
(oSet (xNil g8) p9 
(oSet (xLook (lkFieldAddr (nat_lit 10) g9)) p10 
(oSet (xLook (lkLoad1 g10)) p11 
(oSet (xMove g1) p12 
(oSet (xLook (lkLen .sl g12)) p13 
(oSet (xLook (lkBin .lss g11 g13)) p14 
oEnd))))))) (kCond g14 kSkip (kExit (nat_lit 0)))) (kBlock (nat_lit 1) (kSeq (oSet (xLook (lkLoad1 g2)) p15 
(oSet (xCall q524 [g15]) p16 
oEnd)) (kSeq (oSet (xMove g1) p17 
(oSet (xLook (lkLoad1 g2)) p18 
(oSet (xNil g18) p19 
(oSet (xLook (lkFieldAddr (nat_lit 10) g19)) p20 
(oSet (xLook (lkLoad1 g20)) p21 
(oSet (xLook (lkIxSl (nat_lit 6) g17 g21)) p22 
(oSet (xLook (lkLoadN (nat_lit 6) g22)) p23 
(oSet (xTurn (tnAlloc q144)) p5 
(oDo (xTurn (tnStore (nat_lit 6) g5 g23)) 
oEnd))))))))) (kSeq (oSet (xLook (lkLoad1 g2)) p24 
(oSet (xNil g24) p25 
(oSet (xLook (lkFieldAddr (nat_lit 10) g25)) p26 
(oSet (xLook (lkLoad1 g26)) p27 
(oSet (xLook (lkBin .add g27 q12)) p28 
(oSet (xNil g24) p29 
(oSet (xLook (lkFieldAddr (nat_lit 10) g29)) p30 
(oDo (xTurn (tnStore (nat_lit 1) g30 g28)) 
oEnd)))))))) (kDraw 
(dLook (nat_lit 0) [] [] (lkFieldAddr (nat_lit 0) g5) p31 
(dLook (nat_lit 1) [] [] (lkLoad1 g31) p32 
(dLook (nat_lit 2) [] [] (lkIxArr (nat_lit 16) (nat_lit 1) g4 g32) p33 
(dLook (nat_lit 3) [] [] (lkLoad1 g33) p34 
(dLook (nat_lit 4) [] [] (lkLoad1 g2) p35 
(dLook (nat_lit 5) [] [] (lkLoadN (nat_lit 6) g5) p36 
(dTurn (nat_lit 6) [] [] true (xCall g34 [g35, g36]) p37 (dEnd [(nat_lit 31), (nat_lit 32), (nat_lit 33), (nat_lit 34), (nat_lit 35), (nat_lit 36), (nat_lit 37)])))))))))))))))))))⟩
def q525 : OpdF := kC (.func (.func (nat_lit 302)) ⟨[]⟩ ⟨[]⟩)
noncomputable def k260 : KFun := ⟨[rTmp (nat_lit 2) g2], (kSeq (oSet (xMove q23) p2 
oEnd) (kSeq (oSet (xTurn (tnMkMap (.one .str))) p6 
(oSet (xMove g6) p3 
oEnd)) (kSeq (kSeq (oSet (xMove g0) p7 
(oSet (xLook (lkLen .sl g7)) p8 
(oSet (xMove q8) p9 
oEnd))) (kBlock (nat_lit 0) (kLoop (kSeq (oSet (xLook (lkBin .lss g9 g8)) p10 
oEnd) (kSeq (kCond g10 kSkip (kExit (nat_lit 0))) (kSeq (kBlock (nat_lit 1) (kSeq (oSet (xLook (lkIxSl (nat_lit 1) g7 g9)) p11 
(oSet (xLook (lkLoad1 g11)) p12 
(oSet (xMove g12) p5 
oEnd))) (oSet (xMove g3) p13 
(oSet (xMove g5) p14 
(oSet (xLook (lkBuild [] [])) p15 
(oDo (xTurn (tnMapUpdate (.one .str) g13 g14 g15)) 
oEnd)))))) (oSet (xLook (lkBin .add g9 q12)) p16 
(oSet (xMove g16) p9 
oEnd)))))))) (kSeq (oSet (xMove g3) p17 
(oSet (xCall q525 [g17]) p18 
(oSet (xCall q27 [g18]) p19 
(oSet (xMove g19) p2 
oEnd)))) kRet))))⟩
def q526 : OpdF := kC (.func (.func (nat_lit 303)) ⟨[]⟩ ⟨[]⟩)
noncomputable def k261 : KFun := ⟨[rTmp (nat_lit 2) g2], (kSeq (oSet (xMove q23) p2 
oEnd) (kSeq (oSet (xMove g0) p3 
(oSet (xCall q526 [g3]) p4 
(oSet (xMove g4) p2 
oEnd))) kRet))⟩
def q527 : OpdF := kC (.func (.func (nat_lit 304)) ⟨[]⟩ ⟨[]⟩)
noncomputable def k262 : KFun := ⟨[rTmp (nat_lit 2) g2], (kSeq (oSet (xMove q23) p2 
oEnd) (kSeq (oSet (xMove q23) p3 
oEnd) (kSeq (kSeq (oSet (xMove g0) p6 
(oSet (xNil g6) p7 
(oSet (xLook (lkFieldAddr (nat_lit 0) g7)) p8 
(oSet (xLook (lkLoad1 g8)) p9 
(oSet (xCall q527 [g9]) p10 
(oSet (xCall q27 [g10]) p11 
(oSet (xLook (lkLen .sl g11)) p12 
(oSet (xMove q8) p13 
oEnd)))))))) (kBlock (nat_lit 0) (kLoop (kSeq (oSet (xLook (lkBin .lss g13 g12)) p14 
oEnd) (kSeq (kCond g14 kSkip (kExit (nat_lit 0))) (kSeq (kBlock (nat_lit 1) (kSeq (oSet (xLook (lkIxSl (nat_lit 1) g11 g13)) p15 
(oSet (xLook (lkLoad1 g15)) p16 
(oSet (xMove g16) p5 
oEnd))) (oSet (xMove g3) p17 
(oSet (xMove g0) p18 
(oSet (xNil g18) p19 
(oSet (xLook (lkFieldAddr (nat_lit 0) g19)) p20 
(oSet (xLook (lkLoad1 g20)) p21 
(oSet (xMove g5) p22 
(oSet (xLook (lkLookup (.one .str) (.agg ⟨[(.string ⟨⟨[]⟩⟩), (.string ⟨⟨[]⟩⟩), (.bool false)]⟩) false g21 g22)) p23 
(oSet (xTurn (tnBuildSlice q303 [((nat_lit 0), (nat_lit 3), g23)] (nat_lit 1))) p24 
(oSet (xTurn (tnAppend (nat_lit 3) g17 g24)) p25 
(oSet (xMove g25) p3 
oEnd)))))))))))) (oSet (xLook (lkBin .add g13 q12)) p26 
(oSet (xMove g26) p13 
oEnd)))))))) (kSeq (oSet (xMove g3) p27 
(oSet (xMove g27) p2 
oEnd)) kRet))))⟩
noncomputable def k264 : KFun := ⟨[rTmp (nat_lit 2) g2], (kSeq (oSet (xTurn (tnBox g0)) p1 
(oSet (xMove q8) p2 
oEnd)) (kSeq (oSet (xLook (lkFieldAddr (nat_lit 1) g1)) p6 
(oSet (xLook (lkLoad1 g6)) p7 
(oSet (xLook (lkLen .sl g7)) p8 
(oSet (xMove g8) p3 
oEnd)))) (kSeq (kSeq (oSet (xLook (lkFieldAddr (nat_lit 2) g1)) p9 
(oSet (xLook (lkLoad1 g9)) p10 
(oSet (xLook (lkLen .sl g10)) p11 
(oSet (xMove q8) p12 
oEnd)))) (kBlock (nat_lit 0) (kLoop (kSeq (oSet (xLook (lkBin .lss g12 g11)) p13 
oEnd) (kSeq (kCond g13 kSkip (kExit (nat_lit 0))) (kSeq (kBlock (nat_lit 1) (kSeq (oSet (xLook (lkIxSl (nat_lit 33) g10 g12)) p14 
(oSet (xLook (lkLoadN (nat_lit 33) g14)) p15 
(oSet (xTurn (tnAlloc q292)) p5 
(oDo (xTurn (tnStore (nat_lit 33) g5 g15)) 
oEnd)))) (oSet (xMove g3) p16 
(oSet (xLook (lkFieldAddr (nat_lit 32) g5)) p17 
(oSet (xLook (lkLoad1 g17)) p18 
(oSet (xLook (lkBin .add g16 g18)) p19 
(oSet (xMove g19) p3 
oEnd))))))) (oSet (xLook (lkBin .add g12 q12)) p20 
(oSet (xMove g20) p12 
oEnd)))))))) (kSeq (oSet (xMove g3) p21 
(oSet (xMove g21) p2 
oEnd)) kRet))))⟩
def q528 : OpdF := kC (.func (.func (nat_lit 305)) ⟨[]⟩ ⟨[]⟩)
noncomputable def k267 : KFun := ⟨[rTmp (nat_lit 2) g2], (kSeq (oSet (xTurn (tnBox g0)) p1 
(oSet (xMove q23) p2 
oEnd)) (kSeq (oSet (xMove q23) p3 
oEnd) (kSeq (kSeq (oSet (xLook (lkFieldAddr (nat_lit 0) g1)) p6 
(oSet (xLook (lkLoad1 g6)) p7 
(oSet (xCall q528 [g7]) p8 
(oSet (xCall q27 [g8]) p9 
(oSet (xLook (lkLen .sl g9)) p10 
(oSet (xMove q8) p11 
oEnd)))))) (kBlock (nat_lit 0) (kLoop (kSeq (oSet (xLook (lkBin .lss g11 g10)) p12 
oEnd) (kSeq (kCond g12 kSkip (kExit (nat_lit 0))) (kSeq (kBlock (nat_lit 1) (kSeq (oSet (xLook (lkIxSl (nat_lit 1) g9 g11)) p13 
(oSet (xLook (lkLoad1 g13)) p14 
(oSet (xMove g14) p5 
oEnd))) (oSet (xMove g3) p15 
(oSet (xMove g5) p16 
(oSet (xLook (lkFieldAddr (nat_lit 0) g1)) p17 
(oSet (xLook (lkLoad1 g17)) p18 
(oSet (xMove g5) p19 
(oSet (xLook (lkLookup (.one .str) (.agg ⟨[(.string ⟨⟨[]⟩⟩)]⟩) false g18 g19)) p20 
(oSet (xLook (lkField1 (nat_lit 0) g20)) p21 
(oSet (xLook (lkBuild q287 [((nat_lit 0), (nat_lit 1), g16), ((nat_lit 1), (nat_lit 1), g21)])) p22 
(oSet (xTurn (tnBuildSlice q287 [((nat_lit 0), (nat_lit 2), g22)] (nat_lit 1))) p23 
(oSet (xTurn (tnAppend (nat_lit 2) g15 g23)) p24 
(oSet (xMove g24) p3 
oEnd))))))))))))) (oSet (xLook (lkBin .add g11 q12)) p25 
(oSet (xMove g25) p11 
oEnd)))))))) (kSeq (oSet (xMove g3) p26 
(oSet (xMove g26) p2 
oEnd)) kRet))))⟩
def q536 : OpdF := kC (.func (.func (nat_lit 313)) ⟨[]⟩ ⟨[]⟩)
def q537 : OpdF := kC (.func (.func (nat_lit 314)) ⟨[]⟩ ⟨[]⟩)
def q538 : OpdF := kC (.func (.func (nat_lit 316)) ⟨[]⟩ ⟨[]⟩)
noncomputable def k273 : KFun := ⟨[rTmp (nat_lit 4) g4, rTmp (nat_lit 5) g5, rTmp (nat_lit 6) g6], (kSeq (oSet (xTurn (tnBox g1)) p3 
(oSet (xMove q8) p4 
(oSet (xMove q23) p5 
(oSet (xMove q8) p6 
oEnd)))) (kSeq (kSeq (oSet (xMove g0) p9 
(oSet (xCall q536 [g9]) p10 
(oSet (xLook (lkEq true .int g10 q8)) p11 
(oSet (xMove g11) p12 
(oSetIf (wantF g12) (xLook (lkLoad1 g3)) p13 
(oSetIf (wantF g12) (xLook (lkBin .lss g13 q12)) p14 
(oSet (xLook (lkPick g12 q3 g14)) p15 
oEnd))))))) (kCond g15 (kSeq (oSet (xMove q8) p4 
(oSet (xMove q23) p5 
(oSet (xMove q9) p6 
oEnd))) kRet) kSkip)) (kSeq (oSet (xMove g0) p16 
(oSet (xLook (lkMkFunc (.func (nat_lit 315)) [] [g3])) p17 
(oSet (xCall q537 [g16, g17]) p18 
(oSet (xMove g18) p7 
oEnd)))) (kSeq (kSeq (oSet (xMove g7) p19 
(oSet (xLook (lkBin .lss g19 q8)) p20 
oEnd)) (kCond g20 (kSeq (oSet (xMove q8) p4 
(oSet (xMove q23) p5 
(oSet (xMove q41) p6 
oEnd))) kRet) kSkip)) (kSeq (oSet (xMove g0) p21 
(oSet (xMove g7) p22 
(oSet (xLook (lkIxSl (nat_lit 2) g21 g22)) p23 
(oSet (xLook (lkFieldAddr (nat_lit 0) g23)) p24 
(oSet (xLook (lkLoad1 g24)) p25 
(oSet (xMove g25) p8 
oEnd)))))) (kSeq (oSet (xMove g8) p26 
(oSet (xMove g0) p27 
(oSet (xMove g7) p28 
(oSet (xMove g8) p29 
(oSet (xLook (lkLoad1 g3)) p30 
(oSet (xCall q538 [g27, g28, g29, g30]) p31 
(oSet (xMove g26) p4 
(oSet (xMove g31) p5 
(oSet (xMove q8) p6 
oEnd))))))))) kRet))))))⟩
noncomputable def k274 : KFun := ⟨[rTmp (nat_lit 2) g2], (kSeq (oSet (xMove q23) p2 
oEnd) (kSeq (oSet (xMove g0) p9 
(oSet (xNil g9) p10 
(oSet (xLook (lkFieldAddr (nat_lit 2) g10)) p11 
(oSet (xLook (lkLoad1 g11)) p12 
(oSet (xCall q91 [g12]) p13 
(oSet (xLook (lkBin .sub g13 q9)) p14 
(oSet (xLook (lkBuild q35 [((nat_lit 0), (nat_lit 1), q9), ((nat_lit 1), (nat_lit 1), g14)])) p15 
(oSet (xTurn (tnBuildSlice q35 [((nat_lit 0), (nat_lit 2), g15)] (nat_lit 1))) p16 
(oSet (xTurn (tnAlloc q14)) p3 
(oDo (xTurn (tnStore (nat_lit 1) g3 g16)) 
oEnd)))))))))) (kSeq (oSet (xLook (lkMkFunc (.func (nat_lit 317)) [] [g3])) p17 
(oSet (xMove g17) p4 
oEnd)) (kSeq (kSeq (oSet (xMove g0) p18 
(oSet (xNil g18) p19 
(oSet (xLook (lkFieldAddr (nat_lit 38) g19)) p20 
(oSet (xLook (lkLoad1 g20)) p21 
(oSet (xTurn (tnRangeMap g21)) p22 
oEnd))))) (kBlock (nat_lit 0) (kLoop (kSeq (oSet (xNextMap g22) p23 
(oSet (xLook (lkExtract (nat_lit 0) g23)) p24 
oEnd)) (kSeq (kCond g24 kSkip (kExit (nat_lit 0))) (kBlock (nat_lit 1) (kSeq (oSet (xLook (lkEntry g22)) p25 
(oSet (xLook (lkExtract (nat_lit 1) g25)) p26 
(oSet (xTurn (tnAlloc q35)) p6 
(oDo (xTurn (tnStore (nat_lit 2) g6 g26)) 
oEnd)))) (oSet (xMove g4) p27 
(oSet (xLook (lkLoadN (nat_lit 2) g6)) p28 
(oSet (xCall g27 [g28]) p29 
oEnd)))))))))) (kSeq (kSeq (oSet (xMove g0) p30 
(oSet (xNil g30) p31 
(oSet (xLook (lkFieldAddr (nat_lit 0) g31)) p32 
(oSet (xLook (lkFieldAddr (nat_lit 0) g32)) p33 
(oSet (xLook (lkLoad1 g33)) p34 
(oSet (xLook (lkLen .sl g34)) p35 
(oSet (xMove q8) p36 
oEnd))))))) (kBlock (nat_lit 2) (kLoop (kSeq (oSet (xLook (lkBin .lss g36 g35)) p37 
oEnd) (kSeq (kCond g37 kSkip (kExit (nat_lit 2))) (kSeq (kBlock (nat_lit 3) (kSeq (oSet (xLook (lkIxSl (nat_lit 35) g34 g36)) p38 
(oSet (xLook (lkLoadN (nat_lit 35) g38)) p39 
(oSet (xTurn (tnAlloc q308)) p8 
(oDo (xTurn (tnStore (nat_lit 35) g8 g39)) 
oEnd)))) (oSet (xMove g4) p40 
(oSet (xLook (lkFieldAddr (nat_lit 0) g8)) p41 
(oSet (xLook (lkLoadN (nat_lit 2) g41)) p42 
(oSet (xCall g40 [g42]) p43 
oEnd)))))) (oSet (xLook (lkBin .add g36 q12)) p44 
(oSet (xMove g44) p36 
oEnd)))))))) (kSeq (oSet (xMove g4) p45 
(oSet (xMove g0) p46 
(oSet (xNil g46) p47 
(oSet (xLook (lkFieldAddr (nat_lit 36) g47)) p48 
(oSet (xLook (lkLoadN (nat_lit 2) g48)) p49 
(oSet (xCall g45 [g49]) p50 
oEnd)))))) (kSeq (oSet (xLook (lkLoad1 g3)) p51 
(oSet (xMove g51) p2 
oEnd)) kRet)))))))⟩
def q540 : OpdF := kC (.func (.func (nat_lit 279)) ⟨[]⟩ ⟨[]⟩)
def q541 : OpdF := kC (.func (.func (nat_lit 280)) ⟨[]⟩ ⟨[]⟩)
noncomputable def k278 : KFun := ⟨[], (kSeq (oSet (xLook (lkLoad1 g1)) p5 
(oSet (xLook (lkLoadN (nat_lit 32) g2)) p6 
(oSet (xCall q540 [g5, g6]) p7 
(oSet (xTurn (tnAlloc q214)) p4 
(oDo (xTurn (tnStore (nat_lit 3) g4 g7)) 
oEnd))))) (kSeq (oSet (xLook (lkLoad1 g1)) p8 
(oSet (xNil g8) p9 
(oSet (xLook (lkFieldAddr (nat_lit 1) g9)) p10 
(oSet (xLook (lkLoad1 g10)) p11 
(oSet (xLook (lkEq false .int g11 q8)) p12 
oEnd))))) (kCond g12 (oSet (xLook (lkLoad1 g1)) p13 
(oSet (xLook (lkLoadN (nat_lit 3) g4)) p14 
(oSet (xMove g0) p15 
(oSet (xCall q541 [g13, g14, q8, g15]) p16 
oEnd)))) kSkip)))⟩
def q542 : OpdF := kC (.func (.func (nat_lit 320)) ⟨[]⟩ ⟨[]⟩)
noncomputable def k279 : KFun := ⟨[rCellN (nat_lit 4) g4 (nat_lit 3)], (kSeq (oSet (xTurn (tnBox g1)) p3 
(oSet (xTurn (tnAlloc q214)) p4 
oEnd)) (kSeq (kDraw 
(dLook (nat_lit 0) [] [] (lkMove g0) p10 
(dTurn (nat_lit 1) [] [] false (xNil g10) p11 
(dLook (nat_lit 2) [] [] (lkFieldAddr (nat_lit 0) g11) p12 
(dLook (nat_lit 3) [] [] (lkLoad1 g12) p13 
(dLook (nat_lit 4) [] [] (lkLoadN (nat_lit 32) g3) p14 
(dTurn (nat_lit 5) [] [] true (xCall q190 [g13, g14]) p15 
(dLook (nat_lit 6) [] [(nat_lit 5)] (lkMove g15) p9 
(dLook (nat_lit 7) [] [(nat_lit 5)] (lkExtract (nat_lit 0) g9) p16 
(dLook (nat_lit 8) [] [(nat_lit 5)] (lkExtract (nat_lit 1) g9) p17 
(dLook (nat_lit 9) [] [(nat_lit 5)] (lkMove g16) p5 
(dLook (nat_lit 10) [] [(nat_lit 5)] (lkMove g17) p6 (dEnd [(nat_lit 10), (nat_lit 11), (nat_lit 12), (nat_lit 13), (nat_lit 14), (nat_lit 15), (nat_lit 9), (nat_lit 16), (nat_lit 17), (nat_lit 5), (nat_lit 6)]))))))))))))) (kSeq (kSeq (oSet (xMove g6) p18 
(oSet (xLook (lkEq true .int g18 q8)) p19 
oEnd)) (kCond g19 (kSeq (oSet (xMove g0) p20 
(oSet (xMove g6) p21 
(oSet (xCall q542 [g20, g21]) p22 
oEnd))) (kSeq (oSet (xLook (lkBuild q214 [])) p23 
(oDo (xTurn (tnStore (nat_lit 3) g4 g23)) 
oEnd)) kRet)) kSkip)) (kSeq (oSet (xMove g5) p24 
(oSet (xCall q74 [g24]) p25 
(oSet (xMove g25) p7 
oEnd))) (kSeq (oSet (xMove g7) p26 
(oSet (xCall q159 [g26, q8, q105]) p27 
(oSet (xLook (lkBuild q214 [((nat_lit 0), (nat_lit 1), g27)])) p28 
(oSet (xTurn (tnAlloc q214)) p8 
(oDo (xTurn (tnStore (nat_lit 3) g8 g28)) 
oEnd))))) (kSeq (kSeq (oSet (xMove g7) p29 
(oSet (xCall q153 [g29, q41]) p30 
(oSet (xMove q8) p31 
oEnd))) (kBlock (nat_lit 0) (kLoop (kSeq (oSet (xLook (lkBin .lss g31 g30)) p32 
oEnd) (kSeq (kCond g32 kSkip (kExit (nat_lit 0))) (kSeq (kBlock (nat_lit 1) (kSeq (oSet (xLook (lkFieldAddr (nat_lit 0) g8)) p33 
(oSet (xLook (lkLoad1 g33)) p34 
(oSet (xLook (lkEq false .int g34 q8)) p35 
oEnd))) (kCond g35 (kDraw 
(dLook (nat_lit 0) [] [] (lkFieldAddr (nat_lit 1) g8) p36 
(dLook (nat_lit 1) [] [] (lkLoad1 g36) p37 
(dLook (nat_lit 2) [] [] (lkMove g7) p38 
(dTurn (nat_lit 3) [(nat_lit 1)] [] true (xCall q155 [g38, q44]) p39 
(dTurn (nat_lit 4) [] [(nat_lit 3)] false (xTurn (tnBuildSlice q17 [((nat_lit 0), (nat_lit 1), g39)] (nat_lit 1))) p40 
(dTurn (nat_lit 5) [] [(nat_lit 3)] true (xTurn (tnAppend (nat_lit 1) g37 g40)) p41 
(dLook (nat_lit 6) [] [(nat_lit 3), (nat_lit 5)] (lkFieldAddr (nat_lit 1) g8) p42 
(dTurn (nat_lit 7) [] [(nat_lit 3), (nat_lit 5)] true (xTurn (tnStore (nat_lit 1) g42 g41)) noDst (dEnd [(nat_lit 36), (nat_lit 37), (nat_lit 38), (nat_lit 39), (nat_lit 40), (nat_lit 41), (nat_lit 42)])))))))))) (kDraw 
(dLook (nat_lit 0) [] [] (lkFieldAddr (nat_lit 2) g8) p43 
(dLook (nat_lit 1) [] [] (lkLoad1 g43) p44 
(dLook (nat_lit 2) [] [] (lkMove g7) p45 
(dTurn (nat_lit 3) [(nat_lit 1)] [] true (xCall q187 [g45]) p46 
(dLook (nat_lit 4) [] [] (lkMove g7) p47 
(dTurn (nat_lit 5) [(nat_lit 1)] [(nat_lit 3)] true (xCall q159 [g47, q12, q2]) p48 
(dLook (nat_lit 6) [] [(nat_lit 3), (nat_lit 5)] (lkBuild q292 [((nat_lit 0), (nat_lit 32), g46), ((nat_lit 32), (nat_lit 1), g48)]) p49 
(dTurn (nat_lit 7) [] [(nat_lit 3), (nat_lit 5)] false (xTurn (tnBuildSlice q292 [((nat_lit 0), (nat_lit 33), g49)] (nat_lit 1))) p50 
(dTurn (nat_lit 8) [] [(nat_lit 3), (nat_lit 5)] true (xTurn (tnAppend (nat_lit 33) g44 g50)) p51 
(dLook (nat_lit 9) [] [(nat_lit 3), (nat_lit 5), (nat_lit 8)] (lkFieldAddr (nat_lit 2) g8) p52 
(dTurn (nat_lit 10) [] [(nat_lit 3), (nat_lit 5), (nat_lit 8)] true (xTurn (tnStore (nat_lit 1) g52 g51)) noDst (dEnd [(nat_lit 43), (nat_lit 44), (nat_lit 45), (nat_lit 46), (nat_lit 47), (nat_lit 48), (nat_lit 49), (nat_lit 50), (nat_lit 51), (nat_lit 52)])))))))))))))))) (oSet (xLook (lkBin .add g31 q12)) p53 
(oSet (xMove g53) p31 
oEnd)))))))) (kSeq (kSeq (oSet (xMove g7) p54 
(oSet (xCall q80 [g54]) p55 
(oSet (xLook (lkField1 (nat_lit 0) g55)) p56 
(oSet (xLook (lkEq true .int g56 q8)) p57 
(oSet (xMove g57) p58 
(oSetIf (wantF g58) (xLook (lkFieldAddr (nat_lit 0) g8)) p59 
(oSetIf (wantF g58) (xLook (lkLoad1 g59)) p60 
(oSetIf (wantF g58) (xLook (lkBin .gtr g60 q8)) p61 
(oSetIf (wantF g58) (xMove g61) p62 
(oSetIf (wantT g62) (xLook (lkFieldAddr (nat_lit 2) g8)) p63 
(oSetIf (wantT g62) (xLook (lkLoad1 g63)) p64 
(oSetIf (wantT g62) (xLook (lkLen .sl g64)) p65 
(oSetIf (wantT g62) (xLook (lkEq false .int g65 q8)) p66 
(oSetIf (wantF g58) (xLook (lkPick g62 g66 q0)) p67 
(oSet (xLook (lkPick g58 q3 g67)) p68 
(oSet (xMove g68) p69 
(oSetIf (wantF g69) (xLook (lkLoadN (nat_lit 3) g8)) p70 
(oSetIf (wantF g69) (xCall q400 [g70]) p71 
(oSetIf (wantF g69) (xLook (lkBin .gtr g71 q2)) p72 
(oSet (xLook (lkPick g69 q3 g72)) p73 
oEnd)))))))))))))))))))) (kCond g73 (kSeq (oSet (xMove g0) p74 
(oSet (xCall q542 [g74, q73]) p75 
oEnd)) (kSeq (oSet (xLook (lkBuild q214 [])) p76 
(oDo (xTurn (tnStore (nat_lit 3) g4 g76)) 
oEnd)) kRet)) kSkip)) (kSeq (kDraw 
(dLook (nat_lit 0) [] [] (lkMove g0) p77 
(dTurn (nat_lit 1) [] [] false (xNil g77) p78 
(dLook (nat_lit 2) [] [] (lkFieldAddr (nat_lit 2) g78) p79 
(dLook (nat_lit 3) [] [] (lkLoad1 g79) p80 
(dLook (nat_lit 4) [] [] (lkLoadN (nat_lit 32) g3) p81 
(dLook (nat_lit 5) [] [] (lkBuild [] []) p82 
(dTurn (nat_lit 6) [] [] true (xTurn (tnMapUpdate (.many (nat_lit 32) .u8) g80 g81 g82)) noDst (dEnd [(nat_lit 77), (nat_lit 78), (nat_lit 79), (nat_lit 80), (nat_lit 81), (nat_lit 82)]))))))))) (kSeq (oSet (xLook (lkLoadN (nat_lit 3) g8)) p83 
(oDo (xTurn (tnStore (nat_lit 3) g4 g83)) 
oEnd)) kRet)))))))))⟩
noncomputable def k280d0 : KD := 
(dLook (nat_lit 19) [] [(nat_lit 14)] (lkPick g46 g59 q0) p60 (dEnd [(nat_lit 41), (nat_lit 42), (nat_lit 43), (nat_lit 44), (nat_lit 45), (nat_lit 46), (nat_lit 47), (nat_lit 48), (nat_lit 49), (nat_lit 50), (nat_lit 51), (nat_lit 52), (nat_lit 53), (nat_lit 54), (nat_lit 55), (nat_lit 56), (nat_lit 57), (nat_lit 58), (nat_lit 59), (nat_lit 60)]))
noncomputable def k280d1 : KD := 
(dIf [(nat_lit 14)] (wantT g46) p59 (dLook (nat_lit 18) [] [(nat_lit 14)] (lkPick g53 q3 g58) p59 k280d0) k280d0)
noncomputable def k280d2 : KD := 
(dIf [(nat_lit 14)] (wantF g53) p58 (dLook (nat_lit 17) [] [(nat_lit 14)] (lkEq true .int g55 g57) p58 k280d1) k280d1)
noncomputable def k280d3 : KD := 
(dIf [] (wantF g53) p57 (dLook (nat_lit 16) [(nat_lit 14)] [] (lkLoad1 g56) p57 k280d2) k280d2)
noncomputable def k280d4 : KD := 
(dIf [] (wantF g53) p56 (dLook (nat_lit 15) [] [] (lkFieldAddr (nat_lit 32) g12) p56 k280d3) k280d3)
noncomputable def k280d5 : KD := 
(dIf [] (wantF g53) p55 (dTurn (nat_lit 14) [] [] true (xCall q400 [g54]) p55 k280d4) k280d4)
noncomputable def k280d6 : KD := 
(dIf [] (wantF g53) p54 (dLook (nat_lit 13) [] [] (lkLoadN (nat_lit 3) g13) p54 k280d5) k280d5)
noncomputable def k280d7 : KD := 
(dIf [] (wantT g46) p53 (dLook (nat_lit 12) [] [] (lkMove g52) p53 k280d6) k280d6)
noncomputable def k280d8 : KD := 
(dIf [] (wantT g46) p52 (dLook (nat_lit 11) [] [] (lkEq true .int g48 g51) p52 k280d7) k280d7)
noncomputable def k280d9 : KD := 
(dIf [] (wantT g46) p51 (dLook (nat_lit 10) [] [] (lkBin .sub g50 q12) p51 k280d8) k280d8)
noncomputable def k280d10 : KD := 
(dIf [] (wantT g46) p50 (dLook (nat_lit 9) [] [] (lkLoad1 g49) p50 k280d9) k280d9)
noncomputable def k280d11 : KD := 
(dIf [] (wantT g46) p49 (dLook (nat_lit 8) [] [] (lkFieldAddr (nat_lit 0) g5) p49 k280d10) k280d10)
noncomputable def k280d12 : KD := 
(dIf [] (wantT g46) p48 (dLook (nat_lit 7) [] [] (lkLoad1 g47) p48 k280d11) k280d11)
noncomputable def k280 : KFun := ⟨[rTmp (nat_lit 8) g8], (kSeq (oSet (xTurn (tnBox g1)) p5 
(oSet (xMove q0) p8 
oEnd)) (kSeq (kSeq (oSet (xLook (lkFieldAddr (nat_lit 1) g5)) p14 
(oSet (xLook (lkLoad1 g14)) p15 
(oSet (xLook (lkLen .sl g15)) p16 
(oSet (xMove q8) p17 
oEnd)))) (kBlock (nat_lit 0) (kLoop (kSeq (oSet (xLook (lkBin .lss g17 g16)) p18 
oEnd) (kSeq (kCond g18 kSkip (kExit (nat_lit 0))) (kSeq (kBlock (nat_lit 1) (kSeq (oSet (xMove g17) p19 
(oSet (xLook (lkIxSl (nat_lit 1) g15 g17)) p20 
(oSet (xLook (lkLoad1 g20)) p21 
(oSet (xMove g19) p9 
(oSet (xMove g21) p10 
oEnd))))) (kSeq (oSet (xMove g3) p22 
(oSet (xMove g2) p23 
(oSet (xMove g9) p24 
(oSet (xLook (lkBin .add g23 g24)) p25 
(oSet (xMove g10) p26 
(oSet (xCall g22 [g25, g26]) p27 
(oSet (xLook (lkUn .not g27)) p28 
oEnd))))))) (kCond g28 (kSeq (oSet (xMove q0) p8 
oEnd) kRet) kSkip)))) (oSet (xLook (lkBin .add g17 q12)) p29 
(oSet (xMove g29) p17 
oEnd)))))))) (kSeq (kSeq (oSet (xLook (lkFieldAddr (nat_lit 2) g5)) p30 
(oSet (xLook (lkLoad1 g30)) p31 
(oSet (xLook (lkLen .sl g31)) p32 
(oSet (xMove q8) p33 
oEnd)))) (kBlock (nat_lit 2) (kLoop (kSeq (oSet (xLook (lkBin .lss g33 g32)) p34 
oEnd) (kSeq (kCond g34 kSkip (kExit (nat_lit 2))) (kSeq (kBlock (nat_lit 3) (kSeq (oSet (xLook (lkIxSl (nat_lit 33) g31 g33)) p35 
(oSet (xLook (lkLoadN (nat_lit 33) g35)) p36 
(oSet (xTurn (tnAlloc q292)) p12 
(oDo (xTurn (tnStore (nat_lit 33) g12 g36)) 
oEnd)))) (kSeq (oSet (xMove g0) p37 
(oSet (xLook (lkFieldAddr (nat_lit 0) g12)) p38 
(oSet (xLook (lkLoadN (nat_lit 32) g38)) p39 
(oSet (xCall q540 [g37, g39]) p40 
(oSet (xTurn (tnAlloc q214)) p13 
(oDo (xTurn (tnStore (nat_lit 3) g13 g40)) 
oEnd)))))) (kSeq (kSeq (kDraw 
(dLook (nat_lit 0) [] [] (lkMove g0) p41 
(dTurn (nat_lit 1) [] [] false (xNil g41) p42 
(dLook (nat_lit 2) [] [] (lkFieldAddr (nat_lit 1) g42) p43 
(dLook (nat_lit 3) [] [] (lkLoad1 g43) p44 
(dLook (nat_lit 4) [] [] (lkEq false .int g44 q8) p45 
(dLook (nat_lit 5) [] [] (lkMove g45) p46 
(dIf [] (wantT g46) p47 (dLook (nat_lit 6) [] [] (lkFieldAddr (nat_lit 0) g13) p47 k280d12) k280d12)))))))) (kCond g60 (oSet (xMove g0) p61 
(oSet (xCall q542 [g61, q73]) p62 
oEnd)) kSkip)) (kSeq (kSeq (oSet (xMove g0) p63 
(oSet (xNil g63) p64 
(oSet (xLook (lkFieldAddr (nat_lit 1) g64)) p65 
(oSet (xLook (lkLoad1 g65)) p66 
(oSet (xLook (lkEq true .int g66 q8)) p67 
(oSet (xMove g67) p68 
(oSetIf (wantF g68) (xMove g0) p69 
(oSetIf (wantF g68) (xLook (lkLoadN (nat_lit 3) g13)) p70 
(oSetIf (wantF g68) (xMove g2) p71 
(oSetIf (wantF g68) (xMove g3) p72 
(oSetIf (wantF g68) (xCall q541 [g69, g70, g71, g72]) p73 
(oSetIf (wantF g68) (xLook (lkUn .not g73)) p74 
(oSet (xLook (lkPick g68 q3 g74)) p75 
oEnd))))))))))))) (kCond g75 (kSeq (oSet (xMove q0) p8 
oEnd) kRet) kSkip)) (oSet (xMove g2) p76 
(oSet (xLook (lkFieldAddr (nat_lit 32) g12)) p77 
(oSet (xLook (lkLoad1 g77)) p78 
(oSet (xLook (lkBin .add g76 g78)) p79 
(oSet (xMove g79) p2 
oEnd)))))))))) (oSet (xLook (lkBin .add g33 q12)) p80 
(oSet (xMove g80) p33 
oEnd)))))))) (kSeq (oSet (xMove q3) p8 
oEnd) kRet))))⟩
noncomputable def k281 : KFun := ⟨[rTmp (nat_lit 4) g4], (kSeq (oSet (xMove q422) p4 
oEnd) (kSeq (oSet (xMove g1) p6 
(oSet (xLook (lkIntTo .u64 g6)) p7 
(oSet (xLook (lkBin .and g7 q506)) p8 
(oSet (xMove g8) p5 
oEnd)))) (kSeq (oSet (xMove g0) p9 
(oSet (xMove g5) p10 
(oSet (xLook (lkBin .shl g9 g10)) p11 
(oSet (xMove g0) p12 
(oSet (xMove g5) p13 
(oSet (xLook (lkBin .sub q326 g13)) p14 
(oSet (xLook (lkBin .shr g12 g14)) p15 
(oSet (xLook (lkBin .or g11 g15)) p16 
(oSet (xMove g16) p4 
oEnd))))))))) kRet)))⟩
def q543 : OpdF := kC (.string ⟨⟨[48, 49, 50, 51, 52, 53, 54, 55, 56, 57, 97, 98, 99, 100, 101, 102, 103, 104, 105, 106, 107, 108, 109, 110, 111, 112, 113, 114, 115, 116, 117, 118, 119, 120, 121, 122]⟩⟩)
def q544 : OpdF := kC (.string ⟨⟨[48, 48, 48, 49, 48, 50, 48, 51, 48, 52, 48, 53, 48, 54, 48, 55, 48, 56, 48, 57, 49, 48, 49, 49, 49, 50, 49, 51, 49, 52, 49, 53, 49, 54, 49, 55, 49, 56, 49, 57, 50, 48, 50, 49, 50, 50, 50, 51, 50, 52, 50, 53, 50, 54, 50, 55, 50, 56, 50, 57, 51, 48, 51, 49, 51, 50, 51, 51, 51, 52, 51, 53, 51, 54, 51, 55, 51, 56, 51, 57, 52, 48, 52, 49, 52, 50, 52, 51, 52, 52, 52, 53, 52, 54, 52, 55, 52, 56, 52, 57, 53, 48, 53, 49, 53, 50, 53, 51, 53, 52, 53, 53, 53, 54, 53, 55, 53, 56, 53, 57, 54, 48, 54, 49, 54, 50, 54, 51, 54, 52, 54, 53, 54, 54, 54, 55, 54, 56, 54, 57, 55, 48, 55, 49, 55, 50, 55, 51, 55, 52, 55, 53, 55, 54, 55, 55, 55, 56, 55, 57, 56, 48, 56, 49, 56, 50, 56, 51, 56, 52, 56, 53, 56, 54, 56, 55, 56, 56, 56, 57, 57, 48, 57, 49, 57, 50, 57, 51, 57, 52, 57, 53, 57, 54, 57, 55, 57, 56, 57, 57]⟩⟩)
noncomputable def k282 : KFun := ⟨[rTmp (nat_lit 2) g2], (kSeq (oSet (xMove q104) p2 
oEnd) (kSeq (kSeq (oSet (xMove g0) p3 
(oSet (xLook (lkBin .lss g3 q273)) p4 
oEnd)) (kCond g4 (kSeq (oSet (xMove g0) p5 
(oSet (xMove g0) p6 
(oSet (xLook (lkBin .add g6 q12)) p7 
(oSet (xLook (lkSliceStr q543 (some g5) (some g7))) p8 
(oSet (xMove g8) p2 
oEnd))))) kRet) kSkip)) (kSeq (oSet (xMove g0) p9 
(oSet (xLook (lkBin .mul g9 q9)) p10 
(oSet (xMove g0) p11 
(oSet (xLook (lkBin .mul g11 q9)) p12 
(oSet (xLook (lkBin .add g12 q9)) p13 
(oSet (xLook (lkSliceStr q544 (some g10) (some g13))) p14 
(oSet (xMove g14) p2 
oEnd))))))) kRet)))⟩
def q545 : OpdF := kC (.func (.func (nat_lit 321)) ⟨[]⟩ ⟨[]⟩)
def q546 : OpdF := kC (.func (.func (nat_lit 322)) ⟨[]⟩ ⟨[]⟩)
noncomputable def k283 : KFun := ⟨[rTmp (nat_lit 2) g2], (kSeq (oSet (xMove q8) p2 
oEnd) (kSeq (oSet (xMove g0) p4 
(oSet (xCall q246 [g4]) p5 
(oSet (xCall q545 [g5]) p6 
(oSet (xMove g6) p3 
oEnd)))) (kSeq (oSet (xMove g3) p7 
(oSet (xMove g0) p8 
(oSet (xMove g3) p9 
(oSet (xBad "indexAddr") p10 
(oSet (xLook (lkLoad1 g10)) p11 
(oSet (xLook (lkBin .geq g8 g11)) p12 
(oSet (xCall q546 [g12]) p13 
(oSet (xLook (lkBin .add g7 g13)) p14 
(oSet (xMove g14) p2 
oEnd))))))))) kRet)))⟩
def q547 : OpdF := kC (.int .u64 (.ofNat (nat_lit 100000000)))
def q548 : OpdF := kC (.int .u32 (.ofNat (nat_lit 10000)))
def q549 : OpdF := kC (.int .u32 (.ofNat (nat_lit 100)))
def q550 : OpdF := kC (.int .u32 (.ofNat (nat_lit 2)))
def q551 : OpdF := kC (.int .u32 (.ofNat (nat_lit 1)))
def q552 : OpdF := kC (.int .u32 (.ofNat (nat_lit 48)))
noncomputable def k284 : KFun := ⟨[], (kSeq (oSet (xMove g0) p17 
(oSet (xLook (lkLen .sl g17)) p18 
(oSet (xMove g18) p4 
oEnd))) (kSeq (kBlock (nat_lit 0) (kLoop (kSeq (kSeq (oSet (xMove g4) p19 
(oSet (xLook (lkBin .geq g19 q41)) p20 
oEnd)) (kCond g20 kSkip (kExit (nat_lit 0)))) (kBlock (nat_lit 1) (kSeq (oSet (xMove g1) p21 
(oSet (xLook (lkBin .rem g21 q547)) p22 
(oSet (xLook (lkIntTo .u32 g22)) p23 
(oSet (xMove g23) p5 
oEnd)))) (kSeq (oSet (xMove g1) p24 
(oSet (xLook (lkBin .quo g24 q547)) p25 
(oSet (xMove g25) p1 
oEnd))) (kSeq (oSet (xMove g5) p26 
(oSet (xLook (lkBin .quo g26 q548)) p27 
(oSet (xMove g5) p28 
(oSet (xLook (lkBin .rem g28 q548)) p29 
(oSet (xMove g27) p6 
(oSet (xMove g29) p7 
oEnd)))))) (kSeq (oSet (xMove g7) p30 
(oSet (xLook (lkBin .quo g30 q549)) p31 
(oSet (xLook (lkBin .mul g31 q550)) p32 
(oSet (xMove g7) p33 
(oSet (xLook (lkBin .rem g33 q549)) p34 
(oSet (xLook (lkBin .mul g34 q550)) p35 
(oSet (xMove g32) p8 
(oSet (xMove g35) p9 
oEnd)))))))) (kSeq (oSet (xMove g6) p36 
(oSet (xLook (lkBin .quo g36 q549)) p37 
(oSet (xLook (lkBin .mul g37 q550)) p38 
(oSet (xMove g6) p39 
(oSet (xLook (lkBin .rem g39 q549)) p40 
(oSet (xLook (lkBin .mul g40 q550)) p41 
(oSet (xMove g38) p10 
(oSet (xMove g41) p11 
oEnd)))))))) (kSeq (kDraw 
(dLook (nat_lit 0) [] [] (lkMove g0) p42 
(dLook (nat_lit 1) [] [] (lkMove g4) p43 
(dLook (nat_lit 2) [] [] (lkBin .sub g43 q12) p44 
(dLook (nat_lit 3) [] [] (lkMove g0) p45 
(dLook (nat_lit 4) [] [] (lkMove g4) p46 
(dLook (nat_lit 5) [] [] (lkBin .sub g46 q9) p47 
(dLook (nat_lit 6) [] [] (lkMove g9) p48 
(dLook (nat_lit 7) [] [] (lkBin .add g48 q551) p49 
(dLook (nat_lit 8) [] [] (lkIxStr q544 g49) p50 
(dLook (nat_lit 9) [] [] (lkMove g9) p51 
(dLook (nat_lit 10) [] [] (lkIxStr q544 g51) p52 
(dLook (nat_lit 11) [] [] (lkIxSl (nat_lit 1) g42 g44) p53 
(dTurn (nat_lit 12) [] [] true (xTurn (tnStore (nat_lit 1) g53 g50)) noDst 
(dLook (nat_lit 13) [] [(nat_lit 12)] (lkIxSl (nat_lit 1) g45 g47) p54 
(dTurn (nat_lit 14) [] [(nat_lit 12)] true (xTurn (tnStore (nat_lit 1) g54 g52)) noDst (dEnd [(nat_lit 42), (nat_lit 43), (nat_lit 44), (nat_lit 45), (nat_lit 46), (nat_lit 47), (nat_lit 48), (nat_lit 49), (nat_lit 50), (nat_lit 51), (nat_lit 52), (nat_lit 53), (nat_lit 54)]))))))))))))))))) (kSeq (kDraw 
(dLook (nat_lit 0) [] [] (lkMove g0) p55 
(dLook (nat_lit 1) [] [] (lkMove g4) p56 
(dLook (nat_lit 2) [] [] (lkBin .sub g56 q68) p57 
(dLook (nat_lit 3) [] [] (lkMove g0) p58 
(dLook (nat_lit 4) [] [] (lkMove g4) p59 
(dLook (nat_lit 5) [] [] (lkBin .sub g59 q70) p60 
(dLook (nat_lit 6) [] [] (lkMove g8) p61 
(dLook (nat_lit 7) [] [] (lkBin .add g61 q551) p62 
(dLook (nat_lit 8) [] [] (lkIxStr q544 g62) p63 
(dLook (nat_lit 9) [] [] (lkMove g8) p64 
(dLook (nat_lit 10) [] [] (lkIxStr q544 g64) p65 
(dLook (nat_lit 11) [] [] (lkIxSl (nat_lit 1) g55 g57) p66 
(dTurn (nat_lit 12) [] [] true (xTurn (tnStore (nat_lit 1) g66 g63)) noDst 
(dLook (nat_lit 13) [] [(nat_lit 12)] (lkIxSl (nat_lit 1) g58 g60) p67 
(dTurn (nat_lit 14) [] [(nat_lit 12)] true (xTurn (tnStore (nat_lit 1) g67 g65)) noDst (dEnd [(nat_lit 55), (nat_lit 56), (nat_lit 57), (nat_lit 58), (nat_lit 59), (nat_lit 60), (nat_lit 61), (nat_lit 62), (nat_lit 63), (nat_lit 64), (nat_lit 65), (nat_lit 66), (nat_lit 67)]))))))))))))))))) (kSeq (kDraw 
(dLook (nat_lit 0) [] [] (lkMove g0) p68 
(dLook (nat_lit 1) [] [] (lkMove g4) p69 
(dLook (nat_lit 2) [] [] (lkBin .sub g69 q86) p70 
(dLook (nat_lit 3) [] [] (lkMove g0) p71 
(dLook (nat_lit 4) [] [] (lkMove g4) p72 
(dLook (nat_lit 5) [] [] (lkBin .sub g72 q20) p73 
(dLook (nat_lit 6) [] [] (lkMove g11) p74 
(dLook (nat_lit 7) [] [] (lkBin .add g74 q551) p75 
(dLook (nat_lit 8) [] [] (lkIxStr q544 g75) p76 
(dLook (nat_lit 9) [] [] (lkMove g11) p77 
(dLook (nat_lit 10) [] [] (lkIxStr q544 g77) p78 
(dLook (nat_lit 11) [] [] (lkIxSl (nat_lit 1) g68 g70) p79 
(dTurn (nat_lit 12) [] [] true (xTurn (tnStore (nat_lit 1) g79 g76)) noDst 
(dLook (nat_lit 13) [] [(nat_lit 12)] (lkIxSl (nat_lit 1) g71 g73) p80 
(dTurn (nat_lit 14) [] [(nat_lit 12)] true (xTurn (tnStore (nat_lit 1) g80 g78)) noDst (dEnd [(nat_lit 68), (nat_lit 69), (nat_lit 70), (nat_lit 71), (nat_lit 72), (nat_lit 73), (nat_lit 74), (nat_lit 75), (nat_lit 76), (nat_lit 77), (nat_lit 78), (nat_lit 79), (nat_lit 80)]))))))))))))))))) (kSeq (kDraw 
(dLook (nat_lit 0) [] [] (lkMove g0) p81 
(dLook (nat_lit 1) [] [] (lkMove g4) p82 
(dLook (nat_lit 2) [] [] (lkBin .sub g82 q22) p83 
(dLook (nat_lit 3) [] [] (lkMove g0) p84 
(dLook (nat_lit 4) [] [] (lkMove g4) p85 
(dLook (nat_lit 5) [] [] (lkBin .sub g85 q41) p86 
(dLook (nat_lit 6) [] [] (lkMove g10) p87 
(dLook (nat_lit 7) [] [] (lkBin .add g87 q551) p88 
(dLook (nat_lit 8) [] [] (lkIxStr q544 g88) p89 
(dLook (nat_lit 9) [] [] (lkMove g10) p90 
(dLook (nat_lit 10) [] [] (lkIxStr q544 g90) p91 
(dLook (nat_lit 11) [] [] (lkIxSl (nat_lit 1) g81 g83) p92 
(dTurn (nat_lit 12) [] [] true (xTurn (tnStore (nat_lit 1) g92 g89)) noDst 
(dLook (nat_lit 13) [] [(nat_lit 12)] (lkIxSl (nat_lit 1) g84 g86) p93 
(dTurn (nat_lit 14) [] [(nat_lit 12)] true (xTurn (tnStore (nat_lit 1) g93 g91)) noDst (dEnd [(nat_lit 81), (nat_lit 82), (nat_lit 83), (nat_lit 84), (nat_lit 85), (nat_lit 86), (nat_lit 87), (nat_lit 88), (nat_lit 89), (nat_lit 90), (nat_lit 91), (nat_lit 92), (nat_lit 93)]))))))))))))))))) (oSet (xMove g4) p94 
(oSet (xLook (lkBin .sub g94 q41)) p95 
(oSet (xMove g95) p4 
oEnd)))))))))))))))) (kSeq (oSet (xMove g1) p96 
(oSet (xLook (lkIntTo .u32 g96)) p97 
(oSet (xMove g97) p12 
oEnd))) (kSeq (kSeq (oSet (xMove g4) p98 
(oSet (xLook (lkBin .geq g98 q70)) p99 
oEnd)) (kCond g99 (kSeq (oSet (xMove g12) p100 
(oSet (xLook (lkBin .rem g100 q548)) p101 
(oSet (xMove g101) p13 
oEnd))) (kSeq (oSet (xMove g12) p102 
(oSet (xLook (lkBin .quo g102 q548)) p103 
(oSet (xMove g103) p12 
oEnd))) (kSeq (oSet (xMove g13) p104 
(oSet (xLook (lkBin .quo g104 q549)) p105 
(oSet (xLook (lkBin .mul g105 q550)) p106 
(oSet (xMove g13) p107 
(oSet (xLook (lkBin .rem g107 q549)) p108 
(oSet (xLook (lkBin .mul g108 q550)) p109 
(oSet (xMove g106) p14 
(oSet (xMove g109) p15 
oEnd)))))))) (kSeq (kDraw 
(dLook (nat_lit 0) [] [] (lkMove g0) p110 
(dLook (nat_lit 1) [] [] (lkMove g4) p111 
(dLook (nat_lit 2) [] [] (lkBin .sub g111 q12) p112 
(dLook (nat_lit 3) [] [] (lkMove g0) p113 
(dLook (nat_lit 4) [] [] (lkMove g4) p114 
(dLook (nat_lit 5) [] [] (lkBin .sub g114 q9) p115 
(dLook (nat_lit 6) [] [] (lkMove g15) p116 
(dLook (nat_lit 7) [] [] (lkBin .add g116 q551) p117 
(dLook (nat_lit 8) [] [] (lkIxStr q544 g117) p118 
(dLook (nat_lit 9) [] [] (lkMove g15) p119 
(dLook (nat_lit 10) [] [] (lkIxStr q544 g119) p120 
(dLook (nat_lit 11) [] [] (lkIxSl (nat_lit 1) g110 g112) p121 
(dTurn (nat_lit 12) [] [] true (xTurn (tnStore (nat_lit 1) g121 g118)) noDst 
(dLook (nat_lit 13) [] [(nat_lit 12)] (lkIxSl (nat_lit 1) g113 g115) p122 
(dTurn (nat_lit 14) [] [(nat_lit 12)] true (xTurn (tnStore (nat_lit 1) g122 g120)) noDst (dEnd [(nat_lit 110), (nat_lit 111), (nat_lit 112), (nat_lit 113), (nat_lit 114), (nat_lit 115), (nat_lit 116), (nat_lit 117), (nat_lit 118), (nat_lit 119), (nat_lit 120), (nat_lit 121), (nat_lit 122)]))))))))))))))))) (kSeq (kDraw 
(dLook (nat_lit 0) [] [] (lkMove g0) p123 
(dLook (nat_lit 1) [] [] (lkMove g4) p124 
(dLook (nat_lit 2) [] [] (lkBin .sub g124 q68) p125 
(dLook (nat_lit 3) [] [] (lkMove g0) p126 
(dLook (nat_lit 4) [] [] (lkMove g4) p127 
(dLook (nat_lit 5) [] [] (lkBin .sub g127 q70) p128 
(dLook (nat_lit 6) [] [] (lkMove g14) p129 
(dLook (nat_lit 7) [] [] (lkBin .add g129 q551) p130 
(dLook (nat_lit 8) [] [] (lkIxStr q544 g130) p131 
(dLook (nat_lit 9) [] [] (lkMove g14) p132 
(dLook (nat_lit 10) [] [] (lkIxStr q544 g132) p133 
(dLook (nat_lit 11) [] [] (lkIxSl (nat_lit 1) g123 g125) p134 
(dTurn (nat_lit 12) [] [] true (xTurn (tnStore (nat_lit 1) g134 g131)) noDst 
(dLook (nat_lit 13) [] [(nat_lit 12)] (lkIxSl (nat_lit 1) g126 g128) p135 
(dTurn (nat_lit 14) [] [(nat_lit 12)] true (xTurn (tnStore (nat_lit 1) g135 g133)) noDst (dEnd [(nat_lit 123), (nat_lit 124), (nat_lit 125), (nat_lit 126), (nat_lit 127), (nat_lit 128), (nat_lit 129), (nat_lit 130), (nat_lit 131), (nat_lit 132), (nat_lit 133), (nat_lit 134), (nat_lit 135)]))))))))))))))))) (oSet (xMove g4) p136 
(oSet (xLook (lkBin .sub g136 q70)) p137 
(oSet (xMove g137) p4 
oEnd)))))))) kSkip)) (kSeq (kSeq (oSet (xMove g4) p138 
(oSet (xLook (lkBin .geq g138 q9)) p139 
oEnd)) (kCond g139 (kSeq (oSet (xMove g12) p140 
(oSet (xLook (lkBin .rem g140 q549)) p141 
(oSet (xLook (lkBin .mul g141 q550)) p142 
(oSet (xMove g142) p16 
oEnd)))) (kSeq (oSet (xMove g12) p143 
(oSet (xLook (lkBin .quo g143 q549)) p144 
(oSet (xMove g144) p12 
oEnd))) (kSeq (kDraw 
(dLook (nat_lit 0) [] [] (lkMove g0) p145 
(dLook (nat_lit 1) [] [] (lkMove g4) p146 
(dLook (nat_lit 2) [] [] (lkBin .sub g146 q12) p147 
(dLook (nat_lit 3) [] [] (lkMove g0) p148 
(dLook (nat_lit 4) [] [] (lkMove g4) p149 
(dLook (nat_lit 5) [] [] (lkBin .sub g149 q9) p150 
(dLook (nat_lit 6) [] [] (lkMove g16) p151 
(dLook (nat_lit 7) [] [] (lkBin .add g151 q551) p152 
(dLook (nat_lit 8) [] [] (lkIxStr q544 g152) p153 
(dLook (nat_lit 9) [] [] (lkMove g16) p154 
(dLook (nat_lit 10) [] [] (lkIxStr q544 g154) p155 
(dLook (nat_lit 11) [] [] (lkIxSl (nat_lit 1) g145 g147) p156 
(dTurn (nat_lit 12) [] [] true (xTurn (tnStore (nat_lit 1) g156 g153)) noDst 
(dLook (nat_lit 13) [] [(nat_lit 12)] (lkIxSl (nat_lit 1) g148 g150) p157 
(dTurn (nat_lit 14) [] [(nat_lit 12)] true (xTurn (tnStore (nat_lit 1) g157 g155)) noDst (dEnd [(nat_lit 145), (nat_lit 146), (nat_lit 147), (nat_lit 148), (nat_lit 149), (nat_lit 150), (nat_lit 151), (nat_lit 152), (nat_lit 153), (nat_lit 154), (nat_lit 155), (nat_lit 156), (nat_lit 157)]))))))))))))))))) (oSet (xMove g4) p158 
(oSet (xLook (lkBin .sub g158 q9)) p159 
(oSet (xMove g159) p4 
oEnd)))))) kSkip)) (kSeq (oSet (xMove g4) p160 
(oSet (xLook (lkBin .gtr g160 q8)) p161 
oEnd)) (kCond g161 (oSet (xMove g0) p162 
(oSet (xMove g12) p163 
(oSet (xLook (lkBin .add q552 g163)) p164 
(oSet (xLook (lkIntTo .u8 g164)) p165 
(oSet (xLook (lkIxSl (nat_lit 1) g162 q8)) p166 
(oDo (xTurn (tnStore (nat_lit 1) g166 g165)) 
oEnd)))))) kSkip)))))))⟩
def q553 : OpdF := kC (.int .i64 (.ofNat (nat_lit 36)))
def q554 : OpdF := kC (.string ⟨⟨[115, 116, 114, 99, 111, 110, 118, 58, 32, 105, 108, 108, 101, 103, 97, 108, 32, 65, 112, 112, 101, 110, 100, 73, 110, 116, 47, 70, 111, 114, 109, 97, 116, 73, 110, 116, 32, 98, 97, 115, 101]⟩⟩)
def q555 : List Value := [(.int .u8 (.ofNat (nat_lit 0))), (.int .u8 (.ofNat (nat_lit 0))), (.int .u8 (.ofNat (nat_lit 0))), (.int .u8 (.ofNat (nat_lit 0))), (.int .u8 (.ofNat (nat_lit 0))), (.int .u8 (.ofNat (nat_lit 0))), (.int .u8 (.ofNat (nat_lit 0))), (.int .u8 (.ofNat (nat_lit 0))), (.int .u8 (.ofNat (nat_lit 0))), (.int .u8 (.ofNat (nat_lit 0))), (.int .u8 (.ofNat (nat_lit 0))), (.int .u8 (.ofNat (nat_lit 0))), (.int .u8 (.ofNat (nat_lit 0))), (.int .u8 (.ofNat (nat_lit 0))), (.int .u8 (.ofNat (nat_lit 0))), (.int .u8 (.ofNat (nat_lit 0))), (.int .u8 (.ofNat (nat_lit 0))), (.int .u8 (.ofNat (nat_lit 0))), (.int .u8 (.ofNat (nat_lit 0))), (.int .u8 (.ofNat (nat_lit 0))), (.int .u8 (.ofNat (nat_lit 0))), (.int .u8 (.ofNat (nat_lit 0))), (.int .u8 (.ofNat (nat_lit 0))), (.int .u8 (.ofNat (nat_lit 0))), (.int .u8 (.ofNat (nat_lit 0))), (.int .u8 (.ofNat (nat_lit 0))), (.int .u8 (.ofNat (nat_lit 0))), (.int .u8 (.ofNat (nat_lit 0))), (.int .u8 (.ofNat (nat_lit 0))), (.int .u8 (.ofNat (nat_lit 0))), (.int .u8 (.ofNat (nat_lit 0))), (.int .u8 (.ofNat (nat_lit 0))), (.int .u8 (.ofNat (nat_lit 0))), (.int .u8 (.ofNat (nat_lit 0))), (.int .u8 (.ofNat (nat_lit 0))), (.int .u8 (.ofNat (nat_lit 0))), (.int .u8 (.ofNat (nat_lit 0))), (.int .u8 (.ofNat (nat_lit 0))), (.int .u8 (.ofNat (nat_lit 0))), (.int .u8 (.ofNat (nat_lit 0))), (.int .u8 (.ofNat (nat_lit 0))), (.int .u8 (.ofNat (nat_lit 0))), (.int .u8 (.ofNat (nat_lit 0))), (.int .u8 (.ofNat (nat_lit 0))), (.int .u8 (.ofNat (nat_lit 0))), (.int .u8 (.ofNat (nat_lit 0))), (.int .u8 (.ofNat (nat_lit 0))), (.int .u8 (.ofNat (nat_lit 0))), (.int .u8 (.ofNat (nat_lit 0))), (.int .u8 (.ofNat (nat_lit 0))), (.int .u8 (.ofNat (nat_lit 0))), (.int .u8 (.ofNat (nat_lit 0))), (.int .u8 (.ofNat (nat_lit 0))), (.int .u8 (.ofNat (nat_lit 0))), (.int .u8 (.ofNat (nat_lit 0))), (.int .u8 (.ofNat (nat_lit 0))), (.int .u8 (.ofNat (nat_lit 0))), (.int .u8 (.ofNat (nat_lit 0))), (.int .u8 (.ofNat (nat_lit 0))), (.int .u8 (.ofNat (nat_lit 0))), (.int .u8 (.ofNat (nat_lit 0))), (.int .u8 (.ofNat (nat_lit 0))), (.int .u8 (.ofNat (nat_lit 0))), (.int .u8 (.ofNat (nat_lit 0))), (.int .u8 (.ofNat (nat_lit 0)))]
def q556 : OpdF := kC (.int .i64 (.ofNat (nat_lit 65)))
def q557 : OpdF := kC (.func (.func (nat_lit 323)) ⟨[]⟩ ⟨[]⟩)
def q558 : OpdF := kC (.func (.func (nat_lit 324)) ⟨[]⟩ ⟨[]⟩)
noncomputable def k285 : KFun := ⟨[rTmp (nat_lit 10) g10, rTmp (nat_lit 11) g11], (kSeq (oSet (xMove q23) p10 
(oSet (xMove q104) p11 
oEnd)) (kSeq (kSeq (oSet (xMove g2) p19 
(oSet (xLook (lkBin .lss g19 q9)) p20 
(oSet (xMove g20) p21 
(oSetIf (wantF g21) (xMove g2) p22 
(oSetIf (wantF g21) (xLook (lkEq false .int g22 q273)) p23 
(oSet (xLook (lkPick g21 q3 g23)) p24 
(oSet (xMove g24) p25 
(oSetIf (wantF g25) (xMove g2) p26 
(oSetIf (wantF g25) (xLook (lkBin .gtr g26 q553)) p27 
(oSet (xLook (lkPick g25 q3 g27)) p28 
oEnd)))))))))) (kCond g28 (oSet (xLook (lkMkIface (nat_lit 9) q554)) p29 
(oDo (xPanic g29) 
oEnd)) kSkip)) (kSeq (oSet (xTurn (tnAlloc q555)) p12 
oEnd) (kSeq (oSet (xMove q556) p13 
oEnd) (kSeq (kSeq (oSet (xMove g3) p30 
oEnd) (kCond g30 (oSet (xMove g1) p31 
(oSet (xLook (lkUn .neg g31)) p32 
(oSet (xMove g32) p1 
oEnd))) kSkip)) (kSeq (kSeq (oSet (xMove g2) p33 
(oSet (xCall q557 [g33]) p34 
oEnd)) (kCond g34 (kSeq (oSet (xMove g2) p35 
(oSet (xLook (lkIntTo .u64 g35)) p36 
(oSet (xCall q558 [g36]) p37 
(oSet (xLook (lkIntTo .u64 g37)) p38 
(oSet (xMove g38) p14 
oEnd))))) (kSeq (oSet (xMove g2) p39 
(oSet (xLook (lkIntTo .u64 g39)) p40 
(oSet (xMove g40) p15 
oEnd))) (kSeq (oSet (xMove g2) p41 
(oSet (xLook (lkIntTo .u64 g41)) p42 
(oSet (xLook (lkBin .sub g42 q316)) p43 
(oSet (xMove g43) p16 
oEnd)))) (kSeq (kBlock (nat_lit 0) (kLoop (kSeq (kSeq (oSet (xMove g1) p44 
(oSet (xMove g15) p45 
(oSet (xLook (lkBin .geq g44 g45)) p46 
oEnd))) (kCond g46 kSkip (kExit (nat_lit 0)))) (kBlock (nat_lit 1) (kSeq (oSet (xMove g13) p47 
(oSet (xLook (lkBin .sub g47 q12)) p48 
(oSet (xMove g48) p13 
oEnd))) (kSeq (oSet (xMove g13) p49 
(oSet (xMove g1) p50 
(oSet (xMove g16) p51 
(oSet (xLook (lkBin .and g50 g51)) p52 
(oSet (xLook (lkIxStr q543 g52)) p53 
(oSet (xLook (lkIxArr (nat_lit 65) (nat_lit 1) g12 g49)) p54 
(oDo (xTurn (tnStore (nat_lit 1) g54 g53)) 
oEnd))))))) (oSet (xMove g1) p55 
(oSet (xMove g14) p56 
(oSet (xLook (lkBin .shr g55 g56)) p57 
(oSet (xMove g57) p1 
oEnd)))))))))) (kSeq (oSet (xMove g13) p58 
(oSet (xLook (lkBin .sub g58 q12)) p59 
(oSet (xMove g59) p13 
oEnd))) (oSet (xMove g13) p60 
(oSet (xMove g1) p61 
(oSet (xLook (lkIxStr q543 g61)) p62 
(oSet (xLook (lkIxArr (nat_lit 65) (nat_lit 1) g12 g60)) p63 
(oDo (xTurn (tnStore (nat_lit 1) g63 g62)) 
oEnd)))))))))) (kSeq (oSet (xMove g2) p64 
(oSet (xLook (lkIntTo .u64 g64)) p65 
(oSet (xMove g65) p17 
oEnd))) (kSeq (kBlock (nat_lit 2) (kLoop (kSeq (kSeq (oSet (xMove g1) p66 
(oSet (xMove g17) p67 
(oSet (xLook (lkBin .geq g66 g67)) p68 
oEnd))) (kCond g68 kSkip (kExit (nat_lit 2)))) (kBlock (nat_lit 3) (kSeq (oSet (xMove g13) p69 
(oSet (xLook (lkBin .sub g69 q12)) p70 
(oSet (xMove g70) p13 
oEnd))) (kSeq (oSet (xMove g1) p71 
(oSet (xMove g17) p72 
(oSet (xLook (lkBin .quo g71 g72)) p73 
(oSet (xMove g73) p18 
oEnd)))) (kSeq (oSet (xMove g13) p74 
(oSet (xMove g1) p75 
(oSet (xMove g18) p76 
(oSet (xMove g17) p77 
(oSet (xLook (lkBin .mul g76 g77)) p78 
(oSet (xLook (lkBin .sub g75 g78)) p79 
(oSet (xLook (lkIxStr q543 g79)) p80 
(oSet (xLook (lkIxArr (nat_lit 65) (nat_lit 1) g12 g74)) p81 
(oDo (xTurn (tnStore (nat_lit 1) g81 g80)) 
oEnd))))))))) (oSet (xMove g18) p82 
(oSet (xMove g82) p1 
oEnd))))))))) (kSeq (oSet (xMove g13) p83 
(oSet (xLook (lkBin .sub g83 q12)) p84 
(oSet (xMove g84) p13 
oEnd))) (oSet (xMove g13) p85 
(oSet (xMove g1) p86 
(oSet (xLook (lkIxStr q543 g86)) p87 
(oSet (xLook (lkIxArr (nat_lit 65) (nat_lit 1) g12 g85)) p88 
(oDo (xTurn (tnStore (nat_lit 1) g88 g87)) 
oEnd)))))))))) (kSeq (kSeq (oSet (xMove g3) p89 
oEnd) (kCond g89 (kSeq (oSet (xMove g13) p90 
(oSet (xLook (lkBin .sub g90 q12)) p91 
(oSet (xMove g91) p13 
oEnd))) (oSet (xMove g13) p92 
(oSet (xLook (lkIxArr (nat_lit 65) (nat_lit 1) g12 g92)) p93 
(oDo (xTurn (tnStore (nat_lit 1) g93 q493)) 
oEnd)))) kSkip)) (kSeq (kSeq (oSet (xMove g4) p94 
oEnd) (kCond g94 (kSeq (oSet (xMove g0) p95 
(oSet (xMove g13) p96 
(oSet (xLook (lkSliceArr (nat_lit 65) (nat_lit 1) g12 (some g96) none none)) p97 
(oSet (xTurn (tnAppend (nat_lit 1) g95 g97)) p98 
(oSet (xMove g98) p10 
oEnd))))) kRet) kSkip)) (kSeq (oSet (xMove g13) p99 
(oSet (xLook (lkSliceArr (nat_lit 65) (nat_lit 1) g12 (some g99) none none)) p100 
(oSet (xLook (lkBytesTo g100)) p101 
(oSet (xMove g101) p11 
oEnd)))) kRet)))))))))⟩
noncomputable def k299 : KFun := ⟨[], (kSeq (oSet xRecover p4 
oEnd) (kBlock (nat_lit 0) (kSeq (oSet (xLook (lkEq false .ifaceNil g4 q202)) p6 
oEnd) (kCond g6 (oSet (xMove g4) p1 
oEnd) (kSeq (oSet (xLook (lkAssertT (nat_lit 464) (.agg ⟨[(.int .i64 (.ofNat (nat_lit 0)))]⟩) true g4)) p7 
(oSet (xLook (lkExtract (nat_lit 1) g7)) p8 
(oSet (xLook (lkExtract (nat_lit 0) g7)) p9 
oEnd))) (kCond g8 (kSeq (oSet (xTurn (tnAlloc q108)) p2 
(oDo (xTurn (tnStore (nat_lit 1) g2 g9)) 
oEnd)) (oSet (xLook (lkLoad1 g0)) p10 
(oSet (xLook (lkFieldAddr (nat_lit 0) g2)) p11 
(oSet (xLook (lkLoad1 g11)) p12 
(oSet (xNil g10) p13 
(oSet (xLook (lkFieldAddr (nat_lit 11) g13)) p14 
(oSet (xLook (lkFieldAddr (nat_lit 0) g14)) p15 
(oDo (xTurn (tnStore (nat_lit 1) g15 g12)) 
oEnd)))))))) (kSeq (oSet (xMove g4) p3 
oEnd) (oSet (xMove g3) p5 
(oDo (xPanic g5) 
oEnd)))))))))⟩
def q566 : OpdF := kC (.func (.func (nat_lit 329)) ⟨[]⟩ ⟨[]⟩)
def q567 : OpdF := kC (.func (.func (nat_lit 330)) ⟨[]⟩ ⟨[]⟩)
def q568 : OpdF := kC (.func (.func (nat_lit 331)) ⟨[]⟩ ⟨[]⟩)
def q569 : OpdF := kC (.func (.func (nat_lit 332)) ⟨[]⟩ ⟨[]⟩)
def q570 : OpdF := kC (.func (.func (nat_lit 333)) ⟨[]⟩ ⟨[]⟩)
def q571 : OpdF := kC (.func (.func (nat_lit 334)) ⟨[]⟩ ⟨[]⟩)
def q572 : OpdF := kC (.func (.func (nat_lit 335)) ⟨[]⟩ ⟨[]⟩)
def q573 : OpdF := kC (.func (.func (nat_lit 336)) ⟨[]⟩ ⟨[]⟩)
def q574 : OpdF := kC (.func (.func (nat_lit 337)) ⟨[]⟩ ⟨[]⟩)
def q575 : OpdF := kC (.func (.func (nat_lit 338)) ⟨[]⟩ ⟨[]⟩)
def q576 : OpdF := kC (.func (.func (nat_lit 339)) ⟨[]⟩ ⟨[]⟩)
def q577 : OpdF := kC (.func (.func (nat_lit 340)) ⟨[]⟩ ⟨[]⟩)
def q578 : OpdF := kC (.func (.func (nat_lit 341)) ⟨[]⟩ ⟨[]⟩)
def q579 : OpdF := kC (.func (.func (nat_lit 342)) ⟨[]⟩ ⟨[]⟩)
def q580 : OpdF := kC (.func (.func (nat_lit 343)) ⟨[]⟩ ⟨[]⟩)
noncomputable def k300 : KFun := ⟨[rCellN (nat_lit 0) g0 (nat_lit 16)], (kSeq (oSet (xTurn (tnAlloc q523)) p0 
oEnd) (kSeq (oSet (xLook (lkBuild q523 [((nat_lit 1), (nat_lit 1), q566), ((nat_lit 2), (nat_lit 1), q567), ((nat_lit 3), (nat_lit 1), q568), ((nat_lit 4), (nat_lit 1), q569), ((nat_lit 5), (nat_lit 1), q570), ((nat_lit 6), (nat_lit 1), q571), ((nat_lit 7), (nat_lit 1), q572), ((nat_lit 8), (nat_lit 1), q573), ((nat_lit 9), (nat_lit 1), q574), ((nat_lit 10), (nat_lit 1), q575), ((nat_lit 11), (nat_lit 1), q576), ((nat_lit 12), (nat_lit 1), q577), ((nat_lit 13), (nat_lit 1), q578), ((nat_lit 14), (nat_lit 1), q579), ((nat_lit 15), (nat_lit 1), q580)])) p1 
(oDo (xTurn (tnStore (nat_lit 16) g0 g1)) 
oEnd)) kRet))⟩
noncomputable def k302 : KFun := ⟨[rTmp (nat_lit 2) g2], (kSeq (oSet (xTurn (tnBox g0)) p1 
(oSet (xMove q53) p2 
oEnd)) (kSeq (oSet (xLook (lkMkFunc (.func (nat_lit 344)) [] [g1])) p3 
(oSet (xMove g3) p2 
oEnd)) kRet))⟩
def q581 : OpdF := kC (.func (.func (nat_lit 346)) ⟨[]⟩ ⟨[]⟩)
def q582 : OpdF := kC (.func (.func (nat_lit 345)) ⟨[]⟩ ⟨[]⟩)
def q583 : OpdF := kC (.func (.func (nat_lit 347)) ⟨[]⟩ ⟨[]⟩)
def q584 : OpdF := kC (.func (.func (nat_lit 348)) ⟨[]⟩ ⟨[]⟩)
def q585 : OpdF := kC (.func (.func (nat_lit 349)) ⟨[]⟩ ⟨[]⟩)
noncomputable def k303d0 : KD := 
(dLook (nat_lit 21) [] [] (lkPick g23 g41 q0) p42 (dEnd [(nat_lit 21), (nat_lit 22), (nat_lit 23), (nat_lit 24), (nat_lit 25), (nat_lit 26), (nat_lit 27), (nat_lit 28), (nat_lit 29), (nat_lit 30), (nat_lit 31), (nat_lit 32), (nat_lit 33), (nat_lit 34), (nat_lit 35), (nat_lit 36), (nat_lit 37), (nat_lit 38), (nat_lit 39), (nat_lit 40), (nat_lit 41), (nat_lit 42)]))
noncomputable def k303d1 : KD := 
(dIf [] (wantT g23) p41 (dLook (nat_lit 20) [] [] (lkPick g31 q3 g40) p41 k303d0) k303d0)
noncomputable def k303d2 : KD := 
(dIf [] (wantF g31) p40 (dLook (nat_lit 19) [] [] (lkBin .leq g33 g39) p40 k303d1) k303d1)
noncomputable def k303d3 : KD := 
(dIf [] (wantF g31) p39 (dLook (nat_lit 18) [] [] (lkLoad1 g38) p39 k303d2) k303d2)
noncomputable def k303d4 : KD := 
(dIf [] (wantF g31) p38 (dLook (nat_lit 17) [] [] (lkFieldAddr (nat_lit 1) g37) p38 k303d3) k303d3)
noncomputable def k303d5 : KD := 
(dIf [] (wantF g31) p37 (dLook (nat_lit 16) [] [] (lkIxSl (nat_lit 2) g34 g36) p37 k303d4) k303d4)
noncomputable def k303d6 : KD := 
(dIf [] (wantF g31) p36 (dLook (nat_lit 15) [] [] (lkBin .sub g35 q12) p36 k303d5) k303d5)
noncomputable def k303d7 : KD := 
(dIf [] (wantF g31) p35 (dLook (nat_lit 14) [] [] (lkMove g6) p35 k303d6) k303d6)
noncomputable def k303d8 : KD := 
(dIf [] (wantF g31) p34 (dLook (nat_lit 13) [] [] (lkMove g3) p34 k303d7) k303d7)
noncomputable def k303d9 : KD := 
(dIf [] (wantF g31) p33 (dLook (nat_lit 12) [] [] (lkLoad1 g32) p33 k303d8) k303d8)
noncomputable def k303d10 : KD := 
(dIf [] (wantF g31) p32 (dLook (nat_lit 11) [] [] (lkFieldAddr (nat_lit 0) g5) p32 k303d9) k303d9)
noncomputable def k303d11 : KD := 
(dIf [] (wantT g23) p31 (dLook (nat_lit 10) [] [] (lkMove g30) p31 k303d10) k303d10)
noncomputable def k303d12 : KD := 
(dIf [] (wantT g23) p30 (dLook (nat_lit 9) [] [] (lkEq false .str g29 q104) p30 k303d11) k303d11)
noncomputable def k303d13 : KD := 
(dIf [] (wantT g23) p29 (dLook (nat_lit 8) [] [] (lkLoad1 g28) p29 k303d12) k303d12)
noncomputable def k303d14 : KD := 
(dIf [] (wantT g23) p28 (dLook (nat_lit 7) [] [] (lkFieldAddr (nat_lit 1) g27) p28 k303d13) k303d13)
noncomputable def k303d15 : KD := 
(dIf [] (wantT g23) p27 (dLook (nat_lit 6) [] [] (lkIxSl (nat_lit 2) g24 g26) p27 k303d14) k303d14)
noncomputable def k303d16 : KD := 
(dIf [] (wantT g23) p26 (dLook (nat_lit 5) [] [] (lkBin .sub g25 q12) p26 k303d15) k303d15)
noncomputable def k303d17 : KD := 
(dIf [] (wantT g23) p25 (dLook (nat_lit 4) [] [] (lkMove g6) p25 k303d16) k303d16)
noncomputable def k303d18 : KD := 
(dLook (nat_lit 18) [] [] (lkPick g52 g64 q0) p65 (dEnd [(nat_lit 47), (nat_lit 48), (nat_lit 49), (nat_lit 50), (nat_lit 51), (nat_lit 52), (nat_lit 53), (nat_lit 54), (nat_lit 55), (nat_lit 56), (nat_lit 57), (nat_lit 58), (nat_lit 59), (nat_lit 60), (nat_lit 61), (nat_lit 62), (nat_lit 63), (nat_lit 64), (nat_lit 65)]))
noncomputable def k303d19 : KD := 
(dIf [] (wantT g52) p64 (dLook (nat_lit 17) [] [] (lkPick g56 q3 g63) p64 k303d18) k303d18)
noncomputable def k303d20 : KD := 
(dIf [] (wantF g56) p63 (dLook (nat_lit 16) [] [] (lkBin .gtr g58 g62) p63 k303d19) k303d19)
noncomputable def k303d21 : KD := 
(dIf [] (wantF g56) p62 (dLook (nat_lit 15) [] [] (lkLoad1 g61) p62 k303d20) k303d20)
noncomputable def k303d22 : KD := 
(dIf [] (wantF g56) p61 (dLook (nat_lit 14) [] [] (lkFieldAddr (nat_lit 1) g60) p61 k303d21) k303d21)
noncomputable def k303d23 : KD := 
(dIf [] (wantF g56) p60 (dTurn (nat_lit 13) [] [] false (xNil g59) p60 k303d22) k303d22)
noncomputable def k303d24 : KD := 
(dIf [] (wantF g56) p59 (dLook (nat_lit 12) [] [] (lkMove g7) p59 k303d23) k303d23)
noncomputable def k303d25 : KD := 
(dIf [] (wantF g56) p58 (dLook (nat_lit 11) [] [] (lkLoad1 g57) p58 k303d24) k303d24)
noncomputable def k303d26 : KD := 
(dIf [] (wantF g56) p57 (dLook (nat_lit 10) [] [] (lkFieldAddr (nat_lit 1) g5) p57 k303d25) k303d25)
noncomputable def k303d27 : KD := 
(dIf [] (wantT g52) p56 (dLook (nat_lit 9) [] [] (lkMove g55) p56 k303d26) k303d26)
noncomputable def k303d28 : KD := 
(dIf [] (wantT g52) p55 (dLook (nat_lit 8) [] [] (lkEq false .str g54 q104) p55 k303d27) k303d27)
noncomputable def k303d29 : KD := 
(dIf [] (wantT g52) p54 (dLook (nat_lit 7) [] [] (lkLoad1 g53) p54 k303d28) k303d28)
noncomputable def k303 : KFun := ⟨[rTmp (nat_lit 2) g2], (kSeq (oSet (xMove q23) p2 
oEnd) (kSeq (oSet (xMove g0) p8 
(oSet (xCall q581 [g8]) p9 
(oSet (xCall q582 [g9, q583]) p10 
(oSet (xMove g10) p0 
oEnd)))) (kSeq (oSet (xMove g0) p11 
(oSet (xCall q584 [g11, q585]) p12 
oEnd)) (kSeq (oSet (xMove q23) p3 
oEnd) (kSeq (kSeq (oSet (xMove g0) p13 
(oSet (xLook (lkLen .sl g13)) p14 
(oSet (xMove q8) p15 
oEnd))) (kBlock (nat_lit 0) (kLoop (kSeq (oSet (xLook (lkBin .lss g15 g14)) p16 
oEnd) (kSeq (kCond g16 kSkip (kExit (nat_lit 0))) (kSeq (kBlock (nat_lit 1) (kSeq (oSet (xLook (lkIxSl (nat_lit 2) g13 g15)) p17 
(oSet (xLook (lkLoadN (nat_lit 2) g17)) p18 
(oSet (xTurn (tnAlloc q287)) p5 
(oDo (xTurn (tnStore (nat_lit 2) g5 g18)) 
oEnd)))) (kSeq (kSeq (oSet (xMove g3) p19 
(oSet (xLook (lkLen .sl g19)) p20 
(oSet (xMove g20) p6 
oEnd))) (kSeq (kDraw 
(dLook (nat_lit 0) [] [] (lkMove g6) p21 
(dLook (nat_lit 1) [] [] (lkBin .gtr g21 q8) p22 
(dLook (nat_lit 2) [] [] (lkMove g22) p23 
(dIf [] (wantT g23) p24 (dLook (nat_lit 3) [] [] (lkMove g3) p24 k303d17) k303d17))))) (kCond g42 (kSeq (kSeq (oSet (xMove g3) p43 
(oSet (xMove g6) p44 
(oSet (xLook (lkBin .sub g44 q12)) p45 
(oSet (xLook (lkIxSl (nat_lit 2) g43 g45)) p46 
(oSet (xMove g46) p7 
oEnd))))) (kSeq (kDraw 
(dLook (nat_lit 0) [] [] (lkMove g7) p47 
(dTurn (nat_lit 1) [] [] false (xNil g47) p48 
(dLook (nat_lit 2) [] [] (lkFieldAddr (nat_lit 1) g48) p49 
(dLook (nat_lit 3) [] [] (lkLoad1 g49) p50 
(dLook (nat_lit 4) [] [] (lkEq true .str g50 q104) p51 
(dLook (nat_lit 5) [] [] (lkMove g51) p52 
(dIf [] (wantT g52) p53 (dLook (nat_lit 6) [] [] (lkFieldAddr (nat_lit 1) g5) p53 k303d29) k303d29)))))))) (kCond g65 (oSet (xMove g7) p66 
(oSet (xLook (lkFieldAddr (nat_lit 1) g5)) p67 
(oSet (xLook (lkLoad1 g67)) p68 
(oSet (xNil g66) p69 
(oSet (xLook (lkFieldAddr (nat_lit 1) g69)) p70 
(oDo (xTurn (tnStore (nat_lit 1) g70 g68)) 
oEnd)))))) kSkip))) (kExit (nat_lit 1))) kSkip))) (oSet (xMove g3) p71 
(oSet (xLook (lkLoadN (nat_lit 2) g5)) p72 
(oSet (xTurn (tnBuildSlice q287 [((nat_lit 0), (nat_lit 2), g72)] (nat_lit 1))) p73 
(oSet (xTurn (tnAppend (nat_lit 2) g71 g73)) p74 
(oSet (xMove g74) p3 
oEnd)))))))) (oSet (xLook (lkBin .add g15 q12)) p75 
(oSet (xMove g75) p15 
oEnd)))))))) (kSeq (oSet (xMove g3) p76 
(oSet (xMove g76) p2 
oEnd)) kRet))))))⟩
noncomputable def k304 : KFun := ⟨[rTmp (nat_lit 2) g2], (kSeq (oSet (xTurn (tnBox g0)) p1 
(oSet (xMove q53) p2 
oEnd)) (kSeq (oSet (xLook (lkMkFunc (.func (nat_lit 352)) [] [g1])) p3 
(oSet (xMove g3) p2 
oEnd)) kRet))⟩
noncomputable def k305 : KFun := ⟨[rTmp (nat_lit 2) g2], (kSeq (oSet (xTurn (tnBox g0)) p1 
(oSet (xMove q53) p2 
oEnd)) (kSeq (oSet (xLook (lkMkFunc (.func (nat_lit 353)) [] [g1])) p3 
(oSet (xMove g3) p2 
oEnd)) kRet))⟩
def q587 : OpdF := kC (.func (.func (nat_lit 354)) ⟨[]⟩ ⟨[]⟩)
noncomputable def k313 : KFun := ⟨[rTmp (nat_lit 2) g2], (kSeq (oSet (xMove q8) p2 
oEnd) (kSeq (oSet (xMove q88) p3 
oEnd) (kSeq (kSeq (oSet (xMove g0) p6 
(oSet (xLook (lkLen .sl g6)) p7 
(oSet (xMove q8) p8 
oEnd))) (kBlock (nat_lit 0) (kLoop (kSeq (oSet (xLook (lkBin .lss g8 g7)) p9 
oEnd) (kSeq (kCond g9 kSkip (kExit (nat_lit 0))) (kSeq (kBlock (nat_lit 1) (kSeq (oSet (xLook (lkIxSl (nat_lit 2) g6 g8)) p10 
(oSet (xLook (lkLoadN (nat_lit 2) g10)) p11 
(oSet (xTurn (tnAlloc q35)) p5 
(oDo (xTurn (tnStore (nat_lit 2) g5 g11)) 
oEnd)))) (kSeq (kSeq (oSet (xLook (lkFieldAddr (nat_lit 1) g5)) p12 
(oSet (xLook (lkLoad1 g12)) p13 
(oSet (xLook (lkBin .lss g13 q12)) p14 
(oSet (xMove g14) p15 
(oSetIf (wantF g15) (xLook (lkFieldAddr (nat_lit 0) g5)) p16 
(oSetIf (wantF g15) (xLook (lkLoad1 g16)) p17 
(oSetIf (wantF g15) (xMove g3) p18 
(oSetIf (wantF g15) (xLook (lkBin .leq g17 g18)) p19 
(oSet (xLook (lkPick g15 q3 g19)) p20 
(oSet (xMove g20) p21 
(oSetIf (wantF g21) (xLook (lkFieldAddr (nat_lit 0) g5)) p22 
(oSetIf (wantF g21) (xLook (lkLoad1 g22)) p23 
(oSetIf (wantF g21) (xLook (lkBin .lss g23 q8)) p24 
(oSet (xLook (lkPick g21 q3 g24)) p25 
(oSet (xMove g25) p26 
(oSetIf (wantF g26) (xLook (lkFieldAddr (nat_lit 0) g5)) p27 
(oSetIf (wantF g26) (xLook (lkLoad1 g27)) p28 
(oSetIf (wantF g26) (xLook (lkBin .gtr g28 q85)) p29 
(oSet (xLook (lkPick g26 q3 g29)) p30 
(oSet (xMove g30) p31 
(oSetIf (wantF g31) (xLook (lkFieldAddr (nat_lit 1) g5)) p32 
(oSetIf (wantF g31) (xLook (lkLoad1 g32)) p33 
(oSetIf (wantF g31) (xLook (lkFieldAddr (nat_lit 0) g5)) p34 
(oSetIf (wantF g31) (xLook (lkLoad1 g34)) p35 
(oSetIf (wantF g31) (xLook (lkBin .sub q85 g35)) p36 
(oSetIf (wantF g31) (xLook (lkBin .gtr g33 g36)) p37 
(oSet (xLook (lkPick g31 q3 g37)) p38 
oEnd))))))))))))))))))))))))))) (kCond g38 (kSeq (oSet (xMove q9) p2 
oEnd) kRet) kSkip)) (oSet (xLook (lkLoadN (nat_lit 2) g5)) p39 
(oSet (xCall q587 [g39]) p40 
(oSet (xMove g40) p3 
oEnd)))))) (oSet (xLook (lkBin .add g8 q12)) p41 
(oSet (xMove g41) p8 
oEnd)))))))) (kSeq (oSet (xMove q8) p2 
oEnd) kRet))))⟩
noncomputable def k314 : KFun := ⟨[rTmp (nat_lit 4) g4], (kSeq (oSet (xMove q8) p4 
oEnd) (kSeq (kSeq (oSet (xMove g0) p6 
(oSet (xLook (lkLen .sl g6)) p7 
(oSet (xMove q8) p8 
oEnd))) (kBlock (nat_lit 0) (kLoop (kSeq (oSet (xLook (lkBin .lss g8 g7)) p9 
oEnd) (kSeq (kCond g9 kSkip (kExit (nat_lit 0))) (kSeq (kBlock (nat_lit 1) (kSeq (oSet (xMove g8) p10 
(oSet (xMove g10) p5 
oEnd)) (kSeq (oSet (xMove g1) p11 
(oSet (xMove g0) p12 
(oSet (xMove g5) p13 
(oSet (xLook (lkIxSl (nat_lit 2) g12 g13)) p14 
(oSet (xLook (lkLoadN (nat_lit 2) g14)) p15 
(oSet (xCall g11 [g15]) p16 
oEnd)))))) (kCond g16 (kSeq (oSet (xMove g5) p17 
(oSet (xMove g17) p4 
oEnd)) kRet) kSkip)))) (oSet (xLook (lkBin .add g8 q12)) p18 
(oSet (xMove g18) p8 
oEnd)))))))) (kSeq (oSet (xMove q88) p4 
oEnd) kRet)))⟩
noncomputable def k315 : KFun := ⟨[rTmp (nat_lit 3) g3], (kSeq (oSet (xTurn (tnBox g0)) p2 
(oSet (xMove q0) p3 
oEnd)) (kSeq (oSet (xLook (lkFieldAddr (nat_lit 1) g2)) p4 
(oSet (xLook (lkLoad1 g4)) p5 
(oSet (xLook (lkLoad1 g1)) p6 
(oSet (xLook (lkBin .geq g5 g6)) p7 
(oSet (xMove g7) p3 
oEnd))))) kRet))⟩
def q588 : OpdF := kC (.func (.func (nat_lit 356)) ⟨[]⟩ ⟨[]⟩)
def q589 : OpdF := kC (.func (.func (nat_lit 355)) ⟨[]⟩ ⟨[]⟩)
def q590 : OpdF := kC (.func (.func (nat_lit 357)) ⟨[]⟩ ⟨[]⟩)
noncomputable def k316 : KFun := ⟨[rTmp (nat_lit 8) g8], (kSeq (oSet (xMove q23) p8 
oEnd) (kSeq (oSet (xMove g0) p12 
(oSet (xMove g1) p13 
(oSet (xLook (lkIxSl (nat_lit 2) g12 g13)) p14 
(oSet (xLook (lkLoadN (nat_lit 2) g14)) p15 
(oSet (xTurn (tnAlloc q35)) p9 
(oDo (xTurn (tnStore (nat_lit 2) g9 g15)) 
oEnd)))))) (kSeq (oSet (xMove q23) p10 
oEnd) (kSeq (kSeq (oSet (xMove g2) p16 
(oSet (xLook (lkFieldAddr (nat_lit 0) g9)) p17 
(oSet (xLook (lkLoad1 g17)) p18 
(oSet (xLook (lkBin .gtr g16 g18)) p19 
oEnd)))) (kCond g19 (oSet (xMove g10) p20 
(oSet (xLook (lkFieldAddr (nat_lit 0) g9)) p21 
(oSet (xLook (lkLoad1 g21)) p22 
(oSet (xMove g2) p23 
(oSet (xLook (lkFieldAddr (nat_lit 0) g9)) p24 
(oSet (xLook (lkLoad1 g24)) p25 
(oSet (xLook (lkBin .sub g23 g25)) p26 
(oSet (xLook (lkBuild q35 [((nat_lit 0), (nat_lit 1), g22), ((nat_lit 1), (nat_lit 1), g26)])) p27 
(oSet (xTurn (tnBuildSlice q35 [((nat_lit 0), (nat_lit 2), g27)] (nat_lit 1))) p28 
(oSet (xTurn (tnAppend (nat_lit 2) g20 g28)) p29 
(oSet (xMove g29) p10 
oEnd))))))))))) kSkip)) (kSeq (kSeq (oSet (xMove g2) p30 
(oSet (xMove g3) p31 
(oSet (xLook (lkBin .add g30 g31)) p32 
(oSet (xLook (lkLoadN (nat_lit 2) g9)) p33 
(oSet (xCall q587 [g33]) p34 
(oSet (xLook (lkBin .lss g32 g34)) p35 
oEnd)))))) (kCond g35 (oSet (xMove g10) p36 
(oSet (xMove g2) p37 
(oSet (xMove g3) p38 
(oSet (xLook (lkBin .add g37 g38)) p39 
(oSet (xLook (lkLoadN (nat_lit 2) g9)) p40 
(oSet (xCall q587 [g40]) p41 
(oSet (xMove g2) p42 
(oSet (xLook (lkBin .sub g41 g42)) p43 
(oSet (xMove g3) p44 
(oSet (xLook (lkBin .sub g43 g44)) p45 
(oSet (xLook (lkBuild q35 [((nat_lit 0), (nat_lit 1), g39), ((nat_lit 1), (nat_lit 1), g45)])) p46 
(oSet (xTurn (tnBuildSlice q35 [((nat_lit 0), (nat_lit 2), g46)] (nat_lit 1))) p47 
(oSet (xTurn (tnAppend (nat_lit 2) g36 g47)) p48 
(oSet (xMove g48) p10 
oEnd)))))))))))))) kSkip)) (kSeq (oSet (xMove g0) p49 
(oSet (xCall q588 [g49]) p50 
(oSet (xMove g1) p51 
(oSet (xMove g1) p52 
(oSet (xLook (lkBin .add g52 q12)) p53 
(oSet (xCall q589 [g50, g51, g53]) p54 
(oSet (xMove g54) p11 
oEnd))))))) (kSeq (oSet (xMove g11) p55 
(oSet (xMove g1) p56 
(oSet (xMove g10) p57 
(oSet (xCall q590 [g55, g56, g57]) p58 
(oSet (xMove g58) p8 
oEnd))))) kRet)))))))⟩
def q591 : OpdF := kC (.func (.func (nat_lit 318)) ⟨[]⟩ ⟨[]⟩)
noncomputable def k317 : KFun := ⟨[], (kSeq (oSet (xTurn (tnBox g0)) p2 
oEnd) (kSeq (oSet (xLook (lkLoadN (nat_lit 2) g2)) p4 
(oSet (xCall q98 [g4]) p5 
(oSet (xMove g5) p3 
oEnd))) (kSeq (oSet (xMove g3) p6 
(oSet (xLook (lkBin .gtr g6 q8)) p7 
(oSet (xMove g7) p8 
(oSetIf (wantT g8) (xLook (lkFieldAddr (nat_lit 0) g2)) p9 
(oSetIf (wantT g8) (xLook (lkLoad1 g9)) p10 
(oSetIf (wantT g8) (xLook (lkBin .gtr g10 q8)) p11 
(oSet (xLook (lkPick g8 g11 q0)) p12 
oEnd))))))) (kCond g12 (oSet (xLook (lkLoad1 g1)) p14 
(oSet (xLook (lkFieldAddr (nat_lit 0) g2)) p15 
(oSet (xLook (lkLoad1 g15)) p16 
(oSet (xMove g3) p17 
(oSet (xCall q591 [g14, g16, g17]) p18 
(oSet (xMove g18) p13 
(oSet (xLook (lkExtract (nat_lit 0) g13)) p19 
(oSet (xLook (lkExtract (nat_lit 1) g13)) p20 
(oDo (xTurn (tnStore (nat_lit 1) g1 g19)) 
oEnd))))))))) kSkip))))⟩
def q592 : OpdF := kC (.func (.func (nat_lit 358)) ⟨[]⟩ ⟨[]⟩)
def q593 : OpdF := kC (.func (.func (nat_lit 359)) ⟨[]⟩ ⟨[]⟩)
noncomputable def k318 : KFun := ⟨[rTmp (nat_lit 6) g6, rTmp (nat_lit 7) g7], (kSeq (oSet (xMove q23) p6 
(oSet (xMove q8) p7 
oEnd)) (kSeq (kSeq (oSet (xMove g0) p9 
(oSet (xMove g1) p10 
(oSet (xMove g2) p11 
(oSet (xCall q592 [g9, g10, g11]) p12 
oEnd)))) (kCond g12 (kSeq (oSet (xMove q23) p6 
(oSet (xMove q9) p7 
oEnd)) kRet) kSkip)) (kSeq (oSet (xMove g0) p13 
(oSet (xMove g1) p14 
(oSet (xCall q593 [g13, g14]) p15 
(oSet (xMove g15) p8 
oEnd)))) (kSeq (kSeq (oSet (xMove g8) p16 
(oSet (xMove g0) p17 
(oSet (xLook (lkLen .sl g17)) p18 
(oSet (xLook (lkEq false .int g16 g18)) p19 
(oSet (xMove g19) p20 
(oSetIf (wantF g20) (xMove g0) p21 
(oSetIf (wantF g20) (xMove g8) p22 
(oSetIf (wantF g20) (xLook (lkIxSl (nat_lit 2) g21 g22)) p23 
(oSetIf (wantF g20) (xLook (lkFieldAddr (nat_lit 0) g23)) p24 
(oSetIf (wantF g20) (xLook (lkLoad1 g24)) p25 
(oSetIf (wantF g20) (xMove g1) p26 
(oSetIf (wantF g20) (xLook (lkBin .gtr g25 g26)) p27 
(oSet (xLook (lkPick g20 q3 g27)) p28 
(oSet (xMove g28) p29 
(oSetIf (wantF g29) (xMove g0) p30 
(oSetIf (wantF g29) (xMove g8) p31 
(oSetIf (wantF g29) (xLook (lkIxSl (nat_lit 2) g30 g31)) p32 
(oSetIf (wantF g29) (xLook (lkLoadN (nat_lit 2) g32)) p33 
(oSetIf (wantF g29) (xCall q587 [g33]) p34 
(oSetIf (wantF g29) (xMove g1) p35 
(oSetIf (wantF g29) (xMove g2) p36 
(oSetIf (wantF g29) (xLook (lkBin .add g35 g36)) p37 
(oSetIf (wantF g29) (xLook (lkBin .lss g34 g37)) p38 
(oSet (xLook (lkPick g29 q3 g38)) p39 
oEnd)))))))))))))))))))))))) (kCond g39 (kSeq (oSet (xMove q23) p6 
(oSet (xMove q22) p7 
oEnd)) kRet) kSkip)) (kSeq (oSet (xMove g0) p40 
(oSet (xMove g8) p41 
(oSet (xMove g1) p42 
(oSet (xMove g2) p43 
(oSet (xCall q538 [g40, g41, g42, g43]) p44 
(oSet (xMove g44) p6 
(oSet (xMove q8) p7 
oEnd))))))) kRet)))))⟩
def q594 : OpdF := kC (.int .i64 (.ofNat (nat_lit 78913)))
noncomputable def k321 : KFun := ⟨[rTmp (nat_lit 2) g2], (kSeq (oSet (xMove q8) p2 
oEnd) (kSeq (oSet (xMove g0) p3 
(oSet (xLook (lkBin .mul g3 q594)) p4 
(oSet (xLook (lkBin .shr g4 q516)) p5 
(oSet (xMove g5) p2 
oEnd)))) kRet))⟩
noncomputable def k322 : KFun := ⟨[rTmp (nat_lit 2) g2], (kSeq (oSet (xMove q8) p2 
oEnd) (kSeq (kSeq (oSet (xMove g0) p3 
oEnd) (kCond g3 (kSeq (oSet (xMove q12) p2 
oEnd) kRet) kSkip)) (kSeq (oSet (xMove q8) p2 
oEnd) kRet)))⟩
noncomputable def k323 : KFun := ⟨[rTmp (nat_lit 2) g2], (kSeq (oSet (xMove q0) p2 
oEnd) (kSeq (oSet (xMove g0) p3 
(oSet (xMove g0) p4 
(oSet (xLook (lkBin .sub g4 q12)) p5 
(oSet (xLook (lkBin .and g3 g5)) p6 
(oSet (xLook (lkEq false .int g6 q8)) p7 
(oSet (xMove g7) p2 
oEnd)))))) kRet))⟩
def q595 : OpdF := kC (.func (.func (nat_lit 360)) ⟨[]⟩ ⟨[]⟩)
def q596 : OpdF := kC (.func (.func (nat_lit 361)) ⟨[]⟩ ⟨[]⟩)
noncomputable def k324 : KFun := ⟨[rTmp (nat_lit 2) g2], (kSeq (oSet (xMove q8) p2 
oEnd) (kSeq (kCond q0 (kSeq (oSet (xMove g0) p3 
(oSet (xLook (lkIntTo .u32 g3)) p4 
(oSet (xCall q595 [g4]) p5 
(oSet (xMove g5) p2 
oEnd)))) kRet) kSkip) (kSeq (oSet (xMove g0) p6 
(oSet (xCall q596 [g6]) p7 
(oSet (xMove g7) p2 
oEnd))) kRet)))⟩
noncomputable def k344 : KFun := ⟨[], (kSeq (oSet (xLook (lkLoad1 g1)) p4 
(oSet (xTurn (tnRangeMap g4)) p5 
oEnd)) (kBlock (nat_lit 0) (kLoop (kSeq (oSet (xNextMap g5) p6 
(oSet (xLook (lkExtract (nat_lit 0) g6)) p7 
oEnd)) (kSeq (kCond g7 kSkip (kExit (nat_lit 0))) (kBlock (nat_lit 1) (kSeq (oSet (xLook (lkEntry g5)) p8 
(oSet (xLook (lkExtract (nat_lit 0) g8)) p9 
(oSet (xMove g9) p3 
oEnd))) (kSeq (oSet (xMove g0) p10 
(oSet (xMove g3) p11 
(oSet (xCall g10 [g11]) p12 
(oSet (xLook (lkUn .not g12)) p13 
oEnd)))) (kCond g13 kRet kSkip)))))))))⟩
def q609 : OpdF := kC (.func (.func (nat_lit 374)) ⟨[]⟩ ⟨[]⟩)
noncomputable def k345 : KFun := ⟨[rTmp (nat_lit 4) g4], (kSeq (oSet (xMove q23) p4 
oEnd) (kSeq (oSet (xMove g0) p8 
(oSet (xMove g1) p9 
(oSet (xCall q609 [g8, g9]) p10 
(oSet (xMove g10) p5 
oEnd)))) (kSeq (kSeq (oSet (xMove g5) p11 
(oSet (xLook (lkEq false .int g11 q88)) p12 
oEnd)) (kCond g12 (kSeq (oSet (xMove g0) p13 
(oSet (xMove g13) p4 
oEnd)) kRet) kSkip)) (kSeq (kSeq (oSet (xMove g5) p14 
(oSet (xLook (lkBin .add g14 q12)) p15 
(oSet (xMove g15) p6 
oEnd))) (kBlock (nat_lit 0) (kLoop (kSeq (kSeq (oSet (xMove g6) p16 
(oSet (xMove g0) p17 
(oSet (xLook (lkLen .sl g17)) p18 
(oSet (xLook (lkBin .lss g16 g18)) p19 
oEnd)))) (kCond g19 kSkip (kExit (nat_lit 0)))) (kSeq (kBlock (nat_lit 1) (kSeq (oSet (xMove g0) p22 
(oSet (xMove g6) p23 
(oSet (xLook (lkIxSl (nat_lit 2) g22 g23)) p24 
(oSet (xLook (lkLoadN (nat_lit 2) g24)) p25 
(oSet (xTurn (tnAlloc q287)) p7 
(oDo (xTurn (tnStore (nat_lit 2) g7 g25)) 
oEnd)))))) (kSeq (oSet (xMove g1) p26 
(oSet (xLook (lkLoadN (nat_lit 2) g7)) p27 
(oSet (xCall g26 [g27]) p28 
(oSet (xLook (lkUn .not g28)) p29 
oEnd)))) (kCond g29 (kSeq (oSet (xMove g0) p30 
(oSet (xMove g5) p31 
(oSet (xLook (lkLoadN (nat_lit 2) g7)) p32 
(oSet (xLook (lkIxSl (nat_lit 2) g30 g31)) p33 
(oDo (xTurn (tnStore (nat_lit 2) g33 g32)) 
oEnd))))) (oSet (xMove g5) p34 
(oSet (xLook (lkBin .add g34 q12)) p35 
(oSet (xMove g35) p5 
oEnd)))) kSkip)))) (oSet (xMove g6) p20 
(oSet (xLook (lkBin .add g20 q12)) p21 
(oSet (xMove g21) p6 
oEnd)))))))) (kSeq (oSet (xMove g0) p36 
(oSet (xMove g5) p37 
(oSet (xLook (lkSliceSl (nat_lit 2) g36 (some g37) none none)) p38 
(oDo (xTurn (tnClear q287 g38)) 
oEnd)))) (kSeq (oSet (xMove g0) p39 
(oSet (xMove g5) p40 
(oSet (xLook (lkSliceSl (nat_lit 2) g39 none (some g40) none)) p41 
(oSet (xMove g41) p4 
oEnd)))) kRet))))))⟩
noncomputable def k346 : KFun := ⟨[rTmp (nat_lit 2) g2], (kSeq (oSet (xMove q23) p2 
oEnd) (kSeq (kSeq (oSet (xMove g0) p3 
(oSet (xLook (lkEq false .slice g3 q23)) p4 
oEnd)) (kCond g4 (kSeq (oSet (xMove q23) p2 
oEnd) kRet) kSkip)) (kSeq (oSet (xTurn (tnBuildSlice [] [] (nat_lit 0))) p5 
(oSet (xMove g0) p6 
(oSet (xTurn (tnAppend (nat_lit 2) g5 g6)) p7 
(oSet (xMove g7) p2 
oEnd)))) kRet)))⟩
def q611 : OpdF := kC (.func (.func (nat_lit 376)) ⟨[]⟩ ⟨[]⟩)
noncomputable def k348 : KFun := ⟨[], (kSeq (oSet (xMove g0) p5 
(oSet (xLook (lkLen .sl g5)) p6 
(oSet (xMove g6) p4 
oEnd))) (oSet (xMove g0) p7 
(oSet (xMove g4) p8 
(oSet (xMove g4) p9 
(oSet (xLook (lkIntTo .u64 g9)) p10 
(oSet (xCall q122 [g10]) p11 
(oSet (xMove g1) p12 
(oSet (xCall q611 [g7, q8, g8, g11, g12]) p13 
oEnd))))))))⟩
noncomputable def k352 : KFun := ⟨[], (kSeq (oSet (xLook (lkLoad1 g1)) p4 
(oSet (xTurn (tnRangeMap g4)) p5 
oEnd)) (kBlock (nat_lit 0) (kLoop (kSeq (oSet (xNextMap g5) p6 
(oSet (xLook (lkExtract (nat_lit 0) g6)) p7 
oEnd)) (kSeq (kCond g7 kSkip (kExit (nat_lit 0))) (kBlock (nat_lit 1) (kSeq (oSet (xLook (lkEntry g5)) p8 
(oSet (xLook (lkExtract (nat_lit 0) g8)) p9 
(oSet (xMove g9) p3 
oEnd))) (kSeq (oSet (xMove g0) p10 
(oSet (xMove g3) p11 
(oSet (xCall g10 [g11]) p12 
(oSet (xLook (lkUn .not g12)) p13 
oEnd)))) (kCond g13 kRet kSkip)))))))))⟩
noncomputable def k353 : KFun := ⟨[], (kSeq (oSet (xLook (lkLoad1 g1)) p4 
(oSet (xTurn (tnRangeMap g4)) p5 
oEnd)) (kBlock (nat_lit 0) (kLoop (kSeq (oSet (xNextMap g5) p6 
(oSet (xLook (lkExtract (nat_lit 0) g6)) p7 
oEnd)) (kSeq (kCond g7 kSkip (kExit (nat_lit 0))) (kBlock (nat_lit 1) (kSeq (oSet (xLook (lkEntry g5)) p8 
(oSet (xLook (lkExtract (nat_lit 0) g8)) p9 
(oSet (xMove g9) p3 
oEnd))) (kSeq (oSet (xMove g0) p10 
(oSet (xMove g3) p11 
(oSet (xCall g10 [g11]) p12 
(oSet (xLook (lkUn .not g12)) p13 
oEnd)))) (kCond g13 kRet kSkip)))))))))⟩
noncomputable def k354 : KFun := ⟨[rTmp (nat_lit 2) g2], (kSeq (oSet (xTurn (tnBox g0)) p1 
(oSet (xMove q8) p2 
oEnd)) (kSeq (oSet (xLook (lkFieldAddr (nat_lit 0) g1)) p3 
(oSet (xLook (lkLoad1 g3)) p4 
(oSet (xLook (lkFieldAddr (nat_lit 1) g1)) p5 
(oSet (xLook (lkLoad1 g5)) p6 
(oSet (xLook (lkBin .add g4 g6)) p7 
(oSet (xMove g7) p2 
oEnd)))))) kRet))⟩
noncomputable def k355 : KFun := ⟨[rTmp (nat_lit 6) g6], (kSeq (oSet (xMove q23) p6 
oEnd) (kSeq (oSet (xMove g0) p8 
(oSet (xMove g1) p9 
(oSet (xMove g2) p10 
(oSet (xMove g0) p11 
(oSet (xLook (lkLen .sl g11)) p12 
(oSet (xLook (lkSliceSl (nat_lit 2) g8 (some g9) (some g10) (some g12))) p13 
oEnd)))))) (kSeq (kSeq (oSet (xMove g1) p14 
(oSet (xMove g2) p15 
(oSet (xLook (lkEq false .int g14 g15)) p16 
oEnd))) (kCond g16 (kSeq (oSet (xMove g0) p17 
(oSet (xMove g17) p6 
oEnd)) kRet) kSkip)) (kSeq (oSet (xMove g0) p18 
(oSet (xLook (lkLen .sl g18)) p19 
(oSet (xMove g19) p7 
oEnd))) (kSeq (kDraw 
(dLook (nat_lit 0) [] [] (lkMove g0) p20 
(dLook (nat_lit 1) [] [] (lkMove g1) p21 
(dLook (nat_lit 2) [] [] (lkSliceSl (nat_lit 2) g20 none (some g21) none) p22 
(dLook (nat_lit 3) [] [] (lkMove g0) p23 
(dLook (nat_lit 4) [] [] (lkMove g2) p24 
(dLook (nat_lit 5) [] [] (lkSliceSl (nat_lit 2) g23 (some g24) none none) p25 
(dTurn (nat_lit 6) [] [] true (xTurn (tnAppend (nat_lit 2) g22 g25)) p26 
(dLook (nat_lit 7) [] [(nat_lit 6)] (lkMove g26) p0 (dEnd [(nat_lit 20), (nat_lit 21), (nat_lit 22), (nat_lit 23), (nat_lit 24), (nat_lit 25), (nat_lit 26), (nat_lit 0)])))))))))) (kSeq (oSet (xMove g0) p27 
(oSet (xMove g0) p28 
(oSet (xLook (lkLen .sl g28)) p29 
(oSet (xMove g7) p30 
(oSet (xLook (lkSliceSl (nat_lit 2) g27 (some g29) (some g30) none)) p31 
(oDo (xTurn (tnClear q35 g31)) 
oEnd)))))) (kSeq (oSet (xMove g0) p32 
(oSet (xMove g32) p6 
oEnd)) kRet)))))))⟩
noncomputable def k356 : KFun := ⟨[rTmp (nat_lit 2) g2], (kSeq (oSet (xMove q23) p2 
oEnd) (kSeq (kSeq (oSet (xMove g0) p3 
(oSet (xLook (lkEq false .slice g3 q23)) p4 
oEnd)) (kCond g4 (kSeq (oSet (xMove q23) p2 
oEnd) kRet) kSkip)) (kSeq (oSet (xTurn (tnBuildSlice [] [] (nat_lit 0))) p5 
(oSet (xMove g0) p6 
(oSet (xTurn (tnAppend (nat_lit 2) g5 g6)) p7 
(oSet (xMove g7) p2 
oEnd)))) kRet)))⟩
def q614 : OpdF := kC (.func (.func (nat_lit 377)) ⟨[]⟩ ⟨[]⟩)
def q615 : OpdF := kC (.func (.func (nat_lit 378)) ⟨[]⟩ ⟨[]⟩)
noncomputable def k357 : KFun := ⟨[rTmp (nat_lit 6) g6], (kSeq (oSet (xMove q23) p6 
oEnd) (kSeq (oSet (xMove g0) p10 
(oSet (xMove g1) p11 
(oSet (xLook (lkSliceSl (nat_lit 2) g10 (some g11) none none)) p12 
oEnd))) (kSeq (oSet (xMove g2) p13 
(oSet (xLook (lkLen .sl g13)) p14 
(oSet (xMove g14) p7 
oEnd))) (kSeq (kSeq (oSet (xMove g7) p15 
(oSet (xLook (lkEq false .int g15 q8)) p16 
oEnd)) (kCond g16 (kSeq (oSet (xMove g0) p17 
(oSet (xMove g17) p6 
oEnd)) kRet) kSkip)) (kSeq (oSet (xMove g0) p18 
(oSet (xLook (lkLen .sl g18)) p19 
(oSet (xMove g19) p8 
oEnd))) (kSeq (kSeq (oSet (xMove g1) p20 
(oSet (xMove g8) p21 
(oSet (xLook (lkEq false .int g20 g21)) p22 
oEnd))) (kCond g22 (kSeq (oSet (xMove g0) p23 
(oSet (xMove g2) p24 
(oSet (xTurn (tnAppend (nat_lit 2) g23 g24)) p25 
(oSet (xMove g25) p6 
oEnd)))) kRet) kSkip)) (kSeq (kSeq (oSet (xMove g8) p26 
(oSet (xMove g7) p27 
(oSet (xLook (lkBin .add g26 g27)) p28 
(oSet (xMove g0) p29 
(oSet (xLook (lkCap g29)) p30 
(oSet (xLook (lkBin .gtr g28 g30)) p31 
oEnd)))))) (kCond g31 (kSeq (oSet (xMove g0) p32 
(oSet (xMove g1) p33 
(oSet (xLook (lkSliceSl (nat_lit 2) g32 none (some g33) none)) p34 
(oSet (xMove g8) p35 
(oSet (xMove g7) p36 
(oSet (xLook (lkBin .add g35 g36)) p37 
(oSet (xMove g1) p38 
(oSet (xLook (lkBin .sub g37 g38)) p39 
(oSet (xTurn (tnAppendZ q35 g34 g39)) p40 
(oSet (xMove g40) p9 
oEnd)))))))))) (kSeq (oSet (xMove g9) p41 
(oSet (xMove g1) p42 
(oSet (xLook (lkSliceSl (nat_lit 2) g41 (some g42) none none)) p43 
(oSet (xMove g2) p44 
(oSet (xTurn (tnCopy (nat_lit 2) g43 g44)) p45 
oEnd))))) (kSeq (kDraw 
(dLook (nat_lit 0) [] [] (lkMove g9) p46 
(dLook (nat_lit 1) [] [] (lkMove g1) p47 
(dLook (nat_lit 2) [] [] (lkMove g7) p48 
(dLook (nat_lit 3) [] [] (lkBin .add g47 g48) p49 
(dLook (nat_lit 4) [] [] (lkSliceSl (nat_lit 2) g46 (some g49) none none) p50 
(dLook (nat_lit 5) [] [] (lkMove g0) p51 
(dLook (nat_lit 6) [] [] (lkMove g1) p52 
(dLook (nat_lit 7) [] [] (lkSliceSl (nat_lit 2) g51 (some g52) none none) p53 
(dTurn (nat_lit 8) [] [] true (xTurn (tnCopy (nat_lit 2) g50 g53)) p54 (dEnd [(nat_lit 46), (nat_lit 47), (nat_lit 48), (nat_lit 49), (nat_lit 50), (nat_lit 51), (nat_lit 52), (nat_lit 53), (nat_lit 54)]))))))))))) (kSeq (oSet (xMove g9) p55 
(oSet (xMove g55) p6 
oEnd)) kRet)))) kSkip)) (kSeq (oSet (xMove g0) p56 
(oSet (xMove g8) p57 
(oSet (xMove g7) p58 
(oSet (xLook (lkBin .add g57 g58)) p59 
(oSet (xLook (lkSliceSl (nat_lit 2) g56 none (some g59) none)) p60 
(oSet (xMove g60) p0 
oEnd)))))) (kSeq (kSeq (oSet (xMove g2) p61 
(oSet (xMove g0) p62 
(oSet (xMove g1) p63 
(oSet (xMove g7) p64 
(oSet (xLook (lkBin .add g63 g64)) p65 
(oSet (xLook (lkSliceSl (nat_lit 2) g62 (some g65) none none)) p66 
(oSet (xCall q614 [g61, g66]) p67 
(oSet (xLook (lkUn .not g67)) p68 
oEnd)))))))) (kCond g68 (kSeq (kDraw 
(dLook (nat_lit 0) [] [] (lkMove g0) p69 
(dLook (nat_lit 1) [] [] (lkMove g1) p70 
(dLook (nat_lit 2) [] [] (lkMove g7) p71 
(dLook (nat_lit 3) [] [] (lkBin .add g70 g71) p72 
(dLook (nat_lit 4) [] [] (lkSliceSl (nat_lit 2) g69 (some g72) none none) p73 
(dLook (nat_lit 5) [] [] (lkMove g0) p74 
(dLook (nat_lit 6) [] [] (lkMove g1) p75 
(dLook (nat_lit 7) [] [] (lkSliceSl (nat_lit 2) g74 (some g75) none none) p76 
(dTurn (nat_lit 8) [] [] true (xTurn (tnCopy (nat_lit 2) g73 g76)) p77 (dEnd [(nat_lit 69), (nat_lit 70), (nat_lit 71), (nat_lit 72), (nat_lit 73), (nat_lit 74), (nat_lit 75), (nat_lit 76), (nat_lit 77)]))))))))))) (kSeq (oSet (xMove g0) p78 
(oSet (xMove g1) p79 
(oSet (xLook (lkSliceSl (nat_lit 2) g78 (some g79) none none)) p80 
(oSet (xMove g2) p81 
(oSet (xTurn (tnCopy (nat_lit 2) g80 g81)) p82 
oEnd))))) (kSeq (oSet (xMove g0) p83 
(oSet (xMove g83) p6 
oEnd)) kRet))) kSkip)) (kSeq (oSet (xMove g0) p84 
(oSet (xMove g8) p85 
(oSet (xLook (lkSliceSl (nat_lit 2) g84 (some g85) none none)) p86 
(oSet (xMove g2) p87 
(oSet (xTurn (tnCopy (nat_lit 2) g86 g87)) p88 
oEnd))))) (kSeq (oSet (xMove g0) p89 
(oSet (xMove g1) p90 
(oSet (xLook (lkSliceSl (nat_lit 2) g89 (some g90) none none)) p91 
(oSet (xMove g7) p92 
(oSet (xCall q615 [g91, g92]) p93 
oEnd))))) (kSeq (oSet (xMove g0) p94 
(oSet (xMove g94) p6 
oEnd)) kRet))))))))))))⟩
noncomputable def k358 : KFun := ⟨[rTmp (nat_lit 6) g6], (kSeq (oSet (xMove q0) p6 
oEnd) (kSeq (oSet (xMove g0) p7 
(oSet (xCall q536 [g7]) p8 
(oSet (xLook (lkEq true .int g8 q8)) p9 
(oSet (xMove g9) p10 
(oSetIf (wantF g10) (xMove g2) p11 
(oSetIf (wantF g10) (xLook (lkBin .lss g11 q12)) p12 
(oSet (xLook (lkPick g10 q3 g12)) p13 
(oSet (xMove g13) p14 
(oSetIf (wantF g14) (xMove g1) p15 
(oSetIf (wantF g14) (xLook (lkBin .lss g15 q8)) p16 
(oSet (xLook (lkPick g14 q3 g16)) p17 
(oSet (xMove g17) p18 
(oSetIf (wantF g18) (xMove g1) p19 
(oSetIf (wantF g18) (xLook (lkBin .geq g19 q85)) p20 
(oSet (xLook (lkPick g18 q3 g20)) p21 
(oSet (xMove g21) p22 
(oSetIf (wantF g22) (xMove g2) p23 
(oSetIf (wantF g22) (xMove g1) p24 
(oSetIf (wantF g22) (xLook (lkBin .sub q85 g24)) p25 
(oSetIf (wantF g22) (xLook (lkBin .gtr g23 g25)) p26 
(oSet (xLook (lkPick g22 q3 g26)) p27 
(oSet (xMove g27) p6 
oEnd)))))))))))))))))))))) kRet))⟩
def q616 : OpdF := kC (.func (.func (nat_lit 379)) ⟨[]⟩ ⟨[]⟩)
def q617 : OpdF := kC (.func (.func (nat_lit 380)) ⟨[]⟩ ⟨[]⟩)
noncomputable def k359 : KFun := ⟨[rTmp (nat_lit 4) g4], (kSeq (oSet (xMove q8) p4 
oEnd) (kSeq (oSet (xMove g0) p8 
(oSet (xMove g1) p9 
(oSet (xCall q616 [g8, g9, q617]) p10 
(oSet (xMove g10) p7 
(oSet (xLook (lkExtract (nat_lit 0) g7)) p11 
(oSet (xLook (lkExtract (nat_lit 1) g7)) p12 
(oSet (xMove g11) p5 
(oSet (xMove g12) p6 
oEnd)))))))) (kSeq (oSet (xMove g5) p13 
(oSet (xMove g13) p4 
oEnd)) kRet)))⟩
def q618 : OpdF := kC (.int .u32 (.ofNat (nat_lit 125613361)))
def q619 : OpdF := kC (.int .u64 (.ofNat (nat_lit 27)))
noncomputable def k360 : KFun := ⟨[rTmp (nat_lit 2) g2], (kSeq (oSet (xMove q8) p2 
oEnd) (kSeq (kSeq (oSet (xMove g0) p3 
(oSet (xLook (lkEq false .int g3 q422)) p4 
oEnd)) (kCond g4 (kSeq (oSet (xMove q69) p2 
oEnd) kRet) kSkip)) (kSeq (oSet (xMove g0) p5 
(oSet (xMove g0) p6 
(oSet (xLook (lkUn .neg g6)) p7 
(oSet (xLook (lkBin .and g5 g7)) p8 
(oSet (xLook (lkBin .mul g8 q618)) p9 
(oSet (xLook (lkBin .shr g9 q619)) p10 
(oSet (xBad "indexAddr") p11 
(oSet (xLook (lkLoad1 g11)) p12 
(oSet (xLook (lkIntTo .i64 g12)) p13 
(oSet (xMove g13) p2 
oEnd)))))))))) kRet)))⟩
def q620 : OpdF := kC (.int .u64 (.ofNat (nat_lit 285870213051353865)))
def q621 : OpdF := kC (.int .u64 (.ofNat (nat_lit 58)))
noncomputable def k361 : KFun := ⟨[rTmp (nat_lit 2) g2], (kSeq (oSet (xMove q8) p2 
oEnd) (kSeq (kSeq (oSet (xMove g0) p3 
(oSet (xLook (lkEq false .int g3 q417)) p4 
oEnd)) (kCond g4 (kSeq (oSet (xMove q180) p2 
oEnd) kRet) kSkip)) (kSeq (oSet (xMove g0) p5 
(oSet (xMove g0) p6 
(oSet (xLook (lkUn .neg g6)) p7 
(oSet (xLook (lkBin .and g5 g7)) p8 
(oSet (xLook (lkBin .mul g8 q620)) p9 
(oSet (xLook (lkBin .shr g9 q621)) p10 
(oSet (xBad "indexAddr") p11 
(oSet (xLook (lkLoad1 g11)) p12 
(oSet (xLook (lkIntTo .i64 g12)) p13 
(oSet (xMove g13) p2 
oEnd)))))))))) kRet)))⟩
noncomputable def k374 : KFun := ⟨[rTmp (nat_lit 4) g4], (kSeq (oSet (xMove q8) p4 
oEnd) (kSeq (kSeq (oSet (xMove g0) p6 
(oSet (xLook (lkLen .sl g6)) p7 
(oSet (xMove q8) p8 
oEnd))) (kBlock (nat_lit 0) (kLoop (kSeq (oSet (xLook (lkBin .lss g8 g7)) p9 
oEnd) (kSeq (kCond g9 kSkip (kExit (nat_lit 0))) (kSeq (kBlock (nat_lit 1) (kSeq (oSet (xMove g8) p10 
(oSet (xMove g10) p5 
oEnd)) (kSeq (oSet (xMove g1) p11 
(oSet (xMove g0) p12 
(oSet (xMove g5) p13 
(oSet (xLook (lkIxSl (nat_lit 2) g12 g13)) p14 
(oSet (xLook (lkLoadN (nat_lit 2) g14)) p15 
(oSet (xCall g11 [g15]) p16 
oEnd)))))) (kCond g16 (kSeq (oSet (xMove g5) p17 
(oSet (xMove g17) p4 
oEnd)) kRet) kSkip)))) (oSet (xLook (lkBin .add g8 q12)) p18 
(oSet (xMove g18) p8 
oEnd)))))))) (kSeq (oSet (xMove q88) p4 
oEnd) kRet)))⟩
def q628 : OpdF := kC (.func (.func (nat_lit 387)) ⟨[]⟩ ⟨[]⟩)
def q629 : OpdF := kC (.func (.func (nat_lit 388)) ⟨[]⟩ ⟨[]⟩)
def q630 : OpdF := kC (.func (.func (nat_lit 389)) ⟨[]⟩ ⟨[]⟩)
def q631 : OpdF := kC (.func (.func (nat_lit 390)) ⟨[]⟩ ⟨[]⟩)
def q632 : OpdF := kC (.func (.func (nat_lit 391)) ⟨[]⟩ ⟨[]⟩)
def q633 : OpdF := kC (.func (.func (nat_lit 392)) ⟨[]⟩ ⟨[]⟩)
noncomputable def k376d0 : KD := 
(dLook (nat_lit 16) [] [(nat_lit 13)] (lkPick g83 g96 q0) p97 (dEnd [(nat_lit 81), (nat_lit 82), (nat_lit 83), (nat_lit 84), (nat_lit 85), (nat_lit 86), (nat_lit 87), (nat_lit 88), (nat_lit 89), (nat_lit 90), (nat_lit 91), (nat_lit 92), (nat_lit 93), (nat_lit 94), (nat_lit 95), (nat_lit 96), (nat_lit 97)]))
noncomputable def k376d1 : KD := 
(dIf [(nat_lit 13)] (wantT g83) p96 (dLook (nat_lit 15) [] [(nat_lit 13)] (lkUn .not g95) p96 k376d0) k376d0)
noncomputable def k376d2 : KD := 
(dIf [(nat_lit 13)] (wantT g83) p95 (dLook (nat_lit 14) [] [(nat_lit 13)] (lkBin .lss g94 q8) p95 k376d1) k376d1)
noncomputable def k376d3 : KD := 
(dIf [] (wantT g83) p94 (dTurn (nat_lit 13) [] [] true (xCall g84 [g89, g93]) p94 k376d2) k376d2)
noncomputable def k376d4 : KD := 
(dIf [] (wantT g83) p93 (dLook (nat_lit 12) [] [] (lkLoadN (nat_lit 2) g92) p93 k376d3) k376d3)
noncomputable def k376d5 : KD := 
(dIf [] (wantT g83) p92 (dLook (nat_lit 11) [] [] (lkIxSl (nat_lit 2) g90 g91) p92 k376d4) k376d4)
noncomputable def k376d6 : KD := 
(dIf [] (wantT g83) p91 (dLook (nat_lit 10) [] [] (lkMove g13) p91 k376d5) k376d5)
noncomputable def k376d7 : KD := 
(dIf [] (wantT g83) p90 (dLook (nat_lit 9) [] [] (lkMove g0) p90 k376d6) k376d6)
noncomputable def k376d8 : KD := 
(dIf [] (wantT g83) p89 (dLook (nat_lit 8) [] [] (lkLoadN (nat_lit 2) g88) p89 k376d7) k376d7)
noncomputable def k376d9 : KD := 
(dIf [] (wantT g83) p88 (dLook (nat_lit 7) [] [] (lkIxSl (nat_lit 2) g85 g87) p88 k376d8) k376d8)
noncomputable def k376d10 : KD := 
(dIf [] (wantT g83) p87 (dLook (nat_lit 6) [] [] (lkBin .sub g86 q12) p87 k376d9) k376d9)
noncomputable def k376d11 : KD := 
(dIf [] (wantT g83) p86 (dLook (nat_lit 5) [] [] (lkMove g1) p86 k376d10) k376d10)
noncomputable def k376d12 : KD := 
(dIf [] (wantT g83) p85 (dLook (nat_lit 4) [] [] (lkMove g0) p85 k376d11) k376d11)
def q634 : OpdF := kC (.func (.func (nat_lit 393)) ⟨[]⟩ ⟨[]⟩)
def q635 : OpdF := kC (.func (.func (nat_lit 394)) ⟨[]⟩ ⟨[]⟩)
noncomputable def k376 : KFun := ⟨[], (kSeq (oSet (xMove q3) p10 
oEnd) (kSeq (oSet (xMove q3) p11 
oEnd) (kBlock (nat_lit 0) (kLoop (kBlock (nat_lit 1) (kSeq (oSet (xMove g2) p21 
(oSet (xMove g1) p22 
(oSet (xLook (lkBin .sub g21 g22)) p23 
(oSet (xMove g23) p12 
oEnd)))) (kSeq (kSeq (oSet (xMove g12) p24 
(oSet (xLook (lkBin .leq g24 q235)) p25 
oEnd)) (kCond g25 (kSeq (oSet (xMove g0) p26 
(oSet (xMove g1) p27 
(oSet (xMove g2) p28 
(oSet (xMove g4) p29 
(oSet (xCall q628 [g26, g27, g28, g29]) p30 
oEnd))))) kRet) kSkip)) (kSeq (kSeq (oSet (xMove g3) p31 
(oSet (xLook (lkEq false .int g31 q8)) p32 
oEnd)) (kCond g32 (kSeq (oSet (xMove g0) p33 
(oSet (xMove g1) p34 
(oSet (xMove g2) p35 
(oSet (xMove g4) p36 
(oSet (xCall q629 [g33, g34, g35, g36]) p37 
oEnd))))) kRet) kSkip)) (kSeq (kSeq (oSet (xMove g10) p38 
(oSet (xLook (lkUn .not g38)) p39 
oEnd)) (kCond g39 (kSeq (oSet (xMove g0) p40 
(oSet (xMove g1) p41 
(oSet (xMove g2) p42 
(oSet (xMove g4) p43 
(oSet (xCall q630 [g40, g41, g42, g43]) p44 
oEnd))))) (oSet (xMove g3) p45 
(oSet (xLook (lkBin .sub g45 q12)) p46 
(oSet (xMove g46) p3 
oEnd)))) kSkip)) (kSeq (oSet (xMove g0) p48 
(oSet (xMove g1) p49 
(oSet (xMove g2) p50 
(oSet (xMove g4) p51 
(oSet (xCall q631 [g48, g49, g50, g51]) p52 
(oSet (xMove g52) p47 
(oSet (xLook (lkExtract (nat_lit 0) g47)) p53 
(oSet (xLook (lkExtract (nat_lit 1) g47)) p54 
(oSet (xMove g53) p13 
(oSet (xMove g54) p14 
oEnd)))))))))) (kSeq (kSeq (oSet (xMove g14) p55 
(oSet (xLook (lkEq false .int g55 q9)) p56 
oEnd)) (kCond g56 (kSeq (oSet (xMove g0) p57 
(oSet (xMove g1) p58 
(oSet (xMove g2) p59 
(oSet (xMove g4) p60 
(oSet (xCall q632 [g57, g58, g59, g60]) p61 
oEnd))))) (kSeq (oSet (xMove g2) p62 
(oSet (xLook (lkBin .sub g62 q12)) p63 
(oSet (xMove g13) p64 
(oSet (xMove g1) p65 
(oSet (xLook (lkBin .sub g64 g65)) p66 
(oSet (xLook (lkBin .sub g63 g66)) p67 
(oSet (xMove g67) p13 
oEnd))))))) (oSet (xMove q12) p14 
oEnd))) kSkip)) (kSeq (kSeq (oSet (xMove g10) p68 
(oSet (xMove g68) p69 
(oSetIf (wantT g69) (xMove g11) p70 
(oSet (xLook (lkPick g69 g70 q0)) p71 
(oSet (xMove g71) p72 
(oSetIf (wantT g72) (xMove g14) p73 
(oSetIf (wantT g72) (xLook (lkEq false .int g73 q12)) p74 
(oSet (xLook (lkPick g72 g74 q0)) p75 
oEnd)))))))) (kCond g75 (kSeq (oSet (xMove g0) p76 
(oSet (xMove g1) p77 
(oSet (xMove g2) p78 
(oSet (xMove g4) p79 
(oSet (xCall q633 [g76, g77, g78, g79]) p80 
oEnd))))) (kCond g80 kRet kSkip)) kSkip)) (kSeq (kSeq (kDraw 
(dLook (nat_lit 0) [] [] (lkMove g1) p81 
(dLook (nat_lit 1) [] [] (lkBin .gtr g81 q8) p82 
(dLook (nat_lit 2) [] [] (lkMove g82) p83 
(dIf [] (wantT g83) p84 (dLook (nat_lit 3) [] [] (lkMove g4) p84 k376d12) k376d12))))) (kCond g97 (kSeq (oSet (xMove g0) p98 
(oSet (xMove g1) p99 
(oSet (xMove g2) p100 
(oSet (xMove g13) p101 
(oSet (xMove g4) p102 
(oSet (xCall q634 [g98, g99, g100, g101, g102]) p103 
(oSet (xMove g103) p15 
oEnd))))))) (kSeq (oSet (xMove g15) p104 
(oSet (xMove g104) p1 
oEnd)) (kExit (nat_lit 1)))) kSkip)) (kSeq (oSet (xMove g0) p106 
(oSet (xMove g1) p107 
(oSet (xMove g2) p108 
(oSet (xMove g13) p109 
(oSet (xMove g4) p110 
(oSet (xCall q635 [g106, g107, g108, g109, g110]) p111 
(oSet (xMove g111) p105 
(oSet (xLook (lkExtract (nat_lit 0) g105)) p112 
(oSet (xLook (lkExtract (nat_lit 1) g105)) p113 
(oSet (xMove g112) p16 
(oSet (xMove g113) p17 
oEnd))))))))))) (kSeq (oSet (xMove g17) p114 
(oSet (xMove g114) p11 
oEnd)) (kSeq (oSet (xMove g16) p115 
(oSet (xMove g1) p116 
(oSet (xLook (lkBin .sub g115 g116)) p117 
(oSet (xMove g2) p118 
(oSet (xMove g16) p119 
(oSet (xLook (lkBin .sub g118 g119)) p120 
(oSet (xMove g117) p18 
(oSet (xMove g120) p19 
oEnd)))))))) (kSeq (oSet (xMove g12) p121 
(oSet (xLook (lkBin .quo g121 q41)) p122 
(oSet (xMove g122) p20 
oEnd))) (kSeq (oSet (xMove g18) p123 
(oSet (xMove g19) p124 
(oSet (xLook (lkBin .lss g123 g124)) p125 
oEnd))) (kCond g125 (kSeq (oSet (xMove g18) p126 
(oSet (xMove g20) p127 
(oSet (xLook (lkBin .geq g126 g127)) p128 
(oSet (xMove g128) p10 
oEnd)))) (kSeq (oSet (xMove g0) p129 
(oSet (xMove g1) p130 
(oSet (xMove g16) p131 
(oSet (xMove g3) p132 
(oSet (xMove g4) p133 
(oSet (xCall q611 [g129, g130, g131, g132, g133]) p134 
oEnd)))))) (oSet (xMove g16) p135 
(oSet (xLook (lkBin .add g135 q12)) p136 
(oSet (xMove g136) p1 
oEnd))))) (kSeq (oSet (xMove g19) p137 
(oSet (xMove g20) p138 
(oSet (xLook (lkBin .geq g137 g138)) p139 
(oSet (xMove g139) p10 
oEnd)))) (kSeq (oSet (xMove g0) p140 
(oSet (xMove g16) p141 
(oSet (xLook (lkBin .add g141 q12)) p142 
(oSet (xMove g2) p143 
(oSet (xMove g3) p144 
(oSet (xMove g4) p145 
(oSet (xCall q611 [g140, g142, g143, g144, g145]) p146 
oEnd))))))) (oSet (xMove g16) p147 
(oSet (xMove g147) p2 
oEnd)))))))))))))))))))))))⟩
noncomputable def k379 : KFun := ⟨[rTmp (nat_lit 6) g6, rTmp (nat_lit 7) g7], (kSeq (oSet (xMove q8) p6 
(oSet (xMove q0) p7 
oEnd)) (kSeq (oSet (xMove g0) p12 
(oSet (xLook (lkLen .sl g12)) p13 
(oSet (xMove g13) p8 
oEnd))) (kSeq (oSet (xMove g8) p14 
(oSet (xMove q8) p9 
(oSet (xMove g14) p10 
oEnd))) (kSeq (kBlock (nat_lit 0) (kLoop (kSeq (kSeq (oSet (xMove g9) p15 
(oSet (xMove g10) p16 
(oSet (xLook (lkBin .lss g15 g16)) p17 
oEnd))) (kCond g17 kSkip (kExit (nat_lit 0)))) (kBlock (nat_lit 1) (kSeq (oSet (xMove g9) p18 
(oSet (xMove g10) p19 
(oSet (xLook (lkBin .add g18 g19)) p20 
(oSet (xLook (lkIntTo .u64 g20)) p21 
(oSet (xLook (lkBin .shr g21 q316)) p22 
(oSet (xLook (lkIntTo .i64 g22)) p23 
(oSet (xMove g23) p11 
oEnd))))))) (kSeq (oSet (xMove g2) p24 
(oSet (xMove g0) p25 
(oSet (xMove g11) p26 
(oSet (xLook (lkIxSl (nat_lit 2) g25 g26)) p27 
(oSet (xLook (lkLoadN (nat_lit 2) g27)) p28 
(oSet (xMove g1) p29 
(oSet (xCall g24 [g28, g29]) p30 
(oSet (xLook (lkBin .lss g30 q8)) p31 
oEnd)))))))) (kCond g31 (oSet (xMove g11) p32 
(oSet (xLook (lkBin .add g32 q12)) p33 
(oSet (xMove g33) p9 
oEnd))) (oSet (xMove g11) p34 
(oSet (xMove g34) p10 
oEnd))))))))) (kSeq (oSet (xMove g9) p35 
(oSet (xMove g9) p36 
(oSet (xMove g8) p37 
(oSet (xLook (lkBin .lss g36 g37)) p38 
(oSet (xMove g38) p39 
(oSetIf (wantT g39) (xMove g2) p40 
(oSetIf (wantT g39) (xMove g0) p41 
(oSetIf (wantT g39) (xMove g9) p42 
(oSetIf (wantT g39) (xLook (lkIxSl (nat_lit 2) g41 g42)) p43 
(oSetIf (wantT g39) (xLook (lkLoadN (nat_lit 2) g43)) p44 
(oSetIf (wantT g39) (xMove g1) p45 
(oSetIf (wantT g39) (xCall g40 [g44, g45]) p46 
(oSetIf (wantT g39) (xLook (lkEq false .int g46 q8)) p47 
(oSet (xLook (lkPick g39 g47 q0)) p48 
(oSet (xMove g35) p6 
(oSet (xMove g48) p7 
oEnd)))))))))))))))) kRet)))))⟩
noncomputable def k380 : KFun := ⟨[rTmp (nat_lit 4) g4], (kSeq (oSet (xTurn (tnBox g0)) p2 
(oSet (xMove q8) p4 
oEnd)) (kSeq (kSeq (oSet (xLook (lkLoadN (nat_lit 2) g2)) p5 
(oSet (xCall q587 [g5]) p6 
(oSet (xMove g1) p7 
(oSet (xLook (lkBin .leq g6 g7)) p8 
oEnd)))) (kCond g8 (kSeq (oSet (xMove q88) p4 
oEnd) kRet) kSkip)) (kSeq (oSet (xMove q12) p4 
oEnd) kRet)))⟩
noncomputable def k387d0 : KD := 
(dLook (nat_lit 16) [] [(nat_lit 14)] (lkPick g21 g33 q0) p34 (dEnd [(nat_lit 18), (nat_lit 19), (nat_lit 20), (nat_lit 21), (nat_lit 22), (nat_lit 23), (nat_lit 24), (nat_lit 25), (nat_lit 26), (nat_lit 27), (nat_lit 28), (nat_lit 29), (nat_lit 30), (nat_lit 31), (nat_lit 32), (nat_lit 33), (nat_lit 34)]))
noncomputable def k387d1 : KD := 
(dIf [(nat_lit 14)] (wantT g21) p33 (dLook (nat_lit 15) [] [(nat_lit 14)] (lkBin .lss g32 q8) p33 k387d0) k387d0)
noncomputable def k387d2 : KD := 
(dIf [] (wantT g21) p32 (dTurn (nat_lit 14) [] [] true (xCall g22 [g26, g31]) p32 k387d1) k387d1)
noncomputable def k387d3 : KD := 
(dIf [] (wantT g21) p31 (dLook (nat_lit 13) [] [] (lkLoadN (nat_lit 2) g30) p31 k387d2) k387d2)
noncomputable def k387d4 : KD := 
(dIf [] (wantT g21) p30 (dLook (nat_lit 12) [] [] (lkIxSl (nat_lit 2) g27 g29) p30 k387d3) k387d3)
noncomputable def k387d5 : KD := 
(dIf [] (wantT g21) p29 (dLook (nat_lit 11) [] [] (lkBin .sub g28 q12) p29 k387d4) k387d4)
noncomputable def k387d6 : KD := 
(dIf [] (wantT g21) p28 (dLook (nat_lit 10) [] [] (lkMove g9) p28 k387d5) k387d5)
noncomputable def k387d7 : KD := 
(dIf [] (wantT g21) p27 (dLook (nat_lit 9) [] [] (lkMove g0) p27 k387d6) k387d6)
noncomputable def k387d8 : KD := 
(dIf [] (wantT g21) p26 (dLook (nat_lit 8) [] [] (lkLoadN (nat_lit 2) g25) p26 k387d7) k387d7)
noncomputable def k387d9 : KD := 
(dIf [] (wantT g21) p25 (dLook (nat_lit 7) [] [] (lkIxSl (nat_lit 2) g23 g24) p25 k387d8) k387d8)
noncomputable def k387d10 : KD := 
(dIf [] (wantT g21) p24 (dLook (nat_lit 6) [] [] (lkMove g9) p24 k387d9) k387d9)
noncomputable def k387d11 : KD := 
(dIf [] (wantT g21) p23 (dLook (nat_lit 5) [] [] (lkMove g0) p23 k387d10) k387d10)
noncomputable def k387 : KFun := ⟨[], (kSeq (oSet (xMove g1) p10 
(oSet (xLook (lkBin .add g10 q12)) p11 
(oSet (xMove g11) p8 
oEnd))) (kBlock (nat_lit 0) (kLoop (kSeq (kSeq (oSet (xMove g8) p12 
(oSet (xMove g2) p13 
(oSet (xLook (lkBin .lss g12 g13)) p14 
oEnd))) (kCond g14 kSkip (kExit (nat_lit 0)))) (kSeq (kBlock (nat_lit 1) (kSeq (oSet (xMove g8) p17 
(oSet (xMove g17) p9 
oEnd)) (kBlock (nat_lit 2) (kLoop (kSeq (kSeq (kDraw 
(dLook (nat_lit 0) [] [] (lkMove g9) p18 
(dLook (nat_lit 1) [] [] (lkMove g1) p19 
(dLook (nat_lit 2) [] [] (lkBin .gtr g18 g19) p20 
(dLook (nat_lit 3) [] [] (lkMove g20) p21 
(dIf [] (wantT g21) p22 (dLook (nat_lit 4) [] [] (lkMove g3) p22 k387d11) k387d11)))))) (kCond g34 kSkip (kExit (nat_lit 2)))) (kSeq (kBlock (nat_lit 3) (kDraw 
(dLook (nat_lit 0) [] [] (lkMove g0) p37 
(dLook (nat_lit 1) [] [] (lkMove g9) p38 
(dLook (nat_lit 2) [] [] (lkMove g0) p39 
(dLook (nat_lit 3) [] [] (lkMove g9) p40 
(dLook (nat_lit 4) [] [] (lkBin .sub g40 q12) p41 
(dLook (nat_lit 5) [] [] (lkMove g0) p42 
(dLook (nat_lit 6) [] [] (lkMove g9) p43 
(dLook (nat_lit 7) [] [] (lkBin .sub g43 q12) p44 
(dLook (nat_lit 8) [] [] (lkIxSl (nat_lit 2) g42 g44) p45 
(dLook (nat_lit 9) [] [] (lkLoadN (nat_lit 2) g45) p46 
(dLook (nat_lit 10) [] [] (lkMove g0) p47 
(dLook (nat_lit 11) [] [] (lkMove g9) p48 
(dLook (nat_lit 12) [] [] (lkIxSl (nat_lit 2) g47 g48) p49 
(dLook (nat_lit 13) [] [] (lkLoadN (nat_lit 2) g49) p50 
(dLook (nat_lit 14) [] [] (lkIxSl (nat_lit 2) g37 g38) p51 
(dTurn (nat_lit 15) [] [] true (xTurn (tnStore (nat_lit 2) g51 g46)) noDst 
(dLook (nat_lit 16) [] [(nat_lit 15)] (lkIxSl (nat_lit 2) g39 g41) p52 
(dTurn (nat_lit 17) [] [(nat_lit 15)] true (xTurn (tnStore (nat_lit 2) g52 g50)) noDst (dEnd [(nat_lit 37), (nat_lit 38), (nat_lit 39), (nat_lit 40), (nat_lit 41), (nat_lit 42), (nat_lit 43), (nat_lit 44), (nat_lit 45), (nat_lit 46), (nat_lit 47), (nat_lit 48), (nat_lit 49), (nat_lit 50), (nat_lit 51), (nat_lit 52)]))))))))))))))))))))) (oSet (xMove g9) p35 
(oSet (xLook (lkBin .sub g35 q12)) p36 
(oSet (xMove g36) p9 
oEnd))))))))) (oSet (xMove g8) p15 
(oSet (xLook (lkBin .add g15 q12)) p16 
(oSet (xMove g16) p8 
oEnd))))))))⟩
noncomputable def tab : Tr KFun := (.node none (.node none (.node (some k3) (.node (some k7) (.node (some k15) (.node (some k31) (.node none (.node none (.node (some k255) .nil .nil) .nil) .nil) (.node (some k95) .nil (.node (some k223) .nil .nil))) (.node (some k47) (.node (some k79) (.node (some k143) .nil .nil) (.node (some k207) .nil .nil)) (.node (some k111) (.node none (.node (some k303) .nil .nil) .nil) (.node (some k239) .nil .nil)))) (.node (some k23) (.node (some k39) (.node none (.node (some k135) .nil .nil) (.node (some k199) .nil .nil)) (.node (some k103) (.node (some k167) .nil .nil) (.node none (.node (some k359) .nil .nil) .nil))) (.node (some k55) (.node (some k87) (.node none (.node (some k279) .nil .nil) .nil) .nil) (.node (some k119) (.node (some k183) .nil .nil) .nil)))) (.node none (.node (some k19) (.node (some k35) (.node (some k67) (.node (some k131) (.node (some k259) .nil .nil) (.node (some k387) .nil .nil)) (.node none (.node (some k323) .nil .nil) .nil)) (.node none .nil (.node none (.node (some k355) .nil .nil) .nil))) (.node (some k51) (.node none (.node (some k147) .nil .nil) .nil) (.node (some k115) .nil (.node (some k243) .nil .nil)))) (.node (some k27) (.node (some k43) (.node (some k75) (.node (some k139) (.node (some k267) .nil .nil) .nil) .nil) (.node (some k107) (.node none (.node (some k299) .nil .nil) .nil) .nil)) (.node (some k59) (.node (some k91) (.node (some k155) (.node (some k283) .nil .nil) .nil) (.node (some k219) .nil .nil)) (.node none (.node (some k187) (.node (some k315) .nil .nil) .nil) (.node none (.node (some k379) .nil .nil) .nil)))))) (.node (some k5) (.node (some k9) (.node (some k17) (.node (some k33) (.node (some k65) (.node (some k129) .nil .nil) (.node none (.node (some k321) .nil .nil) .nil)) (.node (some k97) .nil (.node none (.node (some k353) .nil .nil) .nil))) (.node (some k49) (.node (some k81) (.node (some k145) (.node (some k273) .nil .nil) .nil) (.node (some k209) .nil .nil)) (.node (some k113) (.node (some k177) (.node (some k305) .nil .nil) .nil) .nil))) (.node (some k25) (.node (some k41) (.node (some k73) (.node (some k137) .nil .nil) (.node (some k201) .nil .nil)) (.node (some k105) (.node (some k169) .nil .nil) (.node none (.node (some k361) .nil .nil) .nil))) (.node (some k57) (.node (some k89) (.node (some k153) (.node (some k281) .nil .nil) .nil) (.node none (.node (some k345) .nil .nil) .nil)) (.node none (.node (some k185) (.node (some k313) .nil .nil) .nil) .nil)))) (.node (some k13) (.node (some k21) (.node (some k37) (.node none (.node none (.node (some k261) .nil .nil) .nil) (.node (some k197) .nil .nil)) (.node (some k101) .nil (.node (some k229) (.node (some k357) .nil .nil) .nil))) (.node (some k53) (.node (some k85) (.node (some k149) .nil .nil) (.node (some k213) .nil .nil)) (.node (some k117) (.node (some k181) .nil .nil) .nil))) (.node (some k29) (.node (some k45) (.node (some k77) (.node (some k141) .nil .nil) .nil) (.node (some k109) .nil .nil)) (.node (some k61) (.node (some k93) (.node none (.node (some k285) .nil .nil) .nil) (.node (some k221) .nil .nil)) (.node (some k125) (.node (some k189) (.node (some k317) .nil .nil) .nil) .nil)))))) (.node none (.node none (.node (some k8) (.node (some k16) (.node (some k32) (.node (some k64) .nil (.node (some k192) .nil .nil)) (.node (some k96) .nil (.node none (.node (some k352) .nil .nil) .nil))) (.node (some k48) (.node (some k80) (.node (some k144) .nil .nil) (.node (some k208) .nil .nil)) (.node (some k112) (.node (some k176) (.node (some k304) .nil .nil) .nil) .nil))) (.node none (.node (some k40) (.node none (.node (some k136) (.node (some k264) .nil .nil) .nil) .nil) (.node (some k104) (.node (some k168) .nil .nil) (.node none (.node (some k360) .nil .nil) .nil))) (.node (some k56) (.node (some k88) (.node (some k152) (.node (some k280) .nil .nil) .nil) (.node (some k216) (.node (some k344) .nil .nil) .nil)) (.node (some k120) (.node (some k184) .nil .nil) (.node none (.node (some k376) .nil .nil) .nil))))) (.node (some k12) (.node (some k20) (.node (some k36) (.node none (.node none (.node (some k260) .nil .nil) .nil) (.node none (.node (some k324) .nil .nil) .nil)) (.node (some k100) .nil (.node none (.node (some k356) .nil .nil) .nil))) (.node (some k52) (.node (some k84) (.node (some k148) .nil .nil) .nil) (.node (some k116) (.node (some k180) .nil .nil) (.node (some k244) .nil .nil)))) (.node (some k28) (.node (some k44) (.node (some k76) (.node (some k140) .nil .nil) .nil) (.node (some k108) (.node (some k172) (.node (some k300) .nil .nil) .nil) .nil)) (.node (some k60) (.node (some k92) (.node (some k156) (.node (some k284) .nil .nil) .nil) (.node (some k220) (.node (some k348) .nil .nil) .nil)) (.node (some k124) (.node (some k188) (.node (some k316) .nil .nil) .nil) (.node (some k252) (.node (some k380) .nil .nil) .nil)))))) (.node (some k6) (.node (some k10) (.node (some k18) (.node (some k34) (.node (some k66) (.node (some k130) .nil .nil) (.node none (.node (some k322) .nil .nil) .nil)) (.node none .nil (.node none (.node (some k354) .nil .nil) .nil))) (.node (some k50) (.node none (.node (some k146) (.node (some k274) .nil .nil) .nil) (.node (some k210) .nil .nil)) (.node none .nil (.node (some k242) .nil .nil)))) (.node (some k26) (.node (some k42) (.node (some k74) (.node (some k138) .nil .nil) .nil) (.node none (.node (some k170) .nil .nil) .nil)) (.node (some k58) (.node (some k90) (.node (some k154) (.node (some k282) .nil .nil) .nil) (.node (some k218) (.node (some k346) .nil .nil) .nil)) (.node none (.node (some k186) (.node (some k314) .nil .nil) .nil) .nil)))) (.node (some k14) (.node (some k22) (.node (some k38) (.node (some k70) (.node (some k134) (.node (some k262) .nil .nil) .nil) (.node (some k198) .nil .nil)) (.node (some k102) (.node (some k166) .nil .nil) (.node none (.node (some k358) .nil .nil) .nil))) (.node (some k54) (.node (some k86) (.node none (.node (some k278) .nil .nil) .nil) (.node (some k214) .nil .nil)) (.node (some k118) (.node (some k182) .nil .nil) (.node (some k246) (.node (some k374) .nil .nil) .nil)))) (.node (some k30) (.node (some k46) (.node (some k78) (.node (some k142) .nil .nil) (.node (some k206) .nil .nil)) (.node (some k110) (.node (some k174) (.node (some k302) .nil .nil) .nil) (.node (some k238) .nil .nil))) (.node (some k62) (.node (some k94) .nil .nil) (.node none (.node (some k190) (.node (some k318) .nil .nil) .nil) (.node (some k254) .nil .nil))))))))
end Go.Proofs.YtobifggnopkeeaaGreatDoor.Eng
