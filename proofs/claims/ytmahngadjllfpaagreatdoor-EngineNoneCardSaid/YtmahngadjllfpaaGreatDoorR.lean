/-
  The law's call runs to true on the abstract machine, for every argument. No condition.
-/
import Derived.Test.YtmahngadjllfpaaGreatDoorW
namespace Go.Proofs.YtmahngadjllfpaaGreatDoor.Eng
open Go Go.Eng
set_option linter.unusedVariables false
set_option maxRecDepth 100000

noncomputable def k3b (b0 : Bool) : KFun := ⟨[rTmp (nat_lit 4) g4], (kSeq (oSet (xMove q0) p4 
oEnd) (kSeq (kSeq (oSet (xMove g0) p22 
(oSet (xLook (lkLen .str g22)) p23 
(oSet (xLook (fun t h => optV none (fun _ => some (.bool b0)) ((lkBin .gtr g23 q1) t h))) p24 
oEnd))) (kCond g24 (kSeq (oSet (xMove q2) p4 
oEnd) kRet) kSkip)) (kSeq (oSet (xLook (lkBuild q3 [])) p25 
(oSet (xTurn (tnBox g25)) p26 
(oSet (xTurn (tnBuildSlice q4 [((nat_lit 0), (nat_lit 1), q5), ((nat_lit 1), (nat_lit 1), g26)] (nat_lit 2))) p27 
(oSet (xMove g27) p5 
oEnd)))) (kSeq (kSeq (oSet (xMove q6) p6 
oEnd) (kBlock (nat_lit 0) (kLoop (kSeq (kSeq (oSet (xMove g6) p28 
(oSet (xMove g5) p29 
(oSet (xLook (lkLen .sl g29)) p30 
(oSet (xLook (lkBin .lss g28 g30)) p31 
oEnd)))) (kCond g31 kSkip (kExit (nat_lit 0)))) (kSeq (kBlock (nat_lit 1) (kSeq (oSet (xMove g5) p34 
(oSet (xMove g6) p35 
(oSet (xLook (lkIxSl (nat_lit 1) g34 g35)) p36 
(oSet (xLook (lkLoad1 g36)) p37 
(oSet (xMove g37) p7 
oEnd))))) (kSeq (oSet (xMove g7) p39 
(oSet (xMove g0) p40 
(oSet (xLook (lkBuild q7 [])) p41 
(oSet (xCall q8 [g39, g40, g41]) p42 
(oSet (xMove g42) p38 
(oSet (xLook (lkExtract (nat_lit 0) g38)) p43 
(oSet (xLook (lkExtract (nat_lit 1) g38)) p44 
(oSet (xMove g43) p8 
(oSet (xMove g44) p9 
oEnd))))))))) (kSeq (oSet (xMove g7) p46 
(oSet (xMove g0) p47 
(oSet (xCall q9 [g46, g47]) p48 
(oSet (xMove g48) p45 
(oSet (xLook (lkExtract (nat_lit 0) g45)) p49 
(oSet (xLook (lkExtract (nat_lit 1) g45)) p50 
(oSet (xMove g49) p10 
(oSet (xMove g50) p11 
oEnd)))))))) (kSeq (oSet (xMove g7) p52 
(oSet (xMove g0) p53 
(oSet (xCall q10 [g52, g53]) p54 
(oSet (xMove g54) p51 
(oSet (xLook (lkExtract (nat_lit 0) g51)) p55 
(oSet (xLook (lkExtract (nat_lit 1) g51)) p56 
(oSet (xMove g55) p12 
(oSet (xMove g56) p13 
oEnd)))))))) (kSeq (oSet (xMove g7) p58 
(oSet (xMove g0) p59 
(oSet (xMove g1) p60 
(oSet (xCall q11 [g58, g59, g60]) p61 
(oSet (xMove g61) p57 
(oSet (xLook (lkExtract (nat_lit 0) g57)) p62 
(oSet (xLook (lkExtract (nat_lit 1) g57)) p63 
(oSet (xMove g62) p14 
(oSet (xMove g63) p15 
oEnd))))))))) (kSeq (oSet (xMove g7) p65 
(oSet (xCall q12 [g65]) p66 
(oSet (xMove g66) p64 
(oSet (xLook (lkExtract (nat_lit 0) g64)) p67 
(oSet (xLook (lkExtract (nat_lit 1) g64)) p68 
(oSet (xMove g67) p16 
(oSet (xMove g68) p17 
oEnd))))))) (kSeq (oSet (xMove g7) p70 
(oSet (xMove g0) p71 
(oSet (xCall q13 [g70, g71]) p72 
(oSet (xMove g72) p69 
(oSet (xLook (lkExtract (nat_lit 0) g69)) p73 
(oSet (xLook (lkExtract (nat_lit 1) g69)) p74 
(oSet (xTurn (tnAlloc q14)) p18 
(oDo (xTurn (tnStore (nat_lit 67) g18 g73)) 
(oSet (xMove g74) p19 
oEnd))))))))) (kSeq (kSeq (oSet (xMove g7) p75 
(oSet (xMove g0) p76 
(oSet (xCall q15 [g75, g76]) p77 
(oSet (xLook (lkEq true .int g77 q16)) p78 
(oSet (xMove g78) p79 
(oSetIf (wantF g79) (xMove g7) p80 
(oSetIf (wantF g79) (xMove g0) p81 
(oSetIf (wantF g79) (xCall q17 [g80, g81, q18]) p82 
(oSetIf (wantF g79) (xLook (lkEq true .int g82 q16)) p83 
(oSet (xLook (lkPick g79 q2 g83)) p84 
(oSet (xMove g84) p85 
(oSetIf (wantF g85) (xMove g9) p86 
(oSetIf (wantF g85) (xLook (lkEq true .int g86 q16)) p87 
(oSet (xLook (lkPick g85 q2 g87)) p88 
(oSet (xMove g88) p89 
(oSetIf (wantF g89) (xMove g11) p90 
(oSetIf (wantF g89) (xLook (lkEq true .int g90 q16)) p91 
(oSet (xLook (lkPick g89 q2 g91)) p92 
(oSet (xMove g92) p93 
(oSetIf (wantF g93) (xMove g13) p94 
(oSetIf (wantF g93) (xLook (lkEq true .int g94 q16)) p95 
(oSet (xLook (lkPick g93 q2 g95)) p96 
(oSet (xMove g96) p97 
(oSetIf (wantF g97) (xMove g15) p98 
(oSetIf (wantF g97) (xLook (lkEq true .int g98 q16)) p99 
(oSet (xLook (lkPick g97 q2 g99)) p100 
(oSet (xMove g100) p101 
(oSetIf (wantF g101) (xMove g17) p102 
(oSetIf (wantF g101) (xLook (lkEq true .int g102 q16)) p103 
(oSet (xLook (lkPick g101 q2 g103)) p104 
(oSet (xMove g104) p105 
(oSetIf (wantF g105) (xMove g19) p106 
(oSet (xLook (lkPick g105 q2 g106)) p107 
(oSet (xMove g107) p108 
(oSetIf (wantF g108) (xMove g7) p109 
(oSetIf (wantF g108) (xCall q19 [g109]) p110 
(oSetIf (wantF g108) (xLook (lkEq true .ptr g110 q5)) p111 
(oSet (xLook (lkPick g108 q2 g111)) p112 
oEnd)))))))))))))))))))))))))))))))))))))) (kCond g112 (kSeq (oSet (xMove q0) p4 
oEnd) kRet) kSkip)) (kSeq (oSet (xMove g7) p113 
(oSet (xMove g0) p114 
(oSet (xCall q20 [g113, g114, q18]) p115 
(oSet (xLook (lkEq true .int g115 q16)) p116 
(oSet (xMove g116) p117 
(oSetIf (wantF g117) (xMove g7) p118 
(oSetIf (wantF g117) (xMove g0) p119 
(oSetIf (wantF g117) (xCall q21 [g118, g119]) p120 
(oSetIf (wantF g117) (xLook (lkEq true .int g120 q16)) p121 
(oSet (xLook (lkPick g117 q2 g121)) p122 
(oSet (xMove g122) p123 
(oSetIf (wantF g123) (xMove g7) p124 
(oSetIf (wantF g123) (xMove g0) p125 
(oSetIf (wantF g123) (xMove g0) p126 
(oSetIf (wantF g123) (xCall q22 [g124, g125, g126]) p127 
(oSetIf (wantF g123) (xLook (lkEq true .int g127 q16)) p128 
(oSet (xLook (lkPick g123 q2 g128)) p129 
(oSet (xMove g129) p130 
(oSetIf (wantF g130) (xMove g7) p131 
(oSetIf (wantF g130) (xCall q23 [g131]) p132 
(oSetIf (wantF g130) (xLook (lkEq true .int g132 q16)) p133 
(oSet (xLook (lkPick g130 q2 g133)) p134 
(oSet (xMove g134) p135 
(oSetIf (wantF g135) (xMove g7) p136 
(oSetIf (wantF g135) (xCall q24 [g136]) p137 
(oSetIf (wantF g135) (xLook (lkEq true .int g137 q16)) p138 
(oSet (xLook (lkPick g135 q2 g138)) p139 
(oSet (xMove g139) p140 
(oSetIf (wantF g140) (xMove g7) p141 
(oSetIf (wantF g140) (xCall q25 [g141]) p142 
(oSetIf (wantF g140) (xLook (lkLen .sl g142)) p143 
(oSetIf (wantF g140) (xLook (lkEq true .int g143 q6)) p144 
(oSet (xLook (lkPick g140 q2 g144)) p145 
oEnd))))))))))))))))))))))))))))))))) (kCond g145 (kSeq (oSet (xMove q0) p4 
oEnd) kRet) kSkip))))))))))) (oSet (xMove g6) p32 
(oSet (xLook (lkBin .add g32 q16)) p33 
(oSet (xMove g33) p6 
oEnd)))))))) (kSeq (oSet (xCall q26 [q5]) p147 
(oSet (xMove g147) p146 
(oSet (xLook (lkExtract (nat_lit 0) g146)) p148 
(oSet (xLook (lkExtract (nat_lit 1) g146)) p149 
(oSet (xMove g148) p20 
(oSet (xMove g149) p21 
oEnd)))))) (kSeq (oSet (xMove g21) p150 
(oSet (xLook (lkEq false .int g150 q16)) p151 
(oSet (xMove g151) p152 
(oSetIf (wantT g152) (xCall q27 []) p153 
(oSet (xLook (lkPick g152 g153 q0)) p154 
(oSet (xMove g154) p4 
oEnd)))))) kRet))))))⟩

theorem run__t (s0 : ByteArray) : (enterK E2 (ctx E2 (nat_lit 5000)) (k3b true) [.string s0, .chan none] ⟨0, .nil⟩).sure = true := by kernel_rfl
theorem run__f (s0 : ByteArray) : (enterK E2 (ctx E2 (nat_lit 5000)) (k3b false) [.string s0, .chan none] ⟨0, .nil⟩).sure = true := by kernel_rfl
theorem eqv_ (s0 : ByteArray) : (enterK E2 (ctx E2 (nat_lit 5000)) k3 [.string s0, .chan none] ⟨0, .nil⟩).sure = (enterK E2 (ctx E2 (nat_lit 5000)) (k3b (ltInt (.ofNat (nat_lit 100)) (.ofNat (Go.Eng.bytes s0).length))) [.string s0, .chan none] ⟨0, .nil⟩).sure := by kernel_rfl
theorem ran_ (s0 : ByteArray) : (enterK E2 (ctx E2 (nat_lit 5000)) k3 [.string s0, .chan none] ⟨0, .nil⟩).sure = true :=
  (eqv_ s0).trans (sure_bool (F := fun b => enterK E2 (ctx E2 (nat_lit 5000)) (k3b b) [.string s0, .chan none] ⟨0, .nil⟩) (ltInt (.ofNat (nat_lit 100)) (.ofNat (Go.Eng.bytes s0).length)) (run__t s0) (run__f s0))
end Go.Proofs.YtmahngadjllfpaaGreatDoor.Eng
