/-
  The law's call runs to true on the abstract machine, for every argument. No condition.
-/
import Derived.Test.YtfcicokigdebpaaGreatDoorW
namespace Go.Proofs.YtfcicokigdebpaaGreatDoor.Eng
open Go Go.Eng
set_option linter.unusedVariables false
set_option maxRecDepth 100000

noncomputable def k3b (b0 : Bool) : KFun := ⟨[rTmp (nat_lit 4) g4], (kSeq (oSet (xMove q0) p4 
oEnd) (kSeq (kSeq (oSet (xMove g0) p14 
(oSet (xLook (lkLen .str g14)) p15 
(oSet (xLook (fun t h => optV none (fun _ => some (.bool b0)) ((lkBin .gtr g15 q1) t h))) p16 
oEnd))) (kCond g16 (kSeq (oSet (xMove q2) p4 
oEnd) kRet) kSkip)) (kSeq (oSet (xMove g0) p18 
(oSet (xMove g1) p19 
(oSet (xMove g0) p20 
(oSet (xMove g1) p21 
(oSet (xCall q3 [q4, g18, g19, g20, g21]) p22 
(oSet (xMove g22) p17 
(oSet (xLook (lkExtract (nat_lit 0) g17)) p23 
(oSet (xLook (lkExtract (nat_lit 1) g17)) p24 
(oSet (xMove g23) p5 
(oSet (xMove g24) p6 
oEnd)))))))))) (kSeq (oSet (xMove g0) p26 
(oSet (xMove g0) p27 
(oSet (xCall q5 [q4, g26, g27]) p28 
(oSet (xMove g28) p25 
(oSet (xLook (lkExtract (nat_lit 0) g25)) p29 
(oSet (xLook (lkExtract (nat_lit 1) g25)) p30 
(oSet (xMove g29) p7 
(oSet (xMove g30) p8 
oEnd)))))))) (kSeq (oSet (xMove g0) p32 
(oSet (xCall q6 [q4, g32, q7]) p33 
(oSet (xMove g33) p31 
(oSet (xLook (lkExtract (nat_lit 0) g31)) p34 
(oSet (xLook (lkExtract (nat_lit 1) g31)) p35 
(oSet (xLook (lkExtract (nat_lit 2) g31)) p36 
(oSet (xMove g34) p9 
(oSet (xMove g35) p10 
(oSet (xMove g36) p11 
oEnd))))))))) (kSeq (oSet (xCall q8 [q4]) p38 
(oSet (xMove g38) p37 
(oSet (xLook (lkExtract (nat_lit 0) g37)) p39 
(oSet (xLook (lkExtract (nat_lit 1) g37)) p40 
(oSet (xMove g39) p12 
(oSet (xMove g40) p13 
oEnd)))))) (kSeq (oSet (xMove g0) p41 
(oSet (xMove g1) p42 
(oSet (xMove g0) p43 
(oSet (xCall q9 [q4, g41, g42, g43]) p44 
(oSet (xLook (lkEq false .int g44 q10)) p45 
(oSet (xMove g45) p46 
(oSetIf (wantT g46) (xMove g6) p47 
(oSetIf (wantT g46) (xLook (lkEq false .int g47 q10)) p48 
(oSet (xLook (lkPick g46 g48 q0)) p49 
(oSet (xMove g49) p50 
(oSetIf (wantT g50) (xMove g8) p51 
(oSetIf (wantT g50) (xLook (lkEq false .int g51 q10)) p52 
(oSet (xLook (lkPick g50 g52 q0)) p53 
(oSet (xMove g53) p54 
(oSetIf (wantT g54) (xMove g11) p55 
(oSetIf (wantT g54) (xLook (lkEq false .int g55 q10)) p56 
(oSet (xLook (lkPick g54 g56 q0)) p57 
(oSet (xMove g57) p58 
(oSetIf (wantT g58) (xMove g13) p59 
(oSetIf (wantT g58) (xLook (lkEq false .int g59 q10)) p60 
(oSet (xLook (lkPick g58 g60 q0)) p61 
(oSet (xMove g61) p62 
(oSetIf (wantT g62) (xCall q11 [q4]) p63 
(oSetIf (wantT g62) (xLook (lkLen .sl g63)) p64 
(oSetIf (wantT g62) (xLook (lkEq false .int g64 q12)) p65 
(oSet (xLook (lkPick g62 g65 q0)) p66 
(oSet (xMove g66) p67 
(oSetIf (wantT g67) (xCall q13 []) p68 
(oSet (xLook (lkPick g67 g68 q0)) p69 
(oSet (xMove g69) p4 
oEnd)))))))))))))))))))))))))))))) kRet)))))))⟩

theorem run__t (s0 : ByteArray) : (enterK E2 (ctx E2 (nat_lit 5000)) (k3b true) [.string s0, .chan none] ⟨0, .nil⟩).sure = true := by kernel_rfl
theorem run__f (s0 : ByteArray) : (enterK E2 (ctx E2 (nat_lit 5000)) (k3b false) [.string s0, .chan none] ⟨0, .nil⟩).sure = true := by kernel_rfl
theorem eqv_ (s0 : ByteArray) : (enterK E2 (ctx E2 (nat_lit 5000)) k3 [.string s0, .chan none] ⟨0, .nil⟩).sure = (enterK E2 (ctx E2 (nat_lit 5000)) (k3b (ltInt (.ofNat (nat_lit 100)) (.ofNat (Go.Eng.bytes s0).length))) [.string s0, .chan none] ⟨0, .nil⟩).sure := by kernel_rfl
theorem ran_ (s0 : ByteArray) : (enterK E2 (ctx E2 (nat_lit 5000)) k3 [.string s0, .chan none] ⟨0, .nil⟩).sure = true :=
  (eqv_ s0).trans (sure_bool (F := fun b => enterK E2 (ctx E2 (nat_lit 5000)) (k3b b) [.string s0, .chan none] ⟨0, .nil⟩) (ltInt (.ofNat (nat_lit 100)) (.ofNat (Go.Eng.bytes s0).length)) (run__t s0) (run__f s0))
end Go.Proofs.YtfcicokigdebpaaGreatDoor.Eng
