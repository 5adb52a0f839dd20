/-
  The law's call runs to true on the abstract machine, for every argument. No condition.
-/
import Derived.Test.YtfmlefelbijogaaGreatDoorW
namespace Go.Proofs.YtfmlefelbijogaaGreatDoor.Eng
open Go Go.Eng
set_option linter.unusedVariables false
set_option maxRecDepth 100000

noncomputable def k4b (b0 : Bool) : KFun := ⟨[rTmp (nat_lit 2) g2], (kSeq (oSet (xMove q0) p2 
oEnd) (kSeq (kSeq (oSet (xMove g0) p5 
(oSet (xLook (lkLen .sl g5)) p6 
(oSet (xLook (fun t h => optV none (fun _ => some (.bool b0)) ((lkBin .gtr g6 q1) t h))) p7 
oEnd))) (kCond g7 (kSeq (oSet (xMove q2) p2 
oEnd) kRet) kSkip)) (kSeq (oSet (xLook (lkBuild q3 [])) p8 
(oSet (xTurn (tnBox g8)) p9 
(oSet (xTurn (tnBuildSlice q4 [((nat_lit 0), (nat_lit 1), q5), ((nat_lit 1), (nat_lit 1), g9)] (nat_lit 2))) p10 
(oSet (xMove g10) p3 
oEnd)))) (kSeq (kSeq (oSet (xMove q6) p4 
oEnd) (kBlock (nat_lit 0) (kLoop (kSeq (kSeq (oSet (xMove g4) p11 
(oSet (xMove g3) p12 
(oSet (xLook (lkLen .sl g12)) p13 
(oSet (xLook (lkBin .lss g11 g13)) p14 
oEnd)))) (kCond g14 kSkip (kExit (nat_lit 0)))) (kSeq (kBlock (nat_lit 1) (kSeq (oSet (xMove g3) p17 
(oSet (xMove g4) p18 
(oSet (xLook (lkIxSl (nat_lit 1) g17 g18)) p19 
(oSet (xLook (lkLoad1 g19)) p20 
(oSet (xMove g0) p21 
(oSet (xCall q7 [g20, g21]) p22 
(oSet (xLook (lkLen .sl g22)) p23 
(oSet (xLook (lkEq true .int g23 q6)) p24 
(oSet (xMove g24) p25 
(oSetIf (wantF g25) (xMove g3) p26 
(oSetIf (wantF g25) (xMove g4) p27 
(oSetIf (wantF g25) (xLook (lkIxSl (nat_lit 1) g26 g27)) p28 
(oSetIf (wantF g25) (xLook (lkLoad1 g28)) p29 
(oSetIf (wantF g25) (xCall q8 [g29]) p30 
(oSetIf (wantF g25) (xLook (lkLen .sl g30)) p31 
(oSetIf (wantF g25) (xLook (lkEq true .int g31 q6)) p32 
(oSet (xLook (lkPick g25 q2 g32)) p33 
(oSet (xMove g33) p34 
(oSetIf (wantF g34) (xMove g3) p35 
(oSetIf (wantF g34) (xMove g4) p36 
(oSetIf (wantF g34) (xLook (lkIxSl (nat_lit 1) g35 g36)) p37 
(oSetIf (wantF g34) (xLook (lkLoad1 g37)) p38 
(oSetIf (wantF g34) (xCall q9 [g38]) p39 
(oSetIf (wantF g34) (xLook (lkEq true .ptr g39 q5)) p40 
(oSet (xLook (lkPick g34 q2 g40)) p41 
oEnd))))))))))))))))))))))))) (kCond g41 (kSeq (oSet (xMove q0) p2 
oEnd) kRet) kSkip))) (oSet (xMove g4) p15 
(oSet (xLook (lkBin .add g15 q10)) p16 
(oSet (xMove g16) p4 
oEnd)))))))) (kSeq (oSet (xCall q11 []) p42 
(oSet (xMove g42) p2 
oEnd)) kRet)))))⟩

theorem run_n_f  : (enterK E2 (ctx E2 (nat_lit 5000)) (k4b false) [.slice none 0 0] ⟨0, .nil⟩).sure = true := by kernel_rfl
theorem eqv_n  : (enterK E2 (ctx E2 (nat_lit 5000)) k4 [.slice none 0 0] ⟨0, .nil⟩).sure = (enterK E2 (ctx E2 (nat_lit 5000)) (k4b false) [.slice none 0 0] ⟨0, .nil⟩).sure := by kernel_rfl
theorem ran_n  : (enterK E2 (ctx E2 (nat_lit 5000)) k4 [.slice none 0 0] ⟨0, .nil⟩).sure = true :=
  (eqv_n ).trans (run_n_f )
theorem run_e_f  : (enterK E2 (ctx E2 (nat_lit 5000)) (k4b false) [.slice (some ⟨0, 0, some 1⟩) 0 0] ⟨0, .nil⟩).sure = true := by kernel_rfl
theorem eqv_e  : (enterK E2 (ctx E2 (nat_lit 5000)) k4 [.slice (some ⟨0, 0, some 1⟩) 0 0] ⟨0, .nil⟩).sure = (enterK E2 (ctx E2 (nat_lit 5000)) (k4b false) [.slice (some ⟨0, 0, some 1⟩) 0 0] ⟨0, .nil⟩).sure := by kernel_rfl
theorem ran_e  : (enterK E2 (ctx E2 (nat_lit 5000)) k4 [.slice (some ⟨0, 0, some 1⟩) 0 0] ⟨0, .nil⟩).sure = true :=
  (eqv_e ).trans (run_e_f )
theorem run_p_t (n0 c0 : Nat) : (enterK E2 (ctx E2 (nat_lit 5000)) (k4b true) [.slice (some ⟨0, 0, none⟩) n0 c0] ⟨1, .nil⟩).sure = true := by kernel_rfl
theorem run_p_f (n0 c0 : Nat) : (enterK E2 (ctx E2 (nat_lit 5000)) (k4b false) [.slice (some ⟨0, 0, none⟩) n0 c0] ⟨1, .nil⟩).sure = true := by kernel_rfl
theorem eqv_p (n0 c0 : Nat) : (enterK E2 (ctx E2 (nat_lit 5000)) k4 [.slice (some ⟨0, 0, none⟩) n0 c0] ⟨1, .nil⟩).sure = (enterK E2 (ctx E2 (nat_lit 5000)) (k4b (ltInt (.ofNat (nat_lit 2000)) (.ofNat n0))) [.slice (some ⟨0, 0, none⟩) n0 c0] ⟨1, .nil⟩).sure := by kernel_rfl
theorem ran_p (n0 c0 : Nat) : (enterK E2 (ctx E2 (nat_lit 5000)) k4 [.slice (some ⟨0, 0, none⟩) n0 c0] ⟨1, .nil⟩).sure = true :=
  (eqv_p n0 c0).trans (sure_bool (F := fun b => enterK E2 (ctx E2 (nat_lit 5000)) (k4b b) [.slice (some ⟨0, 0, none⟩) n0 c0] ⟨1, .nil⟩) (ltInt (.ofNat (nat_lit 2000)) (.ofNat n0)) (run_p_t n0 c0) (run_p_f n0 c0))
end Go.Proofs.YtfmlefelbijogaaGreatDoor.Eng
