/-
  The law's call runs to true on the abstract machine, for every argument. No condition.
-/
import Derived.Test.YtobifggnopkeeaaGreatDoorW
namespace Go.Proofs.YtobifggnopkeeaaGreatDoor.Eng
open Go Go.Eng
set_option linter.unusedVariables false
set_option maxRecDepth 100000

noncomputable def k3b (b0 : Bool) (b1 : Bool) : KFun := ⟨[rTmp (nat_lit 6) g6], (kSeq (oSet (xMove q0) p6 
oEnd) (kSeq (kSeq (oSet (xMove g0) p14 
(oSet (xLook (lkLen .sl g14)) p15 
(oSet (xLook (fun t h => optV none (fun _ => some (.bool b0)) ((lkBin .gtr g15 q1) t h))) p16 
(oSet (xMove g16) p17 
(oSetIf (wantF g17) (xMove g1) p18 
(oSetIf (wantF g17) (xLook (lkLen .sl g18)) p19 
(oSetIf (wantF g17) (xLook (fun t h => optV none (fun _ => some (.bool b1)) ((lkBin .gtr g19 q2) t h))) p20 
(oSet (xLook (lkPick g17 q3 g20)) p21 
oEnd)))))))) (kCond g21 (kSeq (oSet (xCall q4 []) p22 
(oSet (xMove g22) p6 
oEnd)) kRet) kSkip)) (kSeq (oSet (xMove q5) p7 
oEnd) (kSeq (oSet (xMove g7) p23 
(oSet (xLook (lkBuild q6 [])) p24 
(oSet (xTurn (tnBox g24)) p25 
(oSet (xTurn (tnBuildSlice q7 [((nat_lit 0), (nat_lit 1), g23), ((nat_lit 1), (nat_lit 1), g25)] (nat_lit 2))) p26 
(oSet (xMove g26) p8 
oEnd))))) (kSeq (kSeq (oSet (xMove q8) p9 
oEnd) (kBlock (nat_lit 0) (kLoop (kSeq (kSeq (oSet (xMove g9) p27 
(oSet (xLook (lkBin .lss g27 q9)) p28 
oEnd)) (kCond g28 kSkip (kExit (nat_lit 0)))) (kSeq (kBlock (nat_lit 1) (kSeq (oSet (xMove g8) p32 
(oSet (xMove g9) p33 
(oSet (xLook (lkIxSl (nat_lit 1) g32 g33)) p34 
(oSet (xLook (lkLoad1 g34)) p35 
(oSet (xMove g0) p36 
(oSet (xCall q10 [g35, g36]) p37 
(oSet (xMove g37) p31 
(oSet (xLook (lkExtract (nat_lit 0) g31)) p38 
(oSet (xLook (lkExtract (nat_lit 1) g31)) p39 
(oSet (xMove g38) p10 
(oSet (xMove g39) p11 
oEnd))))))))))) (kSeq (oSet (xMove g8) p41 
(oSet (xMove g9) p42 
(oSet (xLook (lkIxSl (nat_lit 1) g41 g42)) p43 
(oSet (xLook (lkLoad1 g43)) p44 
(oSet (xMove g1) p45 
(oSet (xMove g2) p46 
(oSet (xCall q11 [g44, g45, g46]) p47 
(oSet (xMove g47) p40 
(oSet (xLook (lkExtract (nat_lit 0) g40)) p48 
(oSet (xLook (lkExtract (nat_lit 1) g40)) p49 
(oSet (xMove g48) p12 
(oSet (xMove g49) p13 
oEnd)))))))))))) (kSeq (oSet (xMove g10) p50 
(oSet (xLook (lkLen .sl g50)) p51 
(oSet (xLook (lkEq true .int g51 q8)) p52 
(oSet (xMove g52) p53 
(oSetIf (wantF g53) (xMove g11) p54 
(oSetIf (wantF g53) (xLook (lkEq true .int g54 q12)) p55 
(oSet (xLook (lkPick g53 q3 g55)) p56 
(oSet (xMove g56) p57 
(oSetIf (wantF g57) (xMove g12) p58 
(oSetIf (wantF g57) (xLook (lkLen .sl g58)) p59 
(oSetIf (wantF g57) (xLook (lkEq true .int g59 q8)) p60 
(oSet (xLook (lkPick g57 q3 g60)) p61 
(oSet (xMove g61) p62 
(oSetIf (wantF g62) (xMove g13) p63 
(oSetIf (wantF g62) (xLook (lkEq true .int g63 q12)) p64 
(oSet (xLook (lkPick g62 q3 g64)) p65 
oEnd)))))))))))))))) (kCond g65 (kSeq (oSet (xMove q0) p6 
oEnd) kRet) kSkip))))) (oSet (xMove g9) p29 
(oSet (xLook (lkBin .add g29 q12)) p30 
(oSet (xMove g30) p9 
oEnd)))))))) (kSeq (oSet (xCall q4 []) p66 
(oSet (xMove g66) p6 
oEnd)) kRet))))))⟩

theorem run_nn_ff  : (enterK E2 (ctx E2 (nat_lit 5000)) (k3b false false) [.slice none 0 0, .slice none 0 0, .chan none] ⟨0, .nil⟩).sure = true := by kernel_rfl
theorem eqv_nn  : (enterK E2 (ctx E2 (nat_lit 5000)) k3 [.slice none 0 0, .slice none 0 0, .chan none] ⟨0, .nil⟩).sure = (enterK E2 (ctx E2 (nat_lit 5000)) (k3b false false) [.slice none 0 0, .slice none 0 0, .chan none] ⟨0, .nil⟩).sure := by kernel_rfl
theorem ran_nn  : (enterK E2 (ctx E2 (nat_lit 5000)) k3 [.slice none 0 0, .slice none 0 0, .chan none] ⟨0, .nil⟩).sure = true :=
  (eqv_nn ).trans (run_nn_ff )
theorem run_ne_ff  : (enterK E2 (ctx E2 (nat_lit 5000)) (k3b false false) [.slice none 0 0, .slice (some ⟨0, 0, some 1⟩) 0 0, .chan none] ⟨0, .nil⟩).sure = true := by kernel_rfl
theorem eqv_ne  : (enterK E2 (ctx E2 (nat_lit 5000)) k3 [.slice none 0 0, .slice (some ⟨0, 0, some 1⟩) 0 0, .chan none] ⟨0, .nil⟩).sure = (enterK E2 (ctx E2 (nat_lit 5000)) (k3b false false) [.slice none 0 0, .slice (some ⟨0, 0, some 1⟩) 0 0, .chan none] ⟨0, .nil⟩).sure := by kernel_rfl
theorem ran_ne  : (enterK E2 (ctx E2 (nat_lit 5000)) k3 [.slice none 0 0, .slice (some ⟨0, 0, some 1⟩) 0 0, .chan none] ⟨0, .nil⟩).sure = true :=
  (eqv_ne ).trans (run_ne_ff )
theorem run_np_ft (n1 c1 : Nat) : (enterK E2 (ctx E2 (nat_lit 5000)) (k3b false true) [.slice none 0 0, .slice (some ⟨0, 0, none⟩) n1 c1, .chan none] ⟨1, .nil⟩).sure = true := by kernel_rfl
theorem run_np_ff (n1 c1 : Nat) : (enterK E2 (ctx E2 (nat_lit 5000)) (k3b false false) [.slice none 0 0, .slice (some ⟨0, 0, none⟩) n1 c1, .chan none] ⟨1, .nil⟩).sure = true := by kernel_rfl
theorem eqv_np (n1 c1 : Nat) : (enterK E2 (ctx E2 (nat_lit 5000)) k3 [.slice none 0 0, .slice (some ⟨0, 0, none⟩) n1 c1, .chan none] ⟨1, .nil⟩).sure = (enterK E2 (ctx E2 (nat_lit 5000)) (k3b false (ltInt (.ofNat (nat_lit 2000)) (.ofNat n1))) [.slice none 0 0, .slice (some ⟨0, 0, none⟩) n1 c1, .chan none] ⟨1, .nil⟩).sure := by kernel_rfl
theorem ran_np (n1 c1 : Nat) : (enterK E2 (ctx E2 (nat_lit 5000)) k3 [.slice none 0 0, .slice (some ⟨0, 0, none⟩) n1 c1, .chan none] ⟨1, .nil⟩).sure = true :=
  (eqv_np n1 c1).trans (sure_bool (F := fun b => enterK E2 (ctx E2 (nat_lit 5000)) (k3b false b) [.slice none 0 0, .slice (some ⟨0, 0, none⟩) n1 c1, .chan none] ⟨1, .nil⟩) (ltInt (.ofNat (nat_lit 2000)) (.ofNat n1)) (run_np_ft n1 c1) (run_np_ff n1 c1))
theorem run_en_ff  : (enterK E2 (ctx E2 (nat_lit 5000)) (k3b false false) [.slice (some ⟨0, 0, some 1⟩) 0 0, .slice none 0 0, .chan none] ⟨0, .nil⟩).sure = true := by kernel_rfl
theorem eqv_en  : (enterK E2 (ctx E2 (nat_lit 5000)) k3 [.slice (some ⟨0, 0, some 1⟩) 0 0, .slice none 0 0, .chan none] ⟨0, .nil⟩).sure = (enterK E2 (ctx E2 (nat_lit 5000)) (k3b false false) [.slice (some ⟨0, 0, some 1⟩) 0 0, .slice none 0 0, .chan none] ⟨0, .nil⟩).sure := by kernel_rfl
theorem ran_en  : (enterK E2 (ctx E2 (nat_lit 5000)) k3 [.slice (some ⟨0, 0, some 1⟩) 0 0, .slice none 0 0, .chan none] ⟨0, .nil⟩).sure = true :=
  (eqv_en ).trans (run_en_ff )
theorem run_ee_ff  : (enterK E2 (ctx E2 (nat_lit 5000)) (k3b false false) [.slice (some ⟨0, 0, some 1⟩) 0 0, .slice (some ⟨0, 0, some 1⟩) 0 0, .chan none] ⟨0, .nil⟩).sure = true := by kernel_rfl
theorem eqv_ee  : (enterK E2 (ctx E2 (nat_lit 5000)) k3 [.slice (some ⟨0, 0, some 1⟩) 0 0, .slice (some ⟨0, 0, some 1⟩) 0 0, .chan none] ⟨0, .nil⟩).sure = (enterK E2 (ctx E2 (nat_lit 5000)) (k3b false false) [.slice (some ⟨0, 0, some 1⟩) 0 0, .slice (some ⟨0, 0, some 1⟩) 0 0, .chan none] ⟨0, .nil⟩).sure := by kernel_rfl
theorem ran_ee  : (enterK E2 (ctx E2 (nat_lit 5000)) k3 [.slice (some ⟨0, 0, some 1⟩) 0 0, .slice (some ⟨0, 0, some 1⟩) 0 0, .chan none] ⟨0, .nil⟩).sure = true :=
  (eqv_ee ).trans (run_ee_ff )
theorem run_ep_ft (n1 c1 : Nat) : (enterK E2 (ctx E2 (nat_lit 5000)) (k3b false true) [.slice (some ⟨0, 0, some 1⟩) 0 0, .slice (some ⟨0, 0, none⟩) n1 c1, .chan none] ⟨1, .nil⟩).sure = true := by kernel_rfl
theorem run_ep_ff (n1 c1 : Nat) : (enterK E2 (ctx E2 (nat_lit 5000)) (k3b false false) [.slice (some ⟨0, 0, some 1⟩) 0 0, .slice (some ⟨0, 0, none⟩) n1 c1, .chan none] ⟨1, .nil⟩).sure = true := by kernel_rfl
theorem eqv_ep (n1 c1 : Nat) : (enterK E2 (ctx E2 (nat_lit 5000)) k3 [.slice (some ⟨0, 0, some 1⟩) 0 0, .slice (some ⟨0, 0, none⟩) n1 c1, .chan none] ⟨1, .nil⟩).sure = (enterK E2 (ctx E2 (nat_lit 5000)) (k3b false (ltInt (.ofNat (nat_lit 2000)) (.ofNat n1))) [.slice (some ⟨0, 0, some 1⟩) 0 0, .slice (some ⟨0, 0, none⟩) n1 c1, .chan none] ⟨1, .nil⟩).sure := by kernel_rfl
theorem ran_ep (n1 c1 : Nat) : (enterK E2 (ctx E2 (nat_lit 5000)) k3 [.slice (some ⟨0, 0, some 1⟩) 0 0, .slice (some ⟨0, 0, none⟩) n1 c1, .chan none] ⟨1, .nil⟩).sure = true :=
  (eqv_ep n1 c1).trans (sure_bool (F := fun b => enterK E2 (ctx E2 (nat_lit 5000)) (k3b false b) [.slice (some ⟨0, 0, some 1⟩) 0 0, .slice (some ⟨0, 0, none⟩) n1 c1, .chan none] ⟨1, .nil⟩) (ltInt (.ofNat (nat_lit 2000)) (.ofNat n1)) (run_ep_ft n1 c1) (run_ep_ff n1 c1))
theorem run_pn_tf (n0 c0 : Nat) : (enterK E2 (ctx E2 (nat_lit 5000)) (k3b true false) [.slice (some ⟨0, 0, none⟩) n0 c0, .slice none 0 0, .chan none] ⟨1, .nil⟩).sure = true := by kernel_rfl
theorem run_pn_ff (n0 c0 : Nat) : (enterK E2 (ctx E2 (nat_lit 5000)) (k3b false false) [.slice (some ⟨0, 0, none⟩) n0 c0, .slice none 0 0, .chan none] ⟨1, .nil⟩).sure = true := by kernel_rfl
theorem eqv_pn (n0 c0 : Nat) : (enterK E2 (ctx E2 (nat_lit 5000)) k3 [.slice (some ⟨0, 0, none⟩) n0 c0, .slice none 0 0, .chan none] ⟨1, .nil⟩).sure = (enterK E2 (ctx E2 (nat_lit 5000)) (k3b (ltInt (.ofNat (nat_lit 30)) (.ofNat n0)) false) [.slice (some ⟨0, 0, none⟩) n0 c0, .slice none 0 0, .chan none] ⟨1, .nil⟩).sure := by kernel_rfl
theorem ran_pn (n0 c0 : Nat) : (enterK E2 (ctx E2 (nat_lit 5000)) k3 [.slice (some ⟨0, 0, none⟩) n0 c0, .slice none 0 0, .chan none] ⟨1, .nil⟩).sure = true :=
  (eqv_pn n0 c0).trans (sure_bool (F := fun b => enterK E2 (ctx E2 (nat_lit 5000)) (k3b b false) [.slice (some ⟨0, 0, none⟩) n0 c0, .slice none 0 0, .chan none] ⟨1, .nil⟩) (ltInt (.ofNat (nat_lit 30)) (.ofNat n0)) (run_pn_tf n0 c0) (run_pn_ff n0 c0))
theorem run_pe_tf (n0 c0 : Nat) : (enterK E2 (ctx E2 (nat_lit 5000)) (k3b true false) [.slice (some ⟨0, 0, none⟩) n0 c0, .slice (some ⟨0, 0, some 1⟩) 0 0, .chan none] ⟨1, .nil⟩).sure = true := by kernel_rfl
theorem run_pe_ff (n0 c0 : Nat) : (enterK E2 (ctx E2 (nat_lit 5000)) (k3b false false) [.slice (some ⟨0, 0, none⟩) n0 c0, .slice (some ⟨0, 0, some 1⟩) 0 0, .chan none] ⟨1, .nil⟩).sure = true := by kernel_rfl
theorem eqv_pe (n0 c0 : Nat) : (enterK E2 (ctx E2 (nat_lit 5000)) k3 [.slice (some ⟨0, 0, none⟩) n0 c0, .slice (some ⟨0, 0, some 1⟩) 0 0, .chan none] ⟨1, .nil⟩).sure = (enterK E2 (ctx E2 (nat_lit 5000)) (k3b (ltInt (.ofNat (nat_lit 30)) (.ofNat n0)) false) [.slice (some ⟨0, 0, none⟩) n0 c0, .slice (some ⟨0, 0, some 1⟩) 0 0, .chan none] ⟨1, .nil⟩).sure := by kernel_rfl
theorem ran_pe (n0 c0 : Nat) : (enterK E2 (ctx E2 (nat_lit 5000)) k3 [.slice (some ⟨0, 0, none⟩) n0 c0, .slice (some ⟨0, 0, some 1⟩) 0 0, .chan none] ⟨1, .nil⟩).sure = true :=
  (eqv_pe n0 c0).trans (sure_bool (F := fun b => enterK E2 (ctx E2 (nat_lit 5000)) (k3b b false) [.slice (some ⟨0, 0, none⟩) n0 c0, .slice (some ⟨0, 0, some 1⟩) 0 0, .chan none] ⟨1, .nil⟩) (ltInt (.ofNat (nat_lit 30)) (.ofNat n0)) (run_pe_tf n0 c0) (run_pe_ff n0 c0))
theorem run_pp_tt (n0 c0 : Nat) (n1 c1 : Nat) : (enterK E2 (ctx E2 (nat_lit 5000)) (k3b true true) [.slice (some ⟨0, 0, none⟩) n0 c0, .slice (some ⟨1, 0, none⟩) n1 c1, .chan none] ⟨2, .nil⟩).sure = true := by kernel_rfl
theorem run_pp_tf (n0 c0 : Nat) (n1 c1 : Nat) : (enterK E2 (ctx E2 (nat_lit 5000)) (k3b true false) [.slice (some ⟨0, 0, none⟩) n0 c0, .slice (some ⟨1, 0, none⟩) n1 c1, .chan none] ⟨2, .nil⟩).sure = true := by kernel_rfl
theorem run_pp_ft (n0 c0 : Nat) (n1 c1 : Nat) : (enterK E2 (ctx E2 (nat_lit 5000)) (k3b false true) [.slice (some ⟨0, 0, none⟩) n0 c0, .slice (some ⟨1, 0, none⟩) n1 c1, .chan none] ⟨2, .nil⟩).sure = true := by kernel_rfl
theorem run_pp_ff (n0 c0 : Nat) (n1 c1 : Nat) : (enterK E2 (ctx E2 (nat_lit 5000)) (k3b false false) [.slice (some ⟨0, 0, none⟩) n0 c0, .slice (some ⟨1, 0, none⟩) n1 c1, .chan none] ⟨2, .nil⟩).sure = true := by kernel_rfl
theorem eqv_pp (n0 c0 : Nat) (n1 c1 : Nat) : (enterK E2 (ctx E2 (nat_lit 5000)) k3 [.slice (some ⟨0, 0, none⟩) n0 c0, .slice (some ⟨1, 0, none⟩) n1 c1, .chan none] ⟨2, .nil⟩).sure = (enterK E2 (ctx E2 (nat_lit 5000)) (k3b (ltInt (.ofNat (nat_lit 30)) (.ofNat n0)) (ltInt (.ofNat (nat_lit 2000)) (.ofNat n1))) [.slice (some ⟨0, 0, none⟩) n0 c0, .slice (some ⟨1, 0, none⟩) n1 c1, .chan none] ⟨2, .nil⟩).sure := by kernel_rfl
theorem ran_pp (n0 c0 : Nat) (n1 c1 : Nat) : (enterK E2 (ctx E2 (nat_lit 5000)) k3 [.slice (some ⟨0, 0, none⟩) n0 c0, .slice (some ⟨1, 0, none⟩) n1 c1, .chan none] ⟨2, .nil⟩).sure = true :=
  (eqv_pp n0 c0 n1 c1).trans (sure_bool (F := fun b => enterK E2 (ctx E2 (nat_lit 5000)) (k3b b (ltInt (.ofNat (nat_lit 2000)) (.ofNat n1))) [.slice (some ⟨0, 0, none⟩) n0 c0, .slice (some ⟨1, 0, none⟩) n1 c1, .chan none] ⟨2, .nil⟩) (ltInt (.ofNat (nat_lit 30)) (.ofNat n0)) (sure_bool (F := fun b => enterK E2 (ctx E2 (nat_lit 5000)) (k3b true b) [.slice (some ⟨0, 0, none⟩) n0 c0, .slice (some ⟨1, 0, none⟩) n1 c1, .chan none] ⟨2, .nil⟩) (ltInt (.ofNat (nat_lit 2000)) (.ofNat n1)) (run_pp_tt n0 c0 n1 c1) (run_pp_tf n0 c0 n1 c1)) (sure_bool (F := fun b => enterK E2 (ctx E2 (nat_lit 5000)) (k3b false b) [.slice (some ⟨0, 0, none⟩) n0 c0, .slice (some ⟨1, 0, none⟩) n1 c1, .chan none] ⟨2, .nil⟩) (ltInt (.ofNat (nat_lit 2000)) (.ofNat n1)) (run_pp_ft n0 c0 n1 c1) (run_pp_ff n0 c0 n1 c1)))
end Go.Proofs.YtobifggnopkeeaaGreatDoor.Eng
