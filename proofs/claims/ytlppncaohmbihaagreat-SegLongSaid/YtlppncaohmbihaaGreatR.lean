/-
  The law's call runs to true on the abstract machine, for every argument: the first one is picked to 0, 1 or 2, and the code behind that is run for each. No condition.
-/
import Derived.Test.YtlppncaohmbihaaGreatW
import Derived.Test.YtlppncaohmbihaaGreatG
namespace SegK
open Go Go.Eng Go.Proofs.YtlppncaohmbihaaGreat.Eng
set_option linter.unusedVariables false
set_option maxRecDepth 100000

noncomputable def k3s (v : Value) : KFun := ⟨[rTmp (nat_lit 4) g4], (kSeq (oSet (xTurn (tnBox g1)) p3 
(oSet (xMove q0) p4 
oEnd)) (kSeq (oSet (xMove g0) p24 
(oSet (xLook (fun _ _ => some v)) p25 
(oSet (xMove g25) p0 
oEnd))) (kSeq (oSet (xCall q3 []) p27 
(oSet (xMove g27) p26 
(oSet (xLook (lkExtract (nat_lit 0) g26)) p28 
(oSet (xLook (lkExtract (nat_lit 1) g26)) p29 
(oSet (xMove g28) p5 
(oSet (xMove g29) p6 
oEnd)))))) (kSeq (oSet (xMove q4) p7 
oEnd) (kSeq (kSeq (oSet (xMove g6) p30 
(oSet (xLook (lkEq false .ptr g30 q4)) p31 
oEnd)) (kCond g31 (kSeq (oSet (xMove q0) p4 
oEnd) kRet) kSkip)) (kSeq (oSet (xMove g6) p33 
(oSet (xMove g0) p34 
(oSet (xLook (lkBin .add q5 g34)) p35 
(oSet (xTurn (tnMkSlice q6 g35 g35)) p36 
(oSet (xCall q7 [g33, g36]) p37 
(oSet (xMove g37) p32 
(oSet (xLook (lkExtract (nat_lit 0) g32)) p38 
(oSet (xLook (lkExtract (nat_lit 1) g32)) p39 
(oSet (xTurn (tnAlloc q8)) p8 
(oDo (xTurn (tnStore (nat_lit 32) g8 g38)) 
(oSet (xMove g39) p9 
oEnd))))))))))) (kSeq (oSet (xMove g6) p41 
(oSet (xMove g0) p42 
(oSet (xLook (lkBin .add q9 g42)) p43 
(oSet (xTurn (tnMkSlice q10 g43 g43)) p44 
(oSet (xLook (lkBytesTo g44)) p45 
(oSet (xTurn (tnBuildSlice q11 [((nat_lit 0), (nat_lit 1), q12), ((nat_lit 1), (nat_lit 1), g45)] (nat_lit 2))) p46 
(oSet (xCall q7 [g41, g46]) p47 
(oSet (xMove g47) p40 
(oSet (xLook (lkExtract (nat_lit 0) g40)) p48 
(oSet (xLook (lkExtract (nat_lit 1) g40)) p49 
(oSet (xTurn (tnAlloc q8)) p10 
(oDo (xTurn (tnStore (nat_lit 32) g10 g48)) 
(oSet (xMove g49) p11 
oEnd))))))))))))) (kSeq (kSeq (oSet (xLook (lkLoadN (nat_lit 32) g8)) p50 
(oSet (xLook (lkBuild q8 [])) p51 
(oSet (xLook (lkEq true (.flat [(.int .u8), (.int .u8), (.int .u8), (.int .u8), (.int .u8), (.int .u8), (.int .u8), (.int .u8), (.int .u8), (.int .u8), (.int .u8), (.int .u8), (.int .u8), (.int .u8), (.int .u8), (.int .u8), (.int .u8), (.int .u8), (.int .u8), (.int .u8), (.int .u8), (.int .u8), (.int .u8), (.int .u8), (.int .u8), (.int .u8), (.int .u8), (.int .u8), (.int .u8), (.int .u8), (.int .u8), (.int .u8)]) g50 g51)) p52 
(oSet (xMove g52) p53 
(oSetIf (wantF g53) (xMove g9) p54 
(oSetIf (wantF g53) (xLook (lkEq true .int g54 q2)) p55 
(oSet (xLook (lkPick g53 q13 g55)) p56 
(oSet (xMove g56) p57 
(oSetIf (wantF g57) (xLook (lkLoadN (nat_lit 32) g10)) p58 
(oSetIf (wantF g57) (xLook (lkBuild q8 [])) p59 
(oSetIf (wantF g57) (xLook (lkEq true (.flat [(.int .u8), (.int .u8), (.int .u8), (.int .u8), (.int .u8), (.int .u8), (.int .u8), (.int .u8), (.int .u8), (.int .u8), (.int .u8), (.int .u8), (.int .u8), (.int .u8), (.int .u8), (.int .u8), (.int .u8), (.int .u8), (.int .u8), (.int .u8), (.int .u8), (.int .u8), (.int .u8), (.int .u8), (.int .u8), (.int .u8), (.int .u8), (.int .u8), (.int .u8), (.int .u8), (.int .u8), (.int .u8)]) g58 g59)) p60 
(oSet (xLook (lkPick g57 q13 g60)) p61 
(oSet (xMove g61) p62 
(oSetIf (wantF g62) (xMove g11) p63 
(oSetIf (wantF g62) (xLook (lkEq true .int g63 q2)) p64 
(oSet (xLook (lkPick g62 q13 g64)) p65 
(oSet (xMove g65) p66 
(oSetIf (wantF g66) (xMove g6) p67 
(oSetIf (wantF g66) (xCall q14 [g67]) p68 
(oSetIf (wantF g66) (xLook (lkLen .sl g68)) p69 
(oSetIf (wantF g66) (xLook (lkEq true .int g69 q15)) p70 
(oSet (xLook (lkPick g66 q13 g70)) p71 
oEnd)))))))))))))))))))))) (kCond g71 (kSeq (oSet (xMove q0) p4 
oEnd) kRet) kSkip)) (kSeq (oSet (xMove g7) p72 
(oSet (xLook (lkBuild q16 [])) p73 
(oSet (xTurn (tnBox g73)) p74 
(oSet (xTurn (tnBuildSlice q17 [((nat_lit 0), (nat_lit 1), g72), ((nat_lit 1), (nat_lit 1), g74)] (nat_lit 2))) p75 
(oSet (xMove g75) p12 
oEnd))))) (kSeq (kSeq (oSet (xMove q15) p13 
oEnd) (kBlock (nat_lit 0) (kLoop (kSeq (kSeq (oSet (xMove g13) p76 
(oSet (xLook (lkBin .lss g76 q18)) p77 
oEnd)) (kCond g77 kSkip (kExit (nat_lit 0)))) (kSeq (kBlock (nat_lit 1) (kSeq (oSet (xMove g12) p81 
(oSet (xMove g13) p82 
(oSet (xLook (lkIxSl (nat_lit 1) g81 g82)) p83 
(oSet (xLook (lkLoad1 g83)) p84 
(oSet (xCall q7 [g84, q19]) p85 
(oSet (xMove g85) p80 
(oSet (xLook (lkExtract (nat_lit 0) g80)) p86 
(oSet (xLook (lkExtract (nat_lit 1) g80)) p87 
(oSet (xMove g87) p9 
oEnd))))))))) (kSeq (kDraw 
(dLook (nat_lit 0) [] [] (lkMove g12) p89 
(dLook (nat_lit 1) [] [] (lkMove g13) p90 
(dLook (nat_lit 2) [] [] (lkIxSl (nat_lit 1) g89 g90) p91 
(dLook (nat_lit 3) [] [] (lkLoad1 g91) p92 
(dLook (nat_lit 4) [] [] (lkLoadN (nat_lit 32) g3) p93 
(dTurn (nat_lit 5) [] [] true (xCall q20 [g92, g93, q15, q15, q19]) p94 
(dLook (nat_lit 6) [] [(nat_lit 5)] (lkMove g94) p88 
(dLook (nat_lit 7) [] [(nat_lit 5)] (lkExtract (nat_lit 0) g88) p95 
(dLook (nat_lit 8) [] [(nat_lit 5)] (lkExtract (nat_lit 1) g88) p96 
(dLook (nat_lit 9) [] [(nat_lit 5)] (lkMove g96) p11 (dEnd [(nat_lit 89), (nat_lit 90), (nat_lit 91), (nat_lit 92), (nat_lit 93), (nat_lit 94), (nat_lit 88), (nat_lit 95), (nat_lit 96), (nat_lit 11)])))))))))))) (kSeq (kDraw 
(dLook (nat_lit 0) [] [] (lkMove g12) p98 
(dLook (nat_lit 1) [] [] (lkMove g13) p99 
(dLook (nat_lit 2) [] [] (lkIxSl (nat_lit 1) g98 g99) p100 
(dLook (nat_lit 3) [] [] (lkLoad1 g100) p101 
(dLook (nat_lit 4) [] [] (lkLoadN (nat_lit 32) g3) p102 
(dTurn (nat_lit 5) [] [] true (xCall q21 [g101, g102]) p103 
(dLook (nat_lit 6) [] [(nat_lit 5)] (lkMove g103) p97 
(dLook (nat_lit 7) [] [(nat_lit 5)] (lkExtract (nat_lit 0) g97) p104 
(dLook (nat_lit 8) [] [(nat_lit 5)] (lkExtract (nat_lit 1) g97) p105 
(dLook (nat_lit 9) [] [(nat_lit 5)] (lkMove g104) p14 
(dLook (nat_lit 10) [] [(nat_lit 5)] (lkMove g105) p15 (dEnd [(nat_lit 98), (nat_lit 99), (nat_lit 100), (nat_lit 101), (nat_lit 102), (nat_lit 103), (nat_lit 97), (nat_lit 104), (nat_lit 105), (nat_lit 14), (nat_lit 15)]))))))))))))) (kSeq (kDraw 
(dLook (nat_lit 0) [] [] (lkMove g12) p107 
(dLook (nat_lit 1) [] [] (lkMove g13) p108 
(dLook (nat_lit 2) [] [] (lkIxSl (nat_lit 1) g107 g108) p109 
(dLook (nat_lit 3) [] [] (lkLoad1 g109) p110 
(dLook (nat_lit 4) [] [] (lkLoadN (nat_lit 32) g3) p111 
(dTurn (nat_lit 5) [] [] true (xCall q22 [g110, g111, q15]) p112 
(dLook (nat_lit 6) [] [(nat_lit 5)] (lkMove g112) p106 
(dLook (nat_lit 7) [] [(nat_lit 5)] (lkExtract (nat_lit 0) g106) p113 
(dLook (nat_lit 8) [] [(nat_lit 5)] (lkExtract (nat_lit 1) g106) p114 
(dLook (nat_lit 9) [] [(nat_lit 5)] (lkMove g113) p16 
(dLook (nat_lit 10) [] [(nat_lit 5)] (lkMove g114) p17 (dEnd [(nat_lit 107), (nat_lit 108), (nat_lit 109), (nat_lit 110), (nat_lit 111), (nat_lit 112), (nat_lit 106), (nat_lit 113), (nat_lit 114), (nat_lit 16), (nat_lit 17)]))))))))))))) (kSeq (kDraw 
(dLook (nat_lit 0) [] [] (lkMove g12) p116 
(dLook (nat_lit 1) [] [] (lkMove g13) p117 
(dLook (nat_lit 2) [] [] (lkIxSl (nat_lit 1) g116 g117) p118 
(dLook (nat_lit 3) [] [] (lkLoad1 g118) p119 
(dLook (nat_lit 4) [] [] (lkLoadN (nat_lit 32) g3) p120 
(dTurn (nat_lit 5) [] [] true (xCall q23 [g119, g120]) p121 
(dLook (nat_lit 6) [] [(nat_lit 5)] (lkMove g121) p115 
(dLook (nat_lit 7) [] [(nat_lit 5)] (lkExtract (nat_lit 0) g115) p122 
(dLook (nat_lit 8) [] [(nat_lit 5)] (lkExtract (nat_lit 1) g115) p123 
(dLook (nat_lit 9) [] [(nat_lit 5)] (lkMove g122) p18 
(dLook (nat_lit 10) [] [(nat_lit 5)] (lkMove g123) p19 (dEnd [(nat_lit 116), (nat_lit 117), (nat_lit 118), (nat_lit 119), (nat_lit 120), (nat_lit 121), (nat_lit 115), (nat_lit 122), (nat_lit 123), (nat_lit 18), (nat_lit 19)]))))))))))))) (kSeq (kDraw 
(dLook (nat_lit 0) [] [] (lkMove g12) p125 
(dLook (nat_lit 1) [] [] (lkMove g13) p126 
(dLook (nat_lit 2) [] [] (lkIxSl (nat_lit 1) g125 g126) p127 
(dLook (nat_lit 3) [] [] (lkLoad1 g127) p128 
(dLook (nat_lit 4) [] [] (lkLoadN (nat_lit 32) g3) p129 
(dTurn (nat_lit 5) [] [] true (xCall q24 [g128, g129]) p130 
(dLook (nat_lit 6) [] [(nat_lit 5)] (lkMove g130) p124 
(dLook (nat_lit 7) [] [(nat_lit 5)] (lkExtract (nat_lit 0) g124) p131 
(dLook (nat_lit 8) [] [(nat_lit 5)] (lkExtract (nat_lit 1) g124) p132 
(dLook (nat_lit 9) [] [(nat_lit 5)] (lkMove g131) p20 
(dLook (nat_lit 10) [] [(nat_lit 5)] (lkMove g132) p21 (dEnd [(nat_lit 125), (nat_lit 126), (nat_lit 127), (nat_lit 128), (nat_lit 129), (nat_lit 130), (nat_lit 124), (nat_lit 131), (nat_lit 132), (nat_lit 20), (nat_lit 21)]))))))))))))) (kSeq (kDraw 
(dLook (nat_lit 0) [] [] (lkMove g12) p134 
(dLook (nat_lit 1) [] [] (lkMove g13) p135 
(dLook (nat_lit 2) [] [] (lkIxSl (nat_lit 1) g134 g135) p136 
(dLook (nat_lit 3) [] [] (lkLoad1 g136) p137 
(dLook (nat_lit 4) [] [] (lkLoadN (nat_lit 32) g3) p138 
(dLook (nat_lit 5) [] [] (lkLoadN (nat_lit 32) g3) p139 
(dTurn (nat_lit 6) [] [] true (xCall q25 [g137, g138, g139]) p140 
(dLook (nat_lit 7) [] [(nat_lit 6)] (lkMove g140) p133 
(dLook (nat_lit 8) [] [(nat_lit 6)] (lkExtract (nat_lit 0) g133) p141 
(dLook (nat_lit 9) [] [(nat_lit 6)] (lkExtract (nat_lit 1) g133) p142 
(dLook (nat_lit 10) [] [(nat_lit 6)] (lkMove g141) p22 
(dLook (nat_lit 11) [] [(nat_lit 6)] (lkMove g142) p23 (dEnd [(nat_lit 134), (nat_lit 135), (nat_lit 136), (nat_lit 137), (nat_lit 138), (nat_lit 139), (nat_lit 140), (nat_lit 133), (nat_lit 141), (nat_lit 142), (nat_lit 22), (nat_lit 23)])))))))))))))) (kSeq (oSet (xMove g9) p143 
(oSet (xLook (lkEq true .int g143 q26)) p144 
(oSet (xMove g144) p145 
(oSetIf (wantF g145) (xMove g11) p146 
(oSetIf (wantF g145) (xLook (lkEq true .int g146 q26)) p147 
(oSet (xLook (lkPick g145 q13 g147)) p148 
(oSet (xMove g148) p149 
(oSetIf (wantF g149) (xMove g15) p150 
(oSetIf (wantF g149) (xLook (lkEq true .int g150 q26)) p151 
(oSet (xLook (lkPick g149 q13 g151)) p152 
(oSet (xMove g152) p153 
(oSetIf (wantF g153) (xMove g17) p154 
(oSetIf (wantF g153) (xLook (lkEq true .int g154 q26)) p155 
(oSet (xLook (lkPick g153 q13 g155)) p156 
(oSet (xMove g156) p157 
(oSetIf (wantF g157) (xMove g19) p158 
(oSetIf (wantF g157) (xLook (lkEq true .int g158 q26)) p159 
(oSet (xLook (lkPick g157 q13 g159)) p160 
(oSet (xMove g160) p161 
(oSetIf (wantF g161) (xMove g21) p162 
(oSetIf (wantF g161) (xLook (lkEq true .int g162 q26)) p163 
(oSet (xLook (lkPick g161 q13 g163)) p164 
(oSet (xMove g164) p165 
(oSetIf (wantF g165) (xMove g23) p166 
(oSetIf (wantF g165) (xLook (lkEq true .int g166 q26)) p167 
(oSet (xLook (lkPick g165 q13 g167)) p168 
oEnd)))))))))))))))))))))))))) (kCond g168 (kSeq (oSet (xMove q0) p4 
oEnd) kRet) kSkip)))))))))) (oSet (xMove g13) p78 
(oSet (xLook (lkBin .add g78 q26)) p79 
(oSet (xMove g79) p13 
oEnd)))))))) (kSeq (oSet (xCall q27 []) p169 
(oSet (xMove g169) p4 
oEnd)) kRet)))))))))))⟩

theorem pick4 (z : Int) (m : Nat) (hm : 0 < m) (hbig : m < 1000000) : ∃ r : Nat, r < m ∧ ∀ (c : Ctx) (h : Heap), (enter E2 c 4 [.int .i64 z, .int .i64 (Int.ofNat m)] h).Wp fun v h' => v = .int .i64 (Int.ofNat r) ∧ h' = h := by
  have hlo : -(m : Int) < z.tmod m := by
    have := Int.tmod_lt_of_pos (-z) (b := (m : Int)) (by omega)
    rw [Int.neg_tmod] at this
    omega
  have hhi : z.tmod m < (m : Int) := Int.tmod_lt_of_pos z (by omega)
  by_cases hneg : z.tmod m < 0
  · refine ⟨(z.tmod m + m).toNat, by omega, fun c h => ?_⟩
    refine wp_enter (k := k4) rfl rfl ?_
    unfold k4
    refine wp_fn (Nat.le_of_ble_eq_true rfl) ?_
    dsimp only
    refine wp_seq ?_
    refine wp_move (by conv => lhs; whnf) ?_
    refine wp_end ?_
    refine wp_seq ?_
    refine wp_seq ?_
    refine wp_move (by conv => lhs; whnf) ?_
    refine wp_look (l_lssI rfl rfl rfl) ?_
    refine wp_end ?_
    refine wp_condF rfl (decide_eq_false (by show ¬ (m : Int) < 1; omega)) ?_
    refine wp_skip ?_
    refine wp_seq ?_
    refine wp_move (by conv => lhs; whnf) ?_
    refine wp_move (by conv => lhs; whnf) ?_
    refine wp_look (l_remI rfl rfl (by show (m : Int) ≠ 0; omega)) ?_
    refine wp_move (by conv => lhs; whnf) ?_
    refine wp_end ?_
    refine wp_seq ?_
    refine wp_seq ?_
    refine wp_move (by conv => lhs; whnf) ?_
    refine wp_look (l_lssI rfl rfl rfl) ?_
    refine wp_end ?_
    refine wp_condT rfl (decide_eq_true (by show z.tmod (m : Int) < 0; exact hneg)) ?_
    refine wp_move (by conv => lhs; whnf) ?_
    refine wp_move (by conv => lhs; whnf) ?_
    refine wp_look (l_addI rfl rfl rfl) ?_
    refine wp_move (by conv => lhs; whnf) ?_
    refine wp_end ?_
    refine wp_seq ?_
    refine wp_move (by conv => lhs; whnf) ?_
    refine wp_move (by conv => lhs; whnf) ?_
    refine wp_end ?_
    refine wp_ret ?_
    refine ⟨rfl, _, rfl, ?_, rfl⟩
    show Value.int .i64 (IntKind.i64.wrap (z.tmod (m : Int) + (m : Int))) = _
    rw [wrap64 (by omega) (by omega)]
    show Value.int .i64 (z.tmod (m : Int) + (m : Int)) = Value.int .i64 (((z.tmod (m : Int) + (m : Int)).toNat : Nat) : Int)
    congr 1
    omega
  · refine ⟨(z.tmod m).toNat, by omega, fun c h => ?_⟩
    refine wp_enter (k := k4) rfl rfl ?_
    unfold k4
    refine wp_fn (Nat.le_of_ble_eq_true rfl) ?_
    dsimp only
    refine wp_seq ?_
    refine wp_move (by conv => lhs; whnf) ?_
    refine wp_end ?_
    refine wp_seq ?_
    refine wp_seq ?_
    refine wp_move (by conv => lhs; whnf) ?_
    refine wp_look (l_lssI rfl rfl rfl) ?_
    refine wp_end ?_
    refine wp_condF rfl (decide_eq_false (by show ¬ (m : Int) < 1; omega)) ?_
    refine wp_skip ?_
    refine wp_seq ?_
    refine wp_move (by conv => lhs; whnf) ?_
    refine wp_move (by conv => lhs; whnf) ?_
    refine wp_look (l_remI rfl rfl (by show (m : Int) ≠ 0; omega)) ?_
    refine wp_move (by conv => lhs; whnf) ?_
    refine wp_end ?_
    refine wp_seq ?_
    refine wp_seq ?_
    refine wp_move (by conv => lhs; whnf) ?_
    refine wp_look (l_lssI rfl rfl rfl) ?_
    refine wp_end ?_
    refine wp_condF rfl (decide_eq_false (by show ¬ z.tmod (m : Int) < 0; exact hneg)) ?_
    refine wp_skip ?_
    refine wp_seq ?_
    refine wp_move (by conv => lhs; whnf) ?_
    refine wp_move (by conv => lhs; whnf) ?_
    refine wp_end ?_
    refine wp_ret ?_
    refine ⟨rfl, _, rfl, ?_, rfl⟩
    show Value.int .i64 (z.tmod (m : Int)) = Value.int .i64 (((z.tmod (m : Int)).toNat : Nat) : Int)
    congr 1
    omega

section
variable {c : Ctx} {t : Tm} {x : Aux} {h : Heap}
theorem o_move {g : OpdF} {p : Value → Tm → Tm} {rest : KB} {v : Value} (hg : g t = v) : oSet (xMove g) p rest c t x h = rest c (p v t) x h := by subst hg; rfl
theorem o_look {l : Look} {p : Value → Tm → Tm} {rest : KB} {v : Value} (hl : l t h = some v) : oSet (xLook l) p rest c t x h = rest c (p v t) x h := by unfold oSet xLook; rw [hl]
theorem o_turn {l : Turn} {p : Value → Tm → Tm} {rest : KB} {v : Value} {h' : Heap} (hl : l t h = some (v, h')) : oSet (xTurn l) p rest c t x h = rest c (p v t) x h' := by unfold oSet xTurn; rw [hl]
theorem o_call {f : OpdF} {args : List OpdF} {p : Value → Tm → Tm} {rest : KB} {v : Value} (e : c.call (f t) (vals t args) h = .ret v h) : oSet (xCall f args) p rest c t x h = rest c (p v t) x h := by unfold oSet xCall; rw [e]; rfl
theorem k_norm {a b : KB} {t1 : Tm} {x1 : Aux} {h1 : Heap} (e : a c t x h = .norm t1 x1 h1) : kSeq a b c t x h = b c t1 x1 h1 := by unfold kSeq; rw [e]; rfl
theorem k_body {E : Env} {fn fn' : KFun} {args : List Value} (hr : fn.res = fn'.res) (hb : fn.body c (initTmps args 0 Tm.empty) ⟨[], none, none⟩ h = fn'.body c (initTmps args 0 Tm.empty) ⟨[], none, none⟩ h) : enterK E c fn args h = enterK E c fn' args h := by unfold enterK; rw [hb, hr]
end
def idArg : Value := .agg ⟨List.replicate 32 (.chan none)⟩
theorem body_same {c : Ctx} {z : Int} {v : Value} (hc : ∀ h, c.call (.func (.func 4) ⟨[]⟩ ⟨[]⟩) [.int .i64 z, .int .i64 (Int.ofNat 3)] h = .ret v h) :
    k3.body c (initTmps [.int .i64 z, idArg] 0 Tm.empty) ⟨[], none, none⟩ ⟨0, .nil⟩ = (k3s v).body c (initTmps [.int .i64 z, idArg] 0 Tm.empty) ⟨[], none, none⟩ ⟨0, .nil⟩ := by
  unfold k3 k3s
  dsimp only
  refine (k_norm ((o_turn (tn_boxAgg (cs := List.replicate 32 (.chan none)) rfl)).trans ((o_move rfl).trans rfl))).trans (Eq.trans ?_ (k_norm ((o_turn (tn_boxAgg (cs := List.replicate 32 (.chan none)) rfl)).trans ((o_move rfl).trans rfl))).symm)
  refine (k_norm ((o_move (v := .int .i64 z) rfl).trans ((o_call (hc _)).trans ((o_move (v := v) rfl).trans rfl)))).trans (k_norm ((o_move (v := .int .i64 z) rfl).trans ((o_look rfl).trans ((o_move (v := v) rfl).trans rfl)))).symm
theorem run0 (z : Int) : (enterK E2 (ctx E2 (nat_lit 5000)) (k3s (.int .i64 (Int.ofNat 0))) [.int .i64 z, idArg] ⟨0, .nil⟩).sure = true := by kernel_rfl
theorem run1 (z : Int) : (enterK E2 (ctx E2 (nat_lit 5000)) (k3s (.int .i64 (Int.ofNat 1))) [.int .i64 z, idArg] ⟨0, .nil⟩).sure = true := by kernel_rfl
theorem run2 (z : Int) : (enterK E2 (ctx E2 (nat_lit 5000)) (k3s (.int .i64 (Int.ofNat 2))) [.int .i64 z, idArg] ⟨0, .nil⟩).sure = true := by kernel_rfl
theorem call4 (n : Nat) {z : Int} {r : Nat} (hp : ∀ (c : Ctx) (h : Heap), (enter E2 c 4 [.int .i64 z, .int .i64 (Int.ofNat 3)] h).Wp fun v h' => v = .int .i64 (Int.ofNat r) ∧ h' = h) (h : Heap) :
    (ctx E2 (n + 1)).call (.func (.func 4) ⟨[]⟩ ⟨[]⟩) [.int .i64 z, .int .i64 (Int.ofNat 3)] h = .ret (.int .i64 (Int.ofNat r)) h := by
  obtain ⟨v, h', e, rfl, rfl⟩ := (wp_func (first := ⟨[]⟩) (captured := ⟨[]⟩) rfl (hp (ctx E2 n) h) : ((ctx E2 (n + 1)).call (.func (.func 4) ⟨[]⟩ ⟨[]⟩) [.int .i64 z, .int .i64 (Int.ofNat 3)] h).Wp _)
  exact e
theorem picked (n : Nat) {z : Int} {r : Nat} (hp : ∀ (c : Ctx) (h : Heap), (enter E2 c 4 [.int .i64 z, .int .i64 (Int.ofNat 3)] h).Wp fun v h' => v = .int .i64 (Int.ofNat r) ∧ h' = h) :
    enterK E2 (ctx E2 (n + 1)) k3 [.int .i64 z, idArg] ⟨0, .nil⟩ = enterK E2 (ctx E2 (n + 1)) (k3s (.int .i64 (Int.ofNat r))) [.int .i64 z, idArg] ⟨0, .nil⟩ := k_body rfl (body_same (call4 n hp))
theorem ran (z : Int) : (enterK E2 (ctx E2 (nat_lit 5000)) k3 [.int .i64 z, idArg] ⟨0, .nil⟩).sure = true := by
  obtain ⟨r, hr, hp⟩ := pick4 z 3 (by decide) (by decide)
  refine (congrArg Er.sure (picked (nat_lit 4999) hp)).trans ?_
  match r, hr with
  | 0, _ => exact run0 z
  | 1, _ => exact run1 z
  | 2, _ => exact run2 z
end SegK
