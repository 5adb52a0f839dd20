/-
  SpanOne: the law's call, gone through: true. Conditions: those that each lemma states.
-/
import Derived.Test.YtfknpknbgfkbdaaK

set_option linter.unusedSimpArgs false
set_option linter.unusedSectionVars false
set_option linter.unusedVariables false
namespace SpanK
open Go Go.Eng Go.Proofs.Ytfknpknbgfkbdaa.Eng
set_option maxRecDepth 100000
theorem eqB_dec (a b : Str) : eqBytes a b = decide (a = b) := by
  cases h : eqBytes a b with
  | true => exact (decide_eq_true ((eqB_iff _ _).1 h)).symm
  | false => refine (decide_eq_false fun e => ?_).symm; rw [(eqB_iff _ _).2 e] at h; cases h
theorem beqB (a : Bool) : (a == a) = true := by cases a <;> rfl
theorem one5 {E : Env} (H : Has E) (n : Nat) (s : Sp) (k o : Str) (h : Heap) (hn : 200 ≤ n) : (enterK E (ctx E (n + 3)) k5 [.agg ⟨svs s⟩, sv k, sv o] h).Wp fun v h' => v = .bool true := by
  unfold k5
  refine wp_fn (Nat.le_of_ble_eq_true rfl) ?_
  dsimp only
  by_cases c1 : longS [s] 1 = true
  ·
    refine wp_seq ?_
    refine wp_boxH rfl fun h1 b_s le_h1 g_s_h1 n_s_h1 => ?_
    refine wp_move (by conv => lhs; whnf) ?_
    refine wp_end ?_
    refine wp_seq ?_
    refine wp_callS (wp_func rfl (wp_true H.awake)) ?_
    refine wp_move (by conv => lhs; whnf) ?_
    refine wp_end ?_
    refine wp_seq ?_
    refine wp_seq ?_
    refine wp_look (l_loadN rfl g_s_h1 rfl) ?_
    refine wp_buildH (cs := flatS [s]) rfl fun h2 b_l le_h2 g_l_h2 n_l_h2 => ?_
    have g_s_h2 := (le_h2.get _ n_s_h1).trans g_s_h1
    have n_s_h2 := Nat.lt_of_lt_of_le n_s_h1 le_h2.next
    refine wp_callS (wp_func rfl (long10 H _ [s] _ 1 1 1 rfl h2 (reads_two g_l_h2 n_l_h2) (by omega) (by decide) (by decide))) ?_
    refine wp_say (b := true) rfl c1 ?_
    refine wp_no rfl ?_
    refine wp_no rfl ?_
    refine wp_no rfl ?_
    refine wp_look (l_pick1 rfl (by conv => lhs; whnf)) ?_
    refine wp_say (b := true) rfl rfl ?_
    refine wp_no rfl ?_
    refine wp_no rfl ?_
    refine wp_no rfl ?_
    refine wp_look (l_pick1 rfl (by conv => lhs; whnf)) ?_
    refine wp_end ?_
    refine wp_condT rfl rfl ?_
    refine wp_seq ?_
    refine wp_move (by conv => lhs; whnf) ?_
    refine wp_move (by conv => lhs; whnf) ?_
    refine wp_end ?_
    refine wp_ret ?_
    exact ⟨rfl, _, rfl, rfl⟩
  · rw [Bool.not_eq_true] at c1
    by_cases c2 : 100 < k.length
    ·
      refine wp_seq ?_
      refine wp_boxH rfl fun h1 b_s le_h1 g_s_h1 n_s_h1 => ?_
      refine wp_move (by conv => lhs; whnf) ?_
      refine wp_end ?_
      refine wp_seq ?_
      refine wp_callS (wp_func rfl (wp_true H.awake)) ?_
      refine wp_move (by conv => lhs; whnf) ?_
      refine wp_end ?_
      refine wp_seq ?_
      refine wp_seq ?_
      refine wp_look (l_loadN rfl g_s_h1 rfl) ?_
      refine wp_buildH (cs := flatS [s]) rfl fun h2 b_l le_h2 g_l_h2 n_l_h2 => ?_
      have g_s_h2 := (le_h2.get _ n_s_h1).trans g_s_h1
      have n_s_h2 := Nat.lt_of_lt_of_le n_s_h1 le_h2.next
      refine wp_callS (wp_func rfl (long10 H _ [s] _ 1 1 1 rfl h2 (reads_two g_l_h2 n_l_h2) (by omega) (by decide) (by decide))) ?_
      refine wp_say (b := false) rfl c1 ?_
      refine wp_yes rfl ?_
      refine wp_move (by conv => lhs; whnf) ?_
      refine wp_yes rfl ?_
      refine wp_look (l_lenStr rfl) ?_
      refine wp_yes rfl ?_
      first | refine wp_look (l_gtrI rfl rfl rfl) ?_ | refine wp_look (l_gtr rfl rfl) ?_
      refine wp_look (l_pick0 rfl (by conv => lhs; whnf)) ?_
      refine wp_say (b := true) rfl (decide_eq_true (by show (100 : Int) < (k.length : Int); omega)) ?_
      refine wp_no rfl ?_
      refine wp_no rfl ?_
      refine wp_no rfl ?_
      refine wp_look (l_pick1 rfl (by conv => lhs; whnf)) ?_
      refine wp_end ?_
      refine wp_condT rfl rfl ?_
      refine wp_seq ?_
      refine wp_move (by conv => lhs; whnf) ?_
      refine wp_move (by conv => lhs; whnf) ?_
      refine wp_end ?_
      refine wp_ret ?_
      exact ⟨rfl, _, rfl, rfl⟩
    · by_cases c3 : 100 < o.length
      ·
        refine wp_seq ?_
        refine wp_boxH rfl fun h1 b_s le_h1 g_s_h1 n_s_h1 => ?_
        refine wp_move (by conv => lhs; whnf) ?_
        refine wp_end ?_
        refine wp_seq ?_
        refine wp_callS (wp_func rfl (wp_true H.awake)) ?_
        refine wp_move (by conv => lhs; whnf) ?_
        refine wp_end ?_
        refine wp_seq ?_
        refine wp_seq ?_
        refine wp_look (l_loadN rfl g_s_h1 rfl) ?_
        refine wp_buildH (cs := flatS [s]) rfl fun h2 b_l le_h2 g_l_h2 n_l_h2 => ?_
        have g_s_h2 := (le_h2.get _ n_s_h1).trans g_s_h1
        have n_s_h2 := Nat.lt_of_lt_of_le n_s_h1 le_h2.next
        refine wp_callS (wp_func rfl (long10 H _ [s] _ 1 1 1 rfl h2 (reads_two g_l_h2 n_l_h2) (by omega) (by decide) (by decide))) ?_
        refine wp_say (b := false) rfl c1 ?_
        refine wp_yes rfl ?_
        refine wp_move (by conv => lhs; whnf) ?_
        refine wp_yes rfl ?_
        refine wp_look (l_lenStr rfl) ?_
        refine wp_yes rfl ?_
        first | refine wp_look (l_gtrI rfl rfl rfl) ?_ | refine wp_look (l_gtr rfl rfl) ?_
        refine wp_look (l_pick0 rfl (by conv => lhs; whnf)) ?_
        refine wp_say (b := false) rfl (decide_eq_false (by show ¬ (100 : Int) < (k.length : Int); omega)) ?_
        refine wp_yes rfl ?_
        refine wp_move (by conv => lhs; whnf) ?_
        refine wp_yes rfl ?_
        refine wp_look (l_lenStr rfl) ?_
        refine wp_yes rfl ?_
        first | refine wp_look (l_gtrI rfl rfl rfl) ?_ | refine wp_look (l_gtr rfl rfl) ?_
        refine wp_look (l_pick0 rfl (by conv => lhs; whnf)) ?_
        refine wp_end ?_
        refine wp_condT rfl (decide_eq_true (by show (100 : Int) < (o.length : Int); omega)) ?_
        refine wp_seq ?_
        refine wp_move (by conv => lhs; whnf) ?_
        refine wp_move (by conv => lhs; whnf) ?_
        refine wp_end ?_
        refine wp_ret ?_
        exact ⟨rfl, _, rfl, rfl⟩
      · by_cases c4 : inS s o = true
        ·
          refine wp_seq ?_
          refine wp_boxH rfl fun h1 b_s le_h1 g_s_h1 n_s_h1 => ?_
          refine wp_move (by conv => lhs; whnf) ?_
          refine wp_end ?_
          refine wp_seq ?_
          refine wp_callS (wp_func rfl (wp_true H.awake)) ?_
          refine wp_move (by conv => lhs; whnf) ?_
          refine wp_end ?_
          refine wp_seq ?_
          refine wp_seq ?_
          refine wp_look (l_loadN rfl g_s_h1 rfl) ?_
          refine wp_buildH (cs := flatS [s]) rfl fun h2 b_l le_h2 g_l_h2 n_l_h2 => ?_
          have g_s_h2 := (le_h2.get _ n_s_h1).trans g_s_h1
          have n_s_h2 := Nat.lt_of_lt_of_le n_s_h1 le_h2.next
          refine wp_callS (wp_func rfl (long10 H _ [s] _ 1 1 1 rfl h2 (reads_two g_l_h2 n_l_h2) (by omega) (by decide) (by decide))) ?_
          refine wp_say (b := false) rfl c1 ?_
          refine wp_yes rfl ?_
          refine wp_move (by conv => lhs; whnf) ?_
          refine wp_yes rfl ?_
          refine wp_look (l_lenStr rfl) ?_
          refine wp_yes rfl ?_
          first | refine wp_look (l_gtrI rfl rfl rfl) ?_ | refine wp_look (l_gtr rfl rfl) ?_
          refine wp_look (l_pick0 rfl (by conv => lhs; whnf)) ?_
          refine wp_say (b := false) rfl (decide_eq_false (by show ¬ (100 : Int) < (k.length : Int); omega)) ?_
          refine wp_yes rfl ?_
          refine wp_move (by conv => lhs; whnf) ?_
          refine wp_yes rfl ?_
          refine wp_look (l_lenStr rfl) ?_
          refine wp_yes rfl ?_
          first | refine wp_look (l_gtrI rfl rfl rfl) ?_ | refine wp_look (l_gtr rfl rfl) ?_
          refine wp_look (l_pick0 rfl (by conv => lhs; whnf)) ?_
          refine wp_end ?_
          refine wp_condF rfl (decide_eq_false (by show ¬ (100 : Int) < (o.length : Int); omega)) ?_
          refine wp_skip ?_
          refine wp_seq ?_
          refine wp_draw ?_
          refine wp_dMove (by conv => lhs; whnf) rfl ?_
          refine wp_dCallL (wp_func rfl (one17 H _ k (by omega) h2)) (fun _ _ => rfl) fun h3 le_h3 => ?_
          have g_s_h3 := (le_h3.get _ n_s_h2).trans g_s_h2
          have n_s_h3 := Nat.lt_of_lt_of_le n_s_h2 le_h3.next
          have g_l_h3 := (le_h3.get _ n_l_h2).trans g_l_h2
          have n_l_h3 := Nat.lt_of_lt_of_le n_l_h2 le_h3.next
          refine wp_dLook (l_loadN rfl g_s_h3 rfl) (unLook_wr rfl (tells_sp (l_loadN rfl g_s_h2 rfl)) rfl) ?_
          refine wp_dMove (by conv => lhs; whnf) rfl ?_
          refine wp_dCallL (wp_func rfl (upto19 H _ s k (by omega) h3)) (fun _ _ => rfl) fun h4 le_h4 => ?_
          have g_s_h4 := (le_h4.get _ n_s_h3).trans g_s_h3
          have n_s_h4 := Nat.lt_of_lt_of_le n_s_h3 le_h4.next
          have g_l_h4 := (le_h4.get _ n_l_h3).trans g_l_h3
          have n_l_h4 := Nat.lt_of_lt_of_le n_l_h3 le_h4.next
          refine wp_dAllocH (fun _ => rfl) fun h5 b_o le_h5 g_o_h5 n_o_h5 e_o => ?_
          have g_s_h5 := (le_h5.get _ n_s_h4).trans g_s_h4
          have n_s_h5 := Nat.lt_of_lt_of_le n_s_h4 le_h5.next
          have g_l_h5 := (le_h5.get _ n_l_h4).trans g_l_h4
          have n_l_h5 := Nat.lt_of_lt_of_le n_l_h4 le_h5.next
          refine wp_dAllocH (fun _ => rfl) fun h6 b_u le_h6 g_u_h6 n_u_h6 e_u => ?_
          have g_s_h6 := (le_h6.get _ n_s_h5).trans g_s_h5
          have n_s_h6 := Nat.lt_of_lt_of_le n_s_h5 le_h6.next
          have g_l_h6 := (le_h6.get _ n_l_h5).trans g_l_h5
          have n_l_h6 := Nat.lt_of_lt_of_le n_l_h5 le_h6.next
          have g_o_h6 := (le_h6.get _ n_o_h5).trans g_o_h5
          have n_o_h6 := Nat.lt_of_lt_of_le n_o_h5 le_h6.next
          refine wp_dStoreH rfl rfl rfl g_o_h6 rfl (Nat.le_refl _) (fun _ => rfl) fun h7 nx_h7 gn_h7 go_h7 => ?_
          have g_s_h7 := (go_h7 b_s (by show b_s ≠ b_o; omega)).trans g_s_h6
          have n_s_h7 : b_s < h7.next := by rw [nx_h7]; exact n_s_h6
          have g_l_h7 := (go_h7 b_l (by show b_l ≠ b_o; omega)).trans g_l_h6
          have n_l_h7 : b_l < h7.next := by rw [nx_h7]; exact n_l_h6
          have g_o_h7 : h7.get b_o = some (.cells true (svs (k, k ++ [0]))) := gn_h7
          have n_o_h7 : b_o < h7.next := by rw [nx_h7]; exact n_o_h6
          have g_u_h7 := (go_h7 b_u (by show b_u ≠ b_o; omega)).trans g_u_h6
          have n_u_h7 : b_u < h7.next := by rw [nx_h7]; exact n_u_h6
          refine wp_dStoreH rfl rfl rfl g_u_h7 rfl (Nat.le_refl _) (fun _ => rfl) fun h8 nx_h8 gn_h8 go_h8 => ?_
          have g_s_h8 := (go_h8 b_s (by show b_s ≠ b_u; omega)).trans g_s_h7
          have n_s_h8 : b_s < h8.next := by rw [nx_h8]; exact n_s_h7
          have g_l_h8 := (go_h8 b_l (by show b_l ≠ b_u; omega)).trans g_l_h7
          have n_l_h8 : b_l < h8.next := by rw [nx_h8]; exact n_l_h7
          have g_o_h8 := (go_h8 b_o (by show b_o ≠ b_u; omega)).trans g_o_h7
          have n_o_h8 : b_o < h8.next := by rw [nx_h8]; exact n_o_h7
          have g_u_h8 : h8.get b_u = some (.cells true (svs (uptoB s k))) := gn_h8
          have n_u_h8 : b_u < h8.next := by rw [nx_h8]; exact n_u_h7
          refine wp_dEnd ?_
          refine wp_seq ?_
          refine wp_draw ?_
          refine wp_dMove (by conv => lhs; whnf) rfl ?_
          refine wp_dKnow (b := true) rfl rfl rfl ?_
          refine wp_dYes rfl ?_
          refine wp_dLook (l_loadN rfl g_o_h8 rfl) rfl ?_
          refine wp_dYes rfl ?_
          refine wp_dMove (by conv => lhs; whnf) rfl ?_
          refine wp_dYes rfl ?_
          refine wp_dCallL (wp_func rfl (in12 H _ (k, k ++ [0]) k h8)) (fun _ _ => rfl) fun h9 le_h9 => ?_
          have g_s_h9 := (le_h9.get _ n_s_h8).trans g_s_h8
          have n_s_h9 := Nat.lt_of_lt_of_le n_s_h8 le_h9.next
          have g_l_h9 := (le_h9.get _ n_l_h8).trans g_l_h8
          have n_l_h9 := Nat.lt_of_lt_of_le n_l_h8 le_h9.next
          have g_o_h9 := (le_h9.get _ n_o_h8).trans g_o_h8
          have n_o_h9 := Nat.lt_of_lt_of_le n_o_h8 le_h9.next
          have g_u_h9 := (le_h9.get _ n_u_h8).trans g_u_h8
          have n_u_h9 := Nat.lt_of_lt_of_le n_u_h8 le_h9.next
          refine wp_dLook (l_pick1 rfl (by conv => lhs; whnf)) rfl ?_
          refine wp_dKnow (b := true) rfl (one_in k) rfl ?_
          refine wp_dYes rfl ?_
          refine wp_dLook (l_loadN rfl g_o_h9 rfl) rfl ?_
          refine wp_dYes rfl ?_
          refine wp_dMove (by conv => lhs; whnf) rfl ?_
          refine wp_dYes rfl ?_
          refine wp_dCallL (wp_func rfl (in12 H _ (k, k ++ [0]) o h9)) (fun _ _ => rfl) fun h10 le_h10 => ?_
          have g_s_h10 := (le_h10.get _ n_s_h9).trans g_s_h9
          have n_s_h10 := Nat.lt_of_lt_of_le n_s_h9 le_h10.next
          have g_l_h10 := (le_h10.get _ n_l_h9).trans g_l_h9
          have n_l_h10 := Nat.lt_of_lt_of_le n_l_h9 le_h10.next
          have g_o_h10 := (le_h10.get _ n_o_h9).trans g_o_h9
          have n_o_h10 := Nat.lt_of_lt_of_le n_o_h9 le_h10.next
          have g_u_h10 := (le_h10.get _ n_u_h9).trans g_u_h9
          have n_u_h10 := Nat.lt_of_lt_of_le n_u_h9 le_h10.next
          refine wp_dYes rfl ?_
          refine wp_dMove (by conv => lhs; whnf) rfl ?_
          refine wp_dYes rfl ?_
          refine wp_dMove (by conv => lhs; whnf) rfl ?_
          refine wp_dYes rfl ?_
          refine wp_dLook (l_eqS rfl rfl) rfl ?_
          refine wp_dYes rfl ?_
          refine wp_dLook (l_eqB rfl rfl) rfl ?_
          refine wp_dLook (l_pick1 rfl (by conv => lhs; whnf)) rfl ?_
          refine wp_dKnow (b := true) rfl (by show (inS (k, k ++ [0]) o == eqBytes k o) = true; rw [one_other, eqB_dec]; exact beqB _) rfl ?_
          refine wp_dYes rfl ?_
          refine wp_dLook (l_loadN rfl g_u_h10 rfl) rfl ?_
          refine wp_dYes rfl ?_
          refine wp_dMove (by conv => lhs; whnf) rfl ?_
          refine wp_dYes rfl ?_
          refine wp_dCallL (wp_func rfl (in12 H _ (uptoB s k) o h10)) (fun _ _ => rfl) fun h11 le_h11 => ?_
          have g_s_h11 := (le_h11.get _ n_s_h10).trans g_s_h10
          have n_s_h11 := Nat.lt_of_lt_of_le n_s_h10 le_h11.next
          have g_l_h11 := (le_h11.get _ n_l_h10).trans g_l_h10
          have n_l_h11 := Nat.lt_of_lt_of_le n_l_h10 le_h11.next
          have g_o_h11 := (le_h11.get _ n_o_h10).trans g_o_h10
          have n_o_h11 := Nat.lt_of_lt_of_le n_o_h10 le_h11.next
          have g_u_h11 := (le_h11.get _ n_u_h10).trans g_u_h10
          have n_u_h11 := Nat.lt_of_lt_of_le n_u_h10 le_h11.next
          refine wp_dYes rfl ?_
          refine wp_dLook (l_loadN rfl g_s_h11 rfl) (unLook_wr rfl (tells_sp (l_loadN rfl g_s_h10 rfl)) rfl) ?_
          refine wp_dYes rfl ?_
          refine wp_dMove (by conv => lhs; whnf) rfl ?_
          refine wp_dYes rfl ?_
          refine wp_dCallL (wp_func rfl (in12 H _ s o h11)) (fun _ _ => rfl) fun h12 le_h12 => ?_
          have g_s_h12 := (le_h12.get _ n_s_h11).trans g_s_h11
          have n_s_h12 := Nat.lt_of_lt_of_le n_s_h11 le_h12.next
          have g_l_h12 := (le_h12.get _ n_l_h11).trans g_l_h11
          have n_l_h12 := Nat.lt_of_lt_of_le n_l_h11 le_h12.next
          have g_o_h12 := (le_h12.get _ n_o_h11).trans g_o_h11
          have n_o_h12 := Nat.lt_of_lt_of_le n_o_h11 le_h12.next
          have g_u_h12 := (le_h12.get _ n_u_h11).trans g_u_h11
          have n_u_h12 := Nat.lt_of_lt_of_le n_u_h11 le_h12.next
          refine wp_dYes rfl ?_
          refine wp_dKnow (b := true) rfl c4 rfl ?_
          refine wp_dYes rfl ?_
          refine wp_dMove (by conv => lhs; whnf) rfl ?_
          refine wp_dYes rfl ?_
          refine wp_dMove (by conv => lhs; whnf) rfl ?_
          refine wp_dYes rfl ?_
          refine wp_dLook (by first | exact l_leq rfl rfl | exact l_leqI rfl rfl rfl) rfl ?_
          refine wp_dYes rfl ?_
          refine wp_dLook (l_pick1 rfl (by conv => lhs; whnf)) rfl ?_
          refine wp_dYes rfl ?_
          refine wp_dLook (l_eqB rfl rfl) rfl ?_
          refine wp_dLook (l_pick1 rfl (by conv => lhs; whnf)) rfl ?_
          refine wp_dMove (by conv => lhs; whnf) rfl ?_
          refine wp_dEnd ?_
          refine wp_ret ?_
          refine ⟨rfl, _, rfl, ?_⟩
          show Value.bool (inS (uptoB s k) o == (ltBytes o k || eqBytes o k)) = _
          rw [upto_in, c4]
          rw [leq_eq, Bool.true_and, beqB]
        · rw [Bool.not_eq_true] at c4
          refine wp_seq ?_
          refine wp_boxH rfl fun h1 b_s le_h1 g_s_h1 n_s_h1 => ?_
          refine wp_move (by conv => lhs; whnf) ?_
          refine wp_end ?_
          refine wp_seq ?_
          refine wp_callS (wp_func rfl (wp_true H.awake)) ?_
          refine wp_move (by conv => lhs; whnf) ?_
          refine wp_end ?_
          refine wp_seq ?_
          refine wp_seq ?_
          refine wp_look (l_loadN rfl g_s_h1 rfl) ?_
          refine wp_buildH (cs := flatS [s]) rfl fun h2 b_l le_h2 g_l_h2 n_l_h2 => ?_
          have g_s_h2 := (le_h2.get _ n_s_h1).trans g_s_h1
          have n_s_h2 := Nat.lt_of_lt_of_le n_s_h1 le_h2.next
          refine wp_callS (wp_func rfl (long10 H _ [s] _ 1 1 1 rfl h2 (reads_two g_l_h2 n_l_h2) (by omega) (by decide) (by decide))) ?_
          refine wp_say (b := false) rfl c1 ?_
          refine wp_yes rfl ?_
          refine wp_move (by conv => lhs; whnf) ?_
          refine wp_yes rfl ?_
          refine wp_look (l_lenStr rfl) ?_
          refine wp_yes rfl ?_
          first | refine wp_look (l_gtrI rfl rfl rfl) ?_ | refine wp_look (l_gtr rfl rfl) ?_
          refine wp_look (l_pick0 rfl (by conv => lhs; whnf)) ?_
          refine wp_say (b := false) rfl (decide_eq_false (by show ¬ (100 : Int) < (k.length : Int); omega)) ?_
          refine wp_yes rfl ?_
          refine wp_move (by conv => lhs; whnf) ?_
          refine wp_yes rfl ?_
          refine wp_look (l_lenStr rfl) ?_
          refine wp_yes rfl ?_
          first | refine wp_look (l_gtrI rfl rfl rfl) ?_ | refine wp_look (l_gtr rfl rfl) ?_
          refine wp_look (l_pick0 rfl (by conv => lhs; whnf)) ?_
          refine wp_end ?_
          refine wp_condF rfl (decide_eq_false (by show ¬ (100 : Int) < (o.length : Int); omega)) ?_
          refine wp_skip ?_
          refine wp_seq ?_
          refine wp_draw ?_
          refine wp_dMove (by conv => lhs; whnf) rfl ?_
          refine wp_dCallL (wp_func rfl (one17 H _ k (by omega) h2)) (fun _ _ => rfl) fun h3 le_h3 => ?_
          have g_s_h3 := (le_h3.get _ n_s_h2).trans g_s_h2
          have n_s_h3 := Nat.lt_of_lt_of_le n_s_h2 le_h3.next
          have g_l_h3 := (le_h3.get _ n_l_h2).trans g_l_h2
          have n_l_h3 := Nat.lt_of_lt_of_le n_l_h2 le_h3.next
          refine wp_dLook (l_loadN rfl g_s_h3 rfl) (unLook_wr rfl (tells_sp (l_loadN rfl g_s_h2 rfl)) rfl) ?_
          refine wp_dMove (by conv => lhs; whnf) rfl ?_
          refine wp_dCallL (wp_func rfl (upto19 H _ s k (by omega) h3)) (fun _ _ => rfl) fun h4 le_h4 => ?_
          have g_s_h4 := (le_h4.get _ n_s_h3).trans g_s_h3
          have n_s_h4 := Nat.lt_of_lt_of_le n_s_h3 le_h4.next
          have g_l_h4 := (le_h4.get _ n_l_h3).trans g_l_h3
          have n_l_h4 := Nat.lt_of_lt_of_le n_l_h3 le_h4.next
          refine wp_dAllocH (fun _ => rfl) fun h5 b_o le_h5 g_o_h5 n_o_h5 e_o => ?_
          have g_s_h5 := (le_h5.get _ n_s_h4).trans g_s_h4
          have n_s_h5 := Nat.lt_of_lt_of_le n_s_h4 le_h5.next
          have g_l_h5 := (le_h5.get _ n_l_h4).trans g_l_h4
          have n_l_h5 := Nat.lt_of_lt_of_le n_l_h4 le_h5.next
          refine wp_dAllocH (fun _ => rfl) fun h6 b_u le_h6 g_u_h6 n_u_h6 e_u => ?_
          have g_s_h6 := (le_h6.get _ n_s_h5).trans g_s_h5
          have n_s_h6 := Nat.lt_of_lt_of_le n_s_h5 le_h6.next
          have g_l_h6 := (le_h6.get _ n_l_h5).trans g_l_h5
          have n_l_h6 := Nat.lt_of_lt_of_le n_l_h5 le_h6.next
          have g_o_h6 := (le_h6.get _ n_o_h5).trans g_o_h5
          have n_o_h6 := Nat.lt_of_lt_of_le n_o_h5 le_h6.next
          refine wp_dStoreH rfl rfl rfl g_o_h6 rfl (Nat.le_refl _) (fun _ => rfl) fun h7 nx_h7 gn_h7 go_h7 => ?_
          have g_s_h7 := (go_h7 b_s (by show b_s ≠ b_o; omega)).trans g_s_h6
          have n_s_h7 : b_s < h7.next := by rw [nx_h7]; exact n_s_h6
          have g_l_h7 := (go_h7 b_l (by show b_l ≠ b_o; omega)).trans g_l_h6
          have n_l_h7 : b_l < h7.next := by rw [nx_h7]; exact n_l_h6
          have g_o_h7 : h7.get b_o = some (.cells true (svs (k, k ++ [0]))) := gn_h7
          have n_o_h7 : b_o < h7.next := by rw [nx_h7]; exact n_o_h6
          have g_u_h7 := (go_h7 b_u (by show b_u ≠ b_o; omega)).trans g_u_h6
          have n_u_h7 : b_u < h7.next := by rw [nx_h7]; exact n_u_h6
          refine wp_dStoreH rfl rfl rfl g_u_h7 rfl (Nat.le_refl _) (fun _ => rfl) fun h8 nx_h8 gn_h8 go_h8 => ?_
          have g_s_h8 := (go_h8 b_s (by show b_s ≠ b_u; omega)).trans g_s_h7
          have n_s_h8 : b_s < h8.next := by rw [nx_h8]; exact n_s_h7
          have g_l_h8 := (go_h8 b_l (by show b_l ≠ b_u; omega)).trans g_l_h7
          have n_l_h8 : b_l < h8.next := by rw [nx_h8]; exact n_l_h7
          have g_o_h8 := (go_h8 b_o (by show b_o ≠ b_u; omega)).trans g_o_h7
          have n_o_h8 : b_o < h8.next := by rw [nx_h8]; exact n_o_h7
          have g_u_h8 : h8.get b_u = some (.cells true (svs (uptoB s k))) := gn_h8
          have n_u_h8 : b_u < h8.next := by rw [nx_h8]; exact n_u_h7
          refine wp_dEnd ?_
          refine wp_seq ?_
          refine wp_draw ?_
          refine wp_dMove (by conv => lhs; whnf) rfl ?_
          refine wp_dKnow (b := true) rfl rfl rfl ?_
          refine wp_dYes rfl ?_
          refine wp_dLook (l_loadN rfl g_o_h8 rfl) rfl ?_
          refine wp_dYes rfl ?_
          refine wp_dMove (by conv => lhs; whnf) rfl ?_
          refine wp_dYes rfl ?_
          refine wp_dCallL (wp_func rfl (in12 H _ (k, k ++ [0]) k h8)) (fun _ _ => rfl) fun h9 le_h9 => ?_
          have g_s_h9 := (le_h9.get _ n_s_h8).trans g_s_h8
          have n_s_h9 := Nat.lt_of_lt_of_le n_s_h8 le_h9.next
          have g_l_h9 := (le_h9.get _ n_l_h8).trans g_l_h8
          have n_l_h9 := Nat.lt_of_lt_of_le n_l_h8 le_h9.next
          have g_o_h9 := (le_h9.get _ n_o_h8).trans g_o_h8
          have n_o_h9 := Nat.lt_of_lt_of_le n_o_h8 le_h9.next
          have g_u_h9 := (le_h9.get _ n_u_h8).trans g_u_h8
          have n_u_h9 := Nat.lt_of_lt_of_le n_u_h8 le_h9.next
          refine wp_dLook (l_pick1 rfl (by conv => lhs; whnf)) rfl ?_
          refine wp_dKnow (b := true) rfl (one_in k) rfl ?_
          refine wp_dYes rfl ?_
          refine wp_dLook (l_loadN rfl g_o_h9 rfl) rfl ?_
          refine wp_dYes rfl ?_
          refine wp_dMove (by conv => lhs; whnf) rfl ?_
          refine wp_dYes rfl ?_
          refine wp_dCallL (wp_func rfl (in12 H _ (k, k ++ [0]) o h9)) (fun _ _ => rfl) fun h10 le_h10 => ?_
          have g_s_h10 := (le_h10.get _ n_s_h9).trans g_s_h9
          have n_s_h10 := Nat.lt_of_lt_of_le n_s_h9 le_h10.next
          have g_l_h10 := (le_h10.get _ n_l_h9).trans g_l_h9
          have n_l_h10 := Nat.lt_of_lt_of_le n_l_h9 le_h10.next
          have g_o_h10 := (le_h10.get _ n_o_h9).trans g_o_h9
          have n_o_h10 := Nat.lt_of_lt_of_le n_o_h9 le_h10.next
          have g_u_h10 := (le_h10.get _ n_u_h9).trans g_u_h9
          have n_u_h10 := Nat.lt_of_lt_of_le n_u_h9 le_h10.next
          refine wp_dYes rfl ?_
          refine wp_dMove (by conv => lhs; whnf) rfl ?_
          refine wp_dYes rfl ?_
          refine wp_dMove (by conv => lhs; whnf) rfl ?_
          refine wp_dYes rfl ?_
          refine wp_dLook (l_eqS rfl rfl) rfl ?_
          refine wp_dYes rfl ?_
          refine wp_dLook (l_eqB rfl rfl) rfl ?_
          refine wp_dLook (l_pick1 rfl (by conv => lhs; whnf)) rfl ?_
          refine wp_dKnow (b := true) rfl (by show (inS (k, k ++ [0]) o == eqBytes k o) = true; rw [one_other, eqB_dec]; exact beqB _) rfl ?_
          refine wp_dYes rfl ?_
          refine wp_dLook (l_loadN rfl g_u_h10 rfl) rfl ?_
          refine wp_dYes rfl ?_
          refine wp_dMove (by conv => lhs; whnf) rfl ?_
          refine wp_dYes rfl ?_
          refine wp_dCallL (wp_func rfl (in12 H _ (uptoB s k) o h10)) (fun _ _ => rfl) fun h11 le_h11 => ?_
          have g_s_h11 := (le_h11.get _ n_s_h10).trans g_s_h10
          have n_s_h11 := Nat.lt_of_lt_of_le n_s_h10 le_h11.next
          have g_l_h11 := (le_h11.get _ n_l_h10).trans g_l_h10
          have n_l_h11 := Nat.lt_of_lt_of_le n_l_h10 le_h11.next
          have g_o_h11 := (le_h11.get _ n_o_h10).trans g_o_h10
          have n_o_h11 := Nat.lt_of_lt_of_le n_o_h10 le_h11.next
          have g_u_h11 := (le_h11.get _ n_u_h10).trans g_u_h10
          have n_u_h11 := Nat.lt_of_lt_of_le n_u_h10 le_h11.next
          refine wp_dYes rfl ?_
          refine wp_dLook (l_loadN rfl g_s_h11 rfl) (unLook_wr rfl (tells_sp (l_loadN rfl g_s_h10 rfl)) rfl) ?_
          refine wp_dYes rfl ?_
          refine wp_dMove (by conv => lhs; whnf) rfl ?_
          refine wp_dYes rfl ?_
          refine wp_dCallL (wp_func rfl (in12 H _ s o h11)) (fun _ _ => rfl) fun h12 le_h12 => ?_
          have g_s_h12 := (le_h12.get _ n_s_h11).trans g_s_h11
          have n_s_h12 := Nat.lt_of_lt_of_le n_s_h11 le_h12.next
          have g_l_h12 := (le_h12.get _ n_l_h11).trans g_l_h11
          have n_l_h12 := Nat.lt_of_lt_of_le n_l_h11 le_h12.next
          have g_o_h12 := (le_h12.get _ n_o_h11).trans g_o_h11
          have n_o_h12 := Nat.lt_of_lt_of_le n_o_h11 le_h12.next
          have g_u_h12 := (le_h12.get _ n_u_h11).trans g_u_h11
          have n_u_h12 := Nat.lt_of_lt_of_le n_u_h11 le_h12.next
          refine wp_dYes rfl ?_
          refine wp_dKnow (b := false) rfl c4 rfl ?_
          refine wp_dNo rfl ?_
          refine wp_dNo rfl ?_
          refine wp_dNo rfl ?_
          refine wp_dYes rfl ?_
          refine wp_dLook (l_pick0 rfl (by conv => lhs; whnf)) rfl ?_
          refine wp_dYes rfl ?_
          refine wp_dLook (l_eqB rfl rfl) rfl ?_
          refine wp_dLook (l_pick1 rfl (by conv => lhs; whnf)) rfl ?_
          refine wp_dMove (by conv => lhs; whnf) rfl ?_
          refine wp_dEnd ?_
          refine wp_ret ?_
          refine ⟨rfl, _, rfl, ?_⟩
          show Value.bool (inS (uptoB s k) o == false) = _
          rw [upto_in, c4]
          rfl

end SpanK
