/-
  SpanMeets: the law's call, gone through: true. Conditions: those that each lemma states.
-/
import Derived.Test.YtfknpknbgfkbdaaK

set_option linter.unusedSimpArgs false
set_option linter.unusedSectionVars false
set_option linter.unusedVariables false
namespace SpanK
open Go Go.Eng Go.Proofs.Ytfknpknbgfkbdaa.Eng
set_option maxRecDepth 100000
theorem eqB_dec (a b : Str) : eqBytes a b = decide (a = b) := by
  cases h : eqBytes a b with
  | true => exact (decide_eq_true ((eqB_iff _ _).1 h)).symm
  | false => refine (decide_eq_false fun e => ?_).symm; rw [(eqB_iff _ _).2 e] at h; cases h
theorem beqB (a : Bool) : (a == a) = true := by cases a <;> rfl
theorem meets3 {E : Env} (H : Has E) (n : Nat) (x y : Sp) (k : Str) (h : Heap) (hn : 200 ≤ n) : (enterK E (ctx E (n + 3)) k3 [.agg ⟨svs x⟩, .agg ⟨svs y⟩, sv k] h).Wp fun v h' => v = .bool true := by
  unfold k3
  refine wp_fn (Nat.le_of_ble_eq_true rfl) ?_
  dsimp only
  by_cases c1 : longS [x, y] 2 = true
  ·
    refine wp_seq ?_
    refine wp_boxH rfl fun h1 b_a le_h1 g_a_h1 n_a_h1 => ?_
    refine wp_boxH rfl fun h2 b_b le_h2 g_b_h2 n_b_h2 => ?_
    have g_a_h2 := (le_h2.get _ n_a_h1).trans g_a_h1
    have n_a_h2 := Nat.lt_of_lt_of_le n_a_h1 le_h2.next
    refine wp_move (by conv => lhs; whnf) ?_
    refine wp_end ?_
    refine wp_seq ?_
    refine wp_callS (wp_func rfl (wp_true H.awake)) ?_
    refine wp_move (by conv => lhs; whnf) ?_
    refine wp_end ?_
    refine wp_seq ?_
    refine wp_seq ?_
    refine wp_look (l_loadN rfl g_a_h2 rfl) ?_
    refine wp_look (l_loadN rfl g_b_h2 rfl) ?_
    refine wp_buildH (cs := flatS [x, y]) rfl fun h3 b_l le_h3 g_l_h3 n_l_h3 => ?_
    have g_a_h3 := (le_h3.get _ n_a_h2).trans g_a_h2
    have n_a_h3 := Nat.lt_of_lt_of_le n_a_h2 le_h3.next
    have g_b_h3 := (le_h3.get _ n_b_h2).trans g_b_h2
    have n_b_h3 := Nat.lt_of_lt_of_le n_b_h2 le_h3.next
    refine wp_callS (wp_func rfl (long10 H _ [x, y] _ 2 2 2 rfl h3 (reads_two g_l_h3 n_l_h3) (by omega) (by decide) (by decide))) ?_
    refine wp_say (b := true) rfl c1 ?_
    refine wp_no rfl ?_
    refine wp_no rfl ?_
    refine wp_no rfl ?_
    refine wp_look (l_pick1 rfl (by conv => lhs; whnf)) ?_
    refine wp_end ?_
    refine wp_condT rfl rfl ?_
    refine wp_seq ?_
    refine wp_move (by conv => lhs; whnf) ?_
    refine wp_move (by conv => lhs; whnf) ?_
    refine wp_end ?_
    refine wp_ret ?_
    exact ⟨rfl, _, rfl, rfl⟩
  · rw [Bool.not_eq_true] at c1
    by_cases c2 : 100 < k.length
    ·
      refine wp_seq ?_
      refine wp_boxH rfl fun h1 b_a le_h1 g_a_h1 n_a_h1 => ?_
      refine wp_boxH rfl fun h2 b_b le_h2 g_b_h2 n_b_h2 => ?_
      have g_a_h2 := (le_h2.get _ n_a_h1).trans g_a_h1
      have n_a_h2 := Nat.lt_of_lt_of_le n_a_h1 le_h2.next
      refine wp_move (by conv => lhs; whnf) ?_
      refine wp_end ?_
      refine wp_seq ?_
      refine wp_callS (wp_func rfl (wp_true H.awake)) ?_
      refine wp_move (by conv => lhs; whnf) ?_
      refine wp_end ?_
      refine wp_seq ?_
      refine wp_seq ?_
      refine wp_look (l_loadN rfl g_a_h2 rfl) ?_
      refine wp_look (l_loadN rfl g_b_h2 rfl) ?_
      refine wp_buildH (cs := flatS [x, y]) rfl fun h3 b_l le_h3 g_l_h3 n_l_h3 => ?_
      have g_a_h3 := (le_h3.get _ n_a_h2).trans g_a_h2
      have n_a_h3 := Nat.lt_of_lt_of_le n_a_h2 le_h3.next
      have g_b_h3 := (le_h3.get _ n_b_h2).trans g_b_h2
      have n_b_h3 := Nat.lt_of_lt_of_le n_b_h2 le_h3.next
      refine wp_callS (wp_func rfl (long10 H _ [x, y] _ 2 2 2 rfl h3 (reads_two g_l_h3 n_l_h3) (by omega) (by decide) (by decide))) ?_
      refine wp_say (b := false) rfl c1 ?_
      refine wp_yes rfl ?_
      refine wp_move (by conv => lhs; whnf) ?_
      refine wp_yes rfl ?_
      refine wp_look (l_lenStr rfl) ?_
      refine wp_yes rfl ?_
      first | refine wp_look (l_gtrI rfl rfl rfl) ?_ | refine wp_look (l_gtr rfl rfl) ?_
      refine wp_look (l_pick0 rfl (by conv => lhs; whnf)) ?_
      refine wp_end ?_
      refine wp_condT rfl (decide_eq_true (by show (100 : Int) < (k.length : Int); omega)) ?_
      refine wp_seq ?_
      refine wp_move (by conv => lhs; whnf) ?_
      refine wp_move (by conv => lhs; whnf) ?_
      refine wp_end ?_
      refine wp_ret ?_
      exact ⟨rfl, _, rfl, rfl⟩
    · have ue : ∀ z : Bool, z = true ∨ z = false := fun z => by cases z <;> simp
      rcases ue (inS x (maxB x.1 y.1)) with c5 | c5 <;> rcases ue (emptyS x) with c6 | c6 <;> rcases ue (inS x k) with c3 | c3
      ·
        rw [empty_has c6] at c3; cases c3
      ·
        refine wp_seq ?_
        refine wp_boxH rfl fun h1 b_a le_h1 g_a_h1 n_a_h1 => ?_
        refine wp_boxH rfl fun h2 b_b le_h2 g_b_h2 n_b_h2 => ?_
        have g_a_h2 := (le_h2.get _ n_a_h1).trans g_a_h1
        have n_a_h2 := Nat.lt_of_lt_of_le n_a_h1 le_h2.next
        refine wp_move (by conv => lhs; whnf) ?_
        refine wp_end ?_
        refine wp_seq ?_
        refine wp_callS (wp_func rfl (wp_true H.awake)) ?_
        refine wp_move (by conv => lhs; whnf) ?_
        refine wp_end ?_
        refine wp_seq ?_
        refine wp_seq ?_
        refine wp_look (l_loadN rfl g_a_h2 rfl) ?_
        refine wp_look (l_loadN rfl g_b_h2 rfl) ?_
        refine wp_buildH (cs := flatS [x, y]) rfl fun h3 b_l le_h3 g_l_h3 n_l_h3 => ?_
        have g_a_h3 := (le_h3.get _ n_a_h2).trans g_a_h2
        have n_a_h3 := Nat.lt_of_lt_of_le n_a_h2 le_h3.next
        have g_b_h3 := (le_h3.get _ n_b_h2).trans g_b_h2
        have n_b_h3 := Nat.lt_of_lt_of_le n_b_h2 le_h3.next
        refine wp_callS (wp_func rfl (long10 H _ [x, y] _ 2 2 2 rfl h3 (reads_two g_l_h3 n_l_h3) (by omega) (by decide) (by decide))) ?_
        refine wp_say (b := false) rfl c1 ?_
        refine wp_yes rfl ?_
        refine wp_move (by conv => lhs; whnf) ?_
        refine wp_yes rfl ?_
        refine wp_look (l_lenStr rfl) ?_
        refine wp_yes rfl ?_
        first | refine wp_look (l_gtrI rfl rfl rfl) ?_ | refine wp_look (l_gtr rfl rfl) ?_
        refine wp_look (l_pick0 rfl (by conv => lhs; whnf)) ?_
        refine wp_end ?_
        refine wp_condF rfl (decide_eq_false (by show ¬ (100 : Int) < (k.length : Int); omega)) ?_
        refine wp_skip ?_
        refine wp_seq ?_
        refine wp_look (l_fieldAddr rfl) ?_
        refine wp_look (l_load1 rfl g_a_h3 rfl) ?_
        refine wp_look (l_fieldAddr rfl) ?_
        refine wp_look (l_load1 rfl g_b_h3 rfl) ?_
        refine wp_look (l_max rfl rfl) ?_
        refine wp_move (by conv => lhs; whnf) ?_
        refine wp_end ?_
        refine wp_seq ?_
        refine wp_look (l_loadN rfl g_a_h3 rfl) ?_
        refine wp_look (l_loadN rfl g_b_h3 rfl) ?_
        refine wp_callL (wp_func rfl (meets11 H _ x y h3)) fun h4 le_h4 => ?_
        have g_a_h4 := (le_h4.get _ n_a_h3).trans g_a_h3
        have n_a_h4 := Nat.lt_of_lt_of_le n_a_h3 le_h4.next
        have g_b_h4 := (le_h4.get _ n_b_h3).trans g_b_h3
        have n_b_h4 := Nat.lt_of_lt_of_le n_b_h3 le_h4.next
        have g_l_h4 := (le_h4.get _ n_l_h3).trans g_l_h3
        have n_l_h4 := Nat.lt_of_lt_of_le n_l_h3 le_h4.next
        refine wp_move (by conv => lhs; whnf) ?_
        refine wp_end ?_
        refine wp_seq ?_
        refine wp_look (l_loadN rfl g_a_h4 rfl) ?_
        refine wp_move (by conv => lhs; whnf) ?_
        refine wp_callL (wp_func rfl (in12 H _ x k h4)) fun h5 le_h5 => ?_
        have g_a_h5 := (le_h5.get _ n_a_h4).trans g_a_h4
        have n_a_h5 := Nat.lt_of_lt_of_le n_a_h4 le_h5.next
        have g_b_h5 := (le_h5.get _ n_b_h4).trans g_b_h4
        have n_b_h5 := Nat.lt_of_lt_of_le n_b_h4 le_h5.next
        have g_l_h5 := (le_h5.get _ n_l_h4).trans g_l_h4
        have n_l_h5 := Nat.lt_of_lt_of_le n_l_h4 le_h5.next
        refine wp_say (b := false) rfl c3 ?_
        refine wp_no rfl ?_
        refine wp_no rfl ?_
        refine wp_no rfl ?_
        refine wp_look (l_pick0 rfl (by conv => lhs; whnf)) ?_
        refine wp_move (by conv => lhs; whnf) ?_
        refine wp_end ?_
        refine wp_seq ?_
        refine wp_seq ?_
        refine wp_move (by conv => lhs; whnf) ?_
        refine wp_say (b := false) rfl rfl ?_
        refine wp_no rfl ?_
        refine wp_no rfl ?_
        refine wp_look (l_pick0 rfl (by conv => lhs; whnf)) ?_
        refine wp_say (b := false) rfl rfl ?_
        refine wp_yes rfl ?_
        refine wp_move (by conv => lhs; whnf) ?_
        refine wp_yes rfl ?_
        refine wp_look (l_loadN rfl g_a_h5 rfl) ?_
        refine wp_yes rfl ?_
        refine wp_move (by conv => lhs; whnf) ?_
        refine wp_yes rfl ?_
        refine wp_callL (wp_func rfl (in12 H _ x (maxB x.1 y.1) h5)) fun h6 le_h6 => ?_
        have g_a_h6 := (le_h6.get _ n_a_h5).trans g_a_h5
        have n_a_h6 := Nat.lt_of_lt_of_le n_a_h5 le_h6.next
        have g_b_h6 := (le_h6.get _ n_b_h5).trans g_b_h5
        have n_b_h6 := Nat.lt_of_lt_of_le n_b_h5 le_h6.next
        have g_l_h6 := (le_h6.get _ n_l_h5).trans g_l_h5
        have n_l_h6 := Nat.lt_of_lt_of_le n_l_h5 le_h6.next
        refine wp_yes rfl ?_
        refine wp_say (b := true) rfl c5 ?_
        refine wp_yes rfl ?_
        refine wp_look (l_loadN rfl g_b_h6 rfl) ?_
        refine wp_yes rfl ?_
        refine wp_move (by conv => lhs; whnf) ?_
        refine wp_yes rfl ?_
        refine wp_callL (wp_func rfl (in12 H _ y (maxB x.1 y.1) h6)) fun h7 le_h7 => ?_
        have g_a_h7 := (le_h7.get _ n_a_h6).trans g_a_h6
        have n_a_h7 := Nat.lt_of_lt_of_le n_a_h6 le_h7.next
        have g_b_h7 := (le_h7.get _ n_b_h6).trans g_b_h6
        have n_b_h7 := Nat.lt_of_lt_of_le n_b_h6 le_h7.next
        have g_l_h7 := (le_h7.get _ n_l_h6).trans g_l_h6
        have n_l_h7 := Nat.lt_of_lt_of_le n_l_h6 le_h7.next
        refine wp_yes rfl ?_
        refine wp_look (l_pick1 rfl (by conv => lhs; whnf)) ?_
        refine wp_yes rfl ?_
        refine wp_look (l_neB rfl rfl) ?_
        refine wp_look (l_pick0 rfl (by conv => lhs; whnf)) ?_
        refine wp_say (b := false) rfl (by show (!((inS x (maxB x.1 y.1) && inS y (maxB x.1 y.1)) == inS y (maxB x.1 y.1))) = false; rw [c5, Bool.true_and, beqB]; rfl) ?_
        refine wp_yes rfl ?_
        refine wp_move (by conv => lhs; whnf) ?_
        refine wp_yes rfl ?_
        refine wp_look (l_loadN rfl g_b_h7 rfl) ?_
        refine wp_yes rfl ?_
        refine wp_look (l_loadN rfl g_a_h7 rfl) ?_
        refine wp_yes rfl ?_
        refine wp_callL (wp_func rfl (meets11 H _ y x h7)) fun h8 le_h8 => ?_
        have g_a_h8 := (le_h8.get _ n_a_h7).trans g_a_h7
        have n_a_h8 := Nat.lt_of_lt_of_le n_a_h7 le_h8.next
        have g_b_h8 := (le_h8.get _ n_b_h7).trans g_b_h7
        have n_b_h8 := Nat.lt_of_lt_of_le n_b_h7 le_h8.next
        have g_l_h8 := (le_h8.get _ n_l_h7).trans g_l_h7
        have n_l_h8 := Nat.lt_of_lt_of_le n_l_h7 le_h8.next
        refine wp_yes rfl ?_
        refine wp_look (l_neB rfl rfl) ?_
        refine wp_look (l_pick0 rfl (by conv => lhs; whnf)) ?_
        refine wp_end ?_
        refine wp_condF rfl (by show (!(meetsB x y == meetsB y x)) = false; rw [meets_swap x y, beqB]; rfl) ?_
        refine wp_skip ?_
        refine wp_seq ?_
        refine wp_draw ?_
        refine wp_dMove (by conv => lhs; whnf) rfl ?_
        refine wp_dKnow (b := true) rfl rfl rfl ?_
        refine wp_dYes rfl ?_
        refine wp_dLook (l_loadN rfl g_a_h8 rfl) rfl ?_
        refine wp_dYes rfl ?_
        refine wp_dCallL (wp_func rfl (empty13 H _ x h8)) (fun _ _ => rfl) fun h9 le_h9 => ?_
        have g_a_h9 := (le_h9.get _ n_a_h8).trans g_a_h8
        have n_a_h9 := Nat.lt_of_lt_of_le n_a_h8 le_h9.next
        have g_b_h9 := (le_h9.get _ n_b_h8).trans g_b_h8
        have n_b_h9 := Nat.lt_of_lt_of_le n_b_h8 le_h9.next
        have g_l_h9 := (le_h9.get _ n_l_h8).trans g_l_h8
        have n_l_h9 := Nat.lt_of_lt_of_le n_l_h8 le_h9.next
        refine wp_dYes rfl ?_
        refine wp_dLook (l_loadN rfl g_a_h9 rfl) (unLook_wr rfl (tells_sp (l_loadN rfl g_a_h8 rfl)) rfl) ?_
        refine wp_dYes rfl ?_
        refine wp_dLook (l_loadN rfl g_a_h9 rfl) (unLook_wr rfl (tells_sp (l_loadN rfl g_a_h8 rfl)) rfl) ?_
        refine wp_dYes rfl ?_
        refine wp_dCallL (wp_func rfl (meets11 H _ x x h9)) (fun _ _ => rfl) fun h10 le_h10 => ?_
        have g_a_h10 := (le_h10.get _ n_a_h9).trans g_a_h9
        have n_a_h10 := Nat.lt_of_lt_of_le n_a_h9 le_h10.next
        have g_b_h10 := (le_h10.get _ n_b_h9).trans g_b_h9
        have n_b_h10 := Nat.lt_of_lt_of_le n_b_h9 le_h10.next
        have g_l_h10 := (le_h10.get _ n_l_h9).trans g_l_h9
        have n_l_h10 := Nat.lt_of_lt_of_le n_l_h9 le_h10.next
        refine wp_dYes rfl ?_
        refine wp_dLook (l_neB rfl rfl) rfl ?_
        refine wp_dLook (l_pick1 rfl (by conv => lhs; whnf)) rfl ?_
        refine wp_dKnow (b := true) rfl (empty_meets x) rfl ?_
        refine wp_dYes rfl ?_
        refine wp_dLook (l_loadN rfl g_a_h10 rfl) rfl ?_
        refine wp_dYes rfl ?_
        refine wp_dCallL (wp_func rfl (empty13 H _ x h10)) (fun _ _ => rfl) fun h11 le_h11 => ?_
        have g_a_h11 := (le_h11.get _ n_a_h10).trans g_a_h10
        have n_a_h11 := Nat.lt_of_lt_of_le n_a_h10 le_h11.next
        have g_b_h11 := (le_h11.get _ n_b_h10).trans g_b_h10
        have n_b_h11 := Nat.lt_of_lt_of_le n_b_h10 le_h11.next
        have g_l_h11 := (le_h11.get _ n_l_h10).trans g_l_h10
        have n_l_h11 := Nat.lt_of_lt_of_le n_l_h10 le_h11.next
        refine wp_dYes rfl ?_
        refine wp_dLook (l_loadN rfl g_a_h11 rfl) (unLook_wr rfl (tells_sp (l_loadN rfl g_a_h10 rfl)) rfl) ?_
        refine wp_dYes rfl ?_
        refine wp_dLook (l_fieldAddr rfl) rfl ?_
        refine wp_dYes rfl ?_
        refine wp_dLook (l_load1 rfl g_a_h11 rfl) (unLook_wr rfl (tells_str (l_load1 rfl g_a_h10 rfl)) rfl) ?_
        refine wp_dYes rfl ?_
        refine wp_dCallL (wp_func rfl (in12 H _ x x.1 h11)) (fun _ _ => rfl) fun h12 le_h12 => ?_
        have g_a_h12 := (le_h12.get _ n_a_h11).trans g_a_h11
        have n_a_h12 := Nat.lt_of_lt_of_le n_a_h11 le_h12.next
        have g_b_h12 := (le_h12.get _ n_b_h11).trans g_b_h11
        have n_b_h12 := Nat.lt_of_lt_of_le n_b_h11 le_h12.next
        have g_l_h12 := (le_h12.get _ n_l_h11).trans g_l_h11
        have n_l_h12 := Nat.lt_of_lt_of_le n_l_h11 le_h12.next
        refine wp_dYes rfl ?_
        refine wp_dLook (l_neB rfl rfl) rfl ?_
        refine wp_dLook (l_pick1 rfl (by conv => lhs; whnf)) rfl ?_
        refine wp_dKnow (b := true) rfl (empty_in x) rfl ?_
        refine wp_dYes rfl ?_
        refine wp_dLook (l_loadN rfl g_a_h12 rfl) rfl ?_
        refine wp_dYes rfl ?_
        refine wp_dCallL (wp_func rfl (empty13 H _ x h12)) (fun _ _ => rfl) fun h13 le_h13 => ?_
        have g_a_h13 := (le_h13.get _ n_a_h12).trans g_a_h12
        have n_a_h13 := Nat.lt_of_lt_of_le n_a_h12 le_h13.next
        have g_b_h13 := (le_h13.get _ n_b_h12).trans g_b_h12
        have n_b_h13 := Nat.lt_of_lt_of_le n_b_h12 le_h13.next
        have g_l_h13 := (le_h13.get _ n_l_h12).trans g_l_h12
        have n_l_h13 := Nat.lt_of_lt_of_le n_l_h12 le_h13.next
        refine wp_dYes rfl ?_
        refine wp_dLook (l_not rfl) rfl ?_
        refine wp_dYes rfl ?_
        refine wp_dKnow (b := false) rfl (by rw [c6]; rfl) rfl ?_
        refine wp_dYes rfl ?_
        refine wp_dLook (l_loadN rfl g_a_h13 rfl) rfl ?_
        refine wp_dYes rfl ?_
        refine wp_dMove (by conv => lhs; whnf) rfl ?_
        refine wp_dYes rfl ?_
        refine wp_dCallL (wp_func rfl (in12 H _ x k h13)) (fun _ _ => rfl) fun h14 le_h14 => ?_
        have g_a_h14 := (le_h14.get _ n_a_h13).trans g_a_h13
        have n_a_h14 := Nat.lt_of_lt_of_le n_a_h13 le_h14.next
        have g_b_h14 := (le_h14.get _ n_b_h13).trans g_b_h13
        have n_b_h14 := Nat.lt_of_lt_of_le n_b_h13 le_h14.next
        have g_l_h14 := (le_h14.get _ n_l_h13).trans g_l_h13
        have n_l_h14 := Nat.lt_of_lt_of_le n_l_h13 le_h14.next
        refine wp_dYes rfl ?_
        refine wp_dLook (l_not rfl) rfl ?_
        refine wp_dYes rfl ?_
        refine wp_dLook (l_pick0 rfl (by conv => lhs; whnf)) rfl ?_
        refine wp_dLook (l_pick1 rfl (by conv => lhs; whnf)) rfl ?_
        refine wp_dMove (by conv => lhs; whnf) rfl ?_
        refine wp_dEnd ?_
        refine wp_ret ?_
        refine ⟨rfl, _, rfl, ?_⟩
        show Value.bool (!(inS x k)) = _
        rw [c3]; rfl
      ·
        rcases ue (inS y k) with c4 | c4
        ·
          refine wp_seq ?_
          refine wp_boxH rfl fun h1 b_a le_h1 g_a_h1 n_a_h1 => ?_
          refine wp_boxH rfl fun h2 b_b le_h2 g_b_h2 n_b_h2 => ?_
          have g_a_h2 := (le_h2.get _ n_a_h1).trans g_a_h1
          have n_a_h2 := Nat.lt_of_lt_of_le n_a_h1 le_h2.next
          refine wp_move (by conv => lhs; whnf) ?_
          refine wp_end ?_
          refine wp_seq ?_
          refine wp_callS (wp_func rfl (wp_true H.awake)) ?_
          refine wp_move (by conv => lhs; whnf) ?_
          refine wp_end ?_
          refine wp_seq ?_
          refine wp_seq ?_
          refine wp_look (l_loadN rfl g_a_h2 rfl) ?_
          refine wp_look (l_loadN rfl g_b_h2 rfl) ?_
          refine wp_buildH (cs := flatS [x, y]) rfl fun h3 b_l le_h3 g_l_h3 n_l_h3 => ?_
          have g_a_h3 := (le_h3.get _ n_a_h2).trans g_a_h2
          have n_a_h3 := Nat.lt_of_lt_of_le n_a_h2 le_h3.next
          have g_b_h3 := (le_h3.get _ n_b_h2).trans g_b_h2
          have n_b_h3 := Nat.lt_of_lt_of_le n_b_h2 le_h3.next
          refine wp_callS (wp_func rfl (long10 H _ [x, y] _ 2 2 2 rfl h3 (reads_two g_l_h3 n_l_h3) (by omega) (by decide) (by decide))) ?_
          refine wp_say (b := false) rfl c1 ?_
          refine wp_yes rfl ?_
          refine wp_move (by conv => lhs; whnf) ?_
          refine wp_yes rfl ?_
          refine wp_look (l_lenStr rfl) ?_
          refine wp_yes rfl ?_
          first | refine wp_look (l_gtrI rfl rfl rfl) ?_ | refine wp_look (l_gtr rfl rfl) ?_
          refine wp_look (l_pick0 rfl (by conv => lhs; whnf)) ?_
          refine wp_end ?_
          refine wp_condF rfl (decide_eq_false (by show ¬ (100 : Int) < (k.length : Int); omega)) ?_
          refine wp_skip ?_
          refine wp_seq ?_
          refine wp_look (l_fieldAddr rfl) ?_
          refine wp_look (l_load1 rfl g_a_h3 rfl) ?_
          refine wp_look (l_fieldAddr rfl) ?_
          refine wp_look (l_load1 rfl g_b_h3 rfl) ?_
          refine wp_look (l_max rfl rfl) ?_
          refine wp_move (by conv => lhs; whnf) ?_
          refine wp_end ?_
          refine wp_seq ?_
          refine wp_look (l_loadN rfl g_a_h3 rfl) ?_
          refine wp_look (l_loadN rfl g_b_h3 rfl) ?_
          refine wp_callL (wp_func rfl (meets11 H _ x y h3)) fun h4 le_h4 => ?_
          have g_a_h4 := (le_h4.get _ n_a_h3).trans g_a_h3
          have n_a_h4 := Nat.lt_of_lt_of_le n_a_h3 le_h4.next
          have g_b_h4 := (le_h4.get _ n_b_h3).trans g_b_h3
          have n_b_h4 := Nat.lt_of_lt_of_le n_b_h3 le_h4.next
          have g_l_h4 := (le_h4.get _ n_l_h3).trans g_l_h3
          have n_l_h4 := Nat.lt_of_lt_of_le n_l_h3 le_h4.next
          refine wp_move (by conv => lhs; whnf) ?_
          refine wp_end ?_
          refine wp_seq ?_
          refine wp_look (l_loadN rfl g_a_h4 rfl) ?_
          refine wp_move (by conv => lhs; whnf) ?_
          refine wp_callL (wp_func rfl (in12 H _ x k h4)) fun h5 le_h5 => ?_
          have g_a_h5 := (le_h5.get _ n_a_h4).trans g_a_h4
          have n_a_h5 := Nat.lt_of_lt_of_le n_a_h4 le_h5.next
          have g_b_h5 := (le_h5.get _ n_b_h4).trans g_b_h4
          have n_b_h5 := Nat.lt_of_lt_of_le n_b_h4 le_h5.next
          have g_l_h5 := (le_h5.get _ n_l_h4).trans g_l_h4
          have n_l_h5 := Nat.lt_of_lt_of_le n_l_h4 le_h5.next
          refine wp_say (b := true) rfl c3 ?_
          refine wp_yes rfl ?_
          refine wp_look (l_loadN rfl g_b_h5 rfl) ?_
          refine wp_yes rfl ?_
          refine wp_move (by conv => lhs; whnf) ?_
          refine wp_yes rfl ?_
          refine wp_callL (wp_func rfl (in12 H _ y k h5)) fun h6 le_h6 => ?_
          have g_a_h6 := (le_h6.get _ n_a_h5).trans g_a_h5
          have n_a_h6 := Nat.lt_of_lt_of_le n_a_h5 le_h6.next
          have g_b_h6 := (le_h6.get _ n_b_h5).trans g_b_h5
          have n_b_h6 := Nat.lt_of_lt_of_le n_b_h5 le_h6.next
          have g_l_h6 := (le_h6.get _ n_l_h5).trans g_l_h5
          have n_l_h6 := Nat.lt_of_lt_of_le n_l_h5 le_h6.next
          refine wp_look (l_pick1 rfl (by conv => lhs; whnf)) ?_
          refine wp_move (by conv => lhs; whnf) ?_
          refine wp_end ?_
          refine wp_seq ?_
          refine wp_seq ?_
          refine wp_move (by conv => lhs; whnf) ?_
          refine wp_say (b := true) rfl c4 ?_
          refine wp_yes rfl ?_
          refine wp_move (by conv => lhs; whnf) ?_
          refine wp_yes rfl ?_
          refine wp_look (l_not rfl) ?_
          refine wp_look (l_pick1 rfl (by conv => lhs; whnf)) ?_
          refine wp_say (b := false) rfl (by show (!(inS x (maxB x.1 y.1) && inS y (maxB x.1 y.1))) = false; have hm : (inS x (maxB x.1 y.1) && inS y (maxB x.1 y.1)) = true := meets_of c3 c4; rw [hm]; rfl) ?_
          refine wp_yes rfl ?_
          refine wp_move (by conv => lhs; whnf) ?_
          refine wp_yes rfl ?_
          refine wp_look (l_loadN rfl g_a_h6 rfl) ?_
          refine wp_yes rfl ?_
          refine wp_move (by conv => lhs; whnf) ?_
          refine wp_yes rfl ?_
          refine wp_callL (wp_func rfl (in12 H _ x (maxB x.1 y.1) h6)) fun h7 le_h7 => ?_
          have g_a_h7 := (le_h7.get _ n_a_h6).trans g_a_h6
          have n_a_h7 := Nat.lt_of_lt_of_le n_a_h6 le_h7.next
          have g_b_h7 := (le_h7.get _ n_b_h6).trans g_b_h6
          have n_b_h7 := Nat.lt_of_lt_of_le n_b_h6 le_h7.next
          have g_l_h7 := (le_h7.get _ n_l_h6).trans g_l_h6
          have n_l_h7 := Nat.lt_of_lt_of_le n_l_h6 le_h7.next
          refine wp_yes rfl ?_
          refine wp_say (b := true) rfl c5 ?_
          refine wp_yes rfl ?_
          refine wp_look (l_loadN rfl g_b_h7 rfl) ?_
          refine wp_yes rfl ?_
          refine wp_move (by conv => lhs; whnf) ?_
          refine wp_yes rfl ?_
          refine wp_callL (wp_func rfl (in12 H _ y (maxB x.1 y.1) h7)) fun h8 le_h8 => ?_
          have g_a_h8 := (le_h8.get _ n_a_h7).trans g_a_h7
          have n_a_h8 := Nat.lt_of_lt_of_le n_a_h7 le_h8.next
          have g_b_h8 := (le_h8.get _ n_b_h7).trans g_b_h7
          have n_b_h8 := Nat.lt_of_lt_of_le n_b_h7 le_h8.next
          have g_l_h8 := (le_h8.get _ n_l_h7).trans g_l_h7
          have n_l_h8 := Nat.lt_of_lt_of_le n_l_h7 le_h8.next
          refine wp_yes rfl ?_
          refine wp_look (l_pick1 rfl (by conv => lhs; whnf)) ?_
          refine wp_yes rfl ?_
          refine wp_look (l_neB rfl rfl) ?_
          refine wp_look (l_pick0 rfl (by conv => lhs; whnf)) ?_
          refine wp_say (b := false) rfl (by show (!((inS x (maxB x.1 y.1) && inS y (maxB x.1 y.1)) == inS y (maxB x.1 y.1))) = false; rw [c5, Bool.true_and, beqB]; rfl) ?_
          refine wp_yes rfl ?_
          refine wp_move (by conv => lhs; whnf) ?_
          refine wp_yes rfl ?_
          refine wp_look (l_loadN rfl g_b_h8 rfl) ?_
          refine wp_yes rfl ?_
          refine wp_look (l_loadN rfl g_a_h8 rfl) ?_
          refine wp_yes rfl ?_
          refine wp_callL (wp_func rfl (meets11 H _ y x h8)) fun h9 le_h9 => ?_
          have g_a_h9 := (le_h9.get _ n_a_h8).trans g_a_h8
          have n_a_h9 := Nat.lt_of_lt_of_le n_a_h8 le_h9.next
          have g_b_h9 := (le_h9.get _ n_b_h8).trans g_b_h8
          have n_b_h9 := Nat.lt_of_lt_of_le n_b_h8 le_h9.next
          have g_l_h9 := (le_h9.get _ n_l_h8).trans g_l_h8
          have n_l_h9 := Nat.lt_of_lt_of_le n_l_h8 le_h9.next
          refine wp_yes rfl ?_
          refine wp_look (l_neB rfl rfl) ?_
          refine wp_look (l_pick0 rfl (by conv => lhs; whnf)) ?_
          refine wp_end ?_
          refine wp_condF rfl (by show (!(meetsB x y == meetsB y x)) = false; rw [meets_swap x y, beqB]; rfl) ?_
          refine wp_skip ?_
          refine wp_seq ?_
          refine wp_draw ?_
          refine wp_dMove (by conv => lhs; whnf) rfl ?_
          refine wp_dKnow (b := true) rfl rfl rfl ?_
          refine wp_dYes rfl ?_
          refine wp_dLook (l_loadN rfl g_a_h9 rfl) rfl ?_
          refine wp_dYes rfl ?_
          refine wp_dCallL (wp_func rfl (empty13 H _ x h9)) (fun _ _ => rfl) fun h10 le_h10 => ?_
          have g_a_h10 := (le_h10.get _ n_a_h9).trans g_a_h9
          have n_a_h10 := Nat.lt_of_lt_of_le n_a_h9 le_h10.next
          have g_b_h10 := (le_h10.get _ n_b_h9).trans g_b_h9
          have n_b_h10 := Nat.lt_of_lt_of_le n_b_h9 le_h10.next
          have g_l_h10 := (le_h10.get _ n_l_h9).trans g_l_h9
          have n_l_h10 := Nat.lt_of_lt_of_le n_l_h9 le_h10.next
          refine wp_dYes rfl ?_
          refine wp_dLook (l_loadN rfl g_a_h10 rfl) (unLook_wr rfl (tells_sp (l_loadN rfl g_a_h9 rfl)) rfl) ?_
          refine wp_dYes rfl ?_
          refine wp_dLook (l_loadN rfl g_a_h10 rfl) (unLook_wr rfl (tells_sp (l_loadN rfl g_a_h9 rfl)) rfl) ?_
          refine wp_dYes rfl ?_
          refine wp_dCallL (wp_func rfl (meets11 H _ x x h10)) (fun _ _ => rfl) fun h11 le_h11 => ?_
          have g_a_h11 := (le_h11.get _ n_a_h10).trans g_a_h10
          have n_a_h11 := Nat.lt_of_lt_of_le n_a_h10 le_h11.next
          have g_b_h11 := (le_h11.get _ n_b_h10).trans g_b_h10
          have n_b_h11 := Nat.lt_of_lt_of_le n_b_h10 le_h11.next
          have g_l_h11 := (le_h11.get _ n_l_h10).trans g_l_h10
          have n_l_h11 := Nat.lt_of_lt_of_le n_l_h10 le_h11.next
          refine wp_dYes rfl ?_
          refine wp_dLook (l_neB rfl rfl) rfl ?_
          refine wp_dLook (l_pick1 rfl (by conv => lhs; whnf)) rfl ?_
          refine wp_dKnow (b := true) rfl (empty_meets x) rfl ?_
          refine wp_dYes rfl ?_
          refine wp_dLook (l_loadN rfl g_a_h11 rfl) rfl ?_
          refine wp_dYes rfl ?_
          refine wp_dCallL (wp_func rfl (empty13 H _ x h11)) (fun _ _ => rfl) fun h12 le_h12 => ?_
          have g_a_h12 := (le_h12.get _ n_a_h11).trans g_a_h11
          have n_a_h12 := Nat.lt_of_lt_of_le n_a_h11 le_h12.next
          have g_b_h12 := (le_h12.get _ n_b_h11).trans g_b_h11
          have n_b_h12 := Nat.lt_of_lt_of_le n_b_h11 le_h12.next
          have g_l_h12 := (le_h12.get _ n_l_h11).trans g_l_h11
          have n_l_h12 := Nat.lt_of_lt_of_le n_l_h11 le_h12.next
          refine wp_dYes rfl ?_
          refine wp_dLook (l_loadN rfl g_a_h12 rfl) (unLook_wr rfl (tells_sp (l_loadN rfl g_a_h11 rfl)) rfl) ?_
          refine wp_dYes rfl ?_
          refine wp_dLook (l_fieldAddr rfl) rfl ?_
          refine wp_dYes rfl ?_
          refine wp_dLook (l_load1 rfl g_a_h12 rfl) (unLook_wr rfl (tells_str (l_load1 rfl g_a_h11 rfl)) rfl) ?_
          refine wp_dYes rfl ?_
          refine wp_dCallL (wp_func rfl (in12 H _ x x.1 h12)) (fun _ _ => rfl) fun h13 le_h13 => ?_
          have g_a_h13 := (le_h13.get _ n_a_h12).trans g_a_h12
          have n_a_h13 := Nat.lt_of_lt_of_le n_a_h12 le_h13.next
          have g_b_h13 := (le_h13.get _ n_b_h12).trans g_b_h12
          have n_b_h13 := Nat.lt_of_lt_of_le n_b_h12 le_h13.next
          have g_l_h13 := (le_h13.get _ n_l_h12).trans g_l_h12
          have n_l_h13 := Nat.lt_of_lt_of_le n_l_h12 le_h13.next
          refine wp_dYes rfl ?_
          refine wp_dLook (l_neB rfl rfl) rfl ?_
          refine wp_dLook (l_pick1 rfl (by conv => lhs; whnf)) rfl ?_
          refine wp_dKnow (b := true) rfl (empty_in x) rfl ?_
          refine wp_dYes rfl ?_
          refine wp_dLook (l_loadN rfl g_a_h13 rfl) rfl ?_
          refine wp_dYes rfl ?_
          refine wp_dCallL (wp_func rfl (empty13 H _ x h13)) (fun _ _ => rfl) fun h14 le_h14 => ?_
          have g_a_h14 := (le_h14.get _ n_a_h13).trans g_a_h13
          have n_a_h14 := Nat.lt_of_lt_of_le n_a_h13 le_h14.next
          have g_b_h14 := (le_h14.get _ n_b_h13).trans g_b_h13
          have n_b_h14 := Nat.lt_of_lt_of_le n_b_h13 le_h14.next
          have g_l_h14 := (le_h14.get _ n_l_h13).trans g_l_h13
          have n_l_h14 := Nat.lt_of_lt_of_le n_l_h13 le_h14.next
          refine wp_dYes rfl ?_
          refine wp_dLook (l_not rfl) rfl ?_
          refine wp_dYes rfl ?_
          refine wp_dKnow (b := true) rfl (by rw [c6]; rfl) rfl ?_
          refine wp_dNo rfl ?_
          refine wp_dNo rfl ?_
          refine wp_dNo rfl ?_
          refine wp_dNo rfl ?_
          refine wp_dYes rfl ?_
          refine wp_dLook (l_pick1 rfl (by conv => lhs; whnf)) rfl ?_
          refine wp_dLook (l_pick1 rfl (by conv => lhs; whnf)) rfl ?_
          refine wp_dMove (by conv => lhs; whnf) rfl ?_
          refine wp_dEnd ?_
          refine wp_ret ?_
          exact ⟨rfl, _, rfl, rfl⟩
        ·
          refine wp_seq ?_
          refine wp_boxH rfl fun h1 b_a le_h1 g_a_h1 n_a_h1 => ?_
          refine wp_boxH rfl fun h2 b_b le_h2 g_b_h2 n_b_h2 => ?_
          have g_a_h2 := (le_h2.get _ n_a_h1).trans g_a_h1
          have n_a_h2 := Nat.lt_of_lt_of_le n_a_h1 le_h2.next
          refine wp_move (by conv => lhs; whnf) ?_
          refine wp_end ?_
          refine wp_seq ?_
          refine wp_callS (wp_func rfl (wp_true H.awake)) ?_
          refine wp_move (by conv => lhs; whnf) ?_
          refine wp_end ?_
          refine wp_seq ?_
          refine wp_seq ?_
          refine wp_look (l_loadN rfl g_a_h2 rfl) ?_
          refine wp_look (l_loadN rfl g_b_h2 rfl) ?_
          refine wp_buildH (cs := flatS [x, y]) rfl fun h3 b_l le_h3 g_l_h3 n_l_h3 => ?_
          have g_a_h3 := (le_h3.get _ n_a_h2).trans g_a_h2
          have n_a_h3 := Nat.lt_of_lt_of_le n_a_h2 le_h3.next
          have g_b_h3 := (le_h3.get _ n_b_h2).trans g_b_h2
          have n_b_h3 := Nat.lt_of_lt_of_le n_b_h2 le_h3.next
          refine wp_callS (wp_func rfl (long10 H _ [x, y] _ 2 2 2 rfl h3 (reads_two g_l_h3 n_l_h3) (by omega) (by decide) (by decide))) ?_
          refine wp_say (b := false) rfl c1 ?_
          refine wp_yes rfl ?_
          refine wp_move (by conv => lhs; whnf) ?_
          refine wp_yes rfl ?_
          refine wp_look (l_lenStr rfl) ?_
          refine wp_yes rfl ?_
          first | refine wp_look (l_gtrI rfl rfl rfl) ?_ | refine wp_look (l_gtr rfl rfl) ?_
          refine wp_look (l_pick0 rfl (by conv => lhs; whnf)) ?_
          refine wp_end ?_
          refine wp_condF rfl (decide_eq_false (by show ¬ (100 : Int) < (k.length : Int); omega)) ?_
          refine wp_skip ?_
          refine wp_seq ?_
          refine wp_look (l_fieldAddr rfl) ?_
          refine wp_look (l_load1 rfl g_a_h3 rfl) ?_
          refine wp_look (l_fieldAddr rfl) ?_
          refine wp_look (l_load1 rfl g_b_h3 rfl) ?_
          refine wp_look (l_max rfl rfl) ?_
          refine wp_move (by conv => lhs; whnf) ?_
          refine wp_end ?_
          refine wp_seq ?_
          refine wp_look (l_loadN rfl g_a_h3 rfl) ?_
          refine wp_look (l_loadN rfl g_b_h3 rfl) ?_
          refine wp_callL (wp_func rfl (meets11 H _ x y h3)) fun h4 le_h4 => ?_
          have g_a_h4 := (le_h4.get _ n_a_h3).trans g_a_h3
          have n_a_h4 := Nat.lt_of_lt_of_le n_a_h3 le_h4.next
          have g_b_h4 := (le_h4.get _ n_b_h3).trans g_b_h3
          have n_b_h4 := Nat.lt_of_lt_of_le n_b_h3 le_h4.next
          have g_l_h4 := (le_h4.get _ n_l_h3).trans g_l_h3
          have n_l_h4 := Nat.lt_of_lt_of_le n_l_h3 le_h4.next
          refine wp_move (by conv => lhs; whnf) ?_
          refine wp_end ?_
          refine wp_seq ?_
          refine wp_look (l_loadN rfl g_a_h4 rfl) ?_
          refine wp_move (by conv => lhs; whnf) ?_
          refine wp_callL (wp_func rfl (in12 H _ x k h4)) fun h5 le_h5 => ?_
          have g_a_h5 := (le_h5.get _ n_a_h4).trans g_a_h4
          have n_a_h5 := Nat.lt_of_lt_of_le n_a_h4 le_h5.next
          have g_b_h5 := (le_h5.get _ n_b_h4).trans g_b_h4
          have n_b_h5 := Nat.lt_of_lt_of_le n_b_h4 le_h5.next
          have g_l_h5 := (le_h5.get _ n_l_h4).trans g_l_h4
          have n_l_h5 := Nat.lt_of_lt_of_le n_l_h4 le_h5.next
          refine wp_say (b := true) rfl c3 ?_
          refine wp_yes rfl ?_
          refine wp_look (l_loadN rfl g_b_h5 rfl) ?_
          refine wp_yes rfl ?_
          refine wp_move (by conv => lhs; whnf) ?_
          refine wp_yes rfl ?_
          refine wp_callL (wp_func rfl (in12 H _ y k h5)) fun h6 le_h6 => ?_
          have g_a_h6 := (le_h6.get _ n_a_h5).trans g_a_h5
          have n_a_h6 := Nat.lt_of_lt_of_le n_a_h5 le_h6.next
          have g_b_h6 := (le_h6.get _ n_b_h5).trans g_b_h5
          have n_b_h6 := Nat.lt_of_lt_of_le n_b_h5 le_h6.next
          have g_l_h6 := (le_h6.get _ n_l_h5).trans g_l_h5
          have n_l_h6 := Nat.lt_of_lt_of_le n_l_h5 le_h6.next
          refine wp_look (l_pick1 rfl (by conv => lhs; whnf)) ?_
          refine wp_move (by conv => lhs; whnf) ?_
          refine wp_end ?_
          refine wp_seq ?_
          refine wp_seq ?_
          refine wp_move (by conv => lhs; whnf) ?_
          refine wp_say (b := false) rfl c4 ?_
          refine wp_no rfl ?_
          refine wp_no rfl ?_
          refine wp_look (l_pick0 rfl (by conv => lhs; whnf)) ?_
          refine wp_say (b := false) rfl rfl ?_
          refine wp_yes rfl ?_
          refine wp_move (by conv => lhs; whnf) ?_
          refine wp_yes rfl ?_
          refine wp_look (l_loadN rfl g_a_h6 rfl) ?_
          refine wp_yes rfl ?_
          refine wp_move (by conv => lhs; whnf) ?_
          refine wp_yes rfl ?_
          refine wp_callL (wp_func rfl (in12 H _ x (maxB x.1 y.1) h6)) fun h7 le_h7 => ?_
          have g_a_h7 := (le_h7.get _ n_a_h6).trans g_a_h6
          have n_a_h7 := Nat.lt_of_lt_of_le n_a_h6 le_h7.next
          have g_b_h7 := (le_h7.get _ n_b_h6).trans g_b_h6
          have n_b_h7 := Nat.lt_of_lt_of_le n_b_h6 le_h7.next
          have g_l_h7 := (le_h7.get _ n_l_h6).trans g_l_h6
          have n_l_h7 := Nat.lt_of_lt_of_le n_l_h6 le_h7.next
          refine wp_yes rfl ?_
          refine wp_say (b := true) rfl c5 ?_
          refine wp_yes rfl ?_
          refine wp_look (l_loadN rfl g_b_h7 rfl) ?_
          refine wp_yes rfl ?_
          refine wp_move (by conv => lhs; whnf) ?_
          refine wp_yes rfl ?_
          refine wp_callL (wp_func rfl (in12 H _ y (maxB x.1 y.1) h7)) fun h8 le_h8 => ?_
          have g_a_h8 := (le_h8.get _ n_a_h7).trans g_a_h7
          have n_a_h8 := Nat.lt_of_lt_of_le n_a_h7 le_h8.next
          have g_b_h8 := (le_h8.get _ n_b_h7).trans g_b_h7
          have n_b_h8 := Nat.lt_of_lt_of_le n_b_h7 le_h8.next
          have g_l_h8 := (le_h8.get _ n_l_h7).trans g_l_h7
          have n_l_h8 := Nat.lt_of_lt_of_le n_l_h7 le_h8.next
          refine wp_yes rfl ?_
          refine wp_look (l_pick1 rfl (by conv => lhs; whnf)) ?_
          refine wp_yes rfl ?_
          refine wp_look (l_neB rfl rfl) ?_
          refine wp_look (l_pick0 rfl (by conv => lhs; whnf)) ?_
          refine wp_say (b := false) rfl (by show (!((inS x (maxB x.1 y.1) && inS y (maxB x.1 y.1)) == inS y (maxB x.1 y.1))) = false; rw [c5, Bool.true_and, beqB]; rfl) ?_
          refine wp_yes rfl ?_
          refine wp_move (by conv => lhs; whnf) ?_
          refine wp_yes rfl ?_
          refine wp_look (l_loadN rfl g_b_h8 rfl) ?_
          refine wp_yes rfl ?_
          refine wp_look (l_loadN rfl g_a_h8 rfl) ?_
          refine wp_yes rfl ?_
          refine wp_callL (wp_func rfl (meets11 H _ y x h8)) fun h9 le_h9 => ?_
          have g_a_h9 := (le_h9.get _ n_a_h8).trans g_a_h8
          have n_a_h9 := Nat.lt_of_lt_of_le n_a_h8 le_h9.next
          have g_b_h9 := (le_h9.get _ n_b_h8).trans g_b_h8
          have n_b_h9 := Nat.lt_of_lt_of_le n_b_h8 le_h9.next
          have g_l_h9 := (le_h9.get _ n_l_h8).trans g_l_h8
          have n_l_h9 := Nat.lt_of_lt_of_le n_l_h8 le_h9.next
          refine wp_yes rfl ?_
          refine wp_look (l_neB rfl rfl) ?_
          refine wp_look (l_pick0 rfl (by conv => lhs; whnf)) ?_
          refine wp_end ?_
          refine wp_condF rfl (by show (!(meetsB x y == meetsB y x)) = false; rw [meets_swap x y, beqB]; rfl) ?_
          refine wp_skip ?_
          refine wp_seq ?_
          refine wp_draw ?_
          refine wp_dMove (by conv => lhs; whnf) rfl ?_
          refine wp_dKnow (b := true) rfl rfl rfl ?_
          refine wp_dYes rfl ?_
          refine wp_dLook (l_loadN rfl g_a_h9 rfl) rfl ?_
          refine wp_dYes rfl ?_
          refine wp_dCallL (wp_func rfl (empty13 H _ x h9)) (fun _ _ => rfl) fun h10 le_h10 => ?_
          have g_a_h10 := (le_h10.get _ n_a_h9).trans g_a_h9
          have n_a_h10 := Nat.lt_of_lt_of_le n_a_h9 le_h10.next
          have g_b_h10 := (le_h10.get _ n_b_h9).trans g_b_h9
          have n_b_h10 := Nat.lt_of_lt_of_le n_b_h9 le_h10.next
          have g_l_h10 := (le_h10.get _ n_l_h9).trans g_l_h9
          have n_l_h10 := Nat.lt_of_lt_of_le n_l_h9 le_h10.next
          refine wp_dYes rfl ?_
          refine wp_dLook (l_loadN rfl g_a_h10 rfl) (unLook_wr rfl (tells_sp (l_loadN rfl g_a_h9 rfl)) rfl) ?_
          refine wp_dYes rfl ?_
          refine wp_dLook (l_loadN rfl g_a_h10 rfl) (unLook_wr rfl (tells_sp (l_loadN rfl g_a_h9 rfl)) rfl) ?_
          refine wp_dYes rfl ?_
          refine wp_dCallL (wp_func rfl (meets11 H _ x x h10)) (fun _ _ => rfl) fun h11 le_h11 => ?_
          have g_a_h11 := (le_h11.get _ n_a_h10).trans g_a_h10
          have n_a_h11 := Nat.lt_of_lt_of_le n_a_h10 le_h11.next
          have g_b_h11 := (le_h11.get _ n_b_h10).trans g_b_h10
          have n_b_h11 := Nat.lt_of_lt_of_le n_b_h10 le_h11.next
          have g_l_h11 := (le_h11.get _ n_l_h10).trans g_l_h10
          have n_l_h11 := Nat.lt_of_lt_of_le n_l_h10 le_h11.next
          refine wp_dYes rfl ?_
          refine wp_dLook (l_neB rfl rfl) rfl ?_
          refine wp_dLook (l_pick1 rfl (by conv => lhs; whnf)) rfl ?_
          refine wp_dKnow (b := true) rfl (empty_meets x) rfl ?_
          refine wp_dYes rfl ?_
          refine wp_dLook (l_loadN rfl g_a_h11 rfl) rfl ?_
          refine wp_dYes rfl ?_
          refine wp_dCallL (wp_func rfl (empty13 H _ x h11)) (fun _ _ => rfl) fun h12 le_h12 => ?_
          have g_a_h12 := (le_h12.get _ n_a_h11).trans g_a_h11
          have n_a_h12 := Nat.lt_of_lt_of_le n_a_h11 le_h12.next
          have g_b_h12 := (le_h12.get _ n_b_h11).trans g_b_h11
          have n_b_h12 := Nat.lt_of_lt_of_le n_b_h11 le_h12.next
          have g_l_h12 := (le_h12.get _ n_l_h11).trans g_l_h11
          have n_l_h12 := Nat.lt_of_lt_of_le n_l_h11 le_h12.next
          refine wp_dYes rfl ?_
          refine wp_dLook (l_loadN rfl g_a_h12 rfl) (unLook_wr rfl (tells_sp (l_loadN rfl g_a_h11 rfl)) rfl) ?_
          refine wp_dYes rfl ?_
          refine wp_dLook (l_fieldAddr rfl) rfl ?_
          refine wp_dYes rfl ?_
          refine wp_dLook (l_load1 rfl g_a_h12 rfl) (unLook_wr rfl (tells_str (l_load1 rfl g_a_h11 rfl)) rfl) ?_
          refine wp_dYes rfl ?_
          refine wp_dCallL (wp_func rfl (in12 H _ x x.1 h12)) (fun _ _ => rfl) fun h13 le_h13 => ?_
          have g_a_h13 := (le_h13.get _ n_a_h12).trans g_a_h12
          have n_a_h13 := Nat.lt_of_lt_of_le n_a_h12 le_h13.next
          have g_b_h13 := (le_h13.get _ n_b_h12).trans g_b_h12
          have n_b_h13 := Nat.lt_of_lt_of_le n_b_h12 le_h13.next
          have g_l_h13 := (le_h13.get _ n_l_h12).trans g_l_h12
          have n_l_h13 := Nat.lt_of_lt_of_le n_l_h12 le_h13.next
          refine wp_dYes rfl ?_
          refine wp_dLook (l_neB rfl rfl) rfl ?_
          refine wp_dLook (l_pick1 rfl (by conv => lhs; whnf)) rfl ?_
          refine wp_dKnow (b := true) rfl (empty_in x) rfl ?_
          refine wp_dYes rfl ?_
          refine wp_dLook (l_loadN rfl g_a_h13 rfl) rfl ?_
          refine wp_dYes rfl ?_
          refine wp_dCallL (wp_func rfl (empty13 H _ x h13)) (fun _ _ => rfl) fun h14 le_h14 => ?_
          have g_a_h14 := (le_h14.get _ n_a_h13).trans g_a_h13
          have n_a_h14 := Nat.lt_of_lt_of_le n_a_h13 le_h14.next
          have g_b_h14 := (le_h14.get _ n_b_h13).trans g_b_h13
          have n_b_h14 := Nat.lt_of_lt_of_le n_b_h13 le_h14.next
          have g_l_h14 := (le_h14.get _ n_l_h13).trans g_l_h13
          have n_l_h14 := Nat.lt_of_lt_of_le n_l_h13 le_h14.next
          refine wp_dYes rfl ?_
          refine wp_dLook (l_not rfl) rfl ?_
          refine wp_dYes rfl ?_
          refine wp_dKnow (b := true) rfl (by rw [c6]; rfl) rfl ?_
          refine wp_dNo rfl ?_
          refine wp_dNo rfl ?_
          refine wp_dNo rfl ?_
          refine wp_dNo rfl ?_
          refine wp_dYes rfl ?_
          refine wp_dLook (l_pick1 rfl (by conv => lhs; whnf)) rfl ?_
          refine wp_dLook (l_pick1 rfl (by conv => lhs; whnf)) rfl ?_
          refine wp_dMove (by conv => lhs; whnf) rfl ?_
          refine wp_dEnd ?_
          refine wp_ret ?_
          exact ⟨rfl, _, rfl, rfl⟩
      ·
        refine wp_seq ?_
        refine wp_boxH rfl fun h1 b_a le_h1 g_a_h1 n_a_h1 => ?_
        refine wp_boxH rfl fun h2 b_b le_h2 g_b_h2 n_b_h2 => ?_
        have g_a_h2 := (le_h2.get _ n_a_h1).trans g_a_h1
        have n_a_h2 := Nat.lt_of_lt_of_le n_a_h1 le_h2.next
        refine wp_move (by conv => lhs; whnf) ?_
        refine wp_end ?_
        refine wp_seq ?_
        refine wp_callS (wp_func rfl (wp_true H.awake)) ?_
        refine wp_move (by conv => lhs; whnf) ?_
        refine wp_end ?_
        refine wp_seq ?_
        refine wp_seq ?_
        refine wp_look (l_loadN rfl g_a_h2 rfl) ?_
        refine wp_look (l_loadN rfl g_b_h2 rfl) ?_
        refine wp_buildH (cs := flatS [x, y]) rfl fun h3 b_l le_h3 g_l_h3 n_l_h3 => ?_
        have g_a_h3 := (le_h3.get _ n_a_h2).trans g_a_h2
        have n_a_h3 := Nat.lt_of_lt_of_le n_a_h2 le_h3.next
        have g_b_h3 := (le_h3.get _ n_b_h2).trans g_b_h2
        have n_b_h3 := Nat.lt_of_lt_of_le n_b_h2 le_h3.next
        refine wp_callS (wp_func rfl (long10 H _ [x, y] _ 2 2 2 rfl h3 (reads_two g_l_h3 n_l_h3) (by omega) (by decide) (by decide))) ?_
        refine wp_say (b := false) rfl c1 ?_
        refine wp_yes rfl ?_
        refine wp_move (by conv => lhs; whnf) ?_
        refine wp_yes rfl ?_
        refine wp_look (l_lenStr rfl) ?_
        refine wp_yes rfl ?_
        first | refine wp_look (l_gtrI rfl rfl rfl) ?_ | refine wp_look (l_gtr rfl rfl) ?_
        refine wp_look (l_pick0 rfl (by conv => lhs; whnf)) ?_
        refine wp_end ?_
        refine wp_condF rfl (decide_eq_false (by show ¬ (100 : Int) < (k.length : Int); omega)) ?_
        refine wp_skip ?_
        refine wp_seq ?_
        refine wp_look (l_fieldAddr rfl) ?_
        refine wp_look (l_load1 rfl g_a_h3 rfl) ?_
        refine wp_look (l_fieldAddr rfl) ?_
        refine wp_look (l_load1 rfl g_b_h3 rfl) ?_
        refine wp_look (l_max rfl rfl) ?_
        refine wp_move (by conv => lhs; whnf) ?_
        refine wp_end ?_
        refine wp_seq ?_
        refine wp_look (l_loadN rfl g_a_h3 rfl) ?_
        refine wp_look (l_loadN rfl g_b_h3 rfl) ?_
        refine wp_callL (wp_func rfl (meets11 H _ x y h3)) fun h4 le_h4 => ?_
        have g_a_h4 := (le_h4.get _ n_a_h3).trans g_a_h3
        have n_a_h4 := Nat.lt_of_lt_of_le n_a_h3 le_h4.next
        have g_b_h4 := (le_h4.get _ n_b_h3).trans g_b_h3
        have n_b_h4 := Nat.lt_of_lt_of_le n_b_h3 le_h4.next
        have g_l_h4 := (le_h4.get _ n_l_h3).trans g_l_h3
        have n_l_h4 := Nat.lt_of_lt_of_le n_l_h3 le_h4.next
        refine wp_move (by conv => lhs; whnf) ?_
        refine wp_end ?_
        refine wp_seq ?_
        refine wp_look (l_loadN rfl g_a_h4 rfl) ?_
        refine wp_move (by conv => lhs; whnf) ?_
        refine wp_callL (wp_func rfl (in12 H _ x k h4)) fun h5 le_h5 => ?_
        have g_a_h5 := (le_h5.get _ n_a_h4).trans g_a_h4
        have n_a_h5 := Nat.lt_of_lt_of_le n_a_h4 le_h5.next
        have g_b_h5 := (le_h5.get _ n_b_h4).trans g_b_h4
        have n_b_h5 := Nat.lt_of_lt_of_le n_b_h4 le_h5.next
        have g_l_h5 := (le_h5.get _ n_l_h4).trans g_l_h4
        have n_l_h5 := Nat.lt_of_lt_of_le n_l_h4 le_h5.next
        refine wp_say (b := false) rfl c3 ?_
        refine wp_no rfl ?_
        refine wp_no rfl ?_
        refine wp_no rfl ?_
        refine wp_look (l_pick0 rfl (by conv => lhs; whnf)) ?_
        refine wp_move (by conv => lhs; whnf) ?_
        refine wp_end ?_
        refine wp_seq ?_
        refine wp_seq ?_
        refine wp_move (by conv => lhs; whnf) ?_
        refine wp_say (b := false) rfl rfl ?_
        refine wp_no rfl ?_
        refine wp_no rfl ?_
        refine wp_look (l_pick0 rfl (by conv => lhs; whnf)) ?_
        refine wp_say (b := false) rfl rfl ?_
        refine wp_yes rfl ?_
        refine wp_move (by conv => lhs; whnf) ?_
        refine wp_yes rfl ?_
        refine wp_look (l_loadN rfl g_a_h5 rfl) ?_
        refine wp_yes rfl ?_
        refine wp_move (by conv => lhs; whnf) ?_
        refine wp_yes rfl ?_
        refine wp_callL (wp_func rfl (in12 H _ x (maxB x.1 y.1) h5)) fun h6 le_h6 => ?_
        have g_a_h6 := (le_h6.get _ n_a_h5).trans g_a_h5
        have n_a_h6 := Nat.lt_of_lt_of_le n_a_h5 le_h6.next
        have g_b_h6 := (le_h6.get _ n_b_h5).trans g_b_h5
        have n_b_h6 := Nat.lt_of_lt_of_le n_b_h5 le_h6.next
        have g_l_h6 := (le_h6.get _ n_l_h5).trans g_l_h5
        have n_l_h6 := Nat.lt_of_lt_of_le n_l_h5 le_h6.next
        refine wp_yes rfl ?_
        refine wp_say (b := true) rfl c5 ?_
        refine wp_yes rfl ?_
        refine wp_look (l_loadN rfl g_b_h6 rfl) ?_
        refine wp_yes rfl ?_
        refine wp_move (by conv => lhs; whnf) ?_
        refine wp_yes rfl ?_
        refine wp_callL (wp_func rfl (in12 H _ y (maxB x.1 y.1) h6)) fun h7 le_h7 => ?_
        have g_a_h7 := (le_h7.get _ n_a_h6).trans g_a_h6
        have n_a_h7 := Nat.lt_of_lt_of_le n_a_h6 le_h7.next
        have g_b_h7 := (le_h7.get _ n_b_h6).trans g_b_h6
        have n_b_h7 := Nat.lt_of_lt_of_le n_b_h6 le_h7.next
        have g_l_h7 := (le_h7.get _ n_l_h6).trans g_l_h6
        have n_l_h7 := Nat.lt_of_lt_of_le n_l_h6 le_h7.next
        refine wp_yes rfl ?_
        refine wp_look (l_pick1 rfl (by conv => lhs; whnf)) ?_
        refine wp_yes rfl ?_
        refine wp_look (l_neB rfl rfl) ?_
        refine wp_look (l_pick0 rfl (by conv => lhs; whnf)) ?_
        refine wp_say (b := false) rfl (by show (!((inS x (maxB x.1 y.1) && inS y (maxB x.1 y.1)) == inS y (maxB x.1 y.1))) = false; rw [c5, Bool.true_and, beqB]; rfl) ?_
        refine wp_yes rfl ?_
        refine wp_move (by conv => lhs; whnf) ?_
        refine wp_yes rfl ?_
        refine wp_look (l_loadN rfl g_b_h7 rfl) ?_
        refine wp_yes rfl ?_
        refine wp_look (l_loadN rfl g_a_h7 rfl) ?_
        refine wp_yes rfl ?_
        refine wp_callL (wp_func rfl (meets11 H _ y x h7)) fun h8 le_h8 => ?_
        have g_a_h8 := (le_h8.get _ n_a_h7).trans g_a_h7
        have n_a_h8 := Nat.lt_of_lt_of_le n_a_h7 le_h8.next
        have g_b_h8 := (le_h8.get _ n_b_h7).trans g_b_h7
        have n_b_h8 := Nat.lt_of_lt_of_le n_b_h7 le_h8.next
        have g_l_h8 := (le_h8.get _ n_l_h7).trans g_l_h7
        have n_l_h8 := Nat.lt_of_lt_of_le n_l_h7 le_h8.next
        refine wp_yes rfl ?_
        refine wp_look (l_neB rfl rfl) ?_
        refine wp_look (l_pick0 rfl (by conv => lhs; whnf)) ?_
        refine wp_end ?_
        refine wp_condF rfl (by show (!(meetsB x y == meetsB y x)) = false; rw [meets_swap x y, beqB]; rfl) ?_
        refine wp_skip ?_
        refine wp_seq ?_
        refine wp_draw ?_
        refine wp_dMove (by conv => lhs; whnf) rfl ?_
        refine wp_dKnow (b := true) rfl rfl rfl ?_
        refine wp_dYes rfl ?_
        refine wp_dLook (l_loadN rfl g_a_h8 rfl) rfl ?_
        refine wp_dYes rfl ?_
        refine wp_dCallL (wp_func rfl (empty13 H _ x h8)) (fun _ _ => rfl) fun h9 le_h9 => ?_
        have g_a_h9 := (le_h9.get _ n_a_h8).trans g_a_h8
        have n_a_h9 := Nat.lt_of_lt_of_le n_a_h8 le_h9.next
        have g_b_h9 := (le_h9.get _ n_b_h8).trans g_b_h8
        have n_b_h9 := Nat.lt_of_lt_of_le n_b_h8 le_h9.next
        have g_l_h9 := (le_h9.get _ n_l_h8).trans g_l_h8
        have n_l_h9 := Nat.lt_of_lt_of_le n_l_h8 le_h9.next
        refine wp_dYes rfl ?_
        refine wp_dLook (l_loadN rfl g_a_h9 rfl) (unLook_wr rfl (tells_sp (l_loadN rfl g_a_h8 rfl)) rfl) ?_
        refine wp_dYes rfl ?_
        refine wp_dLook (l_loadN rfl g_a_h9 rfl) (unLook_wr rfl (tells_sp (l_loadN rfl g_a_h8 rfl)) rfl) ?_
        refine wp_dYes rfl ?_
        refine wp_dCallL (wp_func rfl (meets11 H _ x x h9)) (fun _ _ => rfl) fun h10 le_h10 => ?_
        have g_a_h10 := (le_h10.get _ n_a_h9).trans g_a_h9
        have n_a_h10 := Nat.lt_of_lt_of_le n_a_h9 le_h10.next
        have g_b_h10 := (le_h10.get _ n_b_h9).trans g_b_h9
        have n_b_h10 := Nat.lt_of_lt_of_le n_b_h9 le_h10.next
        have g_l_h10 := (le_h10.get _ n_l_h9).trans g_l_h9
        have n_l_h10 := Nat.lt_of_lt_of_le n_l_h9 le_h10.next
        refine wp_dYes rfl ?_
        refine wp_dLook (l_neB rfl rfl) rfl ?_
        refine wp_dLook (l_pick1 rfl (by conv => lhs; whnf)) rfl ?_
        refine wp_dKnow (b := true) rfl (empty_meets x) rfl ?_
        refine wp_dYes rfl ?_
        refine wp_dLook (l_loadN rfl g_a_h10 rfl) rfl ?_
        refine wp_dYes rfl ?_
        refine wp_dCallL (wp_func rfl (empty13 H _ x h10)) (fun _ _ => rfl) fun h11 le_h11 => ?_
        have g_a_h11 := (le_h11.get _ n_a_h10).trans g_a_h10
        have n_a_h11 := Nat.lt_of_lt_of_le n_a_h10 le_h11.next
        have g_b_h11 := (le_h11.get _ n_b_h10).trans g_b_h10
        have n_b_h11 := Nat.lt_of_lt_of_le n_b_h10 le_h11.next
        have g_l_h11 := (le_h11.get _ n_l_h10).trans g_l_h10
        have n_l_h11 := Nat.lt_of_lt_of_le n_l_h10 le_h11.next
        refine wp_dYes rfl ?_
        refine wp_dLook (l_loadN rfl g_a_h11 rfl) (unLook_wr rfl (tells_sp (l_loadN rfl g_a_h10 rfl)) rfl) ?_
        refine wp_dYes rfl ?_
        refine wp_dLook (l_fieldAddr rfl) rfl ?_
        refine wp_dYes rfl ?_
        refine wp_dLook (l_load1 rfl g_a_h11 rfl) (unLook_wr rfl (tells_str (l_load1 rfl g_a_h10 rfl)) rfl) ?_
        refine wp_dYes rfl ?_
        refine wp_dCallL (wp_func rfl (in12 H _ x x.1 h11)) (fun _ _ => rfl) fun h12 le_h12 => ?_
        have g_a_h12 := (le_h12.get _ n_a_h11).trans g_a_h11
        have n_a_h12 := Nat.lt_of_lt_of_le n_a_h11 le_h12.next
        have g_b_h12 := (le_h12.get _ n_b_h11).trans g_b_h11
        have n_b_h12 := Nat.lt_of_lt_of_le n_b_h11 le_h12.next
        have g_l_h12 := (le_h12.get _ n_l_h11).trans g_l_h11
        have n_l_h12 := Nat.lt_of_lt_of_le n_l_h11 le_h12.next
        refine wp_dYes rfl ?_
        refine wp_dLook (l_neB rfl rfl) rfl ?_
        refine wp_dLook (l_pick1 rfl (by conv => lhs; whnf)) rfl ?_
        refine wp_dKnow (b := true) rfl (empty_in x) rfl ?_
        refine wp_dYes rfl ?_
        refine wp_dLook (l_loadN rfl g_a_h12 rfl) rfl ?_
        refine wp_dYes rfl ?_
        refine wp_dCallL (wp_func rfl (empty13 H _ x h12)) (fun _ _ => rfl) fun h13 le_h13 => ?_
        have g_a_h13 := (le_h13.get _ n_a_h12).trans g_a_h12
        have n_a_h13 := Nat.lt_of_lt_of_le n_a_h12 le_h13.next
        have g_b_h13 := (le_h13.get _ n_b_h12).trans g_b_h12
        have n_b_h13 := Nat.lt_of_lt_of_le n_b_h12 le_h13.next
        have g_l_h13 := (le_h13.get _ n_l_h12).trans g_l_h12
        have n_l_h13 := Nat.lt_of_lt_of_le n_l_h12 le_h13.next
        refine wp_dYes rfl ?_
        refine wp_dLook (l_not rfl) rfl ?_
        refine wp_dYes rfl ?_
        refine wp_dKnow (b := true) rfl (by rw [c6]; rfl) rfl ?_
        refine wp_dNo rfl ?_
        refine wp_dNo rfl ?_
        refine wp_dNo rfl ?_
        refine wp_dNo rfl ?_
        refine wp_dYes rfl ?_
        refine wp_dLook (l_pick1 rfl (by conv => lhs; whnf)) rfl ?_
        refine wp_dLook (l_pick1 rfl (by conv => lhs; whnf)) rfl ?_
        refine wp_dMove (by conv => lhs; whnf) rfl ?_
        refine wp_dEnd ?_
        refine wp_ret ?_
        exact ⟨rfl, _, rfl, rfl⟩
      ·
        rw [empty_has c6] at c3; cases c3
      ·
        refine wp_seq ?_
        refine wp_boxH rfl fun h1 b_a le_h1 g_a_h1 n_a_h1 => ?_
        refine wp_boxH rfl fun h2 b_b le_h2 g_b_h2 n_b_h2 => ?_
        have g_a_h2 := (le_h2.get _ n_a_h1).trans g_a_h1
        have n_a_h2 := Nat.lt_of_lt_of_le n_a_h1 le_h2.next
        refine wp_move (by conv => lhs; whnf) ?_
        refine wp_end ?_
        refine wp_seq ?_
        refine wp_callS (wp_func rfl (wp_true H.awake)) ?_
        refine wp_move (by conv => lhs; whnf) ?_
        refine wp_end ?_
        refine wp_seq ?_
        refine wp_seq ?_
        refine wp_look (l_loadN rfl g_a_h2 rfl) ?_
        refine wp_look (l_loadN rfl g_b_h2 rfl) ?_
        refine wp_buildH (cs := flatS [x, y]) rfl fun h3 b_l le_h3 g_l_h3 n_l_h3 => ?_
        have g_a_h3 := (le_h3.get _ n_a_h2).trans g_a_h2
        have n_a_h3 := Nat.lt_of_lt_of_le n_a_h2 le_h3.next
        have g_b_h3 := (le_h3.get _ n_b_h2).trans g_b_h2
        have n_b_h3 := Nat.lt_of_lt_of_le n_b_h2 le_h3.next
        refine wp_callS (wp_func rfl (long10 H _ [x, y] _ 2 2 2 rfl h3 (reads_two g_l_h3 n_l_h3) (by omega) (by decide) (by decide))) ?_
        refine wp_say (b := false) rfl c1 ?_
        refine wp_yes rfl ?_
        refine wp_move (by conv => lhs; whnf) ?_
        refine wp_yes rfl ?_
        refine wp_look (l_lenStr rfl) ?_
        refine wp_yes rfl ?_
        first | refine wp_look (l_gtrI rfl rfl rfl) ?_ | refine wp_look (l_gtr rfl rfl) ?_
        refine wp_look (l_pick0 rfl (by conv => lhs; whnf)) ?_
        refine wp_end ?_
        refine wp_condF rfl (decide_eq_false (by show ¬ (100 : Int) < (k.length : Int); omega)) ?_
        refine wp_skip ?_
        refine wp_seq ?_
        refine wp_look (l_fieldAddr rfl) ?_
        refine wp_look (l_load1 rfl g_a_h3 rfl) ?_
        refine wp_look (l_fieldAddr rfl) ?_
        refine wp_look (l_load1 rfl g_b_h3 rfl) ?_
        refine wp_look (l_max rfl rfl) ?_
        refine wp_move (by conv => lhs; whnf) ?_
        refine wp_end ?_
        refine wp_seq ?_
        refine wp_look (l_loadN rfl g_a_h3 rfl) ?_
        refine wp_look (l_loadN rfl g_b_h3 rfl) ?_
        refine wp_callL (wp_func rfl (meets11 H _ x y h3)) fun h4 le_h4 => ?_
        have g_a_h4 := (le_h4.get _ n_a_h3).trans g_a_h3
        have n_a_h4 := Nat.lt_of_lt_of_le n_a_h3 le_h4.next
        have g_b_h4 := (le_h4.get _ n_b_h3).trans g_b_h3
        have n_b_h4 := Nat.lt_of_lt_of_le n_b_h3 le_h4.next
        have g_l_h4 := (le_h4.get _ n_l_h3).trans g_l_h3
        have n_l_h4 := Nat.lt_of_lt_of_le n_l_h3 le_h4.next
        refine wp_move (by conv => lhs; whnf) ?_
        refine wp_end ?_
        refine wp_seq ?_
        refine wp_look (l_loadN rfl g_a_h4 rfl) ?_
        refine wp_move (by conv => lhs; whnf) ?_
        refine wp_callL (wp_func rfl (in12 H _ x k h4)) fun h5 le_h5 => ?_
        have g_a_h5 := (le_h5.get _ n_a_h4).trans g_a_h4
        have n_a_h5 := Nat.lt_of_lt_of_le n_a_h4 le_h5.next
        have g_b_h5 := (le_h5.get _ n_b_h4).trans g_b_h4
        have n_b_h5 := Nat.lt_of_lt_of_le n_b_h4 le_h5.next
        have g_l_h5 := (le_h5.get _ n_l_h4).trans g_l_h4
        have n_l_h5 := Nat.lt_of_lt_of_le n_l_h4 le_h5.next
        refine wp_say (b := false) rfl c3 ?_
        refine wp_no rfl ?_
        refine wp_no rfl ?_
        refine wp_no rfl ?_
        refine wp_look (l_pick0 rfl (by conv => lhs; whnf)) ?_
        refine wp_move (by conv => lhs; whnf) ?_
        refine wp_end ?_
        refine wp_seq ?_
        refine wp_seq ?_
        refine wp_move (by conv => lhs; whnf) ?_
        refine wp_say (b := false) rfl rfl ?_
        refine wp_no rfl ?_
        refine wp_no rfl ?_
        refine wp_look (l_pick0 rfl (by conv => lhs; whnf)) ?_
        refine wp_say (b := false) rfl rfl ?_
        refine wp_yes rfl ?_
        refine wp_move (by conv => lhs; whnf) ?_
        refine wp_yes rfl ?_
        refine wp_look (l_loadN rfl g_a_h5 rfl) ?_
        refine wp_yes rfl ?_
        refine wp_move (by conv => lhs; whnf) ?_
        refine wp_yes rfl ?_
        refine wp_callL (wp_func rfl (in12 H _ x (maxB x.1 y.1) h5)) fun h6 le_h6 => ?_
        have g_a_h6 := (le_h6.get _ n_a_h5).trans g_a_h5
        have n_a_h6 := Nat.lt_of_lt_of_le n_a_h5 le_h6.next
        have g_b_h6 := (le_h6.get _ n_b_h5).trans g_b_h5
        have n_b_h6 := Nat.lt_of_lt_of_le n_b_h5 le_h6.next
        have g_l_h6 := (le_h6.get _ n_l_h5).trans g_l_h5
        have n_l_h6 := Nat.lt_of_lt_of_le n_l_h5 le_h6.next
        refine wp_yes rfl ?_
        refine wp_say (b := false) rfl c5 ?_
        refine wp_no rfl ?_
        refine wp_no rfl ?_
        refine wp_no rfl ?_
        refine wp_yes rfl ?_
        refine wp_look (l_pick0 rfl (by conv => lhs; whnf)) ?_
        refine wp_yes rfl ?_
        refine wp_look (l_neB rfl rfl) ?_
        refine wp_look (l_pick0 rfl (by conv => lhs; whnf)) ?_
        refine wp_say (b := false) rfl (by show (!((inS x (maxB x.1 y.1) && inS y (maxB x.1 y.1)) == false)) = false; rw [c5]; rfl) ?_
        refine wp_yes rfl ?_
        refine wp_move (by conv => lhs; whnf) ?_
        refine wp_yes rfl ?_
        refine wp_look (l_loadN rfl g_b_h6 rfl) ?_
        refine wp_yes rfl ?_
        refine wp_look (l_loadN rfl g_a_h6 rfl) ?_
        refine wp_yes rfl ?_
        refine wp_callL (wp_func rfl (meets11 H _ y x h6)) fun h7 le_h7 => ?_
        have g_a_h7 := (le_h7.get _ n_a_h6).trans g_a_h6
        have n_a_h7 := Nat.lt_of_lt_of_le n_a_h6 le_h7.next
        have g_b_h7 := (le_h7.get _ n_b_h6).trans g_b_h6
        have n_b_h7 := Nat.lt_of_lt_of_le n_b_h6 le_h7.next
        have g_l_h7 := (le_h7.get _ n_l_h6).trans g_l_h6
        have n_l_h7 := Nat.lt_of_lt_of_le n_l_h6 le_h7.next
        refine wp_yes rfl ?_
        refine wp_look (l_neB rfl rfl) ?_
        refine wp_look (l_pick0 rfl (by conv => lhs; whnf)) ?_
        refine wp_end ?_
        refine wp_condF rfl (by show (!(meetsB x y == meetsB y x)) = false; rw [meets_swap x y, beqB]; rfl) ?_
        refine wp_skip ?_
        refine wp_seq ?_
        refine wp_draw ?_
        refine wp_dMove (by conv => lhs; whnf) rfl ?_
        refine wp_dKnow (b := true) rfl rfl rfl ?_
        refine wp_dYes rfl ?_
        refine wp_dLook (l_loadN rfl g_a_h7 rfl) rfl ?_
        refine wp_dYes rfl ?_
        refine wp_dCallL (wp_func rfl (empty13 H _ x h7)) (fun _ _ => rfl) fun h8 le_h8 => ?_
        have g_a_h8 := (le_h8.get _ n_a_h7).trans g_a_h7
        have n_a_h8 := Nat.lt_of_lt_of_le n_a_h7 le_h8.next
        have g_b_h8 := (le_h8.get _ n_b_h7).trans g_b_h7
        have n_b_h8 := Nat.lt_of_lt_of_le n_b_h7 le_h8.next
        have g_l_h8 := (le_h8.get _ n_l_h7).trans g_l_h7
        have n_l_h8 := Nat.lt_of_lt_of_le n_l_h7 le_h8.next
        refine wp_dYes rfl ?_
        refine wp_dLook (l_loadN rfl g_a_h8 rfl) (unLook_wr rfl (tells_sp (l_loadN rfl g_a_h7 rfl)) rfl) ?_
        refine wp_dYes rfl ?_
        refine wp_dLook (l_loadN rfl g_a_h8 rfl) (unLook_wr rfl (tells_sp (l_loadN rfl g_a_h7 rfl)) rfl) ?_
        refine wp_dYes rfl ?_
        refine wp_dCallL (wp_func rfl (meets11 H _ x x h8)) (fun _ _ => rfl) fun h9 le_h9 => ?_
        have g_a_h9 := (le_h9.get _ n_a_h8).trans g_a_h8
        have n_a_h9 := Nat.lt_of_lt_of_le n_a_h8 le_h9.next
        have g_b_h9 := (le_h9.get _ n_b_h8).trans g_b_h8
        have n_b_h9 := Nat.lt_of_lt_of_le n_b_h8 le_h9.next
        have g_l_h9 := (le_h9.get _ n_l_h8).trans g_l_h8
        have n_l_h9 := Nat.lt_of_lt_of_le n_l_h8 le_h9.next
        refine wp_dYes rfl ?_
        refine wp_dLook (l_neB rfl rfl) rfl ?_
        refine wp_dLook (l_pick1 rfl (by conv => lhs; whnf)) rfl ?_
        refine wp_dKnow (b := true) rfl (empty_meets x) rfl ?_
        refine wp_dYes rfl ?_
        refine wp_dLook (l_loadN rfl g_a_h9 rfl) rfl ?_
        refine wp_dYes rfl ?_
        refine wp_dCallL (wp_func rfl (empty13 H _ x h9)) (fun _ _ => rfl) fun h10 le_h10 => ?_
        have g_a_h10 := (le_h10.get _ n_a_h9).trans g_a_h9
        have n_a_h10 := Nat.lt_of_lt_of_le n_a_h9 le_h10.next
        have g_b_h10 := (le_h10.get _ n_b_h9).trans g_b_h9
        have n_b_h10 := Nat.lt_of_lt_of_le n_b_h9 le_h10.next
        have g_l_h10 := (le_h10.get _ n_l_h9).trans g_l_h9
        have n_l_h10 := Nat.lt_of_lt_of_le n_l_h9 le_h10.next
        refine wp_dYes rfl ?_
        refine wp_dLook (l_loadN rfl g_a_h10 rfl) (unLook_wr rfl (tells_sp (l_loadN rfl g_a_h9 rfl)) rfl) ?_
        refine wp_dYes rfl ?_
        refine wp_dLook (l_fieldAddr rfl) rfl ?_
        refine wp_dYes rfl ?_
        refine wp_dLook (l_load1 rfl g_a_h10 rfl) (unLook_wr rfl (tells_str (l_load1 rfl g_a_h9 rfl)) rfl) ?_
        refine wp_dYes rfl ?_
        refine wp_dCallL (wp_func rfl (in12 H _ x x.1 h10)) (fun _ _ => rfl) fun h11 le_h11 => ?_
        have g_a_h11 := (le_h11.get _ n_a_h10).trans g_a_h10
        have n_a_h11 := Nat.lt_of_lt_of_le n_a_h10 le_h11.next
        have g_b_h11 := (le_h11.get _ n_b_h10).trans g_b_h10
        have n_b_h11 := Nat.lt_of_lt_of_le n_b_h10 le_h11.next
        have g_l_h11 := (le_h11.get _ n_l_h10).trans g_l_h10
        have n_l_h11 := Nat.lt_of_lt_of_le n_l_h10 le_h11.next
        refine wp_dYes rfl ?_
        refine wp_dLook (l_neB rfl rfl) rfl ?_
        refine wp_dLook (l_pick1 rfl (by conv => lhs; whnf)) rfl ?_
        refine wp_dKnow (b := true) rfl (empty_in x) rfl ?_
        refine wp_dYes rfl ?_
        refine wp_dLook (l_loadN rfl g_a_h11 rfl) rfl ?_
        refine wp_dYes rfl ?_
        refine wp_dCallL (wp_func rfl (empty13 H _ x h11)) (fun _ _ => rfl) fun h12 le_h12 => ?_
        have g_a_h12 := (le_h12.get _ n_a_h11).trans g_a_h11
        have n_a_h12 := Nat.lt_of_lt_of_le n_a_h11 le_h12.next
        have g_b_h12 := (le_h12.get _ n_b_h11).trans g_b_h11
        have n_b_h12 := Nat.lt_of_lt_of_le n_b_h11 le_h12.next
        have g_l_h12 := (le_h12.get _ n_l_h11).trans g_l_h11
        have n_l_h12 := Nat.lt_of_lt_of_le n_l_h11 le_h12.next
        refine wp_dYes rfl ?_
        refine wp_dLook (l_not rfl) rfl ?_
        refine wp_dYes rfl ?_
        refine wp_dKnow (b := false) rfl (by rw [c6]; rfl) rfl ?_
        refine wp_dYes rfl ?_
        refine wp_dLook (l_loadN rfl g_a_h12 rfl) rfl ?_
        refine wp_dYes rfl ?_
        refine wp_dMove (by conv => lhs; whnf) rfl ?_
        refine wp_dYes rfl ?_
        refine wp_dCallL (wp_func rfl (in12 H _ x k h12)) (fun _ _ => rfl) fun h13 le_h13 => ?_
        have g_a_h13 := (le_h13.get _ n_a_h12).trans g_a_h12
        have n_a_h13 := Nat.lt_of_lt_of_le n_a_h12 le_h13.next
        have g_b_h13 := (le_h13.get _ n_b_h12).trans g_b_h12
        have n_b_h13 := Nat.lt_of_lt_of_le n_b_h12 le_h13.next
        have g_l_h13 := (le_h13.get _ n_l_h12).trans g_l_h12
        have n_l_h13 := Nat.lt_of_lt_of_le n_l_h12 le_h13.next
        refine wp_dYes rfl ?_
        refine wp_dLook (l_not rfl) rfl ?_
        refine wp_dYes rfl ?_
        refine wp_dLook (l_pick0 rfl (by conv => lhs; whnf)) rfl ?_
        refine wp_dLook (l_pick1 rfl (by conv => lhs; whnf)) rfl ?_
        refine wp_dMove (by conv => lhs; whnf) rfl ?_
        refine wp_dEnd ?_
        refine wp_ret ?_
        refine ⟨rfl, _, rfl, ?_⟩
        show Value.bool (!(inS x k)) = _
        rw [c3]; rfl
      ·
        rcases ue (inS y k) with c4 | c4
        ·
          refine wp_seq ?_
          refine wp_boxH rfl fun h1 b_a le_h1 g_a_h1 n_a_h1 => ?_
          refine wp_boxH rfl fun h2 b_b le_h2 g_b_h2 n_b_h2 => ?_
          have g_a_h2 := (le_h2.get _ n_a_h1).trans g_a_h1
          have n_a_h2 := Nat.lt_of_lt_of_le n_a_h1 le_h2.next
          refine wp_move (by conv => lhs; whnf) ?_
          refine wp_end ?_
          refine wp_seq ?_
          refine wp_callS (wp_func rfl (wp_true H.awake)) ?_
          refine wp_move (by conv => lhs; whnf) ?_
          refine wp_end ?_
          refine wp_seq ?_
          refine wp_seq ?_
          refine wp_look (l_loadN rfl g_a_h2 rfl) ?_
          refine wp_look (l_loadN rfl g_b_h2 rfl) ?_
          refine wp_buildH (cs := flatS [x, y]) rfl fun h3 b_l le_h3 g_l_h3 n_l_h3 => ?_
          have g_a_h3 := (le_h3.get _ n_a_h2).trans g_a_h2
          have n_a_h3 := Nat.lt_of_lt_of_le n_a_h2 le_h3.next
          have g_b_h3 := (le_h3.get _ n_b_h2).trans g_b_h2
          have n_b_h3 := Nat.lt_of_lt_of_le n_b_h2 le_h3.next
          refine wp_callS (wp_func rfl (long10 H _ [x, y] _ 2 2 2 rfl h3 (reads_two g_l_h3 n_l_h3) (by omega) (by decide) (by decide))) ?_
          refine wp_say (b := false) rfl c1 ?_
          refine wp_yes rfl ?_
          refine wp_move (by conv => lhs; whnf) ?_
          refine wp_yes rfl ?_
          refine wp_look (l_lenStr rfl) ?_
          refine wp_yes rfl ?_
          first | refine wp_look (l_gtrI rfl rfl rfl) ?_ | refine wp_look (l_gtr rfl rfl) ?_
          refine wp_look (l_pick0 rfl (by conv => lhs; whnf)) ?_
          refine wp_end ?_
          refine wp_condF rfl (decide_eq_false (by show ¬ (100 : Int) < (k.length : Int); omega)) ?_
          refine wp_skip ?_
          refine wp_seq ?_
          refine wp_look (l_fieldAddr rfl) ?_
          refine wp_look (l_load1 rfl g_a_h3 rfl) ?_
          refine wp_look (l_fieldAddr rfl) ?_
          refine wp_look (l_load1 rfl g_b_h3 rfl) ?_
          refine wp_look (l_max rfl rfl) ?_
          refine wp_move (by conv => lhs; whnf) ?_
          refine wp_end ?_
          refine wp_seq ?_
          refine wp_look (l_loadN rfl g_a_h3 rfl) ?_
          refine wp_look (l_loadN rfl g_b_h3 rfl) ?_
          refine wp_callL (wp_func rfl (meets11 H _ x y h3)) fun h4 le_h4 => ?_
          have g_a_h4 := (le_h4.get _ n_a_h3).trans g_a_h3
          have n_a_h4 := Nat.lt_of_lt_of_le n_a_h3 le_h4.next
          have g_b_h4 := (le_h4.get _ n_b_h3).trans g_b_h3
          have n_b_h4 := Nat.lt_of_lt_of_le n_b_h3 le_h4.next
          have g_l_h4 := (le_h4.get _ n_l_h3).trans g_l_h3
          have n_l_h4 := Nat.lt_of_lt_of_le n_l_h3 le_h4.next
          refine wp_move (by conv => lhs; whnf) ?_
          refine wp_end ?_
          refine wp_seq ?_
          refine wp_look (l_loadN rfl g_a_h4 rfl) ?_
          refine wp_move (by conv => lhs; whnf) ?_
          refine wp_callL (wp_func rfl (in12 H _ x k h4)) fun h5 le_h5 => ?_
          have g_a_h5 := (le_h5.get _ n_a_h4).trans g_a_h4
          have n_a_h5 := Nat.lt_of_lt_of_le n_a_h4 le_h5.next
          have g_b_h5 := (le_h5.get _ n_b_h4).trans g_b_h4
          have n_b_h5 := Nat.lt_of_lt_of_le n_b_h4 le_h5.next
          have g_l_h5 := (le_h5.get _ n_l_h4).trans g_l_h4
          have n_l_h5 := Nat.lt_of_lt_of_le n_l_h4 le_h5.next
          refine wp_say (b := true) rfl c3 ?_
          refine wp_yes rfl ?_
          refine wp_look (l_loadN rfl g_b_h5 rfl) ?_
          refine wp_yes rfl ?_
          refine wp_move (by conv => lhs; whnf) ?_
          refine wp_yes rfl ?_
          refine wp_callL (wp_func rfl (in12 H _ y k h5)) fun h6 le_h6 => ?_
          have g_a_h6 := (le_h6.get _ n_a_h5).trans g_a_h5
          have n_a_h6 := Nat.lt_of_lt_of_le n_a_h5 le_h6.next
          have g_b_h6 := (le_h6.get _ n_b_h5).trans g_b_h5
          have n_b_h6 := Nat.lt_of_lt_of_le n_b_h5 le_h6.next
          have g_l_h6 := (le_h6.get _ n_l_h5).trans g_l_h5
          have n_l_h6 := Nat.lt_of_lt_of_le n_l_h5 le_h6.next
          refine wp_look (l_pick1 rfl (by conv => lhs; whnf)) ?_
          refine wp_move (by conv => lhs; whnf) ?_
          refine wp_end ?_
          refine wp_seq ?_
          refine wp_seq ?_
          refine wp_move (by conv => lhs; whnf) ?_
          refine wp_say (b := true) rfl c4 ?_
          refine wp_yes rfl ?_
          refine wp_move (by conv => lhs; whnf) ?_
          refine wp_yes rfl ?_
          refine wp_look (l_not rfl) ?_
          refine wp_look (l_pick1 rfl (by conv => lhs; whnf)) ?_
          refine wp_say (b := false) rfl (by show (!(inS x (maxB x.1 y.1) && inS y (maxB x.1 y.1))) = false; have hm : (inS x (maxB x.1 y.1) && inS y (maxB x.1 y.1)) = true := meets_of c3 c4; rw [hm]; rfl) ?_
          refine wp_yes rfl ?_
          refine wp_move (by conv => lhs; whnf) ?_
          refine wp_yes rfl ?_
          refine wp_look (l_loadN rfl g_a_h6 rfl) ?_
          refine wp_yes rfl ?_
          refine wp_move (by conv => lhs; whnf) ?_
          refine wp_yes rfl ?_
          refine wp_callL (wp_func rfl (in12 H _ x (maxB x.1 y.1) h6)) fun h7 le_h7 => ?_
          have g_a_h7 := (le_h7.get _ n_a_h6).trans g_a_h6
          have n_a_h7 := Nat.lt_of_lt_of_le n_a_h6 le_h7.next
          have g_b_h7 := (le_h7.get _ n_b_h6).trans g_b_h6
          have n_b_h7 := Nat.lt_of_lt_of_le n_b_h6 le_h7.next
          have g_l_h7 := (le_h7.get _ n_l_h6).trans g_l_h6
          have n_l_h7 := Nat.lt_of_lt_of_le n_l_h6 le_h7.next
          refine wp_yes rfl ?_
          refine wp_say (b := false) rfl c5 ?_
          refine wp_no rfl ?_
          refine wp_no rfl ?_
          refine wp_no rfl ?_
          refine wp_yes rfl ?_
          refine wp_look (l_pick0 rfl (by conv => lhs; whnf)) ?_
          refine wp_yes rfl ?_
          refine wp_look (l_neB rfl rfl) ?_
          refine wp_look (l_pick0 rfl (by conv => lhs; whnf)) ?_
          refine wp_say (b := false) rfl (by show (!((inS x (maxB x.1 y.1) && inS y (maxB x.1 y.1)) == false)) = false; rw [c5]; rfl) ?_
          refine wp_yes rfl ?_
          refine wp_move (by conv => lhs; whnf) ?_
          refine wp_yes rfl ?_
          refine wp_look (l_loadN rfl g_b_h7 rfl) ?_
          refine wp_yes rfl ?_
          refine wp_look (l_loadN rfl g_a_h7 rfl) ?_
          refine wp_yes rfl ?_
          refine wp_callL (wp_func rfl (meets11 H _ y x h7)) fun h8 le_h8 => ?_
          have g_a_h8 := (le_h8.get _ n_a_h7).trans g_a_h7
          have n_a_h8 := Nat.lt_of_lt_of_le n_a_h7 le_h8.next
          have g_b_h8 := (le_h8.get _ n_b_h7).trans g_b_h7
          have n_b_h8 := Nat.lt_of_lt_of_le n_b_h7 le_h8.next
          have g_l_h8 := (le_h8.get _ n_l_h7).trans g_l_h7
          have n_l_h8 := Nat.lt_of_lt_of_le n_l_h7 le_h8.next
          refine wp_yes rfl ?_
          refine wp_look (l_neB rfl rfl) ?_
          refine wp_look (l_pick0 rfl (by conv => lhs; whnf)) ?_
          refine wp_end ?_
          refine wp_condF rfl (by show (!(meetsB x y == meetsB y x)) = false; rw [meets_swap x y, beqB]; rfl) ?_
          refine wp_skip ?_
          refine wp_seq ?_
          refine wp_draw ?_
          refine wp_dMove (by conv => lhs; whnf) rfl ?_
          refine wp_dKnow (b := true) rfl rfl rfl ?_
          refine wp_dYes rfl ?_
          refine wp_dLook (l_loadN rfl g_a_h8 rfl) rfl ?_
          refine wp_dYes rfl ?_
          refine wp_dCallL (wp_func rfl (empty13 H _ x h8)) (fun _ _ => rfl) fun h9 le_h9 => ?_
          have g_a_h9 := (le_h9.get _ n_a_h8).trans g_a_h8
          have n_a_h9 := Nat.lt_of_lt_of_le n_a_h8 le_h9.next
          have g_b_h9 := (le_h9.get _ n_b_h8).trans g_b_h8
          have n_b_h9 := Nat.lt_of_lt_of_le n_b_h8 le_h9.next
          have g_l_h9 := (le_h9.get _ n_l_h8).trans g_l_h8
          have n_l_h9 := Nat.lt_of_lt_of_le n_l_h8 le_h9.next
          refine wp_dYes rfl ?_
          refine wp_dLook (l_loadN rfl g_a_h9 rfl) (unLook_wr rfl (tells_sp (l_loadN rfl g_a_h8 rfl)) rfl) ?_
          refine wp_dYes rfl ?_
          refine wp_dLook (l_loadN rfl g_a_h9 rfl) (unLook_wr rfl (tells_sp (l_loadN rfl g_a_h8 rfl)) rfl) ?_
          refine wp_dYes rfl ?_
          refine wp_dCallL (wp_func rfl (meets11 H _ x x h9)) (fun _ _ => rfl) fun h10 le_h10 => ?_
          have g_a_h10 := (le_h10.get _ n_a_h9).trans g_a_h9
          have n_a_h10 := Nat.lt_of_lt_of_le n_a_h9 le_h10.next
          have g_b_h10 := (le_h10.get _ n_b_h9).trans g_b_h9
          have n_b_h10 := Nat.lt_of_lt_of_le n_b_h9 le_h10.next
          have g_l_h10 := (le_h10.get _ n_l_h9).trans g_l_h9
          have n_l_h10 := Nat.lt_of_lt_of_le n_l_h9 le_h10.next
          refine wp_dYes rfl ?_
          refine wp_dLook (l_neB rfl rfl) rfl ?_
          refine wp_dLook (l_pick1 rfl (by conv => lhs; whnf)) rfl ?_
          refine wp_dKnow (b := true) rfl (empty_meets x) rfl ?_
          refine wp_dYes rfl ?_
          refine wp_dLook (l_loadN rfl g_a_h10 rfl) rfl ?_
          refine wp_dYes rfl ?_
          refine wp_dCallL (wp_func rfl (empty13 H _ x h10)) (fun _ _ => rfl) fun h11 le_h11 => ?_
          have g_a_h11 := (le_h11.get _ n_a_h10).trans g_a_h10
          have n_a_h11 := Nat.lt_of_lt_of_le n_a_h10 le_h11.next
          have g_b_h11 := (le_h11.get _ n_b_h10).trans g_b_h10
          have n_b_h11 := Nat.lt_of_lt_of_le n_b_h10 le_h11.next
          have g_l_h11 := (le_h11.get _ n_l_h10).trans g_l_h10
          have n_l_h11 := Nat.lt_of_lt_of_le n_l_h10 le_h11.next
          refine wp_dYes rfl ?_
          refine wp_dLook (l_loadN rfl g_a_h11 rfl) (unLook_wr rfl (tells_sp (l_loadN rfl g_a_h10 rfl)) rfl) ?_
          refine wp_dYes rfl ?_
          refine wp_dLook (l_fieldAddr rfl) rfl ?_
          refine wp_dYes rfl ?_
          refine wp_dLook (l_load1 rfl g_a_h11 rfl) (unLook_wr rfl (tells_str (l_load1 rfl g_a_h10 rfl)) rfl) ?_
          refine wp_dYes rfl ?_
          refine wp_dCallL (wp_func rfl (in12 H _ x x.1 h11)) (fun _ _ => rfl) fun h12 le_h12 => ?_
          have g_a_h12 := (le_h12.get _ n_a_h11).trans g_a_h11
          have n_a_h12 := Nat.lt_of_lt_of_le n_a_h11 le_h12.next
          have g_b_h12 := (le_h12.get _ n_b_h11).trans g_b_h11
          have n_b_h12 := Nat.lt_of_lt_of_le n_b_h11 le_h12.next
          have g_l_h12 := (le_h12.get _ n_l_h11).trans g_l_h11
          have n_l_h12 := Nat.lt_of_lt_of_le n_l_h11 le_h12.next
          refine wp_dYes rfl ?_
          refine wp_dLook (l_neB rfl rfl) rfl ?_
          refine wp_dLook (l_pick1 rfl (by conv => lhs; whnf)) rfl ?_
          refine wp_dKnow (b := true) rfl (empty_in x) rfl ?_
          refine wp_dYes rfl ?_
          refine wp_dLook (l_loadN rfl g_a_h12 rfl) rfl ?_
          refine wp_dYes rfl ?_
          refine wp_dCallL (wp_func rfl (empty13 H _ x h12)) (fun _ _ => rfl) fun h13 le_h13 => ?_
          have g_a_h13 := (le_h13.get _ n_a_h12).trans g_a_h12
          have n_a_h13 := Nat.lt_of_lt_of_le n_a_h12 le_h13.next
          have g_b_h13 := (le_h13.get _ n_b_h12).trans g_b_h12
          have n_b_h13 := Nat.lt_of_lt_of_le n_b_h12 le_h13.next
          have g_l_h13 := (le_h13.get _ n_l_h12).trans g_l_h12
          have n_l_h13 := Nat.lt_of_lt_of_le n_l_h12 le_h13.next
          refine wp_dYes rfl ?_
          refine wp_dLook (l_not rfl) rfl ?_
          refine wp_dYes rfl ?_
          refine wp_dKnow (b := true) rfl (by rw [c6]; rfl) rfl ?_
          refine wp_dNo rfl ?_
          refine wp_dNo rfl ?_
          refine wp_dNo rfl ?_
          refine wp_dNo rfl ?_
          refine wp_dYes rfl ?_
          refine wp_dLook (l_pick1 rfl (by conv => lhs; whnf)) rfl ?_
          refine wp_dLook (l_pick1 rfl (by conv => lhs; whnf)) rfl ?_
          refine wp_dMove (by conv => lhs; whnf) rfl ?_
          refine wp_dEnd ?_
          refine wp_ret ?_
          exact ⟨rfl, _, rfl, rfl⟩
        ·
          refine wp_seq ?_
          refine wp_boxH rfl fun h1 b_a le_h1 g_a_h1 n_a_h1 => ?_
          refine wp_boxH rfl fun h2 b_b le_h2 g_b_h2 n_b_h2 => ?_
          have g_a_h2 := (le_h2.get _ n_a_h1).trans g_a_h1
          have n_a_h2 := Nat.lt_of_lt_of_le n_a_h1 le_h2.next
          refine wp_move (by conv => lhs; whnf) ?_
          refine wp_end ?_
          refine wp_seq ?_
          refine wp_callS (wp_func rfl (wp_true H.awake)) ?_
          refine wp_move (by conv => lhs; whnf) ?_
          refine wp_end ?_
          refine wp_seq ?_
          refine wp_seq ?_
          refine wp_look (l_loadN rfl g_a_h2 rfl) ?_
          refine wp_look (l_loadN rfl g_b_h2 rfl) ?_
          refine wp_buildH (cs := flatS [x, y]) rfl fun h3 b_l le_h3 g_l_h3 n_l_h3 => ?_
          have g_a_h3 := (le_h3.get _ n_a_h2).trans g_a_h2
          have n_a_h3 := Nat.lt_of_lt_of_le n_a_h2 le_h3.next
          have g_b_h3 := (le_h3.get _ n_b_h2).trans g_b_h2
          have n_b_h3 := Nat.lt_of_lt_of_le n_b_h2 le_h3.next
          refine wp_callS (wp_func rfl (long10 H _ [x, y] _ 2 2 2 rfl h3 (reads_two g_l_h3 n_l_h3) (by omega) (by decide) (by decide))) ?_
          refine wp_say (b := false) rfl c1 ?_
          refine wp_yes rfl ?_
          refine wp_move (by conv => lhs; whnf) ?_
          refine wp_yes rfl ?_
          refine wp_look (l_lenStr rfl) ?_
          refine wp_yes rfl ?_
          first | refine wp_look (l_gtrI rfl rfl rfl) ?_ | refine wp_look (l_gtr rfl rfl) ?_
          refine wp_look (l_pick0 rfl (by conv => lhs; whnf)) ?_
          refine wp_end ?_
          refine wp_condF rfl (decide_eq_false (by show ¬ (100 : Int) < (k.length : Int); omega)) ?_
          refine wp_skip ?_
          refine wp_seq ?_
          refine wp_look (l_fieldAddr rfl) ?_
          refine wp_look (l_load1 rfl g_a_h3 rfl) ?_
          refine wp_look (l_fieldAddr rfl) ?_
          refine wp_look (l_load1 rfl g_b_h3 rfl) ?_
          refine wp_look (l_max rfl rfl) ?_
          refine wp_move (by conv => lhs; whnf) ?_
          refine wp_end ?_
          refine wp_seq ?_
          refine wp_look (l_loadN rfl g_a_h3 rfl) ?_
          refine wp_look (l_loadN rfl g_b_h3 rfl) ?_
          refine wp_callL (wp_func rfl (meets11 H _ x y h3)) fun h4 le_h4 => ?_
          have g_a_h4 := (le_h4.get _ n_a_h3).trans g_a_h3
          have n_a_h4 := Nat.lt_of_lt_of_le n_a_h3 le_h4.next
          have g_b_h4 := (le_h4.get _ n_b_h3).trans g_b_h3
          have n_b_h4 := Nat.lt_of_lt_of_le n_b_h3 le_h4.next
          have g_l_h4 := (le_h4.get _ n_l_h3).trans g_l_h3
          have n_l_h4 := Nat.lt_of_lt_of_le n_l_h3 le_h4.next
          refine wp_move (by conv => lhs; whnf) ?_
          refine wp_end ?_
          refine wp_seq ?_
          refine wp_look (l_loadN rfl g_a_h4 rfl) ?_
          refine wp_move (by conv => lhs; whnf) ?_
          refine wp_callL (wp_func rfl (in12 H _ x k h4)) fun h5 le_h5 => ?_
          have g_a_h5 := (le_h5.get _ n_a_h4).trans g_a_h4
          have n_a_h5 := Nat.lt_of_lt_of_le n_a_h4 le_h5.next
          have g_b_h5 := (le_h5.get _ n_b_h4).trans g_b_h4
          have n_b_h5 := Nat.lt_of_lt_of_le n_b_h4 le_h5.next
          have g_l_h5 := (le_h5.get _ n_l_h4).trans g_l_h4
          have n_l_h5 := Nat.lt_of_lt_of_le n_l_h4 le_h5.next
          refine wp_say (b := true) rfl c3 ?_
          refine wp_yes rfl ?_
          refine wp_look (l_loadN rfl g_b_h5 rfl) ?_
          refine wp_yes rfl ?_
          refine wp_move (by conv => lhs; whnf) ?_
          refine wp_yes rfl ?_
          refine wp_callL (wp_func rfl (in12 H _ y k h5)) fun h6 le_h6 => ?_
          have g_a_h6 := (le_h6.get _ n_a_h5).trans g_a_h5
          have n_a_h6 := Nat.lt_of_lt_of_le n_a_h5 le_h6.next
          have g_b_h6 := (le_h6.get _ n_b_h5).trans g_b_h5
          have n_b_h6 := Nat.lt_of_lt_of_le n_b_h5 le_h6.next
          have g_l_h6 := (le_h6.get _ n_l_h5).trans g_l_h5
          have n_l_h6 := Nat.lt_of_lt_of_le n_l_h5 le_h6.next
          refine wp_look (l_pick1 rfl (by conv => lhs; whnf)) ?_
          refine wp_move (by conv => lhs; whnf) ?_
          refine wp_end ?_
          refine wp_seq ?_
          refine wp_seq ?_
          refine wp_move (by conv => lhs; whnf) ?_
          refine wp_say (b := false) rfl c4 ?_
          refine wp_no rfl ?_
          refine wp_no rfl ?_
          refine wp_look (l_pick0 rfl (by conv => lhs; whnf)) ?_
          refine wp_say (b := false) rfl rfl ?_
          refine wp_yes rfl ?_
          refine wp_move (by conv => lhs; whnf) ?_
          refine wp_yes rfl ?_
          refine wp_look (l_loadN rfl g_a_h6 rfl) ?_
          refine wp_yes rfl ?_
          refine wp_move (by conv => lhs; whnf) ?_
          refine wp_yes rfl ?_
          refine wp_callL (wp_func rfl (in12 H _ x (maxB x.1 y.1) h6)) fun h7 le_h7 => ?_
          have g_a_h7 := (le_h7.get _ n_a_h6).trans g_a_h6
          have n_a_h7 := Nat.lt_of_lt_of_le n_a_h6 le_h7.next
          have g_b_h7 := (le_h7.get _ n_b_h6).trans g_b_h6
          have n_b_h7 := Nat.lt_of_lt_of_le n_b_h6 le_h7.next
          have g_l_h7 := (le_h7.get _ n_l_h6).trans g_l_h6
          have n_l_h7 := Nat.lt_of_lt_of_le n_l_h6 le_h7.next
          refine wp_yes rfl ?_
          refine wp_say (b := false) rfl c5 ?_
          refine wp_no rfl ?_
          refine wp_no rfl ?_
          refine wp_no rfl ?_
          refine wp_yes rfl ?_
          refine wp_look (l_pick0 rfl (by conv => lhs; whnf)) ?_
          refine wp_yes rfl ?_
          refine wp_look (l_neB rfl rfl) ?_
          refine wp_look (l_pick0 rfl (by conv => lhs; whnf)) ?_
          refine wp_say (b := false) rfl (by show (!((inS x (maxB x.1 y.1) && inS y (maxB x.1 y.1)) == false)) = false; rw [c5]; rfl) ?_
          refine wp_yes rfl ?_
          refine wp_move (by conv => lhs; whnf) ?_
          refine wp_yes rfl ?_
          refine wp_look (l_loadN rfl g_b_h7 rfl) ?_
          refine wp_yes rfl ?_
          refine wp_look (l_loadN rfl g_a_h7 rfl) ?_
          refine wp_yes rfl ?_
          refine wp_callL (wp_func rfl (meets11 H _ y x h7)) fun h8 le_h8 => ?_
          have g_a_h8 := (le_h8.get _ n_a_h7).trans g_a_h7
          have n_a_h8 := Nat.lt_of_lt_of_le n_a_h7 le_h8.next
          have g_b_h8 := (le_h8.get _ n_b_h7).trans g_b_h7
          have n_b_h8 := Nat.lt_of_lt_of_le n_b_h7 le_h8.next
          have g_l_h8 := (le_h8.get _ n_l_h7).trans g_l_h7
          have n_l_h8 := Nat.lt_of_lt_of_le n_l_h7 le_h8.next
          refine wp_yes rfl ?_
          refine wp_look (l_neB rfl rfl) ?_
          refine wp_look (l_pick0 rfl (by conv => lhs; whnf)) ?_
          refine wp_end ?_
          refine wp_condF rfl (by show (!(meetsB x y == meetsB y x)) = false; rw [meets_swap x y, beqB]; rfl) ?_
          refine wp_skip ?_
          refine wp_seq ?_
          refine wp_draw ?_
          refine wp_dMove (by conv => lhs; whnf) rfl ?_
          refine wp_dKnow (b := true) rfl rfl rfl ?_
          refine wp_dYes rfl ?_
          refine wp_dLook (l_loadN rfl g_a_h8 rfl) rfl ?_
          refine wp_dYes rfl ?_
          refine wp_dCallL (wp_func rfl (empty13 H _ x h8)) (fun _ _ => rfl) fun h9 le_h9 => ?_
          have g_a_h9 := (le_h9.get _ n_a_h8).trans g_a_h8
          have n_a_h9 := Nat.lt_of_lt_of_le n_a_h8 le_h9.next
          have g_b_h9 := (le_h9.get _ n_b_h8).trans g_b_h8
          have n_b_h9 := Nat.lt_of_lt_of_le n_b_h8 le_h9.next
          have g_l_h9 := (le_h9.get _ n_l_h8).trans g_l_h8
          have n_l_h9 := Nat.lt_of_lt_of_le n_l_h8 le_h9.next
          refine wp_dYes rfl ?_
          refine wp_dLook (l_loadN rfl g_a_h9 rfl) (unLook_wr rfl (tells_sp (l_loadN rfl g_a_h8 rfl)) rfl) ?_
          refine wp_dYes rfl ?_
          refine wp_dLook (l_loadN rfl g_a_h9 rfl) (unLook_wr rfl (tells_sp (l_loadN rfl g_a_h8 rfl)) rfl) ?_
          refine wp_dYes rfl ?_
          refine wp_dCallL (wp_func rfl (meets11 H _ x x h9)) (fun _ _ => rfl) fun h10 le_h10 => ?_
          have g_a_h10 := (le_h10.get _ n_a_h9).trans g_a_h9
          have n_a_h10 := Nat.lt_of_lt_of_le n_a_h9 le_h10.next
          have g_b_h10 := (le_h10.get _ n_b_h9).trans g_b_h9
          have n_b_h10 := Nat.lt_of_lt_of_le n_b_h9 le_h10.next
          have g_l_h10 := (le_h10.get _ n_l_h9).trans g_l_h9
          have n_l_h10 := Nat.lt_of_lt_of_le n_l_h9 le_h10.next
          refine wp_dYes rfl ?_
          refine wp_dLook (l_neB rfl rfl) rfl ?_
          refine wp_dLook (l_pick1 rfl (by conv => lhs; whnf)) rfl ?_
          refine wp_dKnow (b := true) rfl (empty_meets x) rfl ?_
          refine wp_dYes rfl ?_
          refine wp_dLook (l_loadN rfl g_a_h10 rfl) rfl ?_
          refine wp_dYes rfl ?_
          refine wp_dCallL (wp_func rfl (empty13 H _ x h10)) (fun _ _ => rfl) fun h11 le_h11 => ?_
          have g_a_h11 := (le_h11.get _ n_a_h10).trans g_a_h10
          have n_a_h11 := Nat.lt_of_lt_of_le n_a_h10 le_h11.next
          have g_b_h11 := (le_h11.get _ n_b_h10).trans g_b_h10
          have n_b_h11 := Nat.lt_of_lt_of_le n_b_h10 le_h11.next
          have g_l_h11 := (le_h11.get _ n_l_h10).trans g_l_h10
          have n_l_h11 := Nat.lt_of_lt_of_le n_l_h10 le_h11.next
          refine wp_dYes rfl ?_
          refine wp_dLook (l_loadN rfl g_a_h11 rfl) (unLook_wr rfl (tells_sp (l_loadN rfl g_a_h10 rfl)) rfl) ?_
          refine wp_dYes rfl ?_
          refine wp_dLook (l_fieldAddr rfl) rfl ?_
          refine wp_dYes rfl ?_
          refine wp_dLook (l_load1 rfl g_a_h11 rfl) (unLook_wr rfl (tells_str (l_load1 rfl g_a_h10 rfl)) rfl) ?_
          refine wp_dYes rfl ?_
          refine wp_dCallL (wp_func rfl (in12 H _ x x.1 h11)) (fun _ _ => rfl) fun h12 le_h12 => ?_
          have g_a_h12 := (le_h12.get _ n_a_h11).trans g_a_h11
          have n_a_h12 := Nat.lt_of_lt_of_le n_a_h11 le_h12.next
          have g_b_h12 := (le_h12.get _ n_b_h11).trans g_b_h11
          have n_b_h12 := Nat.lt_of_lt_of_le n_b_h11 le_h12.next
          have g_l_h12 := (le_h12.get _ n_l_h11).trans g_l_h11
          have n_l_h12 := Nat.lt_of_lt_of_le n_l_h11 le_h12.next
          refine wp_dYes rfl ?_
          refine wp_dLook (l_neB rfl rfl) rfl ?_
          refine wp_dLook (l_pick1 rfl (by conv => lhs; whnf)) rfl ?_
          refine wp_dKnow (b := true) rfl (empty_in x) rfl ?_
          refine wp_dYes rfl ?_
          refine wp_dLook (l_loadN rfl g_a_h12 rfl) rfl ?_
          refine wp_dYes rfl ?_
          refine wp_dCallL (wp_func rfl (empty13 H _ x h12)) (fun _ _ => rfl) fun h13 le_h13 => ?_
          have g_a_h13 := (le_h13.get _ n_a_h12).trans g_a_h12
          have n_a_h13 := Nat.lt_of_lt_of_le n_a_h12 le_h13.next
          have g_b_h13 := (le_h13.get _ n_b_h12).trans g_b_h12
          have n_b_h13 := Nat.lt_of_lt_of_le n_b_h12 le_h13.next
          have g_l_h13 := (le_h13.get _ n_l_h12).trans g_l_h12
          have n_l_h13 := Nat.lt_of_lt_of_le n_l_h12 le_h13.next
          refine wp_dYes rfl ?_
          refine wp_dLook (l_not rfl) rfl ?_
          refine wp_dYes rfl ?_
          refine wp_dKnow (b := true) rfl (by rw [c6]; rfl) rfl ?_
          refine wp_dNo rfl ?_
          refine wp_dNo rfl ?_
          refine wp_dNo rfl ?_
          refine wp_dNo rfl ?_
          refine wp_dYes rfl ?_
          refine wp_dLook (l_pick1 rfl (by conv => lhs; whnf)) rfl ?_
          refine wp_dLook (l_pick1 rfl (by conv => lhs; whnf)) rfl ?_
          refine wp_dMove (by conv => lhs; whnf) rfl ?_
          refine wp_dEnd ?_
          refine wp_ret ?_
          exact ⟨rfl, _, rfl, rfl⟩
      ·
        refine wp_seq ?_
        refine wp_boxH rfl fun h1 b_a le_h1 g_a_h1 n_a_h1 => ?_
        refine wp_boxH rfl fun h2 b_b le_h2 g_b_h2 n_b_h2 => ?_
        have g_a_h2 := (le_h2.get _ n_a_h1).trans g_a_h1
        have n_a_h2 := Nat.lt_of_lt_of_le n_a_h1 le_h2.next
        refine wp_move (by conv => lhs; whnf) ?_
        refine wp_end ?_
        refine wp_seq ?_
        refine wp_callS (wp_func rfl (wp_true H.awake)) ?_
        refine wp_move (by conv => lhs; whnf) ?_
        refine wp_end ?_
        refine wp_seq ?_
        refine wp_seq ?_
        refine wp_look (l_loadN rfl g_a_h2 rfl) ?_
        refine wp_look (l_loadN rfl g_b_h2 rfl) ?_
        refine wp_buildH (cs := flatS [x, y]) rfl fun h3 b_l le_h3 g_l_h3 n_l_h3 => ?_
        have g_a_h3 := (le_h3.get _ n_a_h2).trans g_a_h2
        have n_a_h3 := Nat.lt_of_lt_of_le n_a_h2 le_h3.next
        have g_b_h3 := (le_h3.get _ n_b_h2).trans g_b_h2
        have n_b_h3 := Nat.lt_of_lt_of_le n_b_h2 le_h3.next
        refine wp_callS (wp_func rfl (long10 H _ [x, y] _ 2 2 2 rfl h3 (reads_two g_l_h3 n_l_h3) (by omega) (by decide) (by decide))) ?_
        refine wp_say (b := false) rfl c1 ?_
        refine wp_yes rfl ?_
        refine wp_move (by conv => lhs; whnf) ?_
        refine wp_yes rfl ?_
        refine wp_look (l_lenStr rfl) ?_
        refine wp_yes rfl ?_
        first | refine wp_look (l_gtrI rfl rfl rfl) ?_ | refine wp_look (l_gtr rfl rfl) ?_
        refine wp_look (l_pick0 rfl (by conv => lhs; whnf)) ?_
        refine wp_end ?_
        refine wp_condF rfl (decide_eq_false (by show ¬ (100 : Int) < (k.length : Int); omega)) ?_
        refine wp_skip ?_
        refine wp_seq ?_
        refine wp_look (l_fieldAddr rfl) ?_
        refine wp_look (l_load1 rfl g_a_h3 rfl) ?_
        refine wp_look (l_fieldAddr rfl) ?_
        refine wp_look (l_load1 rfl g_b_h3 rfl) ?_
        refine wp_look (l_max rfl rfl) ?_
        refine wp_move (by conv => lhs; whnf) ?_
        refine wp_end ?_
        refine wp_seq ?_
        refine wp_look (l_loadN rfl g_a_h3 rfl) ?_
        refine wp_look (l_loadN rfl g_b_h3 rfl) ?_
        refine wp_callL (wp_func rfl (meets11 H _ x y h3)) fun h4 le_h4 => ?_
        have g_a_h4 := (le_h4.get _ n_a_h3).trans g_a_h3
        have n_a_h4 := Nat.lt_of_lt_of_le n_a_h3 le_h4.next
        have g_b_h4 := (le_h4.get _ n_b_h3).trans g_b_h3
        have n_b_h4 := Nat.lt_of_lt_of_le n_b_h3 le_h4.next
        have g_l_h4 := (le_h4.get _ n_l_h3).trans g_l_h3
        have n_l_h4 := Nat.lt_of_lt_of_le n_l_h3 le_h4.next
        refine wp_move (by conv => lhs; whnf) ?_
        refine wp_end ?_
        refine wp_seq ?_
        refine wp_look (l_loadN rfl g_a_h4 rfl) ?_
        refine wp_move (by conv => lhs; whnf) ?_
        refine wp_callL (wp_func rfl (in12 H _ x k h4)) fun h5 le_h5 => ?_
        have g_a_h5 := (le_h5.get _ n_a_h4).trans g_a_h4
        have n_a_h5 := Nat.lt_of_lt_of_le n_a_h4 le_h5.next
        have g_b_h5 := (le_h5.get _ n_b_h4).trans g_b_h4
        have n_b_h5 := Nat.lt_of_lt_of_le n_b_h4 le_h5.next
        have g_l_h5 := (le_h5.get _ n_l_h4).trans g_l_h4
        have n_l_h5 := Nat.lt_of_lt_of_le n_l_h4 le_h5.next
        refine wp_say (b := false) rfl c3 ?_
        refine wp_no rfl ?_
        refine wp_no rfl ?_
        refine wp_no rfl ?_
        refine wp_look (l_pick0 rfl (by conv => lhs; whnf)) ?_
        refine wp_move (by conv => lhs; whnf) ?_
        refine wp_end ?_
        refine wp_seq ?_
        refine wp_seq ?_
        refine wp_move (by conv => lhs; whnf) ?_
        refine wp_say (b := false) rfl rfl ?_
        refine wp_no rfl ?_
        refine wp_no rfl ?_
        refine wp_look (l_pick0 rfl (by conv => lhs; whnf)) ?_
        refine wp_say (b := false) rfl rfl ?_
        refine wp_yes rfl ?_
        refine wp_move (by conv => lhs; whnf) ?_
        refine wp_yes rfl ?_
        refine wp_look (l_loadN rfl g_a_h5 rfl) ?_
        refine wp_yes rfl ?_
        refine wp_move (by conv => lhs; whnf) ?_
        refine wp_yes rfl ?_
        refine wp_callL (wp_func rfl (in12 H _ x (maxB x.1 y.1) h5)) fun h6 le_h6 => ?_
        have g_a_h6 := (le_h6.get _ n_a_h5).trans g_a_h5
        have n_a_h6 := Nat.lt_of_lt_of_le n_a_h5 le_h6.next
        have g_b_h6 := (le_h6.get _ n_b_h5).trans g_b_h5
        have n_b_h6 := Nat.lt_of_lt_of_le n_b_h5 le_h6.next
        have g_l_h6 := (le_h6.get _ n_l_h5).trans g_l_h5
        have n_l_h6 := Nat.lt_of_lt_of_le n_l_h5 le_h6.next
        refine wp_yes rfl ?_
        refine wp_say (b := false) rfl c5 ?_
        refine wp_no rfl ?_
        refine wp_no rfl ?_
        refine wp_no rfl ?_
        refine wp_yes rfl ?_
        refine wp_look (l_pick0 rfl (by conv => lhs; whnf)) ?_
        refine wp_yes rfl ?_
        refine wp_look (l_neB rfl rfl) ?_
        refine wp_look (l_pick0 rfl (by conv => lhs; whnf)) ?_
        refine wp_say (b := false) rfl (by show (!((inS x (maxB x.1 y.1) && inS y (maxB x.1 y.1)) == false)) = false; rw [c5]; rfl) ?_
        refine wp_yes rfl ?_
        refine wp_move (by conv => lhs; whnf) ?_
        refine wp_yes rfl ?_
        refine wp_look (l_loadN rfl g_b_h6 rfl) ?_
        refine wp_yes rfl ?_
        refine wp_look (l_loadN rfl g_a_h6 rfl) ?_
        refine wp_yes rfl ?_
        refine wp_callL (wp_func rfl (meets11 H _ y x h6)) fun h7 le_h7 => ?_
        have g_a_h7 := (le_h7.get _ n_a_h6).trans g_a_h6
        have n_a_h7 := Nat.lt_of_lt_of_le n_a_h6 le_h7.next
        have g_b_h7 := (le_h7.get _ n_b_h6).trans g_b_h6
        have n_b_h7 := Nat.lt_of_lt_of_le n_b_h6 le_h7.next
        have g_l_h7 := (le_h7.get _ n_l_h6).trans g_l_h6
        have n_l_h7 := Nat.lt_of_lt_of_le n_l_h6 le_h7.next
        refine wp_yes rfl ?_
        refine wp_look (l_neB rfl rfl) ?_
        refine wp_look (l_pick0 rfl (by conv => lhs; whnf)) ?_
        refine wp_end ?_
        refine wp_condF rfl (by show (!(meetsB x y == meetsB y x)) = false; rw [meets_swap x y, beqB]; rfl) ?_
        refine wp_skip ?_
        refine wp_seq ?_
        refine wp_draw ?_
        refine wp_dMove (by conv => lhs; whnf) rfl ?_
        refine wp_dKnow (b := true) rfl rfl rfl ?_
        refine wp_dYes rfl ?_
        refine wp_dLook (l_loadN rfl g_a_h7 rfl) rfl ?_
        refine wp_dYes rfl ?_
        refine wp_dCallL (wp_func rfl (empty13 H _ x h7)) (fun _ _ => rfl) fun h8 le_h8 => ?_
        have g_a_h8 := (le_h8.get _ n_a_h7).trans g_a_h7
        have n_a_h8 := Nat.lt_of_lt_of_le n_a_h7 le_h8.next
        have g_b_h8 := (le_h8.get _ n_b_h7).trans g_b_h7
        have n_b_h8 := Nat.lt_of_lt_of_le n_b_h7 le_h8.next
        have g_l_h8 := (le_h8.get _ n_l_h7).trans g_l_h7
        have n_l_h8 := Nat.lt_of_lt_of_le n_l_h7 le_h8.next
        refine wp_dYes rfl ?_
        refine wp_dLook (l_loadN rfl g_a_h8 rfl) (unLook_wr rfl (tells_sp (l_loadN rfl g_a_h7 rfl)) rfl) ?_
        refine wp_dYes rfl ?_
        refine wp_dLook (l_loadN rfl g_a_h8 rfl) (unLook_wr rfl (tells_sp (l_loadN rfl g_a_h7 rfl)) rfl) ?_
        refine wp_dYes rfl ?_
        refine wp_dCallL (wp_func rfl (meets11 H _ x x h8)) (fun _ _ => rfl) fun h9 le_h9 => ?_
        have g_a_h9 := (le_h9.get _ n_a_h8).trans g_a_h8
        have n_a_h9 := Nat.lt_of_lt_of_le n_a_h8 le_h9.next
        have g_b_h9 := (le_h9.get _ n_b_h8).trans g_b_h8
        have n_b_h9 := Nat.lt_of_lt_of_le n_b_h8 le_h9.next
        have g_l_h9 := (le_h9.get _ n_l_h8).trans g_l_h8
        have n_l_h9 := Nat.lt_of_lt_of_le n_l_h8 le_h9.next
        refine wp_dYes rfl ?_
        refine wp_dLook (l_neB rfl rfl) rfl ?_
        refine wp_dLook (l_pick1 rfl (by conv => lhs; whnf)) rfl ?_
        refine wp_dKnow (b := true) rfl (empty_meets x) rfl ?_
        refine wp_dYes rfl ?_
        refine wp_dLook (l_loadN rfl g_a_h9 rfl) rfl ?_
        refine wp_dYes rfl ?_
        refine wp_dCallL (wp_func rfl (empty13 H _ x h9)) (fun _ _ => rfl) fun h10 le_h10 => ?_
        have g_a_h10 := (le_h10.get _ n_a_h9).trans g_a_h9
        have n_a_h10 := Nat.lt_of_lt_of_le n_a_h9 le_h10.next
        have g_b_h10 := (le_h10.get _ n_b_h9).trans g_b_h9
        have n_b_h10 := Nat.lt_of_lt_of_le n_b_h9 le_h10.next
        have g_l_h10 := (le_h10.get _ n_l_h9).trans g_l_h9
        have n_l_h10 := Nat.lt_of_lt_of_le n_l_h9 le_h10.next
        refine wp_dYes rfl ?_
        refine wp_dLook (l_loadN rfl g_a_h10 rfl) (unLook_wr rfl (tells_sp (l_loadN rfl g_a_h9 rfl)) rfl) ?_
        refine wp_dYes rfl ?_
        refine wp_dLook (l_fieldAddr rfl) rfl ?_
        refine wp_dYes rfl ?_
        refine wp_dLook (l_load1 rfl g_a_h10 rfl) (unLook_wr rfl (tells_str (l_load1 rfl g_a_h9 rfl)) rfl) ?_
        refine wp_dYes rfl ?_
        refine wp_dCallL (wp_func rfl (in12 H _ x x.1 h10)) (fun _ _ => rfl) fun h11 le_h11 => ?_
        have g_a_h11 := (le_h11.get _ n_a_h10).trans g_a_h10
        have n_a_h11 := Nat.lt_of_lt_of_le n_a_h10 le_h11.next
        have g_b_h11 := (le_h11.get _ n_b_h10).trans g_b_h10
        have n_b_h11 := Nat.lt_of_lt_of_le n_b_h10 le_h11.next
        have g_l_h11 := (le_h11.get _ n_l_h10).trans g_l_h10
        have n_l_h11 := Nat.lt_of_lt_of_le n_l_h10 le_h11.next
        refine wp_dYes rfl ?_
        refine wp_dLook (l_neB rfl rfl) rfl ?_
        refine wp_dLook (l_pick1 rfl (by conv => lhs; whnf)) rfl ?_
        refine wp_dKnow (b := true) rfl (empty_in x) rfl ?_
        refine wp_dYes rfl ?_
        refine wp_dLook (l_loadN rfl g_a_h11 rfl) rfl ?_
        refine wp_dYes rfl ?_
        refine wp_dCallL (wp_func rfl (empty13 H _ x h11)) (fun _ _ => rfl) fun h12 le_h12 => ?_
        have g_a_h12 := (le_h12.get _ n_a_h11).trans g_a_h11
        have n_a_h12 := Nat.lt_of_lt_of_le n_a_h11 le_h12.next
        have g_b_h12 := (le_h12.get _ n_b_h11).trans g_b_h11
        have n_b_h12 := Nat.lt_of_lt_of_le n_b_h11 le_h12.next
        have g_l_h12 := (le_h12.get _ n_l_h11).trans g_l_h11
        have n_l_h12 := Nat.lt_of_lt_of_le n_l_h11 le_h12.next
        refine wp_dYes rfl ?_
        refine wp_dLook (l_not rfl) rfl ?_
        refine wp_dYes rfl ?_
        refine wp_dKnow (b := true) rfl (by rw [c6]; rfl) rfl ?_
        refine wp_dNo rfl ?_
        refine wp_dNo rfl ?_
        refine wp_dNo rfl ?_
        refine wp_dNo rfl ?_
        refine wp_dYes rfl ?_
        refine wp_dLook (l_pick1 rfl (by conv => lhs; whnf)) rfl ?_
        refine wp_dLook (l_pick1 rfl (by conv => lhs; whnf)) rfl ?_
        refine wp_dMove (by conv => lhs; whnf) rfl ?_
        refine wp_dEnd ?_
        refine wp_ret ?_
        exact ⟨rfl, _, rfl, rfl⟩

end SpanK
