/-
  SpanSame: the law's call, gone through: true. Conditions: those that each lemma states.
-/
import Derived.Test.YtfknpknbgfkbdaaK

set_option linter.unusedSimpArgs false
set_option linter.unusedSectionVars false
set_option linter.unusedVariables false
namespace SpanK
open Go Go.Eng Go.Proofs.Ytfknpknbgfkbdaa.Eng
set_option maxRecDepth 100000
set_option linter.unusedVariables false
theorem OutSl.sl {hs h : Heap} {v : Value} {O : List Sp} (o : OutSl hs h v O) : ∃ ao cap, v = .slice ao O.length cap ∧ Sl h ao O.length cap O := by
  rcases o with ⟨rfl, rfl⟩ | ⟨h1, bo, rfl, h2, h3⟩
  · exact ⟨none, 0, rfl, rfl, Reads.nil _ _, fun x hx => (nomatch hx), fun _ => rfl, Nat.le_refl _, fun x hx => (nomatch hx)⟩
  · exact ⟨some ⟨bo, 0, some 2⟩, O.length, rfl, rfl, h2.reads _, fun x hx => by cases hx; exact ⟨true, _, h2.1, h2.2⟩, fun h => (nomatch h), Nat.le_refl _, fun x hx => by cases hx; exact .inr (.inr rfl)⟩
theorem bneB (a : Bool) : (!(a == a)) = false := by cases a <;> rfl
theorem turned_mem (l : List Sp) (r : Nat) (s : Sp) : s ∈ l.drop r ++ l.take r ↔ s ∈ l := by
  rw [List.mem_append]
  constructor
  · rintro (h | h)
    · exact List.mem_of_mem_drop h
    · exact List.mem_of_mem_take h
  · intro h
    rw [← List.take_append_drop r l, List.mem_append] at h
    exact h.symm
theorem has_lo {l : List Sp} {s : Sp} (hm : s ∈ l) (he : emptyS s = false) : hasS l s.1 = true := by
  unfold hasS
  rw [List.any_eq_true]
  refine ⟨s, hm, ?_⟩
  unfold emptyS at he
  rw [Bool.not_eq_false'] at he
  unfold inS
  rw [ltB_irrefl, he]; rfl
section
theorem long10' {E : Env} (H : Has E) (n : Nat) (l : List Sp) (a : Option Addr) (m ca most : Nat) (hm : l.length = m) (h : Heap) (ra : Reads h a l) (hf : most + 2 < n) (hmost : most < 1000000) :
    (enter E (ctx E n) 10 [.slice a m ca, .int .i64 (Int.ofNat most)] h).Wp fun v h' => v = .bool (longS l most) ∧ h' = h := by
  refine H.go (k := k10) rfl (by decide) (by decide) ?_
  unfold k10
  refine wp_fn (Nat.le_of_ble_eq_true rfl) ?_
  dsimp only
  refine wp_seq ?_
  refine wp_move (by conv => lhs; whnf) ?_
  refine wp_end ?_
  refine wp_seq ?_
  refine wp_seq ?_
  refine wp_move (by conv => lhs; whnf) ?_
  refine wp_end ?_
  refine wp_block ?_
  refine wp_loop (fun q t x h' => ∃ (i : Nat), q = most + 2 - i ∧ i ≤ m ∧ (g5 t = .int .i64 (Int.ofNat i) ∧ g1 t = .int .i64 (Int.ofNat most) ∧ g0 t = .slice a m ca) ∧ x = ⟨[], none, none⟩ ∧ h' = h ∧ (i ≤ most + 1) ∧ ∀ j s, j < i → l[j]? = some s → (decide (100 < s.1.length) || decide (100 < s.2.length)) = false) (most + 2) ⟨0, rfl, Nat.zero_le _, ⟨rfl, rfl, rfl⟩, rfl, rfl, Nat.zero_le _, fun j s hj => by omega⟩ (by rw [ctx_fuel]; exact hf) ?_
  rintro q t x h' ⟨i, rfl, hi, ⟨r5, r1, r0⟩, rfl, rfl, him, hno⟩
  obtain ⟨t0, rfl⟩ : ∃ t0, t = p5 (.int .i64 (Int.ofNat i)) (p1 (.int .i64 (Int.ofNat most)) (p0 (.slice a m ca) t0)) := ⟨t, by rw [← r5, ← r1, ← r0]; rfl⟩
  clear r5 r1 r0
  have hlong : ∀ s, l[i]? = some s → i ≤ most → (decide (100 < s.1.length) || decide (100 < s.2.length)) = true → longS l most = true := by
    intro s hs hle hl
    unfold longS
    rw [Bool.or_eq_true]; left
    rw [List.any_eq_true]
    refine ⟨s, List.mem_of_getElem? (i := i) ?_, hl⟩
    rw [List.getElem?_take_of_lt (by omega)]; exact hs
  by_cases hlt : i < m
  · obtain ⟨s, hs⟩ : ∃ s, l[i]? = some s := ⟨l[i]'(by omega), List.getElem?_eq_getElem (by omega)⟩
    obtain ⟨pa, w1, cs1, rfl, e2, e3, e4⟩ := ra i s hs
    have lo4 : nth (pa.off + i * 2 + 0) cs1 = some (sv s.1) := nth_take2 e4
    have hi4 : nth (pa.off + i * 2 + 1) cs1 = some (sv s.2) := nth_take2' e4
    by_cases hle : i ≤ most
    · by_cases c1 : 100 < s.1.length
      ·
        refine wp_seq ?_
        refine wp_seq ?_
        refine wp_move (by conv => lhs; whnf) ?_
        refine wp_move (by conv => lhs; whnf) ?_
        refine wp_look (l_lenSl rfl) ?_
        refine wp_look (l_lssI rfl rfl rfl) ?_
        refine wp_say (b := true) rfl (decide_eq_true (by show (i : Int) < (m : Int); omega)) ?_
        refine wp_yes rfl ?_
        refine wp_move (by conv => lhs; whnf) ?_
        refine wp_yes rfl ?_
        refine wp_move (by conv => lhs; whnf) ?_
        refine wp_yes rfl ?_
        refine wp_look (l_leqI rfl rfl rfl) ?_
        refine wp_look (l_pick1 rfl (by conv => lhs; whnf)) ?_
        refine wp_end ?_
        refine wp_condT rfl (decide_eq_true (by show (i : Int) ≤ (most : Int); omega)) ?_
        refine wp_skip ?_
        refine wp_seq ?_
        refine wp_block ?_
        refine wp_seq ?_
        refine wp_move (by conv => lhs; whnf) ?_
        refine wp_move (by conv => lhs; whnf) ?_
        refine wp_look (l_ixSl rfl rfl hlt) ?_
        refine wp_look (l_fieldAddr rfl) ?_
        refine wp_look (l_load1 rfl e2 lo4) ?_
        refine wp_look (l_lenStr rfl) ?_
        refine wp_look (l_gtrI rfl rfl rfl) ?_
        refine wp_say (b := true) rfl (decide_eq_true (by show (100 : Int) < (s.1.length : Int); omega)) ?_
        refine wp_no rfl ?_
        refine wp_no rfl ?_
        refine wp_no rfl ?_
        refine wp_no rfl ?_
        refine wp_no rfl ?_
        refine wp_no rfl ?_
        refine wp_no rfl ?_
        refine wp_look (l_pick1 rfl (by conv => lhs; whnf)) ?_
        refine wp_end ?_
        refine wp_condT rfl rfl ?_
        refine wp_seq ?_
        refine wp_move (by conv => lhs; whnf) ?_
        refine wp_end ?_
        refine wp_ret ?_
        refine ⟨rfl, _, rfl, ?_, rfl⟩
        rw [hlong s hs hle (by rw [decide_eq_true c1]; simp)]; rfl
      · by_cases c2 : 100 < s.2.length
        ·
          refine wp_seq ?_
          refine wp_seq ?_
          refine wp_move (by conv => lhs; whnf) ?_
          refine wp_move (by conv => lhs; whnf) ?_
          refine wp_look (l_lenSl rfl) ?_
          refine wp_look (l_lssI rfl rfl rfl) ?_
          refine wp_say (b := true) rfl (decide_eq_true (by show (i : Int) < (m : Int); omega)) ?_
          refine wp_yes rfl ?_
          refine wp_move (by conv => lhs; whnf) ?_
          refine wp_yes rfl ?_
          refine wp_move (by conv => lhs; whnf) ?_
          refine wp_yes rfl ?_
          refine wp_look (l_leqI rfl rfl rfl) ?_
          refine wp_look (l_pick1 rfl (by conv => lhs; whnf)) ?_
          refine wp_end ?_
          refine wp_condT rfl (decide_eq_true (by show (i : Int) ≤ (most : Int); omega)) ?_
          refine wp_skip ?_
          refine wp_seq ?_
          refine wp_block ?_
          refine wp_seq ?_
          refine wp_move (by conv => lhs; whnf) ?_
          refine wp_move (by conv => lhs; whnf) ?_
          refine wp_look (l_ixSl rfl rfl hlt) ?_
          refine wp_look (l_fieldAddr rfl) ?_
          refine wp_look (l_load1 rfl e2 lo4) ?_
          refine wp_look (l_lenStr rfl) ?_
          refine wp_look (l_gtrI rfl rfl rfl) ?_
          refine wp_say (b := false) rfl (decide_eq_false (by show ¬ (100 : Int) < (s.1.length : Int); omega)) ?_
          refine wp_yes rfl ?_
          refine wp_move (by conv => lhs; whnf) ?_
          refine wp_yes rfl ?_
          refine wp_move (by conv => lhs; whnf) ?_
          refine wp_yes rfl ?_
          refine wp_look (l_ixSl rfl rfl hlt) ?_
          refine wp_yes rfl ?_
          refine wp_look (l_fieldAddr rfl) ?_
          refine wp_yes rfl ?_
          refine wp_look (l_load1 rfl e2 hi4) ?_
          refine wp_yes rfl ?_
          refine wp_look (l_lenStr rfl) ?_
          refine wp_yes rfl ?_
          refine wp_look (l_gtrI rfl rfl rfl) ?_
          refine wp_look (l_pick0 rfl (by conv => lhs; whnf)) ?_
          refine wp_end ?_
          refine wp_condT rfl (decide_eq_true (by show (100 : Int) < (s.2.length : Int); omega)) ?_
          refine wp_seq ?_
          refine wp_move (by conv => lhs; whnf) ?_
          refine wp_end ?_
          refine wp_ret ?_
          refine ⟨rfl, _, rfl, ?_, rfl⟩
          rw [hlong s hs hle (by rw [decide_eq_true c2]; simp)]; rfl
        ·
          refine wp_seq ?_
          refine wp_seq ?_
          refine wp_move (by conv => lhs; whnf) ?_
          refine wp_move (by conv => lhs; whnf) ?_
          refine wp_look (l_lenSl rfl) ?_
          refine wp_look (l_lssI rfl rfl rfl) ?_
          refine wp_say (b := true) rfl (decide_eq_true (by show (i : Int) < (m : Int); omega)) ?_
          refine wp_yes rfl ?_
          refine wp_move (by conv => lhs; whnf) ?_
          refine wp_yes rfl ?_
          refine wp_move (by conv => lhs; whnf) ?_
          refine wp_yes rfl ?_
          refine wp_look (l_leqI rfl rfl rfl) ?_
          refine wp_look (l_pick1 rfl (by conv => lhs; whnf)) ?_
          refine wp_end ?_
          refine wp_condT rfl (decide_eq_true (by show (i : Int) ≤ (most : Int); omega)) ?_
          refine wp_skip ?_
          refine wp_seq ?_
          refine wp_block ?_
          refine wp_seq ?_
          refine wp_move (by conv => lhs; whnf) ?_
          refine wp_move (by conv => lhs; whnf) ?_
          refine wp_look (l_ixSl rfl rfl hlt) ?_
          refine wp_look (l_fieldAddr rfl) ?_
          refine wp_look (l_load1 rfl e2 lo4) ?_
          refine wp_look (l_lenStr rfl) ?_
          refine wp_look (l_gtrI rfl rfl rfl) ?_
          refine wp_say (b := false) rfl (decide_eq_false (by show ¬ (100 : Int) < (s.1.length : Int); omega)) ?_
          refine wp_yes rfl ?_
          refine wp_move (by conv => lhs; whnf) ?_
          refine wp_yes rfl ?_
          refine wp_move (by conv => lhs; whnf) ?_
          refine wp_yes rfl ?_
          refine wp_look (l_ixSl rfl rfl hlt) ?_
          refine wp_yes rfl ?_
          refine wp_look (l_fieldAddr rfl) ?_
          refine wp_yes rfl ?_
          refine wp_look (l_load1 rfl e2 hi4) ?_
          refine wp_yes rfl ?_
          refine wp_look (l_lenStr rfl) ?_
          refine wp_yes rfl ?_
          refine wp_look (l_gtrI rfl rfl rfl) ?_
          refine wp_look (l_pick0 rfl (by conv => lhs; whnf)) ?_
          refine wp_end ?_
          refine wp_condF rfl (decide_eq_false (by show ¬ (100 : Int) < (s.2.length : Int); omega)) ?_
          refine wp_skip ?_
          refine wp_move (by conv => lhs; whnf) ?_
          refine wp_look (l_incN rfl rfl (by omega)) ?_
          refine wp_move (by conv => lhs; whnf) ?_
          refine wp_end ?_
          refine ⟨most + 2 - (i + 1), by omega, i + 1, rfl, hlt, ⟨rfl, rfl, rfl⟩, rfl, rfl, by omega, fun j s' hj hs' => ?_⟩
          by_cases e : j = i
          · subst e; rw [hs] at hs'; cases hs'; rw [decide_eq_false c1, decide_eq_false c2]; rfl
          · exact hno j s' (by omega) hs'
    ·
      refine wp_seq ?_
      refine wp_seq ?_
      refine wp_move (by conv => lhs; whnf) ?_
      refine wp_move (by conv => lhs; whnf) ?_
      refine wp_look (l_lenSl rfl) ?_
      refine wp_look (l_lssI rfl rfl rfl) ?_
      refine wp_say (b := true) rfl (decide_eq_true (by show (i : Int) < (m : Int); omega)) ?_
      refine wp_yes rfl ?_
      refine wp_move (by conv => lhs; whnf) ?_
      refine wp_yes rfl ?_
      refine wp_move (by conv => lhs; whnf) ?_
      refine wp_yes rfl ?_
      refine wp_look (l_leqI rfl rfl rfl) ?_
      refine wp_look (l_pick1 rfl (by conv => lhs; whnf)) ?_
      refine wp_end ?_
      refine wp_condF rfl (decide_eq_false (by show ¬ (i : Int) ≤ (most : Int); omega)) ?_
      refine wp_exit ?_
      refine exit_here rfl ?_
      refine wp_seq ?_
      refine wp_move (by conv => lhs; whnf) ?_
      refine wp_look (l_lenSl rfl) ?_
      refine wp_move (by conv => lhs; whnf) ?_
      refine wp_look (l_gtrI rfl rfl rfl) ?_
      refine wp_move (by conv => lhs; whnf) ?_
      refine wp_end ?_
      refine wp_ret ?_
      refine ⟨rfl, _, rfl, ?_, rfl⟩
      show Value.bool (decide ((most : Int) < (m : Int))) = _
      congr 1
      unfold longS
      have e1 : (l.take (most + 1)).any (fun s => decide (100 < s.1.length) || decide (100 < s.2.length)) = false := by
        rw [List.any_eq_false]
        intro x hx
        obtain ⟨j, hj⟩ := List.getElem?_of_mem hx
        rw [List.getElem?_take] at hj
        split at hj
        · rw [hno j x (by have := (List.getElem?_eq_some_iff.1 hj).1; omega) hj]; simp
        · cases hj
      rw [e1, Bool.false_or]
      exact decide_eq_decide.2 (by omega)
  ·
    refine wp_seq ?_
    refine wp_seq ?_
    refine wp_move (by conv => lhs; whnf) ?_
    refine wp_move (by conv => lhs; whnf) ?_
    refine wp_look (l_lenSl rfl) ?_
    refine wp_look (l_lssI rfl rfl rfl) ?_
    refine wp_say (b := false) rfl (decide_eq_false (by show ¬ (i : Int) < (m : Int); omega)) ?_
    refine wp_no rfl ?_
    refine wp_no rfl ?_
    refine wp_no rfl ?_
    refine wp_look (l_pick0 rfl (by conv => lhs; whnf)) ?_
    refine wp_end ?_
    refine wp_condF rfl rfl ?_
    refine wp_exit ?_
    refine exit_here rfl ?_
    refine wp_seq ?_
    refine wp_move (by conv => lhs; whnf) ?_
    refine wp_look (l_lenSl rfl) ?_
    refine wp_move (by conv => lhs; whnf) ?_
    refine wp_look (l_gtrI rfl rfl rfl) ?_
    refine wp_move (by conv => lhs; whnf) ?_
    refine wp_end ?_
    refine wp_ret ?_
    refine ⟨rfl, _, rfl, ?_, rfl⟩
    show Value.bool (decide ((most : Int) < (m : Int))) = _
    congr 1
    unfold longS
    have e1 : (l.take (most + 1)).any (fun s => decide (100 < s.1.length) || decide (100 < s.2.length)) = false := by
      rw [List.any_eq_false]
      intro x hx
      obtain ⟨j, hj⟩ := List.getElem?_of_mem hx
      rw [List.getElem?_take] at hj
      split at hj
      · rw [hno j x (by have := (List.getElem?_eq_some_iff.1 hj).1; omega) hj]; simp
      · cases hj
    rw [e1, Bool.false_or]
    exact decide_eq_decide.2 (by omega)
theorem same7 {E : Env} (H : Has E) (n : Nat) (l : List Sp) (k : Str) (z : Int) (ao : Option Addr) (m ca : Nat) (h : Heap) (S : Sl h ao m ca l) (hn : 300 ≤ n) : (enterK E (ctx E (n + 3)) k7 [.slice ao m ca, sv k, .int .i64 z] h).Wp fun v h' => v = .bool true := by
  unfold k7
  refine wp_fn (Nat.le_of_ble_eq_true rfl) ?_
  dsimp only
  have hm := S.len
  by_cases c1 : longS l 60 = true
  ·
    refine wp_seq ?_
    refine wp_move (by conv => lhs; whnf) ?_
    refine wp_end ?_
    refine wp_seq ?_
    refine wp_callS (wp_func rfl (wp_true H.awake)) ?_
    refine wp_move (by conv => lhs; whnf) ?_
    refine wp_end ?_
    refine wp_seq ?_
    refine wp_seq ?_
    refine wp_move (by conv => lhs; whnf) ?_
    refine wp_callS (wp_func rfl (long10' H _ l ao m ca 60 hm h S.rd (by omega) (by decide))) ?_
    refine wp_say (b := true) rfl c1 ?_
    refine wp_no rfl ?_
    refine wp_no rfl ?_
    refine wp_no rfl ?_
    refine wp_look (l_pick1 rfl (by conv => lhs; whnf)) ?_
    refine wp_end ?_
    refine wp_condT rfl rfl ?_
    refine wp_seq ?_
    refine wp_move (by conv => lhs; whnf) ?_
    refine wp_move (by conv => lhs; whnf) ?_
    refine wp_end ?_
    refine wp_ret ?_
    exact ⟨rfl, _, rfl, rfl⟩
  · rw [Bool.not_eq_true] at c1
    have hm60 : m ≤ 60 := by
      unfold longS at c1
      rw [Bool.or_eq_false_iff, decide_eq_false_iff_not] at c1
      omega
    by_cases c2 : 100 < k.length
    ·
      refine wp_seq ?_
      refine wp_move (by conv => lhs; whnf) ?_
      refine wp_end ?_
      refine wp_seq ?_
      refine wp_callS (wp_func rfl (wp_true H.awake)) ?_
      refine wp_move (by conv => lhs; whnf) ?_
      refine wp_end ?_
      refine wp_seq ?_
      refine wp_seq ?_
      refine wp_move (by conv => lhs; whnf) ?_
      refine wp_callS (wp_func rfl (long10' H _ l ao m ca 60 hm h S.rd (by omega) (by decide))) ?_
      refine wp_say (b := false) rfl c1 ?_
      refine wp_yes rfl ?_
      refine wp_move (by conv => lhs; whnf) ?_
      refine wp_yes rfl ?_
      refine wp_look (l_lenStr rfl) ?_
      refine wp_yes rfl ?_
      refine wp_look (l_gtrI rfl rfl rfl) ?_
      refine wp_look (l_pick0 rfl (by conv => lhs; whnf)) ?_
      refine wp_end ?_
      refine wp_condT rfl (decide_eq_true (by show (100 : Int) < (k.length : Int); omega)) ?_
      refine wp_seq ?_
      refine wp_move (by conv => lhs; whnf) ?_
      refine wp_move (by conv => lhs; whnf) ?_
      refine wp_end ?_
      refine wp_ret ?_
      exact ⟨rfl, _, rfl, rfl⟩
    ·
      refine wp_seq ?_
      refine wp_move (by conv => lhs; whnf) ?_
      refine wp_end ?_
      refine wp_seq ?_
      refine wp_callS (wp_func rfl (wp_true H.awake)) ?_
      refine wp_move (by conv => lhs; whnf) ?_
      refine wp_end ?_
      refine wp_seq ?_
      refine wp_seq ?_
      refine wp_move (by conv => lhs; whnf) ?_
      refine wp_callS (wp_func rfl (long10' H _ l ao m ca 60 hm h S.rd (by omega) (by decide))) ?_
      refine wp_say (b := false) rfl c1 ?_
      refine wp_yes rfl ?_
      refine wp_move (by conv => lhs; whnf) ?_
      refine wp_yes rfl ?_
      refine wp_look (l_lenStr rfl) ?_
      refine wp_yes rfl ?_
      refine wp_look (l_gtrI rfl rfl rfl) ?_
      refine wp_look (l_pick0 rfl (by conv => lhs; whnf)) ?_
      refine wp_end ?_
      refine wp_condF rfl (decide_eq_false (by show ¬ (100 : Int) < (k.length : Int); omega)) ?_
      refine wp_skip ?_
      refine wp_seq ?_
      refine wp_move (by conv => lhs; whnf) ?_
      refine wp_callIn (wp_func rfl (joins22 H _ l ao m ca hm h S.rd S.bk (fun e => S.zero e) (by omega) (by omega))) ?_
      rintro v8 h1 ⟨ho1, le1⟩
      obtain ⟨aj, cj, rfl, SJ⟩ := ho1.sl
      have hJ : (joinS l).length ≤ m := by have := join_length l; omega
      refine wp_move (by conv => lhs; whnf) ?_
      refine wp_end ?_
      refine wp_seq ?_
      refine wp_move (by conv => lhs; whnf) ?_
      refine wp_move (by conv => lhs; whnf) ?_
      refine wp_look (l_lenSl rfl) ?_
      refine wp_look (l_incN rfl rfl (by omega)) ?_
      obtain ⟨r, hr, hpick⟩ := pick30 H (ctx E (n + 2)) z (m + 1) (by omega) (by omega) h1
      refine wp_callS (wp_func rfl hpick) ?_
      refine wp_move (by conv => lhs; whnf) ?_
      refine wp_end ?_
      refine wp_seq ?_
      refine wp_draw ?_
      refine wp_dMove (by conv => lhs; whnf) rfl ?_
      refine wp_dMove (by conv => lhs; whnf) rfl ?_
      refine wp_dFrom (S.le le1) rfl rfl (by omega) rfl fun aA cA log sA => ?_
      refine wp_dCall (wp_func rfl (copy21 H _ _ _ _ _ _ sA (by omega))) (fun _ _ _ => rfl) ?_
      rintro vc h2 ⟨kc, le2⟩
      refine wp_dMove (by conv => lhs; whnf) rfl ?_
      refine wp_dMove (by conv => lhs; whnf) rfl ?_
      refine wp_dUpto ((S.le le1).le le2) rfl rfl (by omega) rfl fun aB cB log sB => ?_
      refine wp_dAppC kc sB rfl rfl le2 (by rw [List.length_drop]; omega) (by rw [List.length_take]; omega) rfl fun v9 h3 log le13 k3 => ?_
      obtain ⟨at3, ct3, rfl, ST3⟩ := k3.sl
      have hTl : (l.drop r ++ l.take r).length = m := by rw [List.length_append, List.length_drop, List.length_take]; omega
      have hTJ : joinS (l.drop r ++ l.take r) = joinS l := join_same fun s => turned_mem l r s
      refine wp_dMove (by conv => lhs; whnf) rfl ?_
      refine wp_dEnd ?_
      refine wp_seq ?_
      refine wp_seq ?_
      refine wp_move (by conv => lhs; whnf) ?_
      refine wp_move (by conv => lhs; whnf) ?_
      have SJ3 := SJ.le le13
      have S3 := S.le (le1.trans le13)
      refine wp_callL (wp_func rfl (has26 H _ (joinS l) k aj _ cj h3 SJ3 (by omega) (by omega))) fun h4 le4 => ?_
      refine wp_move (by conv => lhs; whnf) ?_
      refine wp_move (by conv => lhs; whnf) ?_
      refine wp_callL (wp_func rfl (has26 H _ l k ao m ca h4 (S3.le le4) (by omega) (by omega))) fun h5 le5 => ?_
      refine wp_look (l_neB rfl rfl) ?_
      refine wp_say (b := false) rfl (by show (!(hasS (joinS l) k == hasS l k)) = false; rw [join_has']; exact bneB _) ?_
      refine wp_yes rfl ?_
      refine wp_move (by conv => lhs; whnf) ?_
      refine wp_yes rfl ?_
      have SJ5 := SJ3.le (le4.trans le5)
      refine wp_callIn (wp_func rfl (joins22 H _ (joinS l) aj _ cj rfl h5 SJ5.rd SJ5.bk (fun e => SJ5.zero e) (by omega) (by omega))) ?_
      rintro v6 h6 ⟨ho6, le6⟩
      obtain ⟨a6, c6, rfl, S6⟩ := ho6.sl
      refine wp_yes rfl ?_
      refine wp_move (by conv => lhs; whnf) ?_
      refine wp_yes rfl ?_
      refine wp_callS (wp_func rfl (H.go (k := k23) rfl (by decide) (by decide) (same23 E _ (joinS (joinS l)) (joinS l) a6 aj _ _ c6 cj rfl rfl h6 S6.rd (SJ5.le le6).rd (by rw [ctx_fuel, join_again]; omega) (by rw [join_again]; omega)))) ?_
      refine wp_yes rfl ?_
      refine wp_look (l_not rfl) ?_
      refine wp_look (l_pick0 rfl (by conv => lhs; whnf)) ?_
      refine wp_say (b := false) rfl (by show (!(decide (joinS (joinS l) = joinS l))) = false; rw [decide_eq_true (join_again l)]; rfl) ?_
      refine wp_yes rfl ?_
      refine wp_move (by conv => lhs; whnf) ?_
      refine wp_yes rfl ?_
      have ST := ST3.le (le4.trans (le5.trans le6))
      refine wp_callIn (wp_func rfl (joins22 H _ (l.drop r ++ l.take r) at3 _ ct3 rfl h6 ST.rd ST.bk (fun e => ST.zero e) (by rw [hTl]; omega) (by rw [hTl]; omega))) ?_
      rintro v7 h7 ⟨ho7, le7⟩
      obtain ⟨a7, c7, rfl, S7⟩ := ho7.sl
      refine wp_yes rfl ?_
      refine wp_move (by conv => lhs; whnf) ?_
      refine wp_yes rfl ?_
      refine wp_callS (wp_func rfl (H.go (k := k23) rfl (by decide) (by decide) (same23 E _ (joinS (l.drop r ++ l.take r)) (joinS l) a7 aj _ _ c7 cj rfl rfl h7 S7.rd (SJ5.le (le6.trans le7)).rd (by rw [ctx_fuel, hTJ]; omega) (by rw [hTJ]; omega)))) ?_
      refine wp_yes rfl ?_
      refine wp_look (l_not rfl) ?_
      refine wp_look (l_pick0 rfl (by conv => lhs; whnf)) ?_
      refine wp_end ?_
      refine wp_condF rfl (by show (!(decide (joinS (l.drop r ++ l.take r) = joinS l))) = false; rw [decide_eq_true hTJ]; rfl) ?_
      refine wp_skip ?_
      refine wp_seq ?_
      refine wp_seq ?_
      refine wp_move (by conv => lhs; whnf) ?_
      refine wp_end ?_
      refine wp_block ?_
      have SJ7 := SJ5.le (le6.trans le7)
      have S7l := S3.le (le4.trans (le5.trans (le6.trans le7)))
      have hcan := join_canonS l
      refine wp_loop (fun q t x h' => ∃ (i : Nat), q = (joinS l).length - i ∧ i ≤ (joinS l).length ∧ (g10 t = .int .i64 (Int.ofNat i) ∧ g8 t = .slice aj (joinS l).length cj ∧ g7 t = .bool true ∧ g0 t = .slice ao m ca) ∧ x = ⟨[], none, none⟩ ∧ h7.Le h') (joinS l).length ⟨0, rfl, Nat.zero_le _, ⟨rfl, rfl, rfl, rfl⟩, rfl, Heap.Le.refl _⟩ (by rw [ctx_fuel]; omega) ?_
      rintro q t x h' ⟨i, rfl, hi, ⟨r10, r8, r7, r0⟩, rfl, hle⟩
      obtain ⟨t0, rfl⟩ : ∃ t0, t = p10 (.int .i64 (Int.ofNat i)) (p8 (.slice aj (joinS l).length cj) (p7 (.bool true) (p0 (.slice ao m ca) t0))) := ⟨t, by rw [← r10, ← r8, ← r7, ← r0]; rfl⟩
      clear r10 r8 r7 r0
      by_cases hlt : i < (joinS l).length
      · obtain ⟨s, hs⟩ : ∃ s, (joinS l)[i]? = some s := ⟨(joinS l)[i], List.getElem?_eq_getElem hlt⟩
        obtain ⟨pa, w1, cs1, rfl, e2, e3, e4⟩ := (SJ7.le hle).rd i s hs
        have hne : emptyS s = false := canon_full hcan s (List.mem_of_getElem? hs)
        by_cases hz : i = 0
        ·
          refine wp_seq ?_
          refine wp_seq ?_
          refine wp_move (by conv => lhs; whnf) ?_
          refine wp_move (by conv => lhs; whnf) ?_
          refine wp_look (l_lenSl rfl) ?_
          refine wp_look (l_lssI rfl rfl rfl) ?_
          refine wp_end ?_
          refine wp_condT rfl (decide_eq_true (by show (i : Int) < ((joinS l).length : Int); omega)) ?_
          refine wp_skip ?_
          refine wp_seq ?_
          refine wp_block ?_
          refine wp_seq ?_
          refine wp_draw ?_
          refine wp_dMove (by conv => lhs; whnf) rfl ?_
          refine wp_dMove (by conv => lhs; whnf) rfl ?_
          refine wp_dLook (l_ixSl rfl rfl hlt) rfl ?_
          refine wp_dLook (l_loadN rfl e2 e4) rfl ?_
          refine wp_dCallL (wp_func rfl (empty13 H _ s h')) (fun _ _ => rfl) fun h8 le8 => ?_
          refine wp_dKnow (b := false) rfl hne rfl ?_
          refine wp_dYes rfl ?_
          refine wp_dMove (by conv => lhs; whnf) rfl ?_
          refine wp_dYes rfl ?_
          refine wp_dLook (l_gtrI rfl rfl rfl) rfl ?_
          refine wp_dYes rfl ?_
          refine wp_dKnow (b := false) rfl (decide_eq_false (by show ¬ (0 : Int) < (i : Int); omega)) rfl ?_
          refine wp_dNo rfl ?_
          refine wp_dNo rfl ?_
          refine wp_dNo rfl ?_
          refine wp_dNo rfl ?_
          refine wp_dNo rfl ?_
          refine wp_dNo rfl ?_
          refine wp_dNo rfl ?_
          refine wp_dNo rfl ?_
          refine wp_dNo rfl ?_
          refine wp_dNo rfl ?_
          refine wp_dNo rfl ?_
          refine wp_dNo rfl ?_
          refine wp_dNo rfl ?_
          refine wp_dNo rfl ?_
          refine wp_dNo rfl ?_
          refine wp_dNo rfl ?_
          refine wp_dNo rfl ?_
          refine wp_dNo rfl ?_
          refine wp_dNo rfl ?_
          refine wp_dNo rfl ?_
          refine wp_dNo rfl ?_
          refine wp_dNo rfl ?_
          refine wp_dNo rfl ?_
          refine wp_dNo rfl ?_
          refine wp_dNo rfl ?_
          refine wp_dNo rfl ?_
          refine wp_dNo rfl ?_
          refine wp_dNo rfl ?_
          refine wp_dNo rfl ?_
          refine wp_dNo rfl ?_
          refine wp_dNo rfl ?_
          refine wp_dYes rfl ?_
          refine wp_dLook (l_pick0 rfl (by conv => lhs; whnf)) rfl ?_
          refine wp_dLook (l_pick0 rfl (by conv => lhs; whnf)) rfl ?_
          refine wp_dEnd ?_
          refine wp_condF rfl rfl ?_
          refine wp_skip ?_
          refine wp_move (by conv => lhs; whnf) ?_
          refine wp_look (l_incN rfl rfl (by omega)) ?_
          refine wp_move (by conv => lhs; whnf) ?_
          refine wp_end ?_
          refine ⟨(joinS l).length - (i + 1), by omega, i + 1, rfl, hlt, ⟨rfl, rfl, rfl, rfl⟩, rfl, hle.trans le8⟩
        · obtain ⟨b, hb⟩ : ∃ b, (joinS l)[i - 1]? = some b := ⟨(joinS l)[i - 1], List.getElem?_eq_getElem (by omega)⟩
          obtain ⟨pb, w2, cs2, eb, f2, f3, f4⟩ := (SJ7.le hle).rd (i - 1) b hb
          cases eb
          have hs' : (joinS l)[i - 1 + 1]? = some s := by rw [show i - 1 + 1 = i by omega]; exact hs
          obtain ⟨a1, a2⟩ := canon_apart hcan (i - 1) b s hb hs'
          have a1' : eqBytes b.2 [] = false := by
            cases e : eqBytes b.2 [] with
            | false => rfl
            | true => exact absurd ((eqB_iff _ _).1 e) a1
          have gap : hasS l b.2 = false := by rw [← join_has']; exact canon_gap hcan (i - 1) b s hb hs'
          refine wp_seq ?_
          refine wp_seq ?_
          refine wp_move (by conv => lhs; whnf) ?_
          refine wp_move (by conv => lhs; whnf) ?_
          refine wp_look (l_lenSl rfl) ?_
          refine wp_look (l_lssI rfl rfl rfl) ?_
          refine wp_end ?_
          refine wp_condT rfl (decide_eq_true (by show (i : Int) < ((joinS l).length : Int); omega)) ?_
          refine wp_skip ?_
          refine wp_seq ?_
          refine wp_block ?_
          refine wp_seq ?_
          refine wp_draw ?_
          refine wp_dMove (by conv => lhs; whnf) rfl ?_
          refine wp_dMove (by conv => lhs; whnf) rfl ?_
          refine wp_dLook (l_ixSl rfl rfl hlt) rfl ?_
          refine wp_dLook (l_loadN rfl e2 e4) rfl ?_
          refine wp_dCallL (wp_func rfl (empty13 H _ s h')) (fun _ _ => rfl) fun h8 le8 => ?_
          refine wp_dKnow (b := false) rfl hne rfl ?_
          refine wp_dYes rfl ?_
          refine wp_dMove (by conv => lhs; whnf) rfl ?_
          refine wp_dYes rfl ?_
          refine wp_dLook (l_gtrI rfl rfl rfl) rfl ?_
          refine wp_dYes rfl ?_
          refine wp_dKnow (b := true) rfl (decide_eq_true (by show (0 : Int) < (i : Int); omega)) rfl ?_
          refine wp_dYes rfl ?_
          refine wp_dMove (by conv => lhs; whnf) rfl ?_
          refine wp_dYes rfl ?_
          refine wp_dMove (by conv => lhs; whnf) rfl ?_
          refine wp_dYes rfl ?_
          refine wp_dLook (l_decN rfl rfl (by omega) (by omega)) rfl ?_
          refine wp_dYes rfl ?_
          refine wp_dLook (l_ixSl rfl rfl (by omega)) rfl ?_
          refine wp_dYes rfl ?_
          refine wp_dLook (l_fieldAddr rfl) rfl ?_
          refine wp_dYes rfl ?_
          refine wp_dLook (l_load1 rfl ((le8.get _ f3).trans f2) (nth_take2' f4)) rfl ?_
          refine wp_dYes rfl ?_
          refine wp_dLook (l_eqS rfl rfl) rfl ?_
          refine wp_dYes rfl ?_
          refine wp_dKnow (b := false) rfl a1' rfl ?_
          refine wp_dYes rfl ?_
          refine wp_dMove (by conv => lhs; whnf) rfl ?_
          refine wp_dYes rfl ?_
          refine wp_dMove (by conv => lhs; whnf) rfl ?_
          refine wp_dYes rfl ?_
          refine wp_dLook (l_decN rfl rfl (by omega) (by omega)) rfl ?_
          refine wp_dYes rfl ?_
          refine wp_dLook (l_ixSl rfl rfl (by omega)) rfl ?_
          refine wp_dYes rfl ?_
          refine wp_dLook (l_fieldAddr rfl) rfl ?_
          refine wp_dYes rfl ?_
          refine wp_dLook (l_load1 rfl ((le8.get _ f3).trans f2) (nth_take2' f4)) rfl ?_
          refine wp_dYes rfl ?_
          refine wp_dMove (by conv => lhs; whnf) rfl ?_
          refine wp_dYes rfl ?_
          refine wp_dMove (by conv => lhs; whnf) rfl ?_
          refine wp_dYes rfl ?_
          refine wp_dLook (l_ixSl rfl rfl hlt) rfl ?_
          refine wp_dYes rfl ?_
          refine wp_dLook (l_fieldAddr rfl) rfl ?_
          refine wp_dYes rfl ?_
          refine wp_dLook (l_load1 rfl ((le8.get _ e3).trans e2) (nth_take2 e4)) rfl ?_
          refine wp_dYes rfl ?_
          refine wp_dLook (l_geq rfl rfl) rfl ?_
          refine wp_dYes rfl ?_
          refine wp_dLook (l_pick0 rfl (by conv => lhs; whnf)) rfl ?_
          refine wp_dYes rfl ?_
          refine wp_dKnow (b := false) rfl (by show (!(ltBytes b.2 s.1)) = false; rw [a2]; rfl) rfl ?_
          refine wp_dYes rfl ?_
          refine wp_dMove (by conv => lhs; whnf) rfl ?_
          refine wp_dYes rfl ?_
          refine wp_dMove (by conv => lhs; whnf) rfl ?_
          refine wp_dYes rfl ?_
          refine wp_dMove (by conv => lhs; whnf) rfl ?_
          refine wp_dYes rfl ?_
          refine wp_dLook (l_decN rfl rfl (by omega) (by omega)) rfl ?_
          refine wp_dYes rfl ?_
          refine wp_dLook (l_ixSl rfl rfl (by omega)) rfl ?_
          refine wp_dYes rfl ?_
          refine wp_dLook (l_fieldAddr rfl) rfl ?_
          refine wp_dYes rfl ?_
          refine wp_dLook (l_load1 rfl ((le8.get _ f3).trans f2) (nth_take2' f4)) rfl ?_
          refine wp_dYes rfl ?_
          refine wp_dCallL (wp_func rfl (has26 H _ l b.2 ao m ca h8 (S7l.le (hle.trans le8)) (by omega) (by omega))) (fun _ _ => rfl) fun h9 le9 => ?_
          refine wp_dYes rfl ?_
          refine wp_dLook (l_pick0 rfl (by conv => lhs; whnf)) rfl ?_
          refine wp_dYes rfl ?_
          refine wp_dLook (l_pick1 rfl (by conv => lhs; whnf)) rfl ?_
          refine wp_dLook (l_pick0 rfl (by conv => lhs; whnf)) rfl ?_
          refine wp_dEnd ?_
          refine wp_condF rfl gap ?_
          refine wp_skip ?_
          refine wp_move (by conv => lhs; whnf) ?_
          refine wp_look (l_incN rfl rfl (by omega)) ?_
          refine wp_move (by conv => lhs; whnf) ?_
          refine wp_end ?_
          refine ⟨(joinS l).length - (i + 1), by omega, i + 1, rfl, hlt, ⟨rfl, rfl, rfl, rfl⟩, rfl, hle.trans (le8.trans le9)⟩
      ·
        refine wp_seq ?_
        refine wp_seq ?_
        refine wp_move (by conv => lhs; whnf) ?_
        refine wp_move (by conv => lhs; whnf) ?_
        refine wp_look (l_lenSl rfl) ?_
        refine wp_look (l_lssI rfl rfl rfl) ?_
        refine wp_end ?_
        refine wp_condF rfl (decide_eq_false (by show ¬ (i : Int) < ((joinS l).length : Int); omega)) ?_
        refine wp_exit ?_
        refine exit_here rfl ?_
        refine wp_seq ?_
        refine wp_seq ?_
        refine wp_move (by conv => lhs; whnf) ?_
        refine wp_end ?_
        refine wp_block ?_
        have SJ8 := SJ7.le hle
        have S8 := S7l.le hle
        refine wp_loop (fun q t x h8 => ∃ (i : Nat), q = m - i ∧ i ≤ m ∧ (g11 t = .int .i64 (Int.ofNat i) ∧ g8 t = .slice aj (joinS l).length cj ∧ g7 t = .bool true ∧ g0 t = .slice ao m ca) ∧ x = ⟨[], none, none⟩ ∧ h'.Le h8) m ⟨0, rfl, Nat.zero_le _, ⟨rfl, rfl, rfl, rfl⟩, rfl, Heap.Le.refl _⟩ (by rw [ctx_fuel]; omega) ?_
        clear hlt hi hle
        rintro q t x h8 ⟨i, rfl, hi, ⟨r11, r8, r7, r0⟩, rfl, hle⟩
        obtain ⟨t0, rfl⟩ : ∃ t0, t = p11 (.int .i64 (Int.ofNat i)) (p8 (.slice aj (joinS l).length cj) (p7 (.bool true) (p0 (.slice ao m ca) t0))) := ⟨t, by rw [← r11, ← r8, ← r7, ← r0]; rfl⟩
        clear r11 r8 r7 r0
        by_cases hlt : i < m
        · obtain ⟨s, hs⟩ : ∃ s, l[i]? = some s := ⟨l[i]'(by omega), List.getElem?_eq_getElem (by omega)⟩
          have hmem := List.mem_of_getElem? hs
          obtain ⟨pa, w1, cs1, rfl, e2, e3, e4⟩ := (S8.le hle).rd i s hs
          have hcv : (emptyS s || coversS (joinS l) s) = true := by
            rcases join_coversS l hmem with e | e
            · rw [e]; rfl
            · rw [e, Bool.or_true]
          by_cases hne : emptyS s = true
          ·
            refine wp_seq ?_
            refine wp_seq ?_
            refine wp_move (by conv => lhs; whnf) ?_
            refine wp_move (by conv => lhs; whnf) ?_
            refine wp_look (l_lenSl rfl) ?_
            refine wp_look (l_lssI rfl rfl rfl) ?_
            refine wp_end ?_
            refine wp_condT rfl (decide_eq_true (by show (i : Int) < (m : Int); omega)) ?_
            refine wp_skip ?_
            refine wp_seq ?_
            refine wp_block ?_
            refine wp_seq ?_
            refine wp_move (by conv => lhs; whnf) ?_
            refine wp_move (by conv => lhs; whnf) ?_
            refine wp_move (by conv => lhs; whnf) ?_
            refine wp_look (l_ixSl rfl rfl hlt) ?_
            refine wp_look (l_loadN rfl e2 e4) ?_
            refine wp_callL (wp_func rfl (covers28 H _ (joinS l) s aj _ cj rfl h8 (SJ8.le hle).rd (SJ8.le hle).bk (fun e => SJ8.zero e) (by omega) (by omega))) fun h9 le9 => ?_
            refine wp_look (l_not rfl) ?_
            refine wp_say (b := false) rfl (by show (!(emptyS s || coversS (joinS (joinS l)) s)) = false; rw [join_again, hcv]; rfl) ?_
            refine wp_yes rfl ?_
            refine wp_move (by conv => lhs; whnf) ?_
            refine wp_yes rfl ?_
            refine wp_move (by conv => lhs; whnf) ?_
            refine wp_yes rfl ?_
            refine wp_move (by conv => lhs; whnf) ?_
            refine wp_yes rfl ?_
            refine wp_look (l_ixSl rfl rfl hlt) ?_
            refine wp_yes rfl ?_
            refine wp_look (l_loadN rfl ((le9.get _ e3).trans e2) e4) ?_
            refine wp_yes rfl ?_
            refine wp_callL (wp_func rfl (covers28 H _ l s (some pa) m ca hm h9 (S8.le (hle.trans le9)).rd (S8.le (hle.trans le9)).bk (fun e => S8.zero e) (by omega) (by omega))) fun h10 le10 => ?_
            refine wp_yes rfl ?_
            refine wp_look (l_not rfl) ?_
            refine wp_look (l_pick0 rfl (by conv => lhs; whnf)) ?_
            refine wp_say (b := false) rfl (by show (!(emptyS s || coversS (joinS l) s)) = false; rw [hcv]; rfl) ?_
            refine wp_yes rfl ?_
            refine wp_move (by conv => lhs; whnf) ?_
            refine wp_yes rfl ?_
            refine wp_move (by conv => lhs; whnf) ?_
            refine wp_yes rfl ?_
            refine wp_look (l_ixSl rfl rfl hlt) ?_
            refine wp_yes rfl ?_
            refine wp_look (l_loadN rfl (((le9.trans le10).get _ e3).trans e2) e4) ?_
            refine wp_yes rfl ?_
            refine wp_callL (wp_func rfl (empty13 H _ s h10)) fun h11 le11 => ?_
            refine wp_yes rfl ?_
            refine wp_look (l_not rfl) ?_
            refine wp_yes rfl ?_
            refine wp_say (b := false) rfl (by show (!(emptyS s)) = false; rw [hne]; rfl) ?_
            refine wp_no rfl ?_
            refine wp_no rfl ?_
            refine wp_no rfl ?_
            refine wp_no rfl ?_
            refine wp_no rfl ?_
            refine wp_no rfl ?_
            refine wp_no rfl ?_
            refine wp_no rfl ?_
            refine wp_yes rfl ?_
            refine wp_look (l_pick0 rfl (by conv => lhs; whnf)) ?_
            refine wp_look (l_pick0 rfl (by conv => lhs; whnf)) ?_
            refine wp_end ?_
            refine wp_condF rfl rfl ?_
            refine wp_skip ?_
            refine wp_move (by conv => lhs; whnf) ?_
            refine wp_look (l_incN rfl rfl (by omega)) ?_
            refine wp_move (by conv => lhs; whnf) ?_
            refine wp_end ?_
            refine ⟨m - (i + 1), by omega, i + 1, rfl, hlt, ⟨rfl, rfl, rfl, rfl⟩, rfl, hle.trans (le9.trans (le10.trans le11))⟩
          · rw [Bool.not_eq_true] at hne
            have hin : hasS (joinS l) s.1 = true := by rw [join_has']; exact has_lo hmem hne
            refine wp_seq ?_
            refine wp_seq ?_
            refine wp_move (by conv => lhs; whnf) ?_
            refine wp_move (by conv => lhs; whnf) ?_
            refine wp_look (l_lenSl rfl) ?_
            refine wp_look (l_lssI rfl rfl rfl) ?_
            refine wp_end ?_
            refine wp_condT rfl (decide_eq_true (by show (i : Int) < (m : Int); omega)) ?_
            refine wp_skip ?_
            refine wp_seq ?_
            refine wp_block ?_
            refine wp_seq ?_
            refine wp_move (by conv => lhs; whnf) ?_
            refine wp_move (by conv => lhs; whnf) ?_
            refine wp_move (by conv => lhs; whnf) ?_
            refine wp_look (l_ixSl rfl rfl hlt) ?_
            refine wp_look (l_loadN rfl e2 e4) ?_
            refine wp_callL (wp_func rfl (covers28 H _ (joinS l) s aj _ cj rfl h8 (SJ8.le hle).rd (SJ8.le hle).bk (fun e => SJ8.zero e) (by omega) (by omega))) fun h9 le9 => ?_
            refine wp_look (l_not rfl) ?_
            refine wp_say (b := false) rfl (by show (!(emptyS s || coversS (joinS (joinS l)) s)) = false; rw [join_again, hcv]; rfl) ?_
            refine wp_yes rfl ?_
            refine wp_move (by conv => lhs; whnf) ?_
            refine wp_yes rfl ?_
            refine wp_move (by conv => lhs; whnf) ?_
            refine wp_yes rfl ?_
            refine wp_move (by conv => lhs; whnf) ?_
            refine wp_yes rfl ?_
            refine wp_look (l_ixSl rfl rfl hlt) ?_
            refine wp_yes rfl ?_
            refine wp_look (l_loadN rfl ((le9.get _ e3).trans e2) e4) ?_
            refine wp_yes rfl ?_
            refine wp_callL (wp_func rfl (covers28 H _ l s (some pa) m ca hm h9 (S8.le (hle.trans le9)).rd (S8.le (hle.trans le9)).bk (fun e => S8.zero e) (by omega) (by omega))) fun h10 le10 => ?_
            refine wp_yes rfl ?_
            refine wp_look (l_not rfl) ?_
            refine wp_look (l_pick0 rfl (by conv => lhs; whnf)) ?_
            refine wp_say (b := false) rfl (by show (!(emptyS s || coversS (joinS l) s)) = false; rw [hcv]; rfl) ?_
            refine wp_yes rfl ?_
            refine wp_move (by conv => lhs; whnf) ?_
            refine wp_yes rfl ?_
            refine wp_move (by conv => lhs; whnf) ?_
            refine wp_yes rfl ?_
            refine wp_look (l_ixSl rfl rfl hlt) ?_
            refine wp_yes rfl ?_
            refine wp_look (l_loadN rfl (((le9.trans le10).get _ e3).trans e2) e4) ?_
            refine wp_yes rfl ?_
            refine wp_callL (wp_func rfl (empty13 H _ s h10)) fun h11 le11 => ?_
            refine wp_yes rfl ?_
            refine wp_look (l_not rfl) ?_
            refine wp_yes rfl ?_
            refine wp_say (b := true) rfl (by show (!(emptyS s)) = true; rw [hne]; rfl) ?_
            refine wp_yes rfl ?_
            refine wp_move (by conv => lhs; whnf) ?_
            refine wp_yes rfl ?_
            refine wp_move (by conv => lhs; whnf) ?_
            refine wp_yes rfl ?_
            refine wp_move (by conv => lhs; whnf) ?_
            refine wp_yes rfl ?_
            refine wp_look (l_ixSl rfl rfl hlt) ?_
            refine wp_yes rfl ?_
            refine wp_look (l_fieldAddr rfl) ?_
            refine wp_yes rfl ?_
            refine wp_look (l_load1 rfl (((le9.trans (le10.trans le11)).get _ e3).trans e2) (nth_take2 e4)) ?_
            refine wp_yes rfl ?_
            refine wp_callL (wp_func rfl (has26 H _ (joinS l) s.1 aj _ cj h11 (SJ8.le (hle.trans (le9.trans (le10.trans le11)))) (by omega) (by omega))) fun h12 le12 => ?_
            refine wp_yes rfl ?_
            refine wp_look (l_not rfl) ?_
            refine wp_yes rfl ?_
            refine wp_look (l_pick1 rfl (by conv => lhs; whnf)) ?_
            refine wp_look (l_pick0 rfl (by conv => lhs; whnf)) ?_
            refine wp_end ?_
            refine wp_condF rfl (by show (!(hasS (joinS l) s.1)) = false; rw [hin]; rfl) ?_
            refine wp_skip ?_
            refine wp_move (by conv => lhs; whnf) ?_
            refine wp_look (l_incN rfl rfl (by omega)) ?_
            refine wp_move (by conv => lhs; whnf) ?_
            refine wp_end ?_
            refine ⟨m - (i + 1), by omega, i + 1, rfl, hlt, ⟨rfl, rfl, rfl, rfl⟩, rfl, hle.trans (le9.trans (le10.trans (le11.trans le12)))⟩
        ·
          refine wp_seq ?_
          refine wp_seq ?_
          refine wp_move (by conv => lhs; whnf) ?_
          refine wp_move (by conv => lhs; whnf) ?_
          refine wp_look (l_lenSl rfl) ?_
          refine wp_look (l_lssI rfl rfl rfl) ?_
          refine wp_end ?_
          refine wp_condF rfl (decide_eq_false (by show ¬ (i : Int) < (m : Int); omega)) ?_
          refine wp_exit ?_
          refine exit_here rfl ?_
          refine wp_seq ?_
          refine wp_move (by conv => lhs; whnf) ?_
          refine wp_move (by conv => lhs; whnf) ?_
          refine wp_end ?_
          refine wp_ret ?_
          exact ⟨rfl, _, rfl, rfl⟩
end
end SpanK
