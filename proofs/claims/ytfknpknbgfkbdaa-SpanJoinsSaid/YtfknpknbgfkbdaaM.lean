/-
  SpanJoins: the law's call, gone through: true. Conditions: those that each lemma states.
-/
import Derived.Test.YtfknpknbgfkbdaaK

set_option linter.unusedSimpArgs false
set_option linter.unusedSectionVars false
set_option linter.unusedVariables false
namespace SpanK
open Go Go.Eng Go.Proofs.Ytfknpknbgfkbdaa.Eng
set_option maxRecDepth 100000
set_option linter.unusedVariables false
theorem OutSl.sl {hs h : Heap} {v : Value} {O : List Sp} (o : OutSl hs h v O) : ∃ ao cap, v = .slice ao O.length cap ∧ Sl h ao O.length cap O := by
  rcases o with ⟨rfl, rfl⟩ | ⟨h1, bo, rfl, h2, h3⟩
  · exact ⟨none, 0, rfl, rfl, Reads.nil _ _, fun x hx => (nomatch hx), fun _ => rfl, Nat.le_refl _, fun x hx => (nomatch hx)⟩
  · exact ⟨some ⟨bo, 0, some 2⟩, O.length, rfl, rfl, h2.reads _, fun x hx => by cases hx; exact ⟨true, _, h2.1, h2.2⟩, fun h => (nomatch h), Nat.le_refl _, fun x hx => by cases hx; exact .inr (.inr rfl)⟩
theorem bneB (a : Bool) : (!(a == a)) = false := by cases a <;> rfl
theorem turned_mem (l : List Sp) (r : Nat) (s : Sp) : s ∈ l.drop r ++ l.take r ↔ s ∈ l := by
  rw [List.mem_append]
  constructor
  · rintro (h | h)
    · exact List.mem_of_mem_drop h
    · exact List.mem_of_mem_take h
  · intro h
    rw [← List.take_append_drop r l, List.mem_append] at h
    exact h.symm
theorem has_lo {l : List Sp} {s : Sp} (hm : s ∈ l) (he : emptyS s = false) : hasS l s.1 = true := by
  unfold hasS
  rw [List.any_eq_true]
  refine ⟨s, hm, ?_⟩
  unfold emptyS at he
  rw [Bool.not_eq_false'] at he
  unfold inS
  rw [ltB_irrefl, he]; rfl
section
theorem long10' {E : Env} (H : Has E) (n : Nat) (l : List Sp) (a : Option Addr) (m ca most : Nat) (hm : l.length = m) (h : Heap) (ra : Reads h a l) (hf : most + 2 < n) (hmost : most < 1000000) :
    (enter E (ctx E n) 10 [.slice a m ca, .int .i64 (Int.ofNat most)] h).Wp fun v h' => v = .bool (longS l most) ∧ h' = h := by
  refine H.go (k := k10) rfl (by decide) (by decide) ?_
  unfold k10
  refine wp_fn (Nat.le_of_ble_eq_true rfl) ?_
  dsimp only
  refine wp_seq ?_
  refine wp_move (by conv => lhs; whnf) ?_
  refine wp_end ?_
  refine wp_seq ?_
  refine wp_seq ?_
  refine wp_move (by conv => lhs; whnf) ?_
  refine wp_end ?_
  refine wp_block ?_
  refine wp_loop (fun q t x h' => ∃ (i : Nat), q = most + 2 - i ∧ i ≤ m ∧ (g5 t = .int .i64 (Int.ofNat i) ∧ g1 t = .int .i64 (Int.ofNat most) ∧ g0 t = .slice a m ca) ∧ x = ⟨[], none, none⟩ ∧ h' = h ∧ (i ≤ most + 1) ∧ ∀ j s, j < i → l[j]? = some s → (decide (100 < s.1.length) || decide (100 < s.2.length)) = false) (most + 2) ⟨0, rfl, Nat.zero_le _, ⟨rfl, rfl, rfl⟩, rfl, rfl, Nat.zero_le _, fun j s hj => by omega⟩ (by rw [ctx_fuel]; exact hf) ?_
  rintro q t x h' ⟨i, rfl, hi, ⟨r5, r1, r0⟩, rfl, rfl, him, hno⟩
  obtain ⟨t0, rfl⟩ : ∃ t0, t = p5 (.int .i64 (Int.ofNat i)) (p1 (.int .i64 (Int.ofNat most)) (p0 (.slice a m ca) t0)) := ⟨t, by rw [← r5, ← r1, ← r0]; rfl⟩
  clear r5 r1 r0
  have hlong : ∀ s, l[i]? = some s → i ≤ most → (decide (100 < s.1.length) || decide (100 < s.2.length)) = true → longS l most = true := by
    intro s hs hle hl
    unfold longS
    rw [Bool.or_eq_true]; left
    rw [List.any_eq_true]
    refine ⟨s, List.mem_of_getElem? (i := i) ?_, hl⟩
    rw [List.getElem?_take_of_lt (by omega)]; exact hs
  by_cases hlt : i < m
  · obtain ⟨s, hs⟩ : ∃ s, l[i]? = some s := ⟨l[i]'(by omega), List.getElem?_eq_getElem (by omega)⟩
    obtain ⟨pa, w1, cs1, rfl, e2, e3, e4⟩ := ra i s hs
    have lo4 : nth (pa.off + i * 2 + 0) cs1 = some (sv s.1) := nth_take2 e4
    have hi4 : nth (pa.off + i * 2 + 1) cs1 = some (sv s.2) := nth_take2' e4
    by_cases hle : i ≤ most
    · by_cases c1 : 100 < s.1.length
      ·
        refine wp_seq ?_
        refine wp_seq ?_
        refine wp_move (by conv => lhs; whnf) ?_
        refine wp_move (by conv => lhs; whnf) ?_
        refine wp_look (l_lenSl rfl) ?_
        refine wp_look (l_lssI rfl rfl rfl) ?_
        refine wp_say (b := true) rfl (decide_eq_true (by show (i : Int) < (m : Int); omega)) ?_
        refine wp_yes rfl ?_
        refine wp_move (by conv => lhs; whnf) ?_
        refine wp_yes rfl ?_
        refine wp_move (by conv => lhs; whnf) ?_
        refine wp_yes rfl ?_
        refine wp_look (l_leqI rfl rfl rfl) ?_
        refine wp_look (l_pick1 rfl (by conv => lhs; whnf)) ?_
        refine wp_end ?_
        refine wp_condT rfl (decide_eq_true (by show (i : Int) ≤ (most : Int); omega)) ?_
        refine wp_skip ?_
        refine wp_seq ?_
        refine wp_block ?_
        refine wp_seq ?_
        refine wp_move (by conv => lhs; whnf) ?_
        refine wp_move (by conv => lhs; whnf) ?_
        refine wp_look (l_ixSl rfl rfl hlt) ?_
        refine wp_look (l_fieldAddr rfl) ?_
        refine wp_look (l_load1 rfl e2 lo4) ?_
        refine wp_look (l_lenStr rfl) ?_
        refine wp_look (l_gtrI rfl rfl rfl) ?_
        refine wp_say (b := true) rfl (decide_eq_true (by show (100 : Int) < (s.1.length : Int); omega)) ?_
        refine wp_no rfl ?_
        refine wp_no rfl ?_
        refine wp_no rfl ?_
        refine wp_no rfl ?_
        refine wp_no rfl ?_
        refine wp_no rfl ?_
        refine wp_no rfl ?_
        refine wp_look (l_pick1 rfl (by conv => lhs; whnf)) ?_
        refine wp_end ?_
        refine wp_condT rfl rfl ?_
        refine wp_seq ?_
        refine wp_move (by conv => lhs; whnf) ?_
        refine wp_end ?_
        refine wp_ret ?_
        refine ⟨rfl, _, rfl, ?_, rfl⟩
        rw [hlong s hs hle (by rw [decide_eq_true c1]; simp)]; rfl
      · by_cases c2 : 100 < s.2.length
        ·
          refine wp_seq ?_
          refine wp_seq ?_
          refine wp_move (by conv => lhs; whnf) ?_
          refine wp_move (by conv => lhs; whnf) ?_
          refine wp_look (l_lenSl rfl) ?_
          refine wp_look (l_lssI rfl rfl rfl) ?_
          refine wp_say (b := true) rfl (decide_eq_true (by show (i : Int) < (m : Int); omega)) ?_
          refine wp_yes rfl ?_
          refine wp_move (by conv => lhs; whnf) ?_
          refine wp_yes rfl ?_
          refine wp_move (by conv => lhs; whnf) ?_
          refine wp_yes rfl ?_
          refine wp_look (l_leqI rfl rfl rfl) ?_
          refine wp_look (l_pick1 rfl (by conv => lhs; whnf)) ?_
          refine wp_end ?_
          refine wp_condT rfl (decide_eq_true (by show (i : Int) ≤ (most : Int); omega)) ?_
          refine wp_skip ?_
          refine wp_seq ?_
          refine wp_block ?_
          refine wp_seq ?_
          refine wp_move (by conv => lhs; whnf) ?_
          refine wp_move (by conv => lhs; whnf) ?_
          refine wp_look (l_ixSl rfl rfl hlt) ?_
          refine wp_look (l_fieldAddr rfl) ?_
          refine wp_look (l_load1 rfl e2 lo4) ?_
          refine wp_look (l_lenStr rfl) ?_
          refine wp_look (l_gtrI rfl rfl rfl) ?_
          refine wp_say (b := false) rfl (decide_eq_false (by show ¬ (100 : Int) < (s.1.length : Int); omega)) ?_
          refine wp_yes rfl ?_
          refine wp_move (by conv => lhs; whnf) ?_
          refine wp_yes rfl ?_
          refine wp_move (by conv => lhs; whnf) ?_
          refine wp_yes rfl ?_
          refine wp_look (l_ixSl rfl rfl hlt) ?_
          refine wp_yes rfl ?_
          refine wp_look (l_fieldAddr rfl) ?_
          refine wp_yes rfl ?_
          refine wp_look (l_load1 rfl e2 hi4) ?_
          refine wp_yes rfl ?_
          refine wp_look (l_lenStr rfl) ?_
          refine wp_yes rfl ?_
          refine wp_look (l_gtrI rfl rfl rfl) ?_
          refine wp_look (l_pick0 rfl (by conv => lhs; whnf)) ?_
          refine wp_end ?_
          refine wp_condT rfl (decide_eq_true (by show (100 : Int) < (s.2.length : Int); omega)) ?_
          refine wp_seq ?_
          refine wp_move (by conv => lhs; whnf) ?_
          refine wp_end ?_
          refine wp_ret ?_
          refine ⟨rfl, _, rfl, ?_, rfl⟩
          rw [hlong s hs hle (by rw [decide_eq_true c2]; simp)]; rfl
        ·
          refine wp_seq ?_
          refine wp_seq ?_
          refine wp_move (by conv => lhs; whnf) ?_
          refine wp_move (by conv => lhs; whnf) ?_
          refine wp_look (l_lenSl rfl) ?_
          refine wp_look (l_lssI rfl rfl rfl) ?_
          refine wp_say (b := true) rfl (decide_eq_true (by show (i : Int) < (m : Int); omega)) ?_
          refine wp_yes rfl ?_
          refine wp_move (by conv => lhs; whnf) ?_
          refine wp_yes rfl ?_
          refine wp_move (by conv => lhs; whnf) ?_
          refine wp_yes rfl ?_
          refine wp_look (l_leqI rfl rfl rfl) ?_
          refine wp_look (l_pick1 rfl (by conv => lhs; whnf)) ?_
          refine wp_end ?_
          refine wp_condT rfl (decide_eq_true (by show (i : Int) ≤ (most : Int); omega)) ?_
          refine wp_skip ?_
          refine wp_seq ?_
          refine wp_block ?_
          refine wp_seq ?_
          refine wp_move (by conv => lhs; whnf) ?_
          refine wp_move (by conv => lhs; whnf) ?_
          refine wp_look (l_ixSl rfl rfl hlt) ?_
          refine wp_look (l_fieldAddr rfl) ?_
          refine wp_look (l_load1 rfl e2 lo4) ?_
          refine wp_look (l_lenStr rfl) ?_
          refine wp_look (l_gtrI rfl rfl rfl) ?_
          refine wp_say (b := false) rfl (decide_eq_false (by show ¬ (100 : Int) < (s.1.length : Int); omega)) ?_
          refine wp_yes rfl ?_
          refine wp_move (by conv => lhs; whnf) ?_
          refine wp_yes rfl ?_
          refine wp_move (by conv => lhs; whnf) ?_
          refine wp_yes rfl ?_
          refine wp_look (l_ixSl rfl rfl hlt) ?_
          refine wp_yes rfl ?_
          refine wp_look (l_fieldAddr rfl) ?_
          refine wp_yes rfl ?_
          refine wp_look (l_load1 rfl e2 hi4) ?_
          refine wp_yes rfl ?_
          refine wp_look (l_lenStr rfl) ?_
          refine wp_yes rfl ?_
          refine wp_look (l_gtrI rfl rfl rfl) ?_
          refine wp_look (l_pick0 rfl (by conv => lhs; whnf)) ?_
          refine wp_end ?_
          refine wp_condF rfl (decide_eq_false (by show ¬ (100 : Int) < (s.2.length : Int); omega)) ?_
          refine wp_skip ?_
          refine wp_move (by conv => lhs; whnf) ?_
          refine wp_look (l_incN rfl rfl (by omega)) ?_
          refine wp_move (by conv => lhs; whnf) ?_
          refine wp_end ?_
          refine ⟨most + 2 - (i + 1), by omega, i + 1, rfl, hlt, ⟨rfl, rfl, rfl⟩, rfl, rfl, by omega, fun j s' hj hs' => ?_⟩
          by_cases e : j = i
          · subst e; rw [hs] at hs'; cases hs'; rw [decide_eq_false c1, decide_eq_false c2]; rfl
          · exact hno j s' (by omega) hs'
    ·
      refine wp_seq ?_
      refine wp_seq ?_
      refine wp_move (by conv => lhs; whnf) ?_
      refine wp_move (by conv => lhs; whnf) ?_
      refine wp_look (l_lenSl rfl) ?_
      refine wp_look (l_lssI rfl rfl rfl) ?_
      refine wp_say (b := true) rfl (decide_eq_true (by show (i : Int) < (m : Int); omega)) ?_
      refine wp_yes rfl ?_
      refine wp_move (by conv => lhs; whnf) ?_
      refine wp_yes rfl ?_
      refine wp_move (by conv => lhs; whnf) ?_
      refine wp_yes rfl ?_
      refine wp_look (l_leqI rfl rfl rfl) ?_
      refine wp_look (l_pick1 rfl (by conv => lhs; whnf)) ?_
      refine wp_end ?_
      refine wp_condF rfl (decide_eq_false (by show ¬ (i : Int) ≤ (most : Int); omega)) ?_
      refine wp_exit ?_
      refine exit_here rfl ?_
      refine wp_seq ?_
      refine wp_move (by conv => lhs; whnf) ?_
      refine wp_look (l_lenSl rfl) ?_
      refine wp_move (by conv => lhs; whnf) ?_
      refine wp_look (l_gtrI rfl rfl rfl) ?_
      refine wp_move (by conv => lhs; whnf) ?_
      refine wp_end ?_
      refine wp_ret ?_
      refine ⟨rfl, _, rfl, ?_, rfl⟩
      show Value.bool (decide ((most : Int) < (m : Int))) = _
      congr 1
      unfold longS
      have e1 : (l.take (most + 1)).any (fun s => decide (100 < s.1.length) || decide (100 < s.2.length)) = false := by
        rw [List.any_eq_false]
        intro x hx
        obtain ⟨j, hj⟩ := List.getElem?_of_mem hx
        rw [List.getElem?_take] at hj
        split at hj
        · rw [hno j x (by have := (List.getElem?_eq_some_iff.1 hj).1; omega) hj]; simp
        · cases hj
      rw [e1, Bool.false_or]
      exact decide_eq_decide.2 (by omega)
  ·
    refine wp_seq ?_
    refine wp_seq ?_
    refine wp_move (by conv => lhs; whnf) ?_
    refine wp_move (by conv => lhs; whnf) ?_
    refine wp_look (l_lenSl rfl) ?_
    refine wp_look (l_lssI rfl rfl rfl) ?_
    refine wp_say (b := false) rfl (decide_eq_false (by show ¬ (i : Int) < (m : Int); omega)) ?_
    refine wp_no rfl ?_
    refine wp_no rfl ?_
    refine wp_no rfl ?_
    refine wp_look (l_pick0 rfl (by conv => lhs; whnf)) ?_
    refine wp_end ?_
    refine wp_condF rfl rfl ?_
    refine wp_exit ?_
    refine exit_here rfl ?_
    refine wp_seq ?_
    refine wp_move (by conv => lhs; whnf) ?_
    refine wp_look (l_lenSl rfl) ?_
    refine wp_move (by conv => lhs; whnf) ?_
    refine wp_look (l_gtrI rfl rfl rfl) ?_
    refine wp_move (by conv => lhs; whnf) ?_
    refine wp_end ?_
    refine wp_ret ?_
    refine ⟨rfl, _, rfl, ?_, rfl⟩
    show Value.bool (decide ((most : Int) < (m : Int))) = _
    congr 1
    unfold longS
    have e1 : (l.take (most + 1)).any (fun s => decide (100 < s.1.length) || decide (100 < s.2.length)) = false := by
      rw [List.any_eq_false]
      intro x hx
      obtain ⟨j, hj⟩ := List.getElem?_of_mem hx
      rw [List.getElem?_take] at hj
      split at hj
      · rw [hno j x (by have := (List.getElem?_eq_some_iff.1 hj).1; omega) hj]; simp
      · cases hj
    rw [e1, Bool.false_or]
    exact decide_eq_decide.2 (by omega)
end
end SpanK
namespace SpanK
open Go Go.Eng Go.Proofs.Ytfknpknbgfkbdaa.Eng
set_option maxRecDepth 100000
set_option linter.unusedVariables false
theorem insR_length (s : Sp) (O : List Sp) : (insR s O).length = O.length + 1 := by
  induction O with
  | nil => rfl
  | cons t O ih =>
    unfold insR
    split
    · rfl
    · show (insR s O).length + 1 = _; rw [ih]; rfl
theorem sortR_length : ∀ (l out : List Sp), (sortR out l).length ≤ out.length + l.length
  | [], out => Nat.le_refl _
  | s :: l, out => by
    unfold sortR
    refine Nat.le_trans (sortR_length l _) ?_
    split
    · rw [List.length_cons]; omega
    · rw [insR_length, List.length_cons]; omega
theorem sortR_snoc (s : Sp) : ∀ (l out : List Sp), sortR out (l ++ [s]) = if emptyS s = true then sortR out l else insR s (sortR out l)
  | [], out => by
    show sortR (if emptyS s = true then out else insR s out) [] = _
    split <;> rfl
  | t :: l, out => by
    show sortR (if emptyS t = true then out else insR t out) (l ++ [s]) = _
    rw [sortR_snoc s l]; rfl
theorem insR_at (s : Sp) : ∀ (O : List Sp) (k : Nat), k ≤ O.length → (∀ j y, j < k → O[j]? = some y → ltBytes s.1 y.1 = false) → (∀ y, O[k]? = some y → ltBytes s.1 y.1 = true) → O.take k ++ [s] ++ O.drop k = insR s O
  | [], k, h1, _, _ => by
    have : k = 0 := by simpa using h1
    subst this; rfl
  | t :: O, 0, _, _, h3 => by
    unfold insR
    rw [if_pos (h3 t rfl)]; rfl
  | t :: O, k + 1, h1, h2, h3 => by
    unfold insR
    rw [if_neg (by rw [h2 0 t (by omega) rfl]; decide)]
    have := insR_at s O k (by simpa using h1) (fun j y hj hy => h2 (j + 1) y (by omega) hy) (fun y hy => h3 y hy)
    rw [← this]; rfl
theorem CopySl.old {h0 h h' : Heap} {v : Value} {l : List Sp} (k : CopySl h h' v l) (le : h0.Le h) : CopySl h0 h' v l := by
  rcases k with ⟨h0', b, h1, h2, h3, h4⟩ | ⟨h1, b, h2, h3, h4⟩
  · exact .inl ⟨h0', b, h1, h2, Nat.le_trans le.next h3, h4⟩
  · exact .inr ⟨h1, b, h2, h3, Nat.le_trans le.next h4⟩
theorem wp_dAppK {N : Tm → Aux → Heap → Prop} {X : Nat → Tm → Aux → Heap → Prop} {R : Tm → Aux → Heap → Prop} {c : Ctx} {t : Tm} {x : Aux} {h : Heap} {g g' : OpdF} {idx : Nat} {un pre : List Nat} {w : Bool} {p : Value → Tm → Tm} {rest : KD} {log : List (Nat × LogE)} {h0 : Heap} {v : Value} {A B : List Sp} {ao : Option Addr} {n ca : Nat} (k : CopySl h0 h v A) (s : Sl h ao n ca B) (hg : g t = v) (hg' : g' t = .slice ao n ca) (h0h : h0.Le h) (hA : A.length < 1000000) (hB : B.length < 1000000) (hu : un = [])
    (H : ∀ v' h', h0.Le h' → CopySl h0 h' v' (A ++ B) → (rest ((idx, .wr h) :: log) none c (p v' t) x h').Wp N X R) : (dTurn idx un pre w (xTurn (tnAppend 2 g g')) p rest log none c t x h).Wp N X R := by
  subst hu
  obtain ⟨v', h', e1, e2, e3⟩ := append_copy k s hg hg' h0h hA hB
  exact wp_dTurn e1 rfl (H v' h' e2 e3)
section
theorem refHas27 {E : Env} (H : Has E) (n : Nat) (l : List Sp) (k : Str) (ao : Option Addr) (m ca : Nat) (h : Heap) (S : Sl h ao m ca l) (hbig : m < 1000000) (hf : m + 3 < n) : (enter E (ctx E (n + 1)) 27 [.slice ao m ca, sv k] h).Wp fun v h' => v = .bool (hasS l k) ∧ h.Le h' := by
  refine H.go (k := k27) rfl (by decide) (by decide) ?_
  unfold k27
  refine wp_fn (Nat.le_of_ble_eq_true rfl) ?_
  dsimp only
  have hm := S.len
  refine wp_seq ?_
  refine wp_move (by conv => lhs; whnf) ?_
  refine wp_end ?_
  refine wp_seq ?_
  refine wp_seq ?_
  refine wp_move (by conv => lhs; whnf) ?_
  refine wp_end ?_
  refine wp_block ?_
  refine wp_loop (fun q t x h' => ∃ (i : Nat), q = m - i ∧ i ≤ m ∧ (g5 t = .int .i64 (Int.ofNat i) ∧ g1 t = sv k ∧ g0 t = .slice ao m ca) ∧ x = ⟨[], none, none⟩ ∧ h.Le h' ∧ hasS (l.take i) k = false) m ⟨0, rfl, Nat.zero_le _, ⟨rfl, rfl, rfl⟩, rfl, Heap.Le.refl _, rfl⟩ (by rw [ctx_fuel]; omega) ?_
  rintro q t x h' ⟨i, rfl, hi, ⟨r5, r1, r0⟩, rfl, hle, hno⟩
  obtain ⟨t0, rfl⟩ : ∃ t0, t = p5 (.int .i64 (Int.ofNat i)) (p1 (sv k) (p0 (.slice ao m ca) t0)) := ⟨t, by rw [← r5, ← r1, ← r0]; rfl⟩
  clear r5 r1 r0
  by_cases hlt : i < m
  · obtain ⟨s, hs⟩ : ∃ s, l[i]? = some s := ⟨l[i]'(by omega), List.getElem?_eq_getElem (by omega)⟩
    obtain ⟨pa, w1, cs1, rfl, e2, e3, e4⟩ := (S.le hle).rd i s hs
    have htk : hasS (l.take (i + 1)) k = inS s k := by
      rw [List.take_add_one, hs]
      unfold hasS at hno ⊢
      rw [List.any_append, hno]
      show (false || (inS s k || false)) = _
      rw [Bool.false_or, Bool.or_false]
    by_cases hin : inS s k = true
    ·
      refine wp_seq ?_
      refine wp_seq ?_
      refine wp_move (by conv => lhs; whnf) ?_
      refine wp_move (by conv => lhs; whnf) ?_
      refine wp_look (l_lenSl rfl) ?_
      refine wp_look (l_lssI rfl rfl rfl) ?_
      refine wp_end ?_
      refine wp_condT rfl (decide_eq_true (by show (i : Int) < (m : Int); omega)) ?_
      refine wp_skip ?_
      refine wp_seq ?_
      refine wp_block ?_
      refine wp_seq ?_
      refine wp_move (by conv => lhs; whnf) ?_
      refine wp_move (by conv => lhs; whnf) ?_
      refine wp_look (l_ixSl rfl rfl hlt) ?_
      refine wp_look (l_loadN rfl e2 e4) ?_
      refine wp_move (by conv => lhs; whnf) ?_
      refine wp_callL (wp_func rfl (refIn14 H _ s k h')) fun h2 le2 => ?_
      refine wp_end ?_
      refine wp_condT rfl hin ?_
      refine wp_seq ?_
      refine wp_move (by conv => lhs; whnf) ?_
      refine wp_end ?_
      refine wp_ret ?_
      refine ⟨rfl, _, rfl, ?_, hle.trans le2⟩
      have : hasS l k = true := by unfold hasS; rw [List.any_eq_true]; exact ⟨s, List.mem_of_getElem? hs, hin⟩
      rw [this]; rfl
    · rw [Bool.not_eq_true] at hin
      refine wp_seq ?_
      refine wp_seq ?_
      refine wp_move (by conv => lhs; whnf) ?_
      refine wp_move (by conv => lhs; whnf) ?_
      refine wp_look (l_lenSl rfl) ?_
      refine wp_look (l_lssI rfl rfl rfl) ?_
      refine wp_end ?_
      refine wp_condT rfl (decide_eq_true (by show (i : Int) < (m : Int); omega)) ?_
      refine wp_skip ?_
      refine wp_seq ?_
      refine wp_block ?_
      refine wp_seq ?_
      refine wp_move (by conv => lhs; whnf) ?_
      refine wp_move (by conv => lhs; whnf) ?_
      refine wp_look (l_ixSl rfl rfl hlt) ?_
      refine wp_look (l_loadN rfl e2 e4) ?_
      refine wp_move (by conv => lhs; whnf) ?_
      refine wp_callL (wp_func rfl (refIn14 H _ s k h')) fun h2 le2 => ?_
      refine wp_end ?_
      refine wp_condF rfl hin ?_
      refine wp_skip ?_
      refine wp_move (by conv => lhs; whnf) ?_
      refine wp_look (l_incN rfl rfl (by omega)) ?_
      refine wp_move (by conv => lhs; whnf) ?_
      refine wp_end ?_
      refine ⟨m - (i + 1), by omega, i + 1, rfl, hlt, ⟨rfl, rfl, rfl⟩, rfl, hle.trans le2, ?_⟩
      rw [htk, hin]
  ·
    refine wp_seq ?_
    refine wp_seq ?_
    refine wp_move (by conv => lhs; whnf) ?_
    refine wp_move (by conv => lhs; whnf) ?_
    refine wp_look (l_lenSl rfl) ?_
    refine wp_look (l_lssI rfl rfl rfl) ?_
    refine wp_end ?_
    refine wp_condF rfl (decide_eq_false (by show ¬ (i : Int) < (m : Int); omega)) ?_
    refine wp_exit ?_
    refine exit_here rfl ?_
    refine wp_seq ?_
    refine wp_move (by conv => lhs; whnf) ?_
    refine wp_end ?_
    refine wp_ret ?_
    refine ⟨rfl, _, rfl, ?_, hle⟩
    rw [List.take_of_length_le (by omega)] at hno
    rw [hno]; rfl
theorem refSorted35 {E : Env} (H : Has E) (n : Nat) (l : List Sp) (ao : Option Addr) (m ca : Nat) (h : Heap) (S : Sl h ao m ca l) (hbig : m < 100000) (hf : m + 3 < n) : (enter E (ctx E (n + 1)) 35 [.slice ao m ca] h).Wp fun v h' => (∃ ar cr, v = .slice ar (sortR [] l).length cr ∧ Sl h' ar (sortR [] l).length cr (sortR [] l)) ∧ h.Le h' := by
  refine H.go (k := k35) rfl (by decide) (by decide) ?_
  unfold k35
  refine wp_fn (Nat.le_of_ble_eq_true rfl) ?_
  dsimp only
  have hm := S.len
  refine wp_seq ?_
  refine wp_move (by conv => lhs; whnf) ?_
  refine wp_end ?_
  refine wp_seq ?_
  refine wp_move (by conv => lhs; whnf) ?_
  refine wp_end ?_
  refine wp_seq ?_
  refine wp_seq ?_
  refine wp_move (by conv => lhs; whnf) ?_
  refine wp_end ?_
  refine wp_block ?_
  refine wp_loop (fun q t x h' => ∃ (i : Nat) (aO : Option Addr) (cO : Nat) (O : List Sp), q = m - i ∧ i ≤ m ∧ (g4 t = .int .i64 (Int.ofNat i) ∧ g3 t = .slice aO O.length cO ∧ g0 t = .slice ao m ca) ∧ x = ⟨[], none, none⟩ ∧ h.Le h' ∧ O = sortR [] (l.take i) ∧ Sl h' aO O.length cO O) m ⟨0, none, 0, [], rfl, Nat.zero_le _, ⟨rfl, rfl, rfl⟩, rfl, Heap.Le.refl _, rfl, ⟨rfl, Reads.nil _ _, fun x hx => (nomatch hx), fun _ => rfl, Nat.le_refl _, fun x hx => (nomatch hx)⟩⟩ (by rw [ctx_fuel]; omega) ?_
  rintro q t x h' ⟨i, aO, cO, O, rfl, hi, ⟨r4, r3, r0⟩, rfl, hle, hO, SO⟩
  obtain ⟨t0, rfl⟩ : ∃ t0, t = p4 (.int .i64 (Int.ofNat i)) (p3 (.slice aO O.length cO) (p0 (.slice ao m ca) t0)) := ⟨t, by rw [← r4, ← r3, ← r0]; rfl⟩
  clear r4 r3 r0
  have hOl : O.length ≤ i := by have := sortR_length (l.take i) []; rw [← hO, List.length_take] at this; simp at this; omega
  by_cases hlt : i < m
  · obtain ⟨s, hs⟩ : ∃ s, l[i]? = some s := ⟨l[i]'(by omega), List.getElem?_eq_getElem (by omega)⟩
    obtain ⟨pa, w1, cs1, rfl, e2, e3, e4⟩ := (S.le hle).rd i s hs
    have hnext : sortR [] (l.take (i + 1)) = if emptyS s = true then O else insR s O := by
      rw [List.take_add_one, hs, hO]; exact sortR_snoc s _ _
    by_cases hemp : emptyS s = true
    · rw [if_pos hemp] at hnext
      refine wp_seq ?_
      refine wp_seq ?_
      refine wp_move (by conv => lhs; whnf) ?_
      refine wp_move (by conv => lhs; whnf) ?_
      refine wp_look (l_lenSl rfl) ?_
      refine wp_look (l_lssI rfl rfl rfl) ?_
      refine wp_end ?_
      refine wp_condT rfl (decide_eq_true (by show (i : Int) < (m : Int); omega)) ?_
      refine wp_skip ?_
      refine wp_seq ?_
      refine wp_block ?_
      refine wp_seq ?_
      refine wp_seq ?_
      refine wp_move (by conv => lhs; whnf) ?_
      refine wp_move (by conv => lhs; whnf) ?_
      refine wp_look (l_ixSl rfl rfl hlt) ?_
      refine wp_look (l_loadN rfl e2 e4) ?_
      refine wp_callL (wp_func rfl (refEmpty15 H _ s h')) fun h2 le2 => ?_
      refine wp_end ?_
      refine wp_condT rfl hemp ?_
      refine wp_exit ?_
      refine exit_here rfl ?_
      refine wp_move (by conv => lhs; whnf) ?_
      refine wp_look (l_incN rfl rfl (by omega)) ?_
      refine wp_move (by conv => lhs; whnf) ?_
      refine wp_end ?_
      refine ⟨m - (i + 1), by omega, i + 1, aO, cO, O, rfl, hlt, ⟨rfl, rfl, rfl⟩, rfl, hle.trans le2, hnext.symm, SO.le le2⟩
    · rw [Bool.not_eq_true] at hemp
      rw [if_neg (by rw [hemp]; decide)] at hnext
      refine wp_seq ?_
      refine wp_seq ?_
      refine wp_move (by conv => lhs; whnf) ?_
      refine wp_move (by conv => lhs; whnf) ?_
      refine wp_look (l_lenSl rfl) ?_
      refine wp_look (l_lssI rfl rfl rfl) ?_
      refine wp_end ?_
      refine wp_condT rfl (decide_eq_true (by show (i : Int) < (m : Int); omega)) ?_
      refine wp_skip ?_
      refine wp_seq ?_
      refine wp_block ?_
      refine wp_seq ?_
      refine wp_seq ?_
      refine wp_move (by conv => lhs; whnf) ?_
      refine wp_move (by conv => lhs; whnf) ?_
      refine wp_look (l_ixSl rfl rfl hlt) ?_
      refine wp_look (l_loadN rfl e2 e4) ?_
      refine wp_callL (wp_func rfl (refEmpty15 H _ s h')) fun h2 le2 => ?_
      refine wp_end ?_
      refine wp_condF rfl hemp ?_
      refine wp_skip ?_
      refine wp_seq ?_
      refine wp_move (by conv => lhs; whnf) ?_
      refine wp_end ?_
      refine wp_seq ?_
      refine wp_block ?_
      refine wp_loop (fun q t x h3 => ∃ (k : Nat), q = O.length - k ∧ k ≤ O.length ∧ (g5 t = .int .i64 (Int.ofNat k) ∧ g4 t = .int .i64 (Int.ofNat i) ∧ g3 t = .slice aO O.length cO ∧ g0 t = .slice (some pa) m ca) ∧ x = ⟨[], none, none⟩ ∧ h3 = h2 ∧ ∀ j y, j < k → O[j]? = some y → ltBytes s.1 y.1 = false) O.length ⟨0, rfl, Nat.zero_le _, ⟨rfl, rfl, rfl, rfl⟩, rfl, rfl, fun j y hj => by omega⟩ (by rw [ctx_fuel]; omega) ?_
      rintro q t x h3 ⟨k, rfl, hk, ⟨r5, r4, r3, r0⟩, rfl, rfl, hbef⟩
      obtain ⟨t0, rfl⟩ : ∃ t0, t = p5 (.int .i64 (Int.ofNat k)) (p4 (.int .i64 (Int.ofNat i)) (p3 (.slice aO O.length cO) (p0 (.slice (some pa) m ca) t0))) := ⟨t, by rw [← r5, ← r4, ← r3, ← r0]; rfl⟩
      clear r5 r4 r3 r0
      have SO2 := SO.le le2
      have g2 : h3.get pa.block = some (.cells w1 cs1) := (le2.get _ e3).trans e2
      have g3' : pa.block < h3.next := Nat.lt_of_lt_of_le e3 le2.next
      by_cases hkl : k < O.length
      · obtain ⟨y, hy⟩ : ∃ y, O[k]? = some y := ⟨O[k], List.getElem?_eq_getElem hkl⟩
        obtain ⟨pb, w2, cs2, rfl, f2, f3, f4⟩ := SO2.rd k y hy
        by_cases hc : ltBytes s.1 y.1 = true
        ·
          refine wp_seq ?_
          refine wp_seq ?_
          refine wp_draw ?_
          refine wp_dMove (by conv => lhs; whnf) rfl ?_
          refine wp_dMove (by conv => lhs; whnf) rfl ?_
          refine wp_dLook (l_lenSl rfl) rfl ?_
          refine wp_dLook (l_lssI rfl rfl rfl) rfl ?_
          refine wp_dKnow (b := true) rfl (decide_eq_true (by show (k : Int) < (O.length : Int); omega)) rfl ?_
          refine wp_dYes rfl ?_
          refine wp_dMove (by conv => lhs; whnf) rfl ?_
          refine wp_dYes rfl ?_
          refine wp_dMove (by conv => lhs; whnf) rfl ?_
          refine wp_dYes rfl ?_
          refine wp_dLook (l_ixSl rfl rfl hkl) rfl ?_
          refine wp_dYes rfl ?_
          refine wp_dLook (l_fieldAddr rfl) rfl ?_
          refine wp_dYes rfl ?_
          refine wp_dLook (l_load1 rfl f2 (nth_take2 f4)) rfl ?_
          refine wp_dYes rfl ?_
          refine wp_dMove (by conv => lhs; whnf) rfl ?_
          refine wp_dYes rfl ?_
          refine wp_dMove (by conv => lhs; whnf) rfl ?_
          refine wp_dYes rfl ?_
          refine wp_dLook (l_ixSl rfl rfl hlt) rfl ?_
          refine wp_dYes rfl ?_
          refine wp_dLook (l_fieldAddr rfl) rfl ?_
          refine wp_dYes rfl ?_
          refine wp_dLook (l_load1 rfl g2 (nth_take2 e4)) rfl ?_
          refine wp_dYes rfl ?_
          refine wp_dLook (l_leq rfl rfl) rfl ?_
          refine wp_dLook (l_pick1 rfl (by conv => lhs; whnf)) rfl ?_
          refine wp_dEnd ?_
          refine wp_condF rfl (by show (ltBytes y.1 s.1 || eqBytes y.1 s.1) = false; rw [leq_eq, hc]; rfl) ?_
          refine wp_exit ?_
          have hend : ∀ y, O[k]? = some y → ltBytes s.1 y.1 = true := fun z hz => by rw [hy] at hz; cases hz; exact hc
          refine exit_here rfl ?_
          refine wp_draw ?_
          refine wp_dTurn (tn_buildSlice rfl) rfl ?_
          refine wp_dMove (by conv => lhs; whnf) rfl ?_
          refine wp_dMove (by conv => lhs; whnf) rfl ?_
          refine wp_dUpto (SO2.le (Heap.Le.push _ _)) rfl rfl hk rfl fun aB cB log sB => ?_
          refine wp_dAppK (h0 := h3) (A := []) (.inl ⟨rfl, h3.next, rfl, Heap.get_new h3 _, Nat.le_refl _, Nat.lt_succ_self _⟩) sB rfl rfl (Heap.Le.push _ _) (by decide) (by rw [List.length_take]; omega) rfl fun v4 h4 le4 k4 => ?_
          rw [List.nil_append] at k4
          refine wp_dMove (by conv => lhs; whnf) rfl ?_
          refine wp_dMove (by conv => lhs; whnf) rfl ?_
          refine wp_dLook (l_ixSl rfl rfl hlt) rfl ?_
          refine wp_dLook (l_loadN rfl ((le4.get _ g3').trans g2) e4) (unLook_wr rfl (tells_sp (l_loadN rfl (((Heap.Le.push h3 _).get _ g3').trans g2) e4)) rfl) ?_
          refine wp_dTurn (tn_buildSlice (cs := svs s) rfl) rfl ?_
          have sOne : Sl (h4.push (.cells true (svs s))) (some ⟨h4.next, 0, none⟩) 1 1 [s] := ⟨rfl, reads_two (Heap.get_new h4 _) (Nat.lt_succ_self _), fun x hx => by cases hx; exact ⟨_, _, Heap.get_new h4 _, Nat.lt_succ_self _⟩, fun h => (nomatch h), Nat.le_refl _, fun x hx => by cases hx; exact .inr (.inl rfl)⟩
          refine wp_dAppK (k4.le (Heap.Le.push _ _)) sOne rfl rfl (le4.trans (Heap.Le.push _ _)) (by rw [List.length_take]; omega) (by show 1 < 1000000; omega) rfl fun v5 h5 le5 k5 => ?_
          refine wp_dMove (by conv => lhs; whnf) rfl ?_
          refine wp_dMove (by conv => lhs; whnf) rfl ?_
          refine wp_dFrom (SO2.le le5) rfl rfl hk rfl fun aF cF log sF => ?_
          refine wp_dAppK k5 sF rfl rfl le5 (by rw [List.length_append, List.length_take]; show _ + 1 < 1000000; omega) (by rw [List.length_drop]; omega) rfl fun v6 h6 le6 k6 => ?_
          rw [insR_at s O k hk hbef hend, ← hnext] at k6
          obtain ⟨a6, c6, rfl, S6⟩ := k6.sl
          refine wp_dMove (by conv => lhs; whnf) rfl ?_
          refine wp_dEnd ?_
          refine wp_move (by conv => lhs; whnf) ?_
          refine wp_look (l_incN rfl rfl (by omega)) ?_
          refine wp_move (by conv => lhs; whnf) ?_
          refine wp_end ?_
          refine ⟨m - (i + 1), by omega, i + 1, a6, c6, _, rfl, hlt, ⟨rfl, rfl, rfl⟩, rfl, hle.trans (le2.trans le6), rfl, S6⟩
        · rw [Bool.not_eq_true] at hc
          refine wp_seq ?_
          refine wp_seq ?_
          refine wp_draw ?_
          refine wp_dMove (by conv => lhs; whnf) rfl ?_
          refine wp_dMove (by conv => lhs; whnf) rfl ?_
          refine wp_dLook (l_lenSl rfl) rfl ?_
          refine wp_dLook (l_lssI rfl rfl rfl) rfl ?_
          refine wp_dKnow (b := true) rfl (decide_eq_true (by show (k : Int) < (O.length : Int); omega)) rfl ?_
          refine wp_dYes rfl ?_
          refine wp_dMove (by conv => lhs; whnf) rfl ?_
          refine wp_dYes rfl ?_
          refine wp_dMove (by conv => lhs; whnf) rfl ?_
          refine wp_dYes rfl ?_
          refine wp_dLook (l_ixSl rfl rfl hkl) rfl ?_
          refine wp_dYes rfl ?_
          refine wp_dLook (l_fieldAddr rfl) rfl ?_
          refine wp_dYes rfl ?_
          refine wp_dLook (l_load1 rfl f2 (nth_take2 f4)) rfl ?_
          refine wp_dYes rfl ?_
          refine wp_dMove (by conv => lhs; whnf) rfl ?_
          refine wp_dYes rfl ?_
          refine wp_dMove (by conv => lhs; whnf) rfl ?_
          refine wp_dYes rfl ?_
          refine wp_dLook (l_ixSl rfl rfl hlt) rfl ?_
          refine wp_dYes rfl ?_
          refine wp_dLook (l_fieldAddr rfl) rfl ?_
          refine wp_dYes rfl ?_
          refine wp_dLook (l_load1 rfl g2 (nth_take2 e4)) rfl ?_
          refine wp_dYes rfl ?_
          refine wp_dLook (l_leq rfl rfl) rfl ?_
          refine wp_dLook (l_pick1 rfl (by conv => lhs; whnf)) rfl ?_
          refine wp_dEnd ?_
          refine wp_condT rfl (by show (ltBytes y.1 s.1 || eqBytes y.1 s.1) = true; rw [leq_eq, hc]; rfl) ?_
          refine wp_skip ?_
          refine wp_block ?_
          refine wp_move (by conv => lhs; whnf) ?_
          refine wp_look (l_incN rfl rfl (by omega)) ?_
          refine wp_move (by conv => lhs; whnf) ?_
          refine wp_end ?_
          refine ⟨O.length - (k + 1), by omega, k + 1, rfl, hkl, ⟨rfl, rfl, rfl, rfl⟩, rfl, rfl, fun j z hj hz => ?_⟩
          by_cases hjk : j < k
          · exact hbef j z hjk hz
          · have : j = k := by omega
            subst this
            rw [hy] at hz; cases hz; exact hc
      ·
        refine wp_seq ?_
        refine wp_seq ?_
        refine wp_draw ?_
        refine wp_dMove (by conv => lhs; whnf) rfl ?_
        refine wp_dMove (by conv => lhs; whnf) rfl ?_
        refine wp_dLook (l_lenSl rfl) rfl ?_
        refine wp_dLook (l_lssI rfl rfl rfl) rfl ?_
        refine wp_dKnow (b := false) rfl (decide_eq_false (by show ¬ (k : Int) < (O.length : Int); omega)) rfl ?_
        refine wp_dNo rfl ?_
        refine wp_dNo rfl ?_
        refine wp_dNo rfl ?_
        refine wp_dNo rfl ?_
        refine wp_dNo rfl ?_
        refine wp_dNo rfl ?_
        refine wp_dNo rfl ?_
        refine wp_dNo rfl ?_
        refine wp_dNo rfl ?_
        refine wp_dNo rfl ?_
        refine wp_dNo rfl ?_
        refine wp_dLook (l_pick0 rfl (by conv => lhs; whnf)) rfl ?_
        refine wp_dEnd ?_
        refine wp_condF rfl rfl ?_
        refine wp_exit ?_
        have hend : ∀ y, O[k]? = some y → ltBytes s.1 y.1 = true := fun z hz => by rw [List.getElem?_eq_none (by omega)] at hz; cases hz
        refine exit_here rfl ?_
        refine wp_draw ?_
        refine wp_dTurn (tn_buildSlice rfl) rfl ?_
        refine wp_dMove (by conv => lhs; whnf) rfl ?_
        refine wp_dMove (by conv => lhs; whnf) rfl ?_
        refine wp_dUpto (SO2.le (Heap.Le.push _ _)) rfl rfl hk rfl fun aB cB log sB => ?_
        refine wp_dAppK (h0 := h3) (A := []) (.inl ⟨rfl, h3.next, rfl, Heap.get_new h3 _, Nat.le_refl _, Nat.lt_succ_self _⟩) sB rfl rfl (Heap.Le.push _ _) (by decide) (by rw [List.length_take]; omega) rfl fun v4 h4 le4 k4 => ?_
        rw [List.nil_append] at k4
        refine wp_dMove (by conv => lhs; whnf) rfl ?_
        refine wp_dMove (by conv => lhs; whnf) rfl ?_
        refine wp_dLook (l_ixSl rfl rfl hlt) rfl ?_
        refine wp_dLook (l_loadN rfl ((le4.get _ g3').trans g2) e4) (unLook_wr rfl (tells_sp (l_loadN rfl (((Heap.Le.push h3 _).get _ g3').trans g2) e4)) rfl) ?_
        refine wp_dTurn (tn_buildSlice (cs := svs s) rfl) rfl ?_
        have sOne : Sl (h4.push (.cells true (svs s))) (some ⟨h4.next, 0, none⟩) 1 1 [s] := ⟨rfl, reads_two (Heap.get_new h4 _) (Nat.lt_succ_self _), fun x hx => by cases hx; exact ⟨_, _, Heap.get_new h4 _, Nat.lt_succ_self _⟩, fun h => (nomatch h), Nat.le_refl _, fun x hx => by cases hx; exact .inr (.inl rfl)⟩
        refine wp_dAppK (k4.le (Heap.Le.push _ _)) sOne rfl rfl (le4.trans (Heap.Le.push _ _)) (by rw [List.length_take]; omega) (by show 1 < 1000000; omega) rfl fun v5 h5 le5 k5 => ?_
        refine wp_dMove (by conv => lhs; whnf) rfl ?_
        refine wp_dMove (by conv => lhs; whnf) rfl ?_
        refine wp_dFrom (SO2.le le5) rfl rfl hk rfl fun aF cF log sF => ?_
        refine wp_dAppK k5 sF rfl rfl le5 (by rw [List.length_append, List.length_take]; show _ + 1 < 1000000; omega) (by rw [List.length_drop]; omega) rfl fun v6 h6 le6 k6 => ?_
        rw [insR_at s O k hk hbef hend, ← hnext] at k6
        obtain ⟨a6, c6, rfl, S6⟩ := k6.sl
        refine wp_dMove (by conv => lhs; whnf) rfl ?_
        refine wp_dEnd ?_
        refine wp_move (by conv => lhs; whnf) ?_
        refine wp_look (l_incN rfl rfl (by omega)) ?_
        refine wp_move (by conv => lhs; whnf) ?_
        refine wp_end ?_
        refine ⟨m - (i + 1), by omega, i + 1, a6, c6, _, rfl, hlt, ⟨rfl, rfl, rfl⟩, rfl, hle.trans (le2.trans le6), rfl, S6⟩
  ·
    refine wp_seq ?_
    refine wp_seq ?_
    refine wp_move (by conv => lhs; whnf) ?_
    refine wp_move (by conv => lhs; whnf) ?_
    refine wp_look (l_lenSl rfl) ?_
    refine wp_look (l_lssI rfl rfl rfl) ?_
    refine wp_end ?_
    refine wp_condF rfl (decide_eq_false (by show ¬ (i : Int) < (m : Int); omega)) ?_
    refine wp_exit ?_
    refine exit_here rfl ?_
    refine wp_seq ?_
    refine wp_move (by conv => lhs; whnf) ?_
    refine wp_move (by conv => lhs; whnf) ?_
    refine wp_end ?_
    refine wp_ret ?_
    rw [List.take_of_length_le (by omega)] at hO
    subst hO
    exact ⟨rfl, _, rfl, ⟨aO, cO, rfl, SO⟩, hle⟩
end
end SpanK
namespace SpanK
open Go Go.Eng Go.Proofs.Ytfknpknbgfkbdaa.Eng
set_option maxRecDepth 100000
set_option linter.unusedVariables false
section
theorem refJoin24 {E : Env} (H : Has E) (n : Nat) (l : List Sp) (ao : Option Addr) (m ca : Nat) (h : Heap) (S : Sl h ao m ca l) (hbig : m < 100000) (hf : m + 3 < n) : (enter E (ctx E (n + 2)) 24 [.slice ao m ca] h).Wp fun v h' => (∃ ar cr, v = .slice ar (joinS l).length cr ∧ Sl h' ar (joinS l).length cr (joinS l)) ∧ h.Le h' := by
  refine H.go (k := k24) rfl (by decide) (by decide) ?_
  unfold k24
  refine wp_fn (Nat.le_of_ble_eq_true rfl) ?_
  dsimp only
  have hm := S.len
  refine wp_seq ?_
  refine wp_move (by conv => lhs; whnf) ?_
  refine wp_end ?_
  refine wp_seq ?_
  refine wp_move (by conv => lhs; whnf) ?_
  refine wp_callIn (wp_func rfl (refSorted35 H n l ao m ca h S hbig hf)) ?_
  rintro vs h1 ⟨⟨as, cs0, rfl, SS⟩, le1⟩
  refine wp_move (by conv => lhs; whnf) ?_
  refine wp_end ?_
  refine wp_seq ?_
  refine wp_move (by conv => lhs; whnf) ?_
  refine wp_end ?_
  refine wp_seq ?_
  refine wp_seq ?_
  refine wp_move (by conv => lhs; whnf) ?_
  refine wp_end ?_
  refine wp_block ?_
  have hJ : mergeS (sortR [] l) = joinS l := ref_join l
  have hLm : (sortR [] l).length ≤ m := by have := sortR_length l []; simp at this; omega
  revert hJ hLm SS
  generalize sortR [] l = L
  intro SS hJ hLm
  refine wp_loop (fun q t x h' => ∃ (i : Nat) (vo : Value), q = L.length - i ∧ i ≤ L.length ∧ (g5 t = .int .i64 (Int.ofNat i) ∧ g4 t = vo ∧ g3 t = .slice as L.length cs0) ∧ x = ⟨[], none, none⟩ ∧ h1.Le h' ∧ OutSl h1 h' vo (mergeS (L.take i))) L.length ⟨0, _, rfl, Nat.zero_le _, ⟨rfl, rfl, rfl⟩, rfl, Heap.Le.refl _, .inl ⟨rfl, rfl⟩⟩ (by rw [ctx_fuel]; omega) ?_
  rintro q t x h' ⟨i, vo, rfl, hi, ⟨r5, r4, r3⟩, rfl, hle, ho⟩
  obtain ⟨t0, rfl⟩ : ∃ t0, t = p5 (.int .i64 (Int.ofNat i)) (p4 vo (p3 (.slice as L.length cs0) t0)) := ⟨t, by rw [← r5, ← r4, ← r3]; rfl⟩
  clear r5 r4 r3
  have hOl : (mergeS (L.take i)).length ≤ i := by
    have key : ∀ (l : List Sp), (mergeS l).length ≤ l.length := by
      intro l
      cases l with
      | nil => exact Nat.le_refl _
      | cons x l =>
        show (goS x l).length ≤ l.length + 1
        induction l generalizing x with
        | nil => exact Nat.le_refl _
        | cons y l ih =>
          unfold goS
          split
          · have := ih (meltS x y); simp at this ⊢; omega
          · have := ih y; simp at this ⊢; omega
    have := key (L.take i)
    rw [List.length_take] at this
    omega
  by_cases hlt : i < L.length
  · obtain ⟨s, hs⟩ : ∃ s, L[i]? = some s := ⟨L[i], List.getElem?_eq_getElem hlt⟩
    obtain ⟨pa, w1, cs1, rfl, e2, e3, e4⟩ := (SS.le hle).rd i s hs
    have hnext : mergeS (L.take (i + 1)) = stepS (mergeS (L.take i)) s := by rw [List.take_add_one, hs]; exact merge_snoc _ _
    revert hnext ho hOl
    generalize mergeS (L.take i) = O
    intro ho hOl hnext
    rcases ho with ⟨rfl, rfl⟩ | ⟨hne, bo, rfl, how, hbo⟩
    · have hsub : mergeS (L.take (i + 1)) = [s] := hnext
      refine wp_seq ?_
      refine wp_seq ?_
      refine wp_move (by conv => lhs; whnf) ?_
      refine wp_move (by conv => lhs; whnf) ?_
      refine wp_look (l_lenSl rfl) ?_
      refine wp_look (l_lssI rfl rfl rfl) ?_
      refine wp_end ?_
      refine wp_condT rfl (decide_eq_true (by show (i : Int) < (L.length : Int); omega)) ?_
      refine wp_skip ?_
      refine wp_seq ?_
      refine wp_block ?_
      refine wp_seq ?_
      refine wp_move (by conv => lhs; whnf) ?_
      refine wp_look (l_lenSl rfl) ?_
      refine wp_look (l_subI rfl rfl rfl) ?_
      refine wp_move (by conv => lhs; whnf) ?_
      refine wp_end ?_
      refine wp_seq ?_
      refine wp_seq ?_
      refine wp_draw ?_
      refine wp_dMove (by conv => lhs; whnf) rfl ?_
      refine wp_dLook (l_lssI rfl rfl rfl) rfl ?_
      refine wp_dKnow (b := true) rfl rfl rfl ?_
      refine wp_dNo rfl ?_
      refine wp_dNo rfl ?_
      refine wp_dNo rfl ?_
      refine wp_dNo rfl ?_
      refine wp_dNo rfl ?_
      refine wp_dNo rfl ?_
      refine wp_dNo rfl ?_
      refine wp_dNo rfl ?_
      refine wp_dNo rfl ?_
      refine wp_dNo rfl ?_
      refine wp_dNo rfl ?_
      refine wp_dNo rfl ?_
      refine wp_dNo rfl ?_
      refine wp_dNo rfl ?_
      refine wp_dNo rfl ?_
      refine wp_dNo rfl ?_
      refine wp_dNo rfl ?_
      refine wp_dNo rfl ?_
      refine wp_dNo rfl ?_
      refine wp_dLook (l_pick1 rfl (by conv => lhs; whnf)) rfl ?_
      refine wp_dEnd ?_
      refine wp_condT rfl rfl ?_
      refine wp_seq ?_
      refine wp_move (by conv => lhs; whnf) ?_
      refine wp_move (by conv => lhs; whnf) ?_
      refine wp_move (by conv => lhs; whnf) ?_
      refine wp_look (l_ixSl rfl rfl hlt) ?_
      refine wp_look (l_loadN rfl e2 e4) ?_
      refine wp_turn (tn_buildSlice rfl) ?_
      refine wp_turn (tn_append (n := 1) (new := flatS [s]) rfl rfl rfl (Heap.load_of (Heap.get_new _ _) rfl) (append_nil (by decide) (by decide))) ?_
      refine wp_move (by conv => lhs; whnf) ?_
      refine wp_end ?_
      refine wp_exit ?_
      refine exit_here rfl ?_
      refine wp_move (by conv => lhs; whnf) ?_
      refine wp_look (l_incN rfl rfl (by omega)) ?_
      refine wp_move (by conv => lhs; whnf) ?_
      refine wp_end ?_
      refine ⟨L.length - (i + 1), by omega, i + 1, _, rfl, hlt, ⟨rfl, rfl, rfl⟩, rfl, hle.trans ((Heap.Le.push _ _).trans (Heap.Le.push _ _)), ?_⟩
      rw [hsub]
      refine .inr ⟨by simp, h'.next + 1, rfl, ⟨?_, ?_⟩, ?_⟩
      · rw [List.append_nil]; exact Heap.get_new (h'.push _) _
      · show h'.next + 1 < h'.next + 1 + 1; omega
      · have := hle.next; omega
    · have hp := List.length_pos_iff.2 hne
      obtain ⟨last, hlast⟩ : ∃ last, O[O.length - 1]? = some last := ⟨O[O.length - 1], List.getElem?_eq_getElem (by omega)⟩
      rw [stepS_some hlast hne] at hnext
      have hOb : O.length - 1 < O.length := by omega
      have hHi := flatS_hi O [] hlast
      have hset : O.set (O.length - 1) last = O := by
        obtain ⟨_, e⟩ := List.getElem?_eq_some_iff.1 hlast
        rw [← e]; exact List.set_getElem_self _
      by_cases c1 : eqBytes last.2 [] = true
      · have hcond : (eqBytes last.2 [] || !(ltBytes last.2 s.1)) = true := by rw [c1]; rfl
        rw [if_pos hcond] at hnext
        have hmelt : meltS last s = last := by unfold meltS; rw [c1]; rfl
        rw [hmelt, hset] at hnext
        refine wp_seq ?_
        refine wp_seq ?_
        refine wp_move (by conv => lhs; whnf) ?_
        refine wp_move (by conv => lhs; whnf) ?_
        refine wp_look (l_lenSl rfl) ?_
        refine wp_look (l_lssI rfl rfl rfl) ?_
        refine wp_end ?_
        refine wp_condT rfl (decide_eq_true (by show (i : Int) < (L.length : Int); omega)) ?_
        refine wp_skip ?_
        refine wp_seq ?_
        refine wp_block ?_
        refine wp_seq ?_
        refine wp_move (by conv => lhs; whnf) ?_
        refine wp_look (l_lenSl rfl) ?_
        refine wp_look (l_decN rfl rfl (by omega) (by omega)) ?_
        refine wp_move (by conv => lhs; whnf) ?_
        refine wp_end ?_
        refine wp_seq ?_
        refine wp_seq ?_
        refine wp_draw ?_
        refine wp_dMove (by conv => lhs; whnf) rfl ?_
        refine wp_dLook (l_lssI rfl rfl rfl) rfl ?_
        refine wp_dKnow (b := false) rfl (decide_eq_false (by show ¬ ((O.length - 1 : Nat) : Int) < (0 : Int); omega)) rfl ?_
        refine wp_dYes rfl ?_
        refine wp_dMove (by conv => lhs; whnf) rfl ?_
        refine wp_dYes rfl ?_
        refine wp_dMove (by conv => lhs; whnf) rfl ?_
        refine wp_dYes rfl ?_
        refine wp_dLook (l_ixSl rfl rfl hOb) rfl ?_
        refine wp_dYes rfl ?_
        refine wp_dLook (l_fieldAddr rfl) rfl ?_
        refine wp_dYes rfl ?_
        refine wp_dLook (l_load1 rfl how.1 hHi) rfl ?_
        refine wp_dYes rfl ?_
        refine wp_dLook (l_neS rfl rfl) rfl ?_
        refine wp_dYes rfl ?_
        refine wp_dKnow (b := false) rfl (by show (!(eqBytes last.2 [])) = false; rw [c1]; rfl) rfl ?_
        refine wp_dNo rfl ?_
        refine wp_dNo rfl ?_
        refine wp_dNo rfl ?_
        refine wp_dNo rfl ?_
        refine wp_dNo rfl ?_
        refine wp_dNo rfl ?_
        refine wp_dNo rfl ?_
        refine wp_dNo rfl ?_
        refine wp_dNo rfl ?_
        refine wp_dNo rfl ?_
        refine wp_dNo rfl ?_
        refine wp_dYes rfl ?_
        refine wp_dLook (l_pick0 rfl (by conv => lhs; whnf)) rfl ?_
        refine wp_dLook (l_pick0 rfl (by conv => lhs; whnf)) rfl ?_
        refine wp_dEnd ?_
        refine wp_condF rfl rfl ?_
        refine wp_skip ?_
        refine wp_seq ?_
        refine wp_draw ?_
        refine wp_dMove (by conv => lhs; whnf) rfl ?_
        refine wp_dMove (by conv => lhs; whnf) rfl ?_
        refine wp_dLook (l_ixSl rfl rfl hOb) rfl ?_
        refine wp_dLook (l_fieldAddr rfl) rfl ?_
        refine wp_dLook (l_load1 rfl how.1 hHi) rfl ?_
        refine wp_dLook (l_neS rfl rfl) rfl ?_
        refine wp_dKnow (b := false) rfl (by show (!(eqBytes last.2 [])) = false; rw [c1]; rfl) rfl ?_
        refine wp_dNo rfl ?_
        refine wp_dNo rfl ?_
        refine wp_dNo rfl ?_
        refine wp_dNo rfl ?_
        refine wp_dNo rfl ?_
        refine wp_dNo rfl ?_
        refine wp_dNo rfl ?_
        refine wp_dNo rfl ?_
        refine wp_dNo rfl ?_
        refine wp_dNo rfl ?_
        refine wp_dNo rfl ?_
        refine wp_dNo rfl ?_
        refine wp_dNo rfl ?_
        refine wp_dNo rfl ?_
        refine wp_dNo rfl ?_
        refine wp_dNo rfl ?_
        refine wp_dNo rfl ?_
        refine wp_dNo rfl ?_
        refine wp_dNo rfl ?_
        refine wp_dLook (l_pick0 rfl (by conv => lhs; whnf)) rfl ?_
        refine wp_dEnd ?_
        refine wp_condF rfl rfl ?_
        refine wp_skip ?_
        refine wp_move (by conv => lhs; whnf) ?_
        refine wp_look (l_incN rfl rfl (by omega)) ?_
        refine wp_move (by conv => lhs; whnf) ?_
        refine wp_end ?_
        refine ⟨L.length - (i + 1), by omega, i + 1, _, rfl, hlt, ⟨rfl, rfl, rfl⟩, rfl, hle, ?_⟩
        rw [hnext]
        exact .inr ⟨hne, bo, rfl, how, hbo⟩
      · rw [Bool.not_eq_true] at c1
        by_cases c2 : ltBytes last.2 s.1 = true
        · have hcond : ¬ (eqBytes last.2 [] || !(ltBytes last.2 s.1)) = true := by rw [c1, c2]; decide
          rw [if_neg hcond] at hnext
          refine wp_seq ?_
          refine wp_seq ?_
          refine wp_move (by conv => lhs; whnf) ?_
          refine wp_move (by conv => lhs; whnf) ?_
          refine wp_look (l_lenSl rfl) ?_
          refine wp_look (l_lssI rfl rfl rfl) ?_
          refine wp_end ?_
          refine wp_condT rfl (decide_eq_true (by show (i : Int) < (L.length : Int); omega)) ?_
          refine wp_skip ?_
          refine wp_seq ?_
          refine wp_block ?_
          refine wp_seq ?_
          refine wp_move (by conv => lhs; whnf) ?_
          refine wp_look (l_lenSl rfl) ?_
          refine wp_look (l_decN rfl rfl (by omega) (by omega)) ?_
          refine wp_move (by conv => lhs; whnf) ?_
          refine wp_end ?_
          refine wp_seq ?_
          refine wp_seq ?_
          refine wp_draw ?_
          refine wp_dMove (by conv => lhs; whnf) rfl ?_
          refine wp_dLook (l_lssI rfl rfl rfl) rfl ?_
          refine wp_dKnow (b := false) rfl (decide_eq_false (by show ¬ ((O.length - 1 : Nat) : Int) < (0 : Int); omega)) rfl ?_
          refine wp_dYes rfl ?_
          refine wp_dMove (by conv => lhs; whnf) rfl ?_
          refine wp_dYes rfl ?_
          refine wp_dMove (by conv => lhs; whnf) rfl ?_
          refine wp_dYes rfl ?_
          refine wp_dLook (l_ixSl rfl rfl hOb) rfl ?_
          refine wp_dYes rfl ?_
          refine wp_dLook (l_fieldAddr rfl) rfl ?_
          refine wp_dYes rfl ?_
          refine wp_dLook (l_load1 rfl how.1 hHi) rfl ?_
          refine wp_dYes rfl ?_
          refine wp_dLook (l_neS rfl rfl) rfl ?_
          refine wp_dYes rfl ?_
          refine wp_dKnow (b := true) rfl (by show (!(eqBytes last.2 [])) = true; rw [c1]; rfl) rfl ?_
          refine wp_dYes rfl ?_
          refine wp_dMove (by conv => lhs; whnf) rfl ?_
          refine wp_dYes rfl ?_
          refine wp_dMove (by conv => lhs; whnf) rfl ?_
          refine wp_dYes rfl ?_
          refine wp_dLook (l_ixSl rfl rfl hOb) rfl ?_
          refine wp_dYes rfl ?_
          refine wp_dLook (l_fieldAddr rfl) rfl ?_
          refine wp_dYes rfl ?_
          refine wp_dLook (l_load1 rfl how.1 hHi) rfl ?_
          refine wp_dYes rfl ?_
          refine wp_dMove (by conv => lhs; whnf) rfl ?_
          refine wp_dYes rfl ?_
          refine wp_dMove (by conv => lhs; whnf) rfl ?_
          refine wp_dYes rfl ?_
          refine wp_dLook (l_ixSl rfl rfl hlt) rfl ?_
          refine wp_dYes rfl ?_
          refine wp_dLook (l_fieldAddr rfl) rfl ?_
          refine wp_dYes rfl ?_
          refine wp_dLook (l_load1 rfl e2 (nth_take2 e4)) rfl ?_
          refine wp_dYes rfl ?_
          refine wp_dLook (l_lss rfl rfl) rfl ?_
          refine wp_dYes rfl ?_
          refine wp_dLook (l_pick1 rfl (by conv => lhs; whnf)) rfl ?_
          refine wp_dLook (l_pick0 rfl (by conv => lhs; whnf)) rfl ?_
          refine wp_dEnd ?_
          refine wp_condT rfl c2 ?_
          refine wp_seq ?_
          refine wp_move (by conv => lhs; whnf) ?_
          refine wp_move (by conv => lhs; whnf) ?_
          refine wp_move (by conv => lhs; whnf) ?_
          refine wp_look (l_ixSl rfl rfl hlt) ?_
          refine wp_look (l_loadN rfl e2 e4) ?_
          refine wp_turn (tn_buildSlice rfl) ?_
          refine wp_turn (tn_append (n := 1) (new := flatS [s]) rfl rfl rfl (Heap.load_of (Heap.get_new _ _) rfl) (append_more (old := flatS O) (Heap.load_of (how.le (Heap.Le.push _ _)).1 (takeN_flat O [])) ⟨_, (how.le (Heap.Le.push _ _)).1⟩ hp (by decide) (by omega))) ?_
          refine wp_move (by conv => lhs; whnf) ?_
          refine wp_end ?_
          refine wp_exit ?_
          refine exit_here rfl ?_
          refine wp_move (by conv => lhs; whnf) ?_
          refine wp_look (l_incN rfl rfl (by omega)) ?_
          refine wp_move (by conv => lhs; whnf) ?_
          refine wp_end ?_
          refine ⟨L.length - (i + 1), by omega, i + 1, _, rfl, hlt, ⟨rfl, rfl, rfl⟩, rfl, ((hle.trans (Heap.Le.push _ _)).put hbo (Nat.lt_succ_of_lt how.2) _).trans (Heap.Le.push _ _), ?_⟩
          rw [hnext]
          refine .inr ⟨by simp, h'.next + 1, ?_, ⟨?_, ?_⟩, ?_⟩
          · rw [List.length_append]; rfl
          · rw [List.append_nil, flatS_append]; exact Heap.get_new ((h'.push _).put bo none) _
          · show h'.next + 1 < h'.next + 1 + 1; omega
          · have := hle.next; omega
        · rw [Bool.not_eq_true] at c2
          have hcond : (eqBytes last.2 [] || !(ltBytes last.2 s.1)) = true := by rw [c1, c2]; rfl
          rw [if_pos hcond] at hnext
          by_cases c3 : eqBytes s.2 [] = true
          · have hmelt : meltS last s = (last.1, s.2) := by unfold meltS; rw [c1, c3]; rfl
            refine wp_seq ?_
            refine wp_seq ?_
            refine wp_move (by conv => lhs; whnf) ?_
            refine wp_move (by conv => lhs; whnf) ?_
            refine wp_look (l_lenSl rfl) ?_
            refine wp_look (l_lssI rfl rfl rfl) ?_
            refine wp_end ?_
            refine wp_condT rfl (decide_eq_true (by show (i : Int) < (L.length : Int); omega)) ?_
            refine wp_skip ?_
            refine wp_seq ?_
            refine wp_block ?_
            refine wp_seq ?_
            refine wp_move (by conv => lhs; whnf) ?_
            refine wp_look (l_lenSl rfl) ?_
            refine wp_look (l_decN rfl rfl (by omega) (by omega)) ?_
            refine wp_move (by conv => lhs; whnf) ?_
            refine wp_end ?_
            refine wp_seq ?_
            refine wp_seq ?_
            refine wp_draw ?_
            refine wp_dMove (by conv => lhs; whnf) rfl ?_
            refine wp_dLook (l_lssI rfl rfl rfl) rfl ?_
            refine wp_dKnow (b := false) rfl (decide_eq_false (by show ¬ ((O.length - 1 : Nat) : Int) < (0 : Int); omega)) rfl ?_
            refine wp_dYes rfl ?_
            refine wp_dMove (by conv => lhs; whnf) rfl ?_
            refine wp_dYes rfl ?_
            refine wp_dMove (by conv => lhs; whnf) rfl ?_
            refine wp_dYes rfl ?_
            refine wp_dLook (l_ixSl rfl rfl hOb) rfl ?_
            refine wp_dYes rfl ?_
            refine wp_dLook (l_fieldAddr rfl) rfl ?_
            refine wp_dYes rfl ?_
            refine wp_dLook (l_load1 rfl how.1 hHi) rfl ?_
            refine wp_dYes rfl ?_
            refine wp_dLook (l_neS rfl rfl) rfl ?_
            refine wp_dYes rfl ?_
            refine wp_dKnow (b := true) rfl (by show (!(eqBytes last.2 [])) = true; rw [c1]; rfl) rfl ?_
            refine wp_dYes rfl ?_
            refine wp_dMove (by conv => lhs; whnf) rfl ?_
            refine wp_dYes rfl ?_
            refine wp_dMove (by conv => lhs; whnf) rfl ?_
            refine wp_dYes rfl ?_
            refine wp_dLook (l_ixSl rfl rfl hOb) rfl ?_
            refine wp_dYes rfl ?_
            refine wp_dLook (l_fieldAddr rfl) rfl ?_
            refine wp_dYes rfl ?_
            refine wp_dLook (l_load1 rfl how.1 hHi) rfl ?_
            refine wp_dYes rfl ?_
            refine wp_dMove (by conv => lhs; whnf) rfl ?_
            refine wp_dYes rfl ?_
            refine wp_dMove (by conv => lhs; whnf) rfl ?_
            refine wp_dYes rfl ?_
            refine wp_dLook (l_ixSl rfl rfl hlt) rfl ?_
            refine wp_dYes rfl ?_
            refine wp_dLook (l_fieldAddr rfl) rfl ?_
            refine wp_dYes rfl ?_
            refine wp_dLook (l_load1 rfl e2 (nth_take2 e4)) rfl ?_
            refine wp_dYes rfl ?_
            refine wp_dLook (l_lss rfl rfl) rfl ?_
            refine wp_dYes rfl ?_
            refine wp_dLook (l_pick1 rfl (by conv => lhs; whnf)) rfl ?_
            refine wp_dLook (l_pick0 rfl (by conv => lhs; whnf)) rfl ?_
            refine wp_dEnd ?_
            refine wp_condF rfl c2 ?_
            refine wp_skip ?_
            refine wp_seq ?_
            refine wp_draw ?_
            refine wp_dMove (by conv => lhs; whnf) rfl ?_
            refine wp_dMove (by conv => lhs; whnf) rfl ?_
            refine wp_dLook (l_ixSl rfl rfl hOb) rfl ?_
            refine wp_dLook (l_fieldAddr rfl) rfl ?_
            refine wp_dLook (l_load1 rfl how.1 hHi) rfl ?_
            refine wp_dLook (l_neS rfl rfl) rfl ?_
            refine wp_dKnow (b := true) rfl (by show (!(eqBytes last.2 [])) = true; rw [c1]; rfl) rfl ?_
            refine wp_dYes rfl ?_
            refine wp_dMove (by conv => lhs; whnf) rfl ?_
            refine wp_dYes rfl ?_
            refine wp_dMove (by conv => lhs; whnf) rfl ?_
            refine wp_dYes rfl ?_
            refine wp_dLook (l_ixSl rfl rfl hlt) rfl ?_
            refine wp_dYes rfl ?_
            refine wp_dLook (l_fieldAddr rfl) rfl ?_
            refine wp_dYes rfl ?_
            refine wp_dLook (l_load1 rfl e2 (nth_take2' e4)) rfl ?_
            refine wp_dYes rfl ?_
            refine wp_dLook (l_eqS rfl rfl) rfl ?_
            refine wp_dYes rfl ?_
            refine wp_dKnow (b := true) rfl c3 rfl ?_
            refine wp_dNo rfl ?_
            refine wp_dNo rfl ?_
            refine wp_dNo rfl ?_
            refine wp_dNo rfl ?_
            refine wp_dNo rfl ?_
            refine wp_dNo rfl ?_
            refine wp_dNo rfl ?_
            refine wp_dNo rfl ?_
            refine wp_dNo rfl ?_
            refine wp_dNo rfl ?_
            refine wp_dNo rfl ?_
            refine wp_dYes rfl ?_
            refine wp_dLook (l_pick1 rfl (by conv => lhs; whnf)) rfl ?_
            refine wp_dLook (l_pick1 rfl (by conv => lhs; whnf)) rfl ?_
            refine wp_dEnd ?_
            refine wp_condT rfl rfl ?_
            refine wp_move (by conv => lhs; whnf) ?_
            refine wp_move (by conv => lhs; whnf) ?_
            refine wp_move (by conv => lhs; whnf) ?_
            refine wp_move (by conv => lhs; whnf) ?_
            refine wp_look (l_ixSl rfl rfl hlt) ?_
            refine wp_look (l_fieldAddr rfl) ?_
            refine wp_look (l_load1 rfl e2 (nth_take2' e4)) ?_
            refine wp_look (l_ixSl rfl rfl hOb) ?_
            refine wp_look (l_fieldAddr rfl) ?_
            refine wp_turnDo (tn_store rfl rfl rfl how.1 rfl (by show 0 + (O.length - 1) * 2 + 1 + 1 ≤ _; rw [List.length_append, flatS_length]; omega)) ?_
            refine wp_end ?_
            refine wp_move (by conv => lhs; whnf) ?_
            refine wp_look (l_incN rfl rfl (by omega)) ?_
            refine wp_move (by conv => lhs; whnf) ?_
            refine wp_end ?_
            refine ⟨L.length - (i + 1), by omega, i + 1, _, rfl, hlt, ⟨rfl, rfl, rfl⟩, rfl, hle.put hbo how.2 _, ?_⟩
            rw [hnext, hmelt]
            refine .inr ⟨?_, bo, ?_, ⟨?_, how.2⟩, hbo⟩
            · intro e; apply hne; apply List.eq_nil_of_length_eq_zero; rw [← List.length_set (as := O) (i := O.length - 1) (a := (last.1, s.2)), e]; rfl
            · rw [List.length_set]; rfl
            · rw [← putAt_hi O [] s.2 hlast]; exact Heap.get_put_eq _ _ _
          · rw [Bool.not_eq_true] at c3
            by_cases c4 : ltBytes last.2 s.2 = true
            · have hmelt : meltS last s = (last.1, s.2) := by unfold meltS; rw [c1, c3, c4]; rfl
              refine wp_seq ?_
              refine wp_seq ?_
              refine wp_move (by conv => lhs; whnf) ?_
              refine wp_move (by conv => lhs; whnf) ?_
              refine wp_look (l_lenSl rfl) ?_
              refine wp_look (l_lssI rfl rfl rfl) ?_
              refine wp_end ?_
              refine wp_condT rfl (decide_eq_true (by show (i : Int) < (L.length : Int); omega)) ?_
              refine wp_skip ?_
              refine wp_seq ?_
              refine wp_block ?_
              refine wp_seq ?_
              refine wp_move (by conv => lhs; whnf) ?_
              refine wp_look (l_lenSl rfl) ?_
              refine wp_look (l_decN rfl rfl (by omega) (by omega)) ?_
              refine wp_move (by conv => lhs; whnf) ?_
              refine wp_end ?_
              refine wp_seq ?_
              refine wp_seq ?_
              refine wp_draw ?_
              refine wp_dMove (by conv => lhs; whnf) rfl ?_
              refine wp_dLook (l_lssI rfl rfl rfl) rfl ?_
              refine wp_dKnow (b := false) rfl (decide_eq_false (by show ¬ ((O.length - 1 : Nat) : Int) < (0 : Int); omega)) rfl ?_
              refine wp_dYes rfl ?_
              refine wp_dMove (by conv => lhs; whnf) rfl ?_
              refine wp_dYes rfl ?_
              refine wp_dMove (by conv => lhs; whnf) rfl ?_
              refine wp_dYes rfl ?_
              refine wp_dLook (l_ixSl rfl rfl hOb) rfl ?_
              refine wp_dYes rfl ?_
              refine wp_dLook (l_fieldAddr rfl) rfl ?_
              refine wp_dYes rfl ?_
              refine wp_dLook (l_load1 rfl how.1 hHi) rfl ?_
              refine wp_dYes rfl ?_
              refine wp_dLook (l_neS rfl rfl) rfl ?_
              refine wp_dYes rfl ?_
              refine wp_dKnow (b := true) rfl (by show (!(eqBytes last.2 [])) = true; rw [c1]; rfl) rfl ?_
              refine wp_dYes rfl ?_
              refine wp_dMove (by conv => lhs; whnf) rfl ?_
              refine wp_dYes rfl ?_
              refine wp_dMove (by conv => lhs; whnf) rfl ?_
              refine wp_dYes rfl ?_
              refine wp_dLook (l_ixSl rfl rfl hOb) rfl ?_
              refine wp_dYes rfl ?_
              refine wp_dLook (l_fieldAddr rfl) rfl ?_
              refine wp_dYes rfl ?_
              refine wp_dLook (l_load1 rfl how.1 hHi) rfl ?_
              refine wp_dYes rfl ?_
              refine wp_dMove (by conv => lhs; whnf) rfl ?_
              refine wp_dYes rfl ?_
              refine wp_dMove (by conv => lhs; whnf) rfl ?_
              refine wp_dYes rfl ?_
              refine wp_dLook (l_ixSl rfl rfl hlt) rfl ?_
              refine wp_dYes rfl ?_
              refine wp_dLook (l_fieldAddr rfl) rfl ?_
              refine wp_dYes rfl ?_
              refine wp_dLook (l_load1 rfl e2 (nth_take2 e4)) rfl ?_
              refine wp_dYes rfl ?_
              refine wp_dLook (l_lss rfl rfl) rfl ?_
              refine wp_dYes rfl ?_
              refine wp_dLook (l_pick1 rfl (by conv => lhs; whnf)) rfl ?_
              refine wp_dLook (l_pick0 rfl (by conv => lhs; whnf)) rfl ?_
              refine wp_dEnd ?_
              refine wp_condF rfl c2 ?_
              refine wp_skip ?_
              refine wp_seq ?_
              refine wp_draw ?_
              refine wp_dMove (by conv => lhs; whnf) rfl ?_
              refine wp_dMove (by conv => lhs; whnf) rfl ?_
              refine wp_dLook (l_ixSl rfl rfl hOb) rfl ?_
              refine wp_dLook (l_fieldAddr rfl) rfl ?_
              refine wp_dLook (l_load1 rfl how.1 hHi) rfl ?_
              refine wp_dLook (l_neS rfl rfl) rfl ?_
              refine wp_dKnow (b := true) rfl (by show (!(eqBytes last.2 [])) = true; rw [c1]; rfl) rfl ?_
              refine wp_dYes rfl ?_
              refine wp_dMove (by conv => lhs; whnf) rfl ?_
              refine wp_dYes rfl ?_
              refine wp_dMove (by conv => lhs; whnf) rfl ?_
              refine wp_dYes rfl ?_
              refine wp_dLook (l_ixSl rfl rfl hlt) rfl ?_
              refine wp_dYes rfl ?_
              refine wp_dLook (l_fieldAddr rfl) rfl ?_
              refine wp_dYes rfl ?_
              refine wp_dLook (l_load1 rfl e2 (nth_take2' e4)) rfl ?_
              refine wp_dYes rfl ?_
              refine wp_dLook (l_eqS rfl rfl) rfl ?_
              refine wp_dYes rfl ?_
              refine wp_dKnow (b := false) rfl c3 rfl ?_
              refine wp_dYes rfl ?_
              refine wp_dMove (by conv => lhs; whnf) rfl ?_
              refine wp_dYes rfl ?_
              refine wp_dMove (by conv => lhs; whnf) rfl ?_
              refine wp_dYes rfl ?_
              refine wp_dLook (l_ixSl rfl rfl hlt) rfl ?_
              refine wp_dYes rfl ?_
              refine wp_dLook (l_fieldAddr rfl) rfl ?_
              refine wp_dYes rfl ?_
              refine wp_dLook (l_load1 rfl e2 (nth_take2' e4)) rfl ?_
              refine wp_dYes rfl ?_
              refine wp_dMove (by conv => lhs; whnf) rfl ?_
              refine wp_dYes rfl ?_
              refine wp_dMove (by conv => lhs; whnf) rfl ?_
              refine wp_dYes rfl ?_
              refine wp_dLook (l_ixSl rfl rfl hOb) rfl ?_
              refine wp_dYes rfl ?_
              refine wp_dLook (l_fieldAddr rfl) rfl ?_
              refine wp_dYes rfl ?_
              refine wp_dLook (l_load1 rfl how.1 hHi) rfl ?_
              refine wp_dYes rfl ?_
              refine wp_dLook (l_gtr rfl rfl) rfl ?_
              refine wp_dYes rfl ?_
              refine wp_dLook (l_pick0 rfl (by conv => lhs; whnf)) rfl ?_
              refine wp_dLook (l_pick1 rfl (by conv => lhs; whnf)) rfl ?_
              refine wp_dEnd ?_
              refine wp_condT rfl (by show (!(ltBytes s.2 last.2 || eqBytes s.2 last.2)) = true; rw [leq_eq, c4]; rfl) ?_
              refine wp_move (by conv => lhs; whnf) ?_
              refine wp_move (by conv => lhs; whnf) ?_
              refine wp_move (by conv => lhs; whnf) ?_
              refine wp_move (by conv => lhs; whnf) ?_
              refine wp_look (l_ixSl rfl rfl hlt) ?_
              refine wp_look (l_fieldAddr rfl) ?_
              refine wp_look (l_load1 rfl e2 (nth_take2' e4)) ?_
              refine wp_look (l_ixSl rfl rfl hOb) ?_
              refine wp_look (l_fieldAddr rfl) ?_
              refine wp_turnDo (tn_store rfl rfl rfl how.1 rfl (by show 0 + (O.length - 1) * 2 + 1 + 1 ≤ _; rw [List.length_append, flatS_length]; omega)) ?_
              refine wp_end ?_
              refine wp_move (by conv => lhs; whnf) ?_
              refine wp_look (l_incN rfl rfl (by omega)) ?_
              refine wp_move (by conv => lhs; whnf) ?_
              refine wp_end ?_
              refine ⟨L.length - (i + 1), by omega, i + 1, _, rfl, hlt, ⟨rfl, rfl, rfl⟩, rfl, hle.put hbo how.2 _, ?_⟩
              rw [hnext, hmelt]
              refine .inr ⟨?_, bo, ?_, ⟨?_, how.2⟩, hbo⟩
              · intro e; apply hne; apply List.eq_nil_of_length_eq_zero; rw [← List.length_set (as := O) (i := O.length - 1) (a := (last.1, s.2)), e]; rfl
              · rw [List.length_set]; rfl
              · rw [← putAt_hi O [] s.2 hlast]; exact Heap.get_put_eq _ _ _
            · rw [Bool.not_eq_true] at c4
              have hmelt : meltS last s = last := by unfold meltS; rw [c1, c3, c4]; rfl
              rw [hmelt, hset] at hnext
              refine wp_seq ?_
              refine wp_seq ?_
              refine wp_move (by conv => lhs; whnf) ?_
              refine wp_move (by conv => lhs; whnf) ?_
              refine wp_look (l_lenSl rfl) ?_
              refine wp_look (l_lssI rfl rfl rfl) ?_
              refine wp_end ?_
              refine wp_condT rfl (decide_eq_true (by show (i : Int) < (L.length : Int); omega)) ?_
              refine wp_skip ?_
              refine wp_seq ?_
              refine wp_block ?_
              refine wp_seq ?_
              refine wp_move (by conv => lhs; whnf) ?_
              refine wp_look (l_lenSl rfl) ?_
              refine wp_look (l_decN rfl rfl (by omega) (by omega)) ?_
              refine wp_move (by conv => lhs; whnf) ?_
              refine wp_end ?_
              refine wp_seq ?_
              refine wp_seq ?_
              refine wp_draw ?_
              refine wp_dMove (by conv => lhs; whnf) rfl ?_
              refine wp_dLook (l_lssI rfl rfl rfl) rfl ?_
              refine wp_dKnow (b := false) rfl (decide_eq_false (by show ¬ ((O.length - 1 : Nat) : Int) < (0 : Int); omega)) rfl ?_
              refine wp_dYes rfl ?_
              refine wp_dMove (by conv => lhs; whnf) rfl ?_
              refine wp_dYes rfl ?_
              refine wp_dMove (by conv => lhs; whnf) rfl ?_
              refine wp_dYes rfl ?_
              refine wp_dLook (l_ixSl rfl rfl hOb) rfl ?_
              refine wp_dYes rfl ?_
              refine wp_dLook (l_fieldAddr rfl) rfl ?_
              refine wp_dYes rfl ?_
              refine wp_dLook (l_load1 rfl how.1 hHi) rfl ?_
              refine wp_dYes rfl ?_
              refine wp_dLook (l_neS rfl rfl) rfl ?_
              refine wp_dYes rfl ?_
              refine wp_dKnow (b := true) rfl (by show (!(eqBytes last.2 [])) = true; rw [c1]; rfl) rfl ?_
              refine wp_dYes rfl ?_
              refine wp_dMove (by conv => lhs; whnf) rfl ?_
              refine wp_dYes rfl ?_
              refine wp_dMove (by conv => lhs; whnf) rfl ?_
              refine wp_dYes rfl ?_
              refine wp_dLook (l_ixSl rfl rfl hOb) rfl ?_
              refine wp_dYes rfl ?_
              refine wp_dLook (l_fieldAddr rfl) rfl ?_
              refine wp_dYes rfl ?_
              refine wp_dLook (l_load1 rfl how.1 hHi) rfl ?_
              refine wp_dYes rfl ?_
              refine wp_dMove (by conv => lhs; whnf) rfl ?_
              refine wp_dYes rfl ?_
              refine wp_dMove (by conv => lhs; whnf) rfl ?_
              refine wp_dYes rfl ?_
              refine wp_dLook (l_ixSl rfl rfl hlt) rfl ?_
              refine wp_dYes rfl ?_
              refine wp_dLook (l_fieldAddr rfl) rfl ?_
              refine wp_dYes rfl ?_
              refine wp_dLook (l_load1 rfl e2 (nth_take2 e4)) rfl ?_
              refine wp_dYes rfl ?_
              refine wp_dLook (l_lss rfl rfl) rfl ?_
              refine wp_dYes rfl ?_
              refine wp_dLook (l_pick1 rfl (by conv => lhs; whnf)) rfl ?_
              refine wp_dLook (l_pick0 rfl (by conv => lhs; whnf)) rfl ?_
              refine wp_dEnd ?_
              refine wp_condF rfl c2 ?_
              refine wp_skip ?_
              refine wp_seq ?_
              refine wp_draw ?_
              refine wp_dMove (by conv => lhs; whnf) rfl ?_
              refine wp_dMove (by conv => lhs; whnf) rfl ?_
              refine wp_dLook (l_ixSl rfl rfl hOb) rfl ?_
              refine wp_dLook (l_fieldAddr rfl) rfl ?_
              refine wp_dLook (l_load1 rfl how.1 hHi) rfl ?_
              refine wp_dLook (l_neS rfl rfl) rfl ?_
              refine wp_dKnow (b := true) rfl (by show (!(eqBytes last.2 [])) = true; rw [c1]; rfl) rfl ?_
              refine wp_dYes rfl ?_
              refine wp_dMove (by conv => lhs; whnf) rfl ?_
              refine wp_dYes rfl ?_
              refine wp_dMove (by conv => lhs; whnf) rfl ?_
              refine wp_dYes rfl ?_
              refine wp_dLook (l_ixSl rfl rfl hlt) rfl ?_
              refine wp_dYes rfl ?_
              refine wp_dLook (l_fieldAddr rfl) rfl ?_
              refine wp_dYes rfl ?_
              refine wp_dLook (l_load1 rfl e2 (nth_take2' e4)) rfl ?_
              refine wp_dYes rfl ?_
              refine wp_dLook (l_eqS rfl rfl) rfl ?_
              refine wp_dYes rfl ?_
              refine wp_dKnow (b := false) rfl c3 rfl ?_
              refine wp_dYes rfl ?_
              refine wp_dMove (by conv => lhs; whnf) rfl ?_
              refine wp_dYes rfl ?_
              refine wp_dMove (by conv => lhs; whnf) rfl ?_
              refine wp_dYes rfl ?_
              refine wp_dLook (l_ixSl rfl rfl hlt) rfl ?_
              refine wp_dYes rfl ?_
              refine wp_dLook (l_fieldAddr rfl) rfl ?_
              refine wp_dYes rfl ?_
              refine wp_dLook (l_load1 rfl e2 (nth_take2' e4)) rfl ?_
              refine wp_dYes rfl ?_
              refine wp_dMove (by conv => lhs; whnf) rfl ?_
              refine wp_dYes rfl ?_
              refine wp_dMove (by conv => lhs; whnf) rfl ?_
              refine wp_dYes rfl ?_
              refine wp_dLook (l_ixSl rfl rfl hOb) rfl ?_
              refine wp_dYes rfl ?_
              refine wp_dLook (l_fieldAddr rfl) rfl ?_
              refine wp_dYes rfl ?_
              refine wp_dLook (l_load1 rfl how.1 hHi) rfl ?_
              refine wp_dYes rfl ?_
              refine wp_dLook (l_gtr rfl rfl) rfl ?_
              refine wp_dYes rfl ?_
              refine wp_dLook (l_pick0 rfl (by conv => lhs; whnf)) rfl ?_
              refine wp_dLook (l_pick1 rfl (by conv => lhs; whnf)) rfl ?_
              refine wp_dEnd ?_
              refine wp_condF rfl (by show (!(ltBytes s.2 last.2 || eqBytes s.2 last.2)) = false; rw [leq_eq, c4]; rfl) ?_
              refine wp_skip ?_
              refine wp_move (by conv => lhs; whnf) ?_
              refine wp_look (l_incN rfl rfl (by omega)) ?_
              refine wp_move (by conv => lhs; whnf) ?_
              refine wp_end ?_
              refine ⟨L.length - (i + 1), by omega, i + 1, _, rfl, hlt, ⟨rfl, rfl, rfl⟩, rfl, hle, ?_⟩
              rw [hnext]
              exact .inr ⟨hne, bo, rfl, how, hbo⟩
  ·
    refine wp_seq ?_
    refine wp_seq ?_
    refine wp_move (by conv => lhs; whnf) ?_
    refine wp_move (by conv => lhs; whnf) ?_
    refine wp_look (l_lenSl rfl) ?_
    refine wp_look (l_lssI rfl rfl rfl) ?_
    refine wp_end ?_
    refine wp_condF rfl (decide_eq_false (by show ¬ (i : Int) < (L.length : Int); omega)) ?_
    refine wp_exit ?_
    refine exit_here rfl ?_
    refine wp_seq ?_
    refine wp_move (by conv => lhs; whnf) ?_
    refine wp_move (by conv => lhs; whnf) ?_
    refine wp_end ?_
    refine wp_ret ?_
    rw [List.take_of_length_le (by omega), hJ] at ho
    exact ⟨rfl, _, rfl, ho.sl, le1.trans hle⟩
theorem over25 {E : Env} (H : Has E) (n : Nat) (hs h : Heap) (v : Value) (O : List Sp) (ho : OutSl hs h v O) (hle0 : hs.Le h) (hbig : O.length < 100000) (hf : O.length + 3 < n) : (enter E (ctx E n) 25 [v] h).Wp fun _ h' => hs.Le h' := by
  rcases ho with ⟨rfl, rfl⟩ | ⟨hne, bo, rfl, how, hbo⟩
  · refine H.go (k := k25) rfl (by decide) (by decide) ?_
    unfold k25
    refine wp_fn (Nat.le_of_ble_eq_true rfl) ?_
    dsimp only
    refine wp_seq ?_
    refine wp_move (by conv => lhs; whnf) ?_
    refine wp_end ?_
    refine wp_block ?_
    refine wp_loop (fun q t x h' => (g2 t = .int .i64 (Int.ofNat 0) ∧ g0 t = .slice none 0 0) ∧ x = ⟨[], none, none⟩ ∧ h' = h) 0 ⟨⟨rfl, rfl⟩, rfl, rfl⟩ (by rw [ctx_fuel]; omega) ?_
    rintro q t x h' ⟨⟨r2, r0⟩, rfl, rfl⟩
    obtain ⟨t0, rfl⟩ : ∃ t0, t = p2 (.int .i64 (Int.ofNat 0)) (p0 (.slice none 0 0) t0) := ⟨t, by rw [← r2, ← r0]; rfl⟩
    clear r2 r0
    refine wp_seq ?_
    refine wp_seq ?_
    refine wp_move (by conv => lhs; whnf) ?_
    refine wp_move (by conv => lhs; whnf) ?_
    refine wp_look (l_lenSl rfl) ?_
    refine wp_look (l_lssI rfl rfl rfl) ?_
    refine wp_end ?_
    refine wp_condF rfl rfl ?_
    refine wp_exit ?_
    refine exit_here rfl ?_
    exact ⟨rfl, _, rfl, hle0⟩
  · refine H.go (k := k25) rfl (by decide) (by decide) ?_
    unfold k25
    refine wp_fn (Nat.le_of_ble_eq_true rfl) ?_
    dsimp only
    refine wp_seq ?_
    refine wp_move (by conv => lhs; whnf) ?_
    refine wp_end ?_
    refine wp_block ?_
    refine wp_loop (fun q t x h' => ∃ (i : Nat) (O' : List Sp), q = O.length - i ∧ i ≤ O.length ∧ (g2 t = .int .i64 (Int.ofNat i) ∧ g0 t = .slice (some ⟨bo, 0, some 2⟩) O.length O.length) ∧ x = ⟨[], none, none⟩ ∧ hs.Le h' ∧ O'.length = O.length ∧ Owns h' bo O' []) O.length ⟨0, O, rfl, Nat.zero_le _, ⟨rfl, rfl⟩, rfl, hle0, rfl, how⟩ (by rw [ctx_fuel]; omega) ?_
    rintro q t x h' ⟨i, O', rfl, hi, ⟨r2, r0⟩, rfl, hle, hO', how'⟩
    obtain ⟨t0, rfl⟩ : ∃ t0, t = p2 (.int .i64 (Int.ofNat i)) (p0 (.slice (some ⟨bo, 0, some 2⟩) O.length O.length) t0) := ⟨t, by rw [← r2, ← r0]; rfl⟩
    clear r2 r0
    by_cases hlt : i < O.length
    ·
      refine wp_seq ?_
      refine wp_seq ?_
      refine wp_move (by conv => lhs; whnf) ?_
      refine wp_move (by conv => lhs; whnf) ?_
      refine wp_look (l_lenSl rfl) ?_
      refine wp_look (l_lssI rfl rfl rfl) ?_
      refine wp_end ?_
      refine wp_condT rfl (decide_eq_true (by show (i : Int) < (O.length : Int); omega)) ?_
      refine wp_skip ?_
      refine wp_seq ?_
      refine wp_block ?_
      refine wp_move (by conv => lhs; whnf) ?_
      refine wp_move (by conv => lhs; whnf) ?_
      refine wp_look rfl ?_
      refine wp_look (l_ixSl rfl rfl hlt) ?_
      refine wp_turnDo (tn_store rfl rfl rfl how'.1 rfl (by show 0 + i * 2 + 2 ≤ _; rw [List.length_append, flatS_length]; omega)) ?_
      refine wp_end ?_
      refine wp_move (by conv => lhs; whnf) ?_
      refine wp_look (l_incN rfl rfl (by omega)) ?_
      refine wp_move (by conv => lhs; whnf) ?_
      refine wp_end ?_
      refine ⟨O.length - (i + 1), by omega, i + 1, O'.set i ([63], [63]), rfl, hlt, ⟨rfl, rfl⟩, rfl, hle.put hbo how'.2 _, by rw [List.length_set]; exact hO', ?_, how'.2⟩
      rw [← putAt_flat1 O' [] ([63], [63]) (by omega)]; exact Heap.get_put_eq _ _ _
    ·
      refine wp_seq ?_
      refine wp_seq ?_
      refine wp_move (by conv => lhs; whnf) ?_
      refine wp_move (by conv => lhs; whnf) ?_
      refine wp_look (l_lenSl rfl) ?_
      refine wp_look (l_lssI rfl rfl rfl) ?_
      refine wp_end ?_
      refine wp_condF rfl (decide_eq_false (by show ¬ (i : Int) < (O.length : Int); omega)) ?_
      refine wp_exit ?_
      refine exit_here rfl ?_
      exact ⟨rfl, _, rfl, hle⟩
theorem refCovers29 {E : Env} (H : Has E) (n : Nat) (l : List Sp) (s : Sp) (ao : Option Addr) (m ca : Nat) (h : Heap) (S : Sl h ao m ca l) (hbig : m < 100000) (hf : m + 3 < n) : (enter E (ctx E (n + 3)) 29 [.slice ao m ca, .agg ⟨svs s⟩] h).Wp fun v h' => v = .bool (emptyS s || coversS (joinS l) s) ∧ h.Le h' := by
  refine H.go (k := k29) rfl (by decide) (by decide) ?_
  unfold k29
  refine wp_fn (Nat.le_of_ble_eq_true rfl) ?_
  dsimp only
  refine wp_seq ?_
  refine wp_boxH rfl fun h0 bs le0 gs ns => ?_
  refine wp_move (by conv => lhs; whnf) ?_
  refine wp_end ?_
  refine wp_seq ?_
  refine wp_seq ?_
  refine wp_look (l_loadN rfl gs rfl) ?_
  refine wp_callL (wp_func rfl (refEmpty15 H _ s h0)) fun h1 le1 => ?_
  refine wp_end ?_
  by_cases hemp : emptyS s = true
  ·
    refine wp_condT rfl hemp ?_
    refine wp_seq ?_
    refine wp_move (by conv => lhs; whnf) ?_
    refine wp_end ?_
    refine wp_ret ?_
    refine ⟨rfl, _, rfl, ?_, le0.trans le1⟩
    rw [hemp]; rfl
  · rw [Bool.not_eq_true] at hemp
    refine wp_condF rfl hemp ?_
    refine wp_skip ?_
    refine wp_seq ?_
    refine wp_move (by conv => lhs; whnf) ?_
    have S1 := S.le (le0.trans le1)
    refine wp_callIn (wp_func rfl (refJoin24 H n l ao m ca h1 S1 hbig hf)) ?_
    rintro vj h2 ⟨⟨aj, cj, rfl, SJ⟩, le2⟩
    refine wp_move (by conv => lhs; whnf) ?_
    refine wp_end ?_
    refine wp_seq ?_
    refine wp_seq ?_
    refine wp_move (by conv => lhs; whnf) ?_
    refine wp_end ?_
    refine wp_block ?_
    have hJ : (joinS l).length ≤ m := by have := join_length l; have := S.len; omega
    have gs2 := ((le1.trans le2).get _ ns).trans gs
    have ns2 : bs < h2.next := Nat.lt_of_lt_of_le ns (le1.trans le2).next
    revert SJ hJ
    generalize joinS l = J
    intro SJ hJ
    refine wp_loop (fun q t x h' => ∃ (i : Nat), q = J.length - i ∧ i ≤ J.length ∧ (g6 t = .int .i64 (Int.ofNat i) ∧ g5 t = .slice aj J.length cj ∧ g3 t = .pointer (some ⟨bs, 0, none⟩)) ∧ x = ⟨[], none, none⟩ ∧ h' = h2 ∧ coversS (J.take i) s = false) J.length ⟨0, rfl, Nat.zero_le _, ⟨rfl, rfl, rfl⟩, rfl, rfl, rfl⟩ (by rw [ctx_fuel]; omega) ?_
    rintro q t x h' ⟨i, rfl, hi, ⟨r6, r5, r3⟩, rfl, rfl, hno⟩
    obtain ⟨t0, rfl⟩ : ∃ t0, t = p6 (.int .i64 (Int.ofNat i)) (p5 (.slice aj J.length cj) (p3 (.pointer (some ⟨bs, 0, none⟩)) t0)) := ⟨t, by rw [← r6, ← r5, ← r3]; rfl⟩
    clear r6 r5 r3
    by_cases hlt : i < J.length
    · obtain ⟨y, hy⟩ : ∃ y, J[i]? = some y := ⟨J[i], List.getElem?_eq_getElem hlt⟩
      obtain ⟨pa, w1, cs1, rfl, e2, e3, e4⟩ := SJ.rd i y hy
      have htk : coversS (J.take (i + 1)) s = (!(ltBytes s.1 y.1) && (eqBytes y.2 [] || (!(eqBytes s.2 []) && !(ltBytes y.2 s.2)))) := by
        rw [List.take_add_one, hy]
        unfold coversS at hno ⊢
        rw [List.any_append, hno]
        show (false || ((!(ltBytes s.1 y.1) && (eqBytes y.2 [] || (!(eqBytes s.2 []) && !(ltBytes y.2 s.2)))) || false)) = _
        rw [Bool.false_or, Bool.or_false]
      have hyes : (!(ltBytes s.1 y.1) && (eqBytes y.2 [] || (!(eqBytes s.2 []) && !(ltBytes y.2 s.2)))) = true → coversS J s = true := fun e => by
        unfold coversS; rw [List.any_eq_true]; exact ⟨y, List.mem_of_getElem? hy, e⟩
      cases d1 : ltBytes s.1 y.1 with
      | true =>
        refine wp_seq ?_
        refine wp_seq ?_
        refine wp_move (by conv => lhs; whnf) ?_
        refine wp_move (by conv => lhs; whnf) ?_
        refine wp_look (l_lenSl rfl) ?_
        refine wp_look (l_lssI rfl rfl rfl) ?_
        refine wp_end ?_
        refine wp_condT rfl (decide_eq_true (by show (i : Int) < (J.length : Int); omega)) ?_
        refine wp_skip ?_
        refine wp_seq ?_
        refine wp_block ?_
        refine wp_seq ?_
        refine wp_draw ?_
        refine wp_dMove (by conv => lhs; whnf) rfl ?_
        refine wp_dMove (by conv => lhs; whnf) rfl ?_
        refine wp_dLook (l_ixSl rfl rfl hlt) rfl ?_
        refine wp_dLook (l_fieldAddr rfl) rfl ?_
        refine wp_dLook (l_load1 rfl e2 (nth_take2 e4)) rfl ?_
        refine wp_dLook (l_fieldAddr rfl) rfl ?_
        refine wp_dLook (l_load1 rfl gs2 rfl) rfl ?_
        refine wp_dLook (l_leq rfl rfl) rfl ?_
        refine wp_dKnow (b := false) rfl (by show (ltBytes y.1 s.1 || eqBytes y.1 s.1) = false; rw [leq_eq, d1]; rfl) rfl ?_
        refine wp_dNo rfl ?_
        refine wp_dNo rfl ?_
        refine wp_dNo rfl ?_
        refine wp_dNo rfl ?_
        refine wp_dNo rfl ?_
        refine wp_dNo rfl ?_
        refine wp_dNo rfl ?_
        refine wp_dNo rfl ?_
        refine wp_dNo rfl ?_
        refine wp_dNo rfl ?_
        refine wp_dNo rfl ?_
        refine wp_dNo rfl ?_
        refine wp_dNo rfl ?_
        refine wp_dNo rfl ?_
        refine wp_dNo rfl ?_
        refine wp_dNo rfl ?_
        refine wp_dNo rfl ?_
        refine wp_dNo rfl ?_
        refine wp_dNo rfl ?_
        refine wp_dNo rfl ?_
        refine wp_dNo rfl ?_
        refine wp_dLook (l_pick0 rfl (by conv => lhs; whnf)) rfl ?_
        refine wp_dEnd ?_
        refine wp_condF rfl rfl ?_
        refine wp_skip ?_
        refine wp_move (by conv => lhs; whnf) ?_
        refine wp_look (l_incN rfl rfl (by omega)) ?_
        refine wp_move (by conv => lhs; whnf) ?_
        refine wp_end ?_
        refine ⟨J.length - (i + 1), by omega, i + 1, rfl, hlt, ⟨rfl, rfl, rfl⟩, rfl, rfl, ?_⟩
        rw [htk, d1]; rfl
      | false =>
        cases d2 : eqBytes y.2 [] with
        | true =>
          refine wp_seq ?_
          refine wp_seq ?_
          refine wp_move (by conv => lhs; whnf) ?_
          refine wp_move (by conv => lhs; whnf) ?_
          refine wp_look (l_lenSl rfl) ?_
          refine wp_look (l_lssI rfl rfl rfl) ?_
          refine wp_end ?_
          refine wp_condT rfl (decide_eq_true (by show (i : Int) < (J.length : Int); omega)) ?_
          refine wp_skip ?_
          refine wp_seq ?_
          refine wp_block ?_
          refine wp_seq ?_
          refine wp_draw ?_
          refine wp_dMove (by conv => lhs; whnf) rfl ?_
          refine wp_dMove (by conv => lhs; whnf) rfl ?_
          refine wp_dLook (l_ixSl rfl rfl hlt) rfl ?_
          refine wp_dLook (l_fieldAddr rfl) rfl ?_
          refine wp_dLook (l_load1 rfl e2 (nth_take2 e4)) rfl ?_
          refine wp_dLook (l_fieldAddr rfl) rfl ?_
          refine wp_dLook (l_load1 rfl gs2 rfl) rfl ?_
          refine wp_dLook (l_leq rfl rfl) rfl ?_
          refine wp_dKnow (b := true) rfl (by show (ltBytes y.1 s.1 || eqBytes y.1 s.1) = true; rw [leq_eq, d1]; rfl) rfl ?_
          refine wp_dYes rfl ?_
          refine wp_dMove (by conv => lhs; whnf) rfl ?_
          refine wp_dYes rfl ?_
          refine wp_dMove (by conv => lhs; whnf) rfl ?_
          refine wp_dYes rfl ?_
          refine wp_dLook (l_ixSl rfl rfl hlt) rfl ?_
          refine wp_dYes rfl ?_
          refine wp_dLook (l_fieldAddr rfl) rfl ?_
          refine wp_dYes rfl ?_
          refine wp_dLook (l_load1 rfl e2 (nth_take2' e4)) rfl ?_
          refine wp_dYes rfl ?_
          refine wp_dLook (l_eqS rfl rfl) rfl ?_
          refine wp_dYes rfl ?_
          refine wp_dKnow (b := true) rfl d2 rfl ?_
          refine wp_dNo rfl ?_
          refine wp_dNo rfl ?_
          refine wp_dNo rfl ?_
          refine wp_dNo rfl ?_
          refine wp_dNo rfl ?_
          refine wp_dNo rfl ?_
          refine wp_dNo rfl ?_
          refine wp_dNo rfl ?_
          refine wp_dNo rfl ?_
          refine wp_dNo rfl ?_
          refine wp_dNo rfl ?_
          refine wp_dNo rfl ?_
          refine wp_dNo rfl ?_
          refine wp_dYes rfl ?_
          refine wp_dLook (l_pick1 rfl (by conv => lhs; whnf)) rfl ?_
          refine wp_dLook (l_pick1 rfl (by conv => lhs; whnf)) rfl ?_
          refine wp_dEnd ?_
          refine wp_condT rfl rfl ?_
          refine wp_seq ?_
          refine wp_move (by conv => lhs; whnf) ?_
          refine wp_end ?_
          refine wp_ret ?_
          refine ⟨rfl, _, rfl, ?_, le0.trans (le1.trans le2)⟩
          rw [hyes (by rw [d1, d2]; rfl), Bool.or_true]; rfl
        | false =>
          cases d3 : eqBytes s.2 [] with
          | true =>
            refine wp_seq ?_
            refine wp_seq ?_
            refine wp_move (by conv => lhs; whnf) ?_
            refine wp_move (by conv => lhs; whnf) ?_
            refine wp_look (l_lenSl rfl) ?_
            refine wp_look (l_lssI rfl rfl rfl) ?_
            refine wp_end ?_
            refine wp_condT rfl (decide_eq_true (by show (i : Int) < (J.length : Int); omega)) ?_
            refine wp_skip ?_
            refine wp_seq ?_
            refine wp_block ?_
            refine wp_seq ?_
            refine wp_draw ?_
            refine wp_dMove (by conv => lhs; whnf) rfl ?_
            refine wp_dMove (by conv => lhs; whnf) rfl ?_
            refine wp_dLook (l_ixSl rfl rfl hlt) rfl ?_
            refine wp_dLook (l_fieldAddr rfl) rfl ?_
            refine wp_dLook (l_load1 rfl e2 (nth_take2 e4)) rfl ?_
            refine wp_dLook (l_fieldAddr rfl) rfl ?_
            refine wp_dLook (l_load1 rfl gs2 rfl) rfl ?_
            refine wp_dLook (l_leq rfl rfl) rfl ?_
            refine wp_dKnow (b := true) rfl (by show (ltBytes y.1 s.1 || eqBytes y.1 s.1) = true; rw [leq_eq, d1]; rfl) rfl ?_
            refine wp_dYes rfl ?_
            refine wp_dMove (by conv => lhs; whnf) rfl ?_
            refine wp_dYes rfl ?_
            refine wp_dMove (by conv => lhs; whnf) rfl ?_
            refine wp_dYes rfl ?_
            refine wp_dLook (l_ixSl rfl rfl hlt) rfl ?_
            refine wp_dYes rfl ?_
            refine wp_dLook (l_fieldAddr rfl) rfl ?_
            refine wp_dYes rfl ?_
            refine wp_dLook (l_load1 rfl e2 (nth_take2' e4)) rfl ?_
            refine wp_dYes rfl ?_
            refine wp_dLook (l_eqS rfl rfl) rfl ?_
            refine wp_dYes rfl ?_
            refine wp_dKnow (b := false) rfl d2 rfl ?_
            refine wp_dYes rfl ?_
            refine wp_dLook (l_fieldAddr rfl) rfl ?_
            refine wp_dYes rfl ?_
            refine wp_dLook (l_load1 rfl gs2 rfl) rfl ?_
            refine wp_dYes rfl ?_
            refine wp_dLook (l_neS rfl rfl) rfl ?_
            refine wp_dYes rfl ?_
            refine wp_dKnow (b := false) rfl (by show (!(eqBytes s.2 [])) = false; rw [d3]; rfl) rfl ?_
            refine wp_dNo rfl ?_
            refine wp_dNo rfl ?_
            refine wp_dNo rfl ?_
            refine wp_dNo rfl ?_
            refine wp_dNo rfl ?_
            refine wp_dNo rfl ?_
            refine wp_dNo rfl ?_
            refine wp_dNo rfl ?_
            refine wp_dYes rfl ?_
            refine wp_dLook (l_pick0 rfl (by conv => lhs; whnf)) rfl ?_
            refine wp_dYes rfl ?_
            refine wp_dLook (l_pick0 rfl (by conv => lhs; whnf)) rfl ?_
            refine wp_dLook (l_pick1 rfl (by conv => lhs; whnf)) rfl ?_
            refine wp_dEnd ?_
            refine wp_condF rfl rfl ?_
            refine wp_skip ?_
            refine wp_move (by conv => lhs; whnf) ?_
            refine wp_look (l_incN rfl rfl (by omega)) ?_
            refine wp_move (by conv => lhs; whnf) ?_
            refine wp_end ?_
            refine ⟨J.length - (i + 1), by omega, i + 1, rfl, hlt, ⟨rfl, rfl, rfl⟩, rfl, rfl, ?_⟩
            rw [htk, d1, d2, d3]; rfl
          | false =>
            cases d4 : ltBytes y.2 s.2 with
            | true =>
              refine wp_seq ?_
              refine wp_seq ?_
              refine wp_move (by conv => lhs; whnf) ?_
              refine wp_move (by conv => lhs; whnf) ?_
              refine wp_look (l_lenSl rfl) ?_
              refine wp_look (l_lssI rfl rfl rfl) ?_
              refine wp_end ?_
              refine wp_condT rfl (decide_eq_true (by show (i : Int) < (J.length : Int); omega)) ?_
              refine wp_skip ?_
              refine wp_seq ?_
              refine wp_block ?_
              refine wp_seq ?_
              refine wp_draw ?_
              refine wp_dMove (by conv => lhs; whnf) rfl ?_
              refine wp_dMove (by conv => lhs; whnf) rfl ?_
              refine wp_dLook (l_ixSl rfl rfl hlt) rfl ?_
              refine wp_dLook (l_fieldAddr rfl) rfl ?_
              refine wp_dLook (l_load1 rfl e2 (nth_take2 e4)) rfl ?_
              refine wp_dLook (l_fieldAddr rfl) rfl ?_
              refine wp_dLook (l_load1 rfl gs2 rfl) rfl ?_
              refine wp_dLook (l_leq rfl rfl) rfl ?_
              refine wp_dKnow (b := true) rfl (by show (ltBytes y.1 s.1 || eqBytes y.1 s.1) = true; rw [leq_eq, d1]; rfl) rfl ?_
              refine wp_dYes rfl ?_
              refine wp_dMove (by conv => lhs; whnf) rfl ?_
              refine wp_dYes rfl ?_
              refine wp_dMove (by conv => lhs; whnf) rfl ?_
              refine wp_dYes rfl ?_
              refine wp_dLook (l_ixSl rfl rfl hlt) rfl ?_
              refine wp_dYes rfl ?_
              refine wp_dLook (l_fieldAddr rfl) rfl ?_
              refine wp_dYes rfl ?_
              refine wp_dLook (l_load1 rfl e2 (nth_take2' e4)) rfl ?_
              refine wp_dYes rfl ?_
              refine wp_dLook (l_eqS rfl rfl) rfl ?_
              refine wp_dYes rfl ?_
              refine wp_dKnow (b := false) rfl d2 rfl ?_
              refine wp_dYes rfl ?_
              refine wp_dLook (l_fieldAddr rfl) rfl ?_
              refine wp_dYes rfl ?_
              refine wp_dLook (l_load1 rfl gs2 rfl) rfl ?_
              refine wp_dYes rfl ?_
              refine wp_dLook (l_neS rfl rfl) rfl ?_
              refine wp_dYes rfl ?_
              refine wp_dKnow (b := true) rfl (by show (!(eqBytes s.2 [])) = true; rw [d3]; rfl) rfl ?_
              refine wp_dYes rfl ?_
              refine wp_dLook (l_fieldAddr rfl) rfl ?_
              refine wp_dYes rfl ?_
              refine wp_dLook (l_load1 rfl gs2 rfl) rfl ?_
              refine wp_dYes rfl ?_
              refine wp_dMove (by conv => lhs; whnf) rfl ?_
              refine wp_dYes rfl ?_
              refine wp_dMove (by conv => lhs; whnf) rfl ?_
              refine wp_dYes rfl ?_
              refine wp_dLook (l_ixSl rfl rfl hlt) rfl ?_
              refine wp_dYes rfl ?_
              refine wp_dLook (l_fieldAddr rfl) rfl ?_
              refine wp_dYes rfl ?_
              refine wp_dLook (l_load1 rfl e2 (nth_take2' e4)) rfl ?_
              refine wp_dYes rfl ?_
              refine wp_dLook (l_leq rfl rfl) rfl ?_
              refine wp_dYes rfl ?_
              refine wp_dLook (l_pick1 rfl (by conv => lhs; whnf)) rfl ?_
              refine wp_dYes rfl ?_
              refine wp_dLook (l_pick0 rfl (by conv => lhs; whnf)) rfl ?_
              refine wp_dLook (l_pick1 rfl (by conv => lhs; whnf)) rfl ?_
              refine wp_dEnd ?_
              refine wp_condF rfl (by show (ltBytes s.2 y.2 || eqBytes s.2 y.2) = false; rw [leq_eq, d4]; rfl) ?_
              refine wp_skip ?_
              refine wp_move (by conv => lhs; whnf) ?_
              refine wp_look (l_incN rfl rfl (by omega)) ?_
              refine wp_move (by conv => lhs; whnf) ?_
              refine wp_end ?_
              refine ⟨J.length - (i + 1), by omega, i + 1, rfl, hlt, ⟨rfl, rfl, rfl⟩, rfl, rfl, ?_⟩
              rw [htk, d1, d2, d3, d4]; rfl
            | false =>
              refine wp_seq ?_
              refine wp_seq ?_
              refine wp_move (by conv => lhs; whnf) ?_
              refine wp_move (by conv => lhs; whnf) ?_
              refine wp_look (l_lenSl rfl) ?_
              refine wp_look (l_lssI rfl rfl rfl) ?_
              refine wp_end ?_
              refine wp_condT rfl (decide_eq_true (by show (i : Int) < (J.length : Int); omega)) ?_
              refine wp_skip ?_
              refine wp_seq ?_
              refine wp_block ?_
              refine wp_seq ?_
              refine wp_draw ?_
              refine wp_dMove (by conv => lhs; whnf) rfl ?_
              refine wp_dMove (by conv => lhs; whnf) rfl ?_
              refine wp_dLook (l_ixSl rfl rfl hlt) rfl ?_
              refine wp_dLook (l_fieldAddr rfl) rfl ?_
              refine wp_dLook (l_load1 rfl e2 (nth_take2 e4)) rfl ?_
              refine wp_dLook (l_fieldAddr rfl) rfl ?_
              refine wp_dLook (l_load1 rfl gs2 rfl) rfl ?_
              refine wp_dLook (l_leq rfl rfl) rfl ?_
              refine wp_dKnow (b := true) rfl (by show (ltBytes y.1 s.1 || eqBytes y.1 s.1) = true; rw [leq_eq, d1]; rfl) rfl ?_
              refine wp_dYes rfl ?_
              refine wp_dMove (by conv => lhs; whnf) rfl ?_
              refine wp_dYes rfl ?_
              refine wp_dMove (by conv => lhs; whnf) rfl ?_
              refine wp_dYes rfl ?_
              refine wp_dLook (l_ixSl rfl rfl hlt) rfl ?_
              refine wp_dYes rfl ?_
              refine wp_dLook (l_fieldAddr rfl) rfl ?_
              refine wp_dYes rfl ?_
              refine wp_dLook (l_load1 rfl e2 (nth_take2' e4)) rfl ?_
              refine wp_dYes rfl ?_
              refine wp_dLook (l_eqS rfl rfl) rfl ?_
              refine wp_dYes rfl ?_
              refine wp_dKnow (b := false) rfl d2 rfl ?_
              refine wp_dYes rfl ?_
              refine wp_dLook (l_fieldAddr rfl) rfl ?_
              refine wp_dYes rfl ?_
              refine wp_dLook (l_load1 rfl gs2 rfl) rfl ?_
              refine wp_dYes rfl ?_
              refine wp_dLook (l_neS rfl rfl) rfl ?_
              refine wp_dYes rfl ?_
              refine wp_dKnow (b := true) rfl (by show (!(eqBytes s.2 [])) = true; rw [d3]; rfl) rfl ?_
              refine wp_dYes rfl ?_
              refine wp_dLook (l_fieldAddr rfl) rfl ?_
              refine wp_dYes rfl ?_
              refine wp_dLook (l_load1 rfl gs2 rfl) rfl ?_
              refine wp_dYes rfl ?_
              refine wp_dMove (by conv => lhs; whnf) rfl ?_
              refine wp_dYes rfl ?_
              refine wp_dMove (by conv => lhs; whnf) rfl ?_
              refine wp_dYes rfl ?_
              refine wp_dLook (l_ixSl rfl rfl hlt) rfl ?_
              refine wp_dYes rfl ?_
              refine wp_dLook (l_fieldAddr rfl) rfl ?_
              refine wp_dYes rfl ?_
              refine wp_dLook (l_load1 rfl e2 (nth_take2' e4)) rfl ?_
              refine wp_dYes rfl ?_
              refine wp_dLook (l_leq rfl rfl) rfl ?_
              refine wp_dYes rfl ?_
              refine wp_dLook (l_pick1 rfl (by conv => lhs; whnf)) rfl ?_
              refine wp_dYes rfl ?_
              refine wp_dLook (l_pick0 rfl (by conv => lhs; whnf)) rfl ?_
              refine wp_dLook (l_pick1 rfl (by conv => lhs; whnf)) rfl ?_
              refine wp_dEnd ?_
              refine wp_condT rfl (by show (ltBytes s.2 y.2 || eqBytes s.2 y.2) = true; rw [leq_eq, d4]; rfl) ?_
              refine wp_seq ?_
              refine wp_move (by conv => lhs; whnf) ?_
              refine wp_end ?_
              refine wp_ret ?_
              refine ⟨rfl, _, rfl, ?_, le0.trans (le1.trans le2)⟩
              rw [hyes (by rw [d1, d2, d3, d4]; rfl), Bool.or_true]; rfl
    ·
      refine wp_seq ?_
      refine wp_seq ?_
      refine wp_move (by conv => lhs; whnf) ?_
      refine wp_move (by conv => lhs; whnf) ?_
      refine wp_look (l_lenSl rfl) ?_
      refine wp_look (l_lssI rfl rfl rfl) ?_
      refine wp_end ?_
      refine wp_condF rfl (decide_eq_false (by show ¬ (i : Int) < (J.length : Int); omega)) ?_
      refine wp_exit ?_
      refine exit_here rfl ?_
      refine wp_seq ?_
      refine wp_move (by conv => lhs; whnf) ?_
      refine wp_end ?_
      refine wp_ret ?_
      rw [List.take_of_length_le (by omega)] at hno
      refine ⟨rfl, _, rfl, ?_, le0.trans (le1.trans le2)⟩
      rw [hemp, hno]; rfl
end
end SpanK
namespace SpanK
open Go Go.Eng Go.Proofs.Ytfknpknbgfkbdaa.Eng
set_option maxRecDepth 100000
set_option linter.unusedVariables false
theorem beqT (a : Bool) : (a == a) = true := by cases a <;> rfl
section
theorem joins6 {E : Env} (H : Has E) (n : Nat) (l : List Sp) (s : Sp) (k : Str) (ao : Option Addr) (m ca : Nat) (h : Heap) (S : Sl h ao m ca l) (hn : 300 ≤ n) : (enterK E (ctx E (n + 4)) k6 [.slice ao m ca, .agg ⟨svs s⟩, sv k] h).Wp fun v _ => v = .bool true := by
  unfold k6
  refine wp_fn (Nat.le_of_ble_eq_true rfl) ?_
  dsimp only
  have hm := S.len
  refine wp_seq ?_
  refine wp_boxH rfl fun h0 bs le0 gs ns => ?_
  by_cases c1 : longS l 60 = true
  ·
    refine wp_move (by conv => lhs; whnf) ?_
    refine wp_end ?_
    refine wp_seq ?_
    refine wp_seq ?_
    refine wp_move (by conv => lhs; whnf) ?_
    refine wp_callS (wp_func rfl (long10' H _ l ao m ca 60 hm h0 (S.le le0).rd (by omega) (by decide))) ?_
    refine wp_say (b := true) rfl c1 ?_
    refine wp_no rfl ?_
    refine wp_no rfl ?_
    refine wp_no rfl ?_
    refine wp_look (l_pick1 rfl (by conv => lhs; whnf)) ?_
    refine wp_say (b := true) rfl rfl ?_
    refine wp_no rfl ?_
    refine wp_no rfl ?_
    refine wp_no rfl ?_
    refine wp_look (l_pick1 rfl (by conv => lhs; whnf)) ?_
    refine wp_end ?_
    refine wp_condT rfl rfl ?_
    refine wp_seq ?_
    refine wp_move (by conv => lhs; whnf) ?_
    refine wp_end ?_
    refine wp_ret ?_
    exact ⟨rfl, _, rfl, rfl⟩
  · rw [Bool.not_eq_true] at c1
    have hm60 : m ≤ 60 := by
      unfold longS at c1
      rw [Bool.or_eq_false_iff, decide_eq_false_iff_not] at c1
      omega
    by_cases c2 : longS [s] 1 = true
    ·
      refine wp_move (by conv => lhs; whnf) ?_
      refine wp_end ?_
      refine wp_seq ?_
      refine wp_seq ?_
      refine wp_move (by conv => lhs; whnf) ?_
      refine wp_callS (wp_func rfl (long10' H _ l ao m ca 60 hm h0 (S.le le0).rd (by omega) (by decide))) ?_
      refine wp_say (b := false) rfl c1 ?_
      refine wp_yes rfl ?_
      refine wp_look (l_loadN rfl gs rfl) ?_
      refine wp_yes rfl ?_
      refine wp_buildH rfl fun h1 bb le1 gb nb => ?_
      refine wp_yes rfl ?_
      refine wp_callS (wp_func rfl (long10 H _ [s] _ 1 1 1 rfl h1 (reads_two gb nb) (by omega) (by decide) (by decide))) ?_
      refine wp_look (l_pick0 rfl (by conv => lhs; whnf)) ?_
      refine wp_say (b := true) rfl c2 ?_
      refine wp_no rfl ?_
      refine wp_no rfl ?_
      refine wp_no rfl ?_
      refine wp_look (l_pick1 rfl (by conv => lhs; whnf)) ?_
      refine wp_end ?_
      refine wp_condT rfl rfl ?_
      refine wp_seq ?_
      refine wp_move (by conv => lhs; whnf) ?_
      refine wp_end ?_
      refine wp_ret ?_
      exact ⟨rfl, _, rfl, rfl⟩
    · rw [Bool.not_eq_true] at c2
      by_cases c3 : 100 < k.length
      ·
        refine wp_move (by conv => lhs; whnf) ?_
        refine wp_end ?_
        refine wp_seq ?_
        refine wp_seq ?_
        refine wp_move (by conv => lhs; whnf) ?_
        refine wp_callS (wp_func rfl (long10' H _ l ao m ca 60 hm h0 (S.le le0).rd (by omega) (by decide))) ?_
        refine wp_say (b := false) rfl c1 ?_
        refine wp_yes rfl ?_
        refine wp_look (l_loadN rfl gs rfl) ?_
        refine wp_yes rfl ?_
        refine wp_buildH rfl fun h1 bb le1 gb nb => ?_
        refine wp_yes rfl ?_
        refine wp_callS (wp_func rfl (long10 H _ [s] _ 1 1 1 rfl h1 (reads_two gb nb) (by omega) (by decide) (by decide))) ?_
        refine wp_look (l_pick0 rfl (by conv => lhs; whnf)) ?_
        refine wp_say (b := false) rfl c2 ?_
        refine wp_yes rfl ?_
        refine wp_move (by conv => lhs; whnf) ?_
        refine wp_yes rfl ?_
        refine wp_look (l_lenStr rfl) ?_
        refine wp_yes rfl ?_
        refine wp_look (l_gtrI rfl rfl rfl) ?_
        refine wp_look (l_pick0 rfl (by conv => lhs; whnf)) ?_
        refine wp_end ?_
        refine wp_condT rfl (decide_eq_true (by show (100 : Int) < (k.length : Int); omega)) ?_
        refine wp_seq ?_
        refine wp_move (by conv => lhs; whnf) ?_
        refine wp_end ?_
        refine wp_ret ?_
        exact ⟨rfl, _, rfl, rfl⟩
      ·
        refine wp_move (by conv => lhs; whnf) ?_
        refine wp_end ?_
        refine wp_seq ?_
        refine wp_seq ?_
        refine wp_move (by conv => lhs; whnf) ?_
        refine wp_callS (wp_func rfl (long10' H _ l ao m ca 60 hm h0 (S.le le0).rd (by omega) (by decide))) ?_
        refine wp_say (b := false) rfl c1 ?_
        refine wp_yes rfl ?_
        refine wp_look (l_loadN rfl gs rfl) ?_
        refine wp_yes rfl ?_
        refine wp_buildH rfl fun h1 bb le1 gb nb => ?_
        refine wp_yes rfl ?_
        refine wp_callS (wp_func rfl (long10 H _ [s] _ 1 1 1 rfl h1 (reads_two gb nb) (by omega) (by decide) (by decide))) ?_
        refine wp_look (l_pick0 rfl (by conv => lhs; whnf)) ?_
        refine wp_say (b := false) rfl c2 ?_
        refine wp_yes rfl ?_
        refine wp_move (by conv => lhs; whnf) ?_
        refine wp_yes rfl ?_
        refine wp_look (l_lenStr rfl) ?_
        refine wp_yes rfl ?_
        refine wp_look (l_gtrI rfl rfl rfl) ?_
        refine wp_look (l_pick0 rfl (by conv => lhs; whnf)) ?_
        refine wp_end ?_
        refine wp_condF rfl (decide_eq_false (by show ¬ (100 : Int) < (k.length : Int); omega)) ?_
        refine wp_skip ?_
        refine wp_seq ?_
        refine wp_move (by conv => lhs; whnf) ?_
        have S1 := S.le (le0.trans le1)
        refine wp_callIn (wp_func rfl (copy21 H _ l ao m ca h1 S1 (by omega))) ?_
        rintro vi h2 ⟨ki, le2⟩
        obtain ⟨ai, ci, rfl, SI⟩ := ki.sl
        refine wp_move (by conv => lhs; whnf) ?_
        refine wp_end ?_
        refine wp_seq ?_
        refine wp_move (by conv => lhs; whnf) ?_
        refine wp_callIn (wp_func rfl (joins22 H _ l ai l.length ci rfl h2 SI.rd SI.bk (fun e => SI.zero e) (by omega) (by omega))) ?_
        rintro vj h3 ⟨hoj, le3⟩
        obtain ⟨aj, cj, hvj, SJ⟩ := hoj.sl
        subst hvj
        have hJ : (joinS l).length ≤ m := by have := join_length l; omega
        refine wp_move (by conv => lhs; whnf) ?_
        refine wp_end ?_
        refine wp_seq ?_
        refine wp_move (by conv => lhs; whnf) ?_
        refine wp_move (by conv => lhs; whnf) ?_
        have S3 := S1.le (le2.trans le3)
        refine wp_callIn (wp_func rfl (refJoin24 H (n + 1) l ao m ca h3 S3 (by omega) (by omega))) ?_
        rintro vr h4 ⟨⟨ar, cr, rfl, SR⟩, le4⟩
        refine wp_callS (wp_func rfl (H.go (k := k23) rfl (by decide) (by decide) (same23 E _ (joinS l) (joinS l) aj ar _ _ cj cr rfl rfl h4 (SJ.le le4).rd SR.rd (by rw [ctx_fuel]; omega) (by omega)))) ?_
        refine wp_say (b := true) rfl (decide_eq_true rfl) ?_
        refine wp_yes rfl ?_
        refine wp_move (by conv => lhs; whnf) ?_
        refine wp_yes rfl ?_
        refine wp_move (by conv => lhs; whnf) ?_
        refine wp_yes rfl ?_
        refine wp_callS (wp_func rfl (H.go (k := k23) rfl (by decide) (by decide) (same23 E _ l l ai ao _ _ ci ca rfl hm h4 (SI.le (le3.trans le4)).rd (S3.le le4).rd (by rw [ctx_fuel]; omega) (by omega)))) ?_
        refine wp_look (l_pick1 rfl (by conv => lhs; whnf)) ?_
        refine wp_move (by conv => lhs; whnf) ?_
        refine wp_end ?_
        refine wp_seq ?_
        refine wp_move (by conv => lhs; whnf) ?_
        refine wp_callIn (wp_func rfl (over25 H _ h2 h4 _ (joinS l) (hoj.le le4) (le3.trans le4) (by omega) (by omega))) ?_
        rintro v5 h5 le5
        refine wp_end ?_
        refine wp_seq ?_
        refine wp_draw ?_
        refine wp_dMove (by conv => lhs; whnf) rfl ?_
        refine wp_dKnow (b := true) rfl (decide_eq_true rfl) rfl ?_
        refine wp_dYes rfl ?_
        refine wp_dMove (by conv => lhs; whnf) rfl ?_
        refine wp_dYes rfl ?_
        refine wp_dMove (by conv => lhs; whnf) rfl ?_
        refine wp_dYes rfl ?_
        have S5 := S1.le (le2.trans le5)
        refine wp_dCallS (wp_func rfl (H.go (k := k23) rfl (by decide) (by decide) (same23 E _ l l ai ao _ _ ci ca rfl hm h5 (SI.le le5).rd S5.rd (by rw [ctx_fuel]; omega) (by omega)))) rfl ?_
        refine wp_dLook (l_pick1 rfl (by conv => lhs; whnf)) rfl ?_
        refine wp_dKnow (b := true) rfl (decide_eq_true rfl) rfl ?_
        refine wp_dYes rfl ?_
        refine wp_dMove (by conv => lhs; whnf) rfl ?_
        refine wp_dYes rfl ?_
        refine wp_dMove (by conv => lhs; whnf) rfl ?_
        refine wp_dYes rfl ?_
        refine wp_dCallL (wp_func rfl (has26 H _ l k ao m ca h5 S5 (by omega) (by omega))) (fun _ _ => rfl) fun h6 le6 => ?_
        refine wp_dYes rfl ?_
        refine wp_dMove (by conv => lhs; whnf) rfl ?_
        refine wp_dYes rfl ?_
        refine wp_dMove (by conv => lhs; whnf) rfl ?_
        refine wp_dYes rfl ?_
        refine wp_dCallL (wp_func rfl (refHas27 H _ l k ao m ca h6 (S5.le le6) (by omega) (by omega))) (fun _ _ => rfl) fun h7 le7 => ?_
        have S7 := S5.le (le6.trans le7)
        have gs7 := ((le1.trans (le2.trans (le5.trans (le6.trans le7)))).get _ ns).trans gs
        have ns7 : bs < h7.next := Nat.lt_of_lt_of_le ns (le1.trans (le2.trans (le5.trans (le6.trans le7)))).next
        refine wp_dYes rfl ?_
        refine wp_dLook (l_eqB rfl rfl) rfl ?_
        refine wp_dLook (l_pick1 rfl (by conv => lhs; whnf)) rfl ?_
        refine wp_dKnow (b := true) rfl (by show (hasS l k == hasS l k) = true; exact beqT _) rfl ?_
        refine wp_dYes rfl ?_
        refine wp_dMove (by conv => lhs; whnf) rfl ?_
        refine wp_dYes rfl ?_
        refine wp_dLook (l_loadN rfl gs7 rfl) rfl ?_
        refine wp_dYes rfl ?_
        refine wp_dCallL (wp_func rfl (covers28 H _ l s ao m ca hm h7 S7.rd S7.bk (fun e => S7.zero e) (by omega) (by omega))) (fun _ _ => rfl) fun h8 le8 => ?_
        have gs8 := (le8.get _ ns7).trans gs7
        refine wp_dYes rfl ?_
        refine wp_dMove (by conv => lhs; whnf) rfl ?_
        refine wp_dYes rfl ?_
        refine wp_dLook (l_loadN rfl gs8 rfl) (unLook_wr rfl (tells_sp (l_loadN rfl gs7 rfl)) rfl) ?_
        refine wp_dYes rfl ?_
        refine wp_dCallL (wp_func rfl (refCovers29 H n l s ao m ca h8 (S7.le le8) (by omega) (by omega))) (fun _ _ => rfl) fun h9 le9 => ?_
        refine wp_dYes rfl ?_
        refine wp_dLook (l_eqB rfl rfl) rfl ?_
        refine wp_dLook (l_pick1 rfl (by conv => lhs; whnf)) rfl ?_
        refine wp_dKnow (b := true) rfl (by show ((emptyS s || coversS (joinS l) s) == (emptyS s || coversS (joinS l) s)) = true; exact beqT _) rfl ?_
        refine wp_dYes rfl ?_
        refine wp_dCallS (wp_func rfl (wp_true H.awake)) rfl ?_
        refine wp_dLook (l_pick1 rfl (by conv => lhs; whnf)) rfl ?_
        refine wp_dMove (by conv => lhs; whnf) rfl ?_
        refine wp_dEnd ?_
        refine wp_ret ?_
        exact ⟨rfl, _, rfl, rfl⟩
end
end SpanK
