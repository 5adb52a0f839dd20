/-
  The functions of the span's package, of the document's answer and of the library, each gone through once: what it answers. Conditions: those that each lemma states.
-/
import Derived.Test.YtfknpknbgfkbdaaG
import Derived.Test.YtfknpknbgfkbdaaS

set_option linter.unusedSimpArgs false
set_option linter.unusedSectionVars false
set_option linter.unusedVariables false
namespace SpanK
open Go Go.Eng Go.Proofs.Ytfknpknbgfkbdaa.Eng
set_option maxRecDepth 100000
set_option linter.unusedVariables false
theorem same23 (E : Env) (c : Ctx) (la lb : List Sp) (a b : Option Addr) (na nb ca cb : Nat) (hna : la.length = na) (hnb : lb.length = nb) (h : Heap) (ra : Reads h a la) (rb : Reads h b lb) (hf : na < c.fuel) (hbig : na < 4611686018427387904) :
    (enterK E c k23 [.slice a na ca, .slice b nb cb] h).Wp fun v h' => v = .bool (decide (la = lb)) ∧ h' = h := by
  unfold k23
  refine wp_fn (Nat.le_of_ble_eq_true rfl) ?_
  dsimp only
  refine wp_seq ?_
  refine wp_move (by conv => lhs; whnf) ?_
  refine wp_end ?_
  refine wp_seq ?_
  refine wp_seq ?_
  refine wp_move (by conv => lhs; whnf) ?_
  refine wp_look (l_lenSl rfl) ?_
  refine wp_move (by conv => lhs; whnf) ?_
  refine wp_look (l_lenSl rfl) ?_
  refine wp_look (l_neI rfl rfl rfl) ?_
  refine wp_end ?_
  refine wp_cond rfl (fun hb => ?_) (fun hb => ?_)
  · refine wp_seq ?_
    refine wp_move (by conv => lhs; whnf) ?_
    refine wp_end ?_
    refine wp_ret ?_
    refine ⟨rfl, _, rfl, ?_, rfl⟩
    have : ¬ la = lb := fun e => by subst e; simp [← hna, ← hnb] at hb
    rw [decide_eq_false this]; rfl
  refine wp_skip ?_
  have hn : nb = na := by
    simp only [Bool.not_eq_false', decide_eq_true_eq] at hb; omega
  subst hn
  refine wp_seq ?_
  refine wp_seq ?_
  refine wp_move (by conv => lhs; whnf) ?_
  refine wp_end ?_
  refine wp_block ?_
  refine wp_loop (fun m t x h' => ∃ (i : Nat), m = nb - i ∧ i ≤ nb ∧ (g5 t = .int .i64 i ∧ g1 t = .slice b nb cb ∧ g0 t = .slice a nb ca) ∧ x = ⟨[], none, none⟩ ∧ h' = h ∧ ∀ j, j < i → la[j]? = lb[j]?) nb ⟨0, rfl, Nat.zero_le _, ⟨rfl, rfl, rfl⟩, rfl, rfl, fun j hj => by omega⟩ hf ?_
  rintro m t x h' ⟨i, rfl, hi, ⟨r5, r1, r0⟩, rfl, rfl, heq⟩
  obtain ⟨t0, rfl⟩ : ∃ t0, t = p5 (.int .i64 i) (p1 (.slice b nb cb) (p0 (.slice a nb ca) t0)) := ⟨t, by rw [← r5, ← r1, ← r0]; rfl⟩
  clear r5 r1 r0
  refine wp_seq ?_
  refine wp_seq ?_
  refine wp_move (by conv => lhs; whnf) ?_
  refine wp_move (by conv => lhs; whnf) ?_
  refine wp_look (l_lenSl rfl) ?_
  refine wp_look (l_lssI rfl rfl rfl) ?_
  refine wp_end ?_
  refine wp_cond rfl (fun hb => ?_) (fun hb => ?_)
  · refine wp_skip ?_
    have hlt : i < nb := by simpa using hb
    obtain ⟨sa, hsa⟩ : ∃ s, la[i]? = some s := ⟨la[i]'(by omega), List.getElem?_eq_getElem (by omega)⟩
    obtain ⟨sb, hsb⟩ : ∃ s, lb[i]? = some s := ⟨lb[i]'(by omega), List.getElem?_eq_getElem (by omega)⟩
    obtain ⟨pa, w1, cs1, rfl, e2, e3, e4⟩ := ra i sa hsa
    obtain ⟨pb, w2, cs2, rfl, f2, f3, f4⟩ := rb i sb hsb
    refine wp_seq ?_
    refine wp_block ?_
    refine wp_seq ?_
    refine wp_draw ?_
    refine wp_dMove (by conv => lhs; whnf) rfl ?_
    refine wp_dMove (by conv => lhs; whnf) rfl ?_
    refine wp_dLook (l_ixSl rfl rfl hlt) rfl ?_
    refine wp_dLook (l_loadN rfl e2 e4) rfl ?_
    refine wp_dMove (by conv => lhs; whnf) rfl ?_
    refine wp_dMove (by conv => lhs; whnf) rfl ?_
    refine wp_dLook (l_ixSl rfl rfl hlt) rfl ?_
    refine wp_dLook (l_loadN rfl f2 f4) rfl ?_
    refine wp_dLook (l_neFlat rfl rfl (flat_eq _ _)) rfl ?_
    refine wp_dEnd ?_
    refine wp_cond rfl (fun hb => ?_) (fun hb => ?_)
    · refine wp_seq ?_
      refine wp_move (by conv => lhs; whnf) ?_
      refine wp_end ?_
      refine wp_ret ?_
      refine ⟨rfl, _, rfl, ?_, rfl⟩
      have : ¬ la = lb := fun e => by subst e; rw [hsa] at hsb; cases hsb; simp at hb
      rw [decide_eq_false this]; rfl
    · refine wp_skip ?_
      have es : sa = sb := by simpa using hb
      subst es
      refine wp_move (by conv => lhs; whnf) ?_
      refine wp_look (l_addI rfl rfl rfl) ?_
      refine wp_move (by conv => lhs; whnf) ?_
      refine wp_end ?_
      refine ⟨nb - (i + 1), by omega, i + 1, rfl, hlt, ⟨?_, rfl, rfl⟩, rfl, rfl, fun j hj => ?_⟩
      · show Value.int .i64 (IntKind.i64.wrap ((i : Int) + 1)) = _
        rw [wrap64 (by omega) (by omega)]; rfl
      · by_cases e : j = i
        · subst e; rw [hsa, hsb]
        · exact heq j (by omega)
  · refine wp_exit ?_
    have hge : ¬ i < nb := by simpa using hb
    have hin : i = nb := by omega
    subst hin
    refine exit_here rfl ?_
    refine wp_seq ?_
    refine wp_move (by conv => lhs; whnf) ?_
    refine wp_end ?_
    refine wp_ret ?_
    refine ⟨rfl, _, rfl, ?_, rfl⟩
    have : la = lb := by
      refine List.ext_getElem? fun j => ?_
      by_cases k : j < i
      · exact heq j k
      · rw [List.getElem?_eq_none (by omega), List.getElem?_eq_none (by omega)]
    rw [decide_eq_true this]; rfl

theorem idx45 (E : Env) (c : Ctx) (p : Sp → Bool) (fv : Value) (l : List Sp) (a : Option Addr) (n ca : Nat) (hn : l.length = n) (h : Heap) (ra : Reads h a l) (hf : n < c.fuel) (hbig : n < 4611686018427387904)
    (hp : ∀ s h', h.Le h' → (c.call fv [.agg ⟨svs s⟩] h').Wp fun v h'' => v = .bool (p s) ∧ h'.Le h'') :
    (enterK E c k45 [.slice a n ca, fv] h).Wp fun v h' => v = .int .i64 (firstP p l) ∧ h.Le h' := by
  unfold k45
  refine wp_fn (Nat.le_of_ble_eq_true rfl) ?_
  dsimp only
  refine wp_seq ?_
  refine wp_move (by conv => lhs; whnf) ?_
  refine wp_end ?_
  refine wp_seq ?_
  refine wp_seq ?_
  refine wp_move (by conv => lhs; whnf) ?_
  refine wp_look (l_lenSl rfl) ?_
  refine wp_move (by conv => lhs; whnf) ?_
  refine wp_end ?_
  refine wp_block ?_
  refine wp_loop (fun m t x h' => ∃ (i : Nat), m = n - i ∧ i ≤ n ∧ (g8 t = .int .i64 i ∧ g7 t = .int .i64 n ∧ g1 t = fv ∧ g0 t = .slice a n ca) ∧ x = ⟨[], none, none⟩ ∧ h.Le h' ∧ ∀ j s, j < i → l[j]? = some s → p s = false) n ⟨0, rfl, Nat.zero_le _, ⟨rfl, rfl, rfl, rfl⟩, rfl, Heap.Le.refl _, fun j s hj => by omega⟩ hf ?_
  rintro m t x h' ⟨i, rfl, hi, ⟨r8, r7, r1, r0⟩, rfl, hle, hno⟩
  obtain ⟨t0, rfl⟩ : ∃ t0, t = p8 (.int .i64 i) (p7 (.int .i64 n) (p1 fv (p0 (.slice a n ca) t0))) := ⟨t, by rw [← r8, ← r7, ← r1, ← r0]; rfl⟩
  clear r8 r7 r1 r0
  refine wp_seq ?_
  refine wp_look (l_lssI rfl rfl rfl) ?_
  refine wp_end ?_
  refine wp_seq ?_
  refine wp_cond rfl (fun hb => ?_) (fun hb => ?_)
  · refine wp_skip ?_
    have hlt : i < n := by simpa using hb
    obtain ⟨s, hs⟩ : ∃ s, l[i]? = some s := ⟨l[i]'(by omega), List.getElem?_eq_getElem (by omega)⟩
    obtain ⟨pa, w1, cs1, rfl, e2, e3, e4⟩ := ra i s hs
    refine wp_seq ?_
    refine wp_block ?_
    refine wp_seq ?_
    refine wp_move (by conv => lhs; whnf) ?_
    refine wp_move (by conv => lhs; whnf) ?_
    refine wp_end ?_
    refine wp_seq ?_
    refine wp_move (by conv => lhs; whnf) ?_
    refine wp_move (by conv => lhs; whnf) ?_
    refine wp_move (by conv => lhs; whnf) ?_
    refine wp_look (l_ixSl rfl rfl hlt) ?_
    refine wp_look (l_loadN rfl ((hle.get _ e3).trans e2) e4) ?_
    refine wp_callIn (hp s h' hle) ?_
    rintro v h'' ⟨rfl, hle'⟩
    refine wp_end ?_
    refine wp_cond rfl (fun hq => ?_) (fun hq => ?_)
    · refine wp_seq ?_
      refine wp_move (by conv => lhs; whnf) ?_
      refine wp_move (by conv => lhs; whnf) ?_
      refine wp_end ?_
      refine wp_ret ?_
      refine ⟨rfl, _, rfl, ?_, hle.trans hle'⟩
      rw [firstP_at hs hq hno]; rfl
    · refine wp_skip ?_
      refine wp_look (l_addI rfl rfl rfl) ?_
      refine wp_move (by conv => lhs; whnf) ?_
      refine wp_end ?_
      refine ⟨n - (i + 1), by omega, i + 1, rfl, hlt, ⟨?_, rfl, rfl, rfl⟩, rfl, hle.trans hle', fun j s' hj hs' => ?_⟩
      · show Value.int .i64 (IntKind.i64.wrap ((i : Int) + 1)) = _
        rw [wrap64 (by omega) (by omega)]; rfl
      · by_cases e : j = i
        · subst e; rw [hs] at hs'; cases hs'; exact hq
        · exact hno j s' (by omega) hs'
  · refine wp_exit ?_
    have hge : ¬ i < n := by simpa using hb
    refine exit_here rfl ?_
    refine wp_seq ?_
    refine wp_move (by conv => lhs; whnf) ?_
    refine wp_end ?_
    refine wp_ret ?_
    refine ⟨rfl, _, rfl, ?_, hle⟩
    rw [firstP_none fun j s hs => hno j s (by have := (List.getElem?_eq_some_iff.1 hs).1; omega) hs]; rfl
end SpanK

namespace SpanK
open Go Go.Eng Go.Proofs.Ytfknpknbgfkbdaa.Eng
set_option maxRecDepth 100000
set_option linter.unusedVariables false
/-- What a slice points to is there. -/
def Backed (h : Heap) (a : Option Addr) : Prop := ∀ x, a = some x → ∃ w cs, h.get x.block = some (.cells w cs) ∧ x.block < h.next
theorem Backed.le {h h' : Heap} {a : Option Addr} (b : Backed h a) (k : h.Le h') : Backed h' a := fun x hx => by
  obtain ⟨w, cs, h1, h2⟩ := b x hx
  exact ⟨w, cs, (k.get _ h2).trans h1, Nat.lt_of_lt_of_le h2 k.next⟩
theorem elems_none {h : Heap} {a : Addr} {ca : Nat} (hb : Backed h (some a)) : h.elems 2 0 (.slice (some a) 0 ca) = some [] := by
  obtain ⟨w, cs, h1, _⟩ := hb a rfl
  show h.load a.block a.off (Nat.mul 0 2) = _
  exact Heap.load_of h1 (by show takeN 0 _ = _; rw [takeN_eq, if_pos (Nat.zero_le _)]; rfl)
/-- A slice of one's own, of memory that is newer than h0; or nothing. -/
def OwnSl (h0 h : Heap) (v : Value) (l : List Sp) : Prop :=
  (l = [] ∧ ∃ ao cap, v = .slice ao 0 cap ∧ (ao = none → cap = 0)) ∨ (∃ b cap rest, v = .slice (some ⟨b, 0, some 2⟩) l.length cap ∧ 0 < cap ∧ l.length ≤ cap ∧ cap * 2 = (flatS l ++ rest).length ∧ Owns h b l rest ∧ h0.next ≤ b)

theorem elems_reads {h : Heap} {ao : Option Addr} {l : List Sp} {n ca : Nat} (r : Reads h ao l) (hn : l.length = n) (hl : l ≠ []) : h.elems 2 n (.slice ao n ca) = some (flatS l) := by
  obtain ⟨s0, hs0⟩ : ∃ s, l[0]? = some s := by cases l with
    | nil => exact absurd rfl hl
    | cons s l => exact ⟨s, rfl⟩
  obtain ⟨a, w, cs, rfl, _⟩ := r 0 s0 hs0
  show h.load a.block a.off (Nat.mul n 2) = _
  rw [← hn]
  exact r.load_all hl

theorem clone40 (E : Env) (c : Ctx) (l : List Sp) (a : Option Addr) (n ca : Nat) (hn : l.length = n) (h : Heap) (ra : Reads h a l) (hbig : n < 1000000) (ha : a = none → n = 0) (hk : Backed h a) :
    (enterK E c k40 [.slice a n ca] h).Wp fun v h' => OwnSl h h' v l ∧ h.Le h' := by
  unfold k40
  refine wp_fn (Nat.le_of_ble_eq_true rfl) ?_
  dsimp only
  refine wp_seq ?_
  refine wp_move (by conv => lhs; whnf) ?_
  refine wp_end ?_
  refine wp_seq ?_
  refine wp_seq ?_
  refine wp_move (by conv => lhs; whnf) ?_
  refine wp_look (v := .bool a.isNone) (by cases a <;> rfl) ?_
  refine wp_end ?_
  refine wp_cond rfl (fun hb => ?_) (fun hb => ?_)
  · refine wp_seq ?_
    refine wp_move (by conv => lhs; whnf) ?_
    refine wp_end ?_
    refine wp_ret ?_
    have : a = none := by simpa using hb
    have : l = [] := List.eq_nil_of_length_eq_zero (hn.trans (ha this))
    exact ⟨rfl, _, rfl, .inl ⟨this, none, 0, rfl, fun _ => rfl⟩, Heap.Le.refl _⟩
  · refine wp_skip ?_
    refine wp_seq ?_
    refine wp_turn (tn_buildSlice rfl) ?_
    refine wp_move (by conv => lhs; whnf) ?_
    by_cases hz : n = 0
    · have hl : l = [] := List.eq_nil_of_length_eq_zero (hn.trans hz)
      subst hz
      cases a with
      | none => cases hb
      | some a =>
      refine wp_turn (tn_append (n := 0) (new := []) rfl rfl rfl (elems_none (hk.le (Heap.Le.push _ _))) (append_fresh0 (Heap.get_new _ _))) ?_
      refine wp_move (by conv => lhs; whnf) ?_
      refine wp_end ?_
      refine wp_ret ?_
      exact ⟨rfl, _, rfl, .inl ⟨hl, _, _, rfl, fun h => by cases h⟩, Heap.Le.push _ _⟩
    · have hl : l ≠ [] := fun e => hz (by rw [← hn, e]; rfl)
      refine wp_turn (tn_append (n := n) rfl rfl rfl (elems_reads (ra.le (Heap.Le.push _ _)) hn hl) (append_fresh (Heap.get_new _ _) rfl (by omega) (by omega))) ?_
      refine wp_move (by conv => lhs; whnf) ?_
      refine wp_end ?_
      refine wp_ret ?_
      refine ⟨rfl, _, rfl, .inr ⟨h.next + 1, n, [], ?_, by omega, by omega, ?_, ⟨?_, ?_⟩, ?_⟩, (Heap.Le.push _ _).trans (Heap.Le.push _ _)⟩
      · rw [hn]; rfl
      · rw [List.append_nil, flatS_length, hn]
      · rw [List.append_nil]; exact Heap.get_new (h.push _) _
      · show h.next + 1 < h.next + 1 + 1; omega
      · omega

/-- What is kept, and what is not looked at yet. -/
theorem del39 (E : Env) (n : Nat) (hfn : E.fn 45 = some k45) (hsum : E.sum 45 = none) (p : Sp → Bool) (fv : Value) (l : List Sp) (v : Value) (h0 h : Heap) (hv : OwnSl h0 h v l) (h0h : h0.Le h) (hf : l.length < n) (hbig : l.length < 1000000)
    (hp : ∀ s h, ((ctx E (n + 1)).call fv [.agg ⟨svs s⟩] h).Wp fun v h' => v = .bool (p s) ∧ h.Le h') (hp' : ∀ s h, ((ctx E n).call fv [.agg ⟨svs s⟩] h).Wp fun v h' => v = .bool (p s) ∧ h.Le h') :
    (enterK E (ctx E (n + 1)) k39 [v, fv] h).Wp fun v h' => OwnSl h0 h' v (l.filter fun s => !(p s)) ∧ h0.Le h' := by
  unfold k39
  refine wp_fn (Nat.le_of_ble_eq_true rfl) ?_
  dsimp only
  obtain ⟨ao, m, ca, rfl, hm, hR⟩ : ∃ ao m ca, v = .slice ao m ca ∧ l.length = m ∧ Reads h ao l := by
    rcases hv with ⟨rfl, ao, ca, rfl, _⟩ | ⟨b, cap, rest, rfl, _, _, _, o, _⟩
    · exact ⟨ao, 0, ca, rfl, rfl, Reads.nil _ _⟩
    · exact ⟨_, _, _, rfl, rfl, o.reads _⟩
  refine wp_seq ?_
  refine wp_move (by conv => lhs; whnf) ?_
  refine wp_end ?_
  refine wp_seq ?_
  refine wp_move (by conv => lhs; whnf) ?_
  refine wp_move (by conv => lhs; whnf) ?_
  refine wp_callIn (wp_func rfl (wp_enter hsum hfn (idx45 E _ p fv l ao m ca hm h hR (by rw [ctx_fuel]; omega) (by omega) (fun s h _ => hp' s h)))) ?_
  rintro v h1 ⟨rfl, hle⟩
  refine wp_move (by conv => lhs; whnf) ?_
  refine wp_end ?_
  refine wp_seq ?_
  refine wp_seq ?_
  refine wp_move (by conv => lhs; whnf) ?_
  refine wp_look (l_eqI rfl rfl rfl) ?_
  refine wp_end ?_
  refine wp_cond rfl (fun hb => ?_) (fun hb => ?_)
  · refine wp_seq ?_
    refine wp_move (by conv => lhs; whnf) ?_
    refine wp_move (by conv => lhs; whnf) ?_
    refine wp_end ?_
    refine wp_ret ?_
    refine ⟨rfl, _, rfl, ?_, h0h.trans hle⟩
    have hno : ∀ s ∈ l, p s = false := by
      intro s hs
      have : decide (0 ≤ firstP p l) = false := by
        have e : firstP p l = -1 := by simpa using hb
        rw [e]; rfl
      rw [firstP_any, List.any_eq_false] at this
      simpa using this s hs
    have e : (l.filter fun s => !(p s)) = l := List.filter_eq_self.2 fun s hs => by rw [hno s hs]; rfl
    rw [e]
    rcases hv with ⟨rfl, ao', ca', h, h'⟩ | ⟨b, cap, rest, h, h1', h2, h3, o, h4⟩
    · exact .inl ⟨rfl, ao', ca', h, h'⟩
    · exact .inr ⟨b, cap, rest, h, h1', h2, h3, o.le hle, h4⟩
  · refine wp_skip ?_
    rcases hv with ⟨rfl, ao', ca', e, h'⟩ | ⟨b, cap, rest, e, hcap, hlc, hlen, o, hb0⟩
    · exact absurd hb (by show ¬ decide ((-1 : Int) = -1) = false; decide)
    cases e
    clear hm
    obtain ⟨i0, hi0, hlt0⟩ : ∃ i0 : Nat, firstP p l = i0 ∧ i0 < l.length := by
      unfold firstP at hb ⊢
      cases e : l.findIdx? p with
      | none => rw [e] at hb; exact absurd hb (by decide)
      | some i =>
        obtain ⟨hi, _⟩ := List.findIdx?_eq_some_iff_getElem.1 e
        exact ⟨i, rfl, hi⟩
    have hpre : (l.take i0).filter (fun s => !(p s)) = l.take i0 ∧ ∀ s, l[i0]? = some s → p s = true := by
      unfold firstP at hi0
      cases e : l.findIdx? p with
      | none => rw [e] at hi0; replace hi0 : (-1 : Int) = i0 := hi0; omega
      | some i =>
        rw [e] at hi0
        have : i = i0 := by have : (i : Int) = i0 := hi0; omega
        subst this
        obtain ⟨hi, h1, h2⟩ := List.findIdx?_eq_some_iff_getElem.1 e
        refine ⟨List.filter_eq_self.2 fun s hs => ?_, fun s hs => ?_⟩
        · obtain ⟨k, hk⟩ := List.getElem?_of_mem hs
          rw [List.getElem?_take] at hk
          split at hk
          · rename_i hki
            obtain ⟨hk', rfl⟩ := List.getElem?_eq_some_iff.1 hk
            have := h2 k hki
            simpa using this
          · cases hk
        · rw [List.getElem?_eq_getElem hi] at hs; cases hs; exact h1
    rw [hi0]
    refine wp_seq ?_
    refine wp_seq ?_
    refine wp_move (by conv => lhs; whnf) ?_
    refine wp_look (l_addI rfl rfl rfl) ?_
    refine wp_move (by conv => lhs; whnf) ?_
    refine wp_end ?_
    refine wp_block ?_
    refine wp_loop (fun m t x h' => ∃ (j i : Nat) (M : List Sp), m = l.length - j ∧ j ≤ l.length ∧ i < j ∧ (g6 t = .int .i64 j ∧ g5 t = .int .i64 i ∧ g1 t = fv ∧ g0 t = .slice (some ⟨b, 0, some 2⟩) l.length ca) ∧ x = ⟨[], none, none⟩ ∧ h0.Le h' ∧ Owns h' b M rest ∧
      M.length = l.length ∧ M.take i = (l.take j).filter (fun s => !(p s)) ∧ i = ((l.take j).filter (fun s => !(p s))).length ∧ M.drop j = l.drop j) (l.length - (i0 + 1))
      ⟨i0 + 1, i0, l, rfl, hlt0, by omega, ⟨?_, rfl, rfl, rfl⟩, rfl, h0h.trans hle, o.le hle, rfl, ?_, ?_, rfl⟩ (by rw [ctx_fuel]; omega) ?_
    · show Value.int .i64 (IntKind.i64.wrap ((i0 : Int) + 1)) = _
      rw [wrap64 (by omega) (by omega)]; rfl
    · obtain ⟨s, hs⟩ : ∃ s, l[i0]? = some s := ⟨l[i0], List.getElem?_eq_getElem hlt0⟩
      rw [List.take_add_one, hs, List.filter_append, hpre.1]
      simp [hpre.2 s hs]
    · obtain ⟨s, hs⟩ : ∃ s, l[i0]? = some s := ⟨l[i0], List.getElem?_eq_getElem hlt0⟩
      rw [List.take_add_one, hs, List.filter_append, hpre.1]
      simp [hpre.2 s hs]; omega
    rintro m t x h' ⟨j, i, M, rfl, hj, hij, ⟨r6, r5, r1, r0⟩, rfl, hle', hown, hMl, hMt, hil, hMd⟩
    obtain ⟨t0, rfl⟩ : ∃ t0, t = p6 (.int .i64 j) (p5 (.int .i64 i) (p1 fv (p0 (.slice (some ⟨b, 0, some 2⟩) l.length ca) t0))) := ⟨t, by rw [← r6, ← r5, ← r1, ← r0]; rfl⟩
    clear r6 r5 r1 r0
    refine wp_seq ?_
    refine wp_seq ?_
    refine wp_move (by conv => lhs; whnf) ?_
    refine wp_move (by conv => lhs; whnf) ?_
    refine wp_look (l_lenSl rfl) ?_
    refine wp_look (l_lssI rfl rfl rfl) ?_
    refine wp_end ?_
    refine wp_cond rfl (fun hb => ?_) (fun hb => ?_)
    · refine wp_skip ?_
      have hlt : j < l.length := by simpa using hb
      obtain ⟨s, hs⟩ : ∃ s, l[j]? = some s := ⟨l[j], List.getElem?_eq_getElem hlt⟩
      have hMs : M[j]? = some s := by
        have : (M.drop j)[0]? = (l.drop j)[0]? := by rw [hMd]
        simpa [hs] using this
      have htake : l.take (j + 1) = l.take j ++ [s] := by rw [List.take_add_one, hs]; rfl
      refine wp_seq ?_
      refine wp_block ?_
      refine wp_seq ?_
      refine wp_move (by conv => lhs; whnf) ?_
      refine wp_move (by conv => lhs; whnf) ?_
      refine wp_look (l_ixSl rfl rfl hlt) ?_
      refine wp_look (l_loadN rfl hown.1 (flatS_get M rest hMs)) ?_
      refine wp_turn tn_alloc ?_
      refine wp_turnDo (tn_store rfl rfl rfl (Heap.get_new _ _) rfl (Nat.le_refl _)) ?_
      refine wp_end ?_
      have hown1 : Owns ((h'.push (.cells true q17)).put h'.next (some (.cells true (putAt (svs s) 0 q17)))) b M rest := by
        have := hown.2
        exact hown.le ((Heap.Le.push _ _).put (Nat.le_refl _) (Nat.lt_succ_self _) _)
      have hle1 : h0.Le ((h'.push (.cells true q17)).put h'.next (some (.cells true (putAt (svs s) 0 q17)))) := hle'.trans ((Heap.Le.push _ _).put (Nat.le_refl _) (Nat.lt_succ_self _) _)
      have hgv : ((h'.push (.cells true q17)).put h'.next (some (.cells true (putAt (svs s) 0 q17)))).get h'.next = some (.cells true (svs s)) := Heap.get_put_eq _ _ _
      have hnx : h'.next < ((h'.push (.cells true q17)).put h'.next (some (.cells true (putAt (svs s) 0 q17)))).next := Nat.lt_succ_self _
      have hbn : b < h'.next := hown.2
      generalize ((h'.push (.cells true q17)).put h'.next (some (.cells true (putAt (svs s) 0 q17)))) = h2 at hown1 hle1 hgv hnx ⊢
      refine wp_seq ?_
      refine wp_move (by conv => lhs; whnf) ?_
      refine wp_look (l_loadN rfl hgv rfl) ?_
      refine wp_callIn (hp s h2) ?_
      rintro v h3 ⟨rfl, hle3⟩
      refine wp_look (l_not rfl) ?_
      refine wp_end ?_
      refine wp_cond rfl (fun hq => ?_) (fun hq => ?_)
      · refine wp_seq ?_
        refine wp_move (by conv => lhs; whnf) ?_
        refine wp_move (by conv => lhs; whnf) ?_
        refine wp_look (l_loadN rfl ((hle3.get _ hnx).trans hgv) rfl) ?_
        refine wp_look (l_ixSl rfl rfl (by omega)) ?_
        refine wp_turnDo (tn_store rfl rfl rfl (hown1.le hle3).1 rfl ?_) ?_
        · show 0 + i * 2 + 2 ≤ _
          rw [List.length_append, flatS_length]; omega
        refine wp_end ?_
        refine wp_move (by conv => lhs; whnf) ?_
        refine wp_look (l_addI rfl rfl rfl) ?_
        refine wp_move (by conv => lhs; whnf) ?_
        refine wp_end ?_
        refine wp_move (by conv => lhs; whnf) ?_
        refine wp_look (l_addI rfl rfl rfl) ?_
        refine wp_move (by conv => lhs; whnf) ?_
        refine wp_end ?_
        have hb3 : b < h3.next := (hown1.le hle3).2
        have hset : putAt (svs s) (0 + i * 2) (flatS M ++ rest) = flatS (M.set i s) ++ rest := putAt_flat1 M rest s (by omega)
        refine ⟨l.length - (j + 1), by omega, j + 1, i + 1, M.set i s, rfl, hlt, by omega, ⟨?_, ?_, rfl, rfl⟩, rfl, ?_, ⟨?_, ?_⟩, ?_, ?_, ?_, ?_⟩
        · show Value.int .i64 (IntKind.i64.wrap ((j : Int) + 1)) = _
          rw [wrap64 (by omega) (by omega)]; rfl
        · show Value.int .i64 (IntKind.i64.wrap ((i : Int) + 1)) = _
          rw [wrap64 (by omega) (by omega)]; rfl
        · exact (hle1.trans hle3).put hb0 hb3 _
        · rw [← hset]; exact Heap.get_put_eq _ _ _
        · exact hb3
        · rw [List.length_set]; exact hMl
        · rw [htake, List.filter_append, ← hMt]
          have : ([s].filter fun s => !(p s)) = [s] := by simp at hq; simp [hq]
          rw [this, List.take_add_one]
          congr 1
          · rw [List.take_set_of_le (Nat.le_refl _)]
          · rw [List.getElem?_set_self (by omega)]; rfl
        · rw [htake, List.filter_append, List.length_append, ← hil]
          have : ([s].filter fun s => !(p s)) = [s] := by simp at hq; simp [hq]
          rw [this]; rfl
        · rw [List.drop_set_of_lt (by omega)]
          have : (M.drop j).drop 1 = (l.drop j).drop 1 := by rw [hMd]
          simpa [List.drop_drop] using this
      · refine wp_skip ?_
        refine wp_move (by conv => lhs; whnf) ?_
        refine wp_look (l_addI rfl rfl rfl) ?_
        refine wp_move (by conv => lhs; whnf) ?_
        refine wp_end ?_
        have hfil : ([s].filter fun s => !(p s)) = [] := by simp at hq; simp [hq]
        refine ⟨l.length - (j + 1), by omega, j + 1, i, M, rfl, hlt, by omega, ⟨?_, rfl, rfl, rfl⟩, rfl, hle1.trans hle3, hown1.le hle3, hMl, ?_, ?_, ?_⟩
        · show Value.int .i64 (IntKind.i64.wrap ((j : Int) + 1)) = _
          rw [wrap64 (by omega) (by omega)]; rfl
        · rw [htake, List.filter_append, hfil, List.append_nil]; exact hMt
        · rw [htake, List.filter_append, hfil, List.append_nil]; exact hil
        · have : (M.drop j).drop 1 = (l.drop j).drop 1 := by rw [hMd]
          simpa [List.drop_drop] using this
    · refine wp_exit ?_
      refine exit_here rfl ?_
      have hge : ¬ j < l.length := by simpa using hb
      have hjl : j = l.length := by omega
      subst hjl
      rw [List.take_length] at hMt hil
      refine wp_seq ?_
      refine wp_move (by conv => lhs; whnf) ?_
      refine wp_move (by conv => lhs; whnf) ?_
      have hil' : i < l.length := hij
      have hcs : i * 2 + (l.length - i) * 2 ≤ (flatS M ++ rest).length := by rw [List.length_append, flatS_length, hMl]; omega
      refine wp_look (l_sliceFrom rfl rfl (by omega) hlc (by omega) (.inr rfl)) ?_
      refine wp_turnDo (tn_clear rfl (by omega) (by decide) hown.1 ?_) ?_
      · show 0 + i * 2 + (l.length - i) * 2 ≤ _; omega
      refine wp_end ?_
      refine wp_seq ?_
      refine wp_move (by conv => lhs; whnf) ?_
      refine wp_move (by conv => lhs; whnf) ?_
      refine wp_look (l_sliceTo rfl rfl (by omega) hcap (.inr rfl)) ?_
      refine wp_move (by conv => lhs; whnf) ?_
      refine wp_end ?_
      refine wp_ret ?_
      have hrl : (rep q17 (l.length - i)).length = (l.length - i) * 2 := by rw [rep_length]; rfl
      refine ⟨rfl, _, rfl, .inr ⟨b, ca, rep q17 (l.length - i) ++ (flatS M ++ rest).drop (i * 2 + (l.length - i) * 2), ?_, hcap, ?_, ?_, ⟨?_, hown.2⟩, hb0⟩, hle'.put hb0 hown.2 _⟩
      · show Value.slice (some ⟨b, 0, some 2⟩) i ca = _
        rw [← hil]
      · rw [← hil]; omega
      · rw [← hMt]
        rw [List.length_append, flatS_length, List.length_take, List.length_append, hrl, List.length_drop, List.length_append, flatS_length, hMl, hlen, List.length_append, flatS_length]
        rw [List.length_append, flatS_length, hMl] at hcs
        omega
      · rw [← hMt]
        rw [Heap.get_put_eq, putAt_eq _ _ _ (by rw [hrl]; show 0 + i * 2 + _ ≤ _; omega), hrl]
        show some (AObj.cells true ((flatS M ++ rest).take (0 + i * 2) ++ _)) = _
        rw [Nat.zero_add, take_flat M rest (by omega)]
end SpanK

namespace SpanK
open Go Go.Eng Go.Proofs.Ytfknpknbgfkbdaa.Eng
set_option maxRecDepth 100000
set_option linter.unusedVariables false
/-- The list that is being joined: nothing yet, or memory of its own, newer than hs. -/
def OutSl (hs h : Heap) (v : Value) (O : List Sp) : Prop :=
  (O = [] ∧ v = .slice none 0 0) ∨ (O ≠ [] ∧ ∃ bo, v = .slice (some ⟨bo, 0, some 2⟩) O.length O.length ∧ Owns h bo O [] ∧ hs.next ≤ bo)
noncomputable def body34 : KB := (kSeq (oSet (xLook (lkBin .lss g15 g14)) p16 
oEnd) (kSeq (kCond g16 kSkip (kExit (nat_lit 0))) (kSeq (kBlock (nat_lit 1) (kSeq (oSet (xLook (lkIxSl (nat_lit 2) g13 g15)) p17 
(oSet (xLook (lkLoadN (nat_lit 2) g17)) p18 
(oSet (xTurn (tnAlloc q17)) p5 
(oDo (xTurn (tnStore (nat_lit 2) g5 g18)) 
oEnd)))) (kSeq (kSeq (oSet (xMove g3) p19 
(oSet (xLook (lkLen .sl g19)) p20 
(oSet (xMove g20) p6 
oEnd))) (kSeq (kDraw 
(dLook (nat_lit 0) [] [] (lkMove g6) p21 
(dLook (nat_lit 1) [] [] (lkBin .gtr g21 q30) p22 
(dLook (nat_lit 2) [] [] (lkMove g22) p23 
(dIf [] (wantT g23) p24 (dLook (nat_lit 3) [] [] (lkMove g3) p24 k34d17) k34d17))))) (kCond g42 (kSeq (kSeq (oSet (xMove g3) p43 
(oSet (xMove g6) p44 
(oSet (xLook (lkBin .sub g44 q18)) p45 
(oSet (xLook (lkIxSl (nat_lit 2) g43 g45)) p46 
(oSet (xMove g46) p7 
oEnd))))) (kSeq (kDraw 
(dLook (nat_lit 0) [] [] (lkMove g7) p47 
(dTurn (nat_lit 1) [] [] false (xNil g47) p48 
(dLook (nat_lit 2) [] [] (lkFieldAddr (nat_lit 1) g48) p49 
(dLook (nat_lit 3) [] [] (lkLoad1 g49) p50 
(dLook (nat_lit 4) [] [] (lkEq true .str g50 q31) p51 
(dLook (nat_lit 5) [] [] (lkMove g51) p52 
(dIf [] (wantT g52) p53 (dLook (nat_lit 6) [] [] (lkFieldAddr (nat_lit 1) g5) p53 k34d29) k34d29)))))))) (kCond g65 (oSet (xMove g7) p66 
(oSet (xLook (lkFieldAddr (nat_lit 1) g5)) p67 
(oSet (xLook (lkLoad1 g67)) p68 
(oSet (xNil g66) p69 
(oSet (xLook (lkFieldAddr (nat_lit 1) g69)) p70 
(oDo (xTurn (tnStore (nat_lit 1) g70 g68)) 
oEnd)))))) kSkip))) (kExit (nat_lit 1))) kSkip))) (oSet (xMove g3) p71 
(oSet (xLook (lkLoadN (nat_lit 2) g5)) p72 
(oSet (xTurn (tnBuildSlice q17 [((nat_lit 0), (nat_lit 2), g72)] (nat_lit 1))) p73 
(oSet (xTurn (tnAppend (nat_lit 2) g71 g73)) p74 
(oSet (xMove g74) p3 
oEnd)))))))) (oSet (xLook (lkBin .add g15 q18)) p75 
(oSet (xMove g75) p15 
oEnd)))))

theorem joinLoop (E : Env) (c : Ctx) (L : List Sp) (bl cl : Nat) (rest : List Value) (hs : Heap) (hin : Owns hs bl L rest) (hbig : L.length < 1000000) (t0 : Tm) (O : List Sp) (i : Nat) (hi : i ≤ L.length) (vo : Value) (h' : Heap) (hle' : hs.Le h') (hO : O = mergeS (L.take i)) (ho : OutSl hs h' vo O)
    (hlt : i < L.length) (N : Tm → Aux → Heap → Prop) (X : Nat → Tm → Aux → Heap → Prop) (R : Tm → Aux → Heap → Prop)
    (HN : ∀ t h'' vo', (g15 t = .int .i64 (Int.ofNat (i + 1)) ∧ g14 t = .int .i64 (Int.ofNat L.length) ∧ g13 t = .slice (some ⟨bl, 0, some 2⟩) L.length cl ∧ g3 t = vo') → hs.Le h'' → OutSl hs h'' vo' (mergeS (L.take (i + 1))) → N t ⟨[], none, none⟩ h'') :
    (body34 c (p15 (.int .i64 (Int.ofNat i)) (p14 (.int .i64 (Int.ofNat L.length)) (p13 (.slice (some ⟨bl, 0, some 2⟩) L.length cl) (p3 vo t0)))) ⟨[], none, none⟩ h').Wp N X R := by
  unfold body34
  obtain ⟨s, hs0⟩ : ∃ s, L[i]? = some s := ⟨L[i], List.getElem?_eq_getElem hlt⟩
  have hnext : mergeS (L.take (i + 1)) = stepS O s := by rw [List.take_add_one, hs0, hO]; exact merge_snoc _ _
  have hOl : O.length ≤ L.length := by
    have : ∀ (l : List Sp), (mergeS l).length ≤ l.length := by
      intro l
      cases l with
      | nil => exact Nat.le_refl _
      | cons x l =>
        show (goS x l).length ≤ l.length + 1
        induction l generalizing x with
        | nil => exact Nat.le_refl _
        | cons y l ih =>
          unfold goS
          split
          · have := ih (meltS x y); simp at this ⊢; omega
          · have := ih y; simp at this ⊢; omega
    have := this (L.take i)
    rw [← hO, List.length_take] at this
    omega
  refine wp_seq ?_
  refine wp_look (l_lssI rfl rfl rfl) ?_
  refine wp_end ?_
  refine wp_seq ?_
  refine wp_condT rfl (decide_eq_true (by show (i : Int) < (L.length : Int); omega)) ?_
  refine wp_skip ?_
  refine wp_seq ?_
  refine wp_block ?_
  refine wp_seq ?_
  refine wp_look (l_ixSl rfl rfl hlt) ?_
  refine wp_look (l_loadN rfl (hin.le hle').1 (flatS_get L rest hs0)) ?_
  refine wp_turn tn_alloc ?_
  refine wp_turnDo (tn_store rfl rfl rfl (Heap.get_new _ _) rfl (Nat.le_refl _)) ?_
  refine wp_end ?_
  have hnew : h'.Le ((h'.push (.cells true q17)).put h'.next (some (.cells true (putAt (svs s) 0 q17)))) := (Heap.Le.push _ _).put (Nat.le_refl _) (Nat.lt_succ_self _) _
  have hgv : ((h'.push (.cells true q17)).put h'.next (some (.cells true (putAt (svs s) 0 q17)))).get h'.next = some (.cells true (svs s)) := Heap.get_put_eq _ _ _
  have hnx : h'.next < ((h'.push (.cells true q17)).put h'.next (some (.cells true (putAt (svs s) 0 q17)))).next := Nat.lt_succ_self _
  have hle2 : hs.Le ((h'.push (.cells true q17)).put h'.next (some (.cells true (putAt (svs s) 0 q17)))) := hle'.trans hnew
  have ho2 : OutSl hs ((h'.push (.cells true q17)).put h'.next (some (.cells true (putAt (svs s) 0 q17)))) vo O := by
    rcases ho with h | ⟨h1, bo, h2, h3, h4⟩
    · exact .inl h
    · exact .inr ⟨h1, bo, h2, h3.le hnew, h4⟩
  have hpv : hs.next ≤ h'.next := hle'.next
  have hdiff : ∀ bo, vo = .slice (some ⟨bo, 0, some 2⟩) O.length O.length → O ≠ [] → bo ≠ h'.next := by
    rintro bo rfl hne rfl
    rcases ho with ⟨h1, _⟩ | ⟨h1, bo', h2, h3, h4⟩
    · exact hne h1
    · cases h2; exact absurd h3.2 (Nat.lt_irrefl _)
  clear ho
  generalize ((h'.push (.cells true q17)).put h'.next (some (.cells true (putAt (svs s) 0 q17)))) = h2 at hnew hgv hnx hle2 ho2 ⊢
  generalize h'.next = pv at hgv hnx hpv hdiff ⊢
  clear hnew hle' h'
  rcases ho2 with ⟨rfl, rfl⟩ | ⟨hne, bo, rfl, how, hbo⟩
  · have hsub : mergeS (L.take (i + 1)) = [s] := hnext
    refine wp_seq ?_
    refine wp_seq ?_
    refine wp_move (by conv => lhs; whnf) ?_
    refine wp_look (l_lenSl rfl) ?_
    refine wp_move (by conv => lhs; whnf) ?_
    refine wp_end ?_
    refine wp_seq ?_
    refine wp_draw ?_
    refine wp_dMove (by conv => lhs; whnf) rfl ?_
    refine wp_dLook (l_gtrI rfl rfl rfl) rfl ?_
    refine wp_dSay (b := false) rfl rfl rfl fun log => ?_
    refine wp_dNo rfl ?_
    refine wp_dNo rfl ?_
    refine wp_dNo rfl ?_
    refine wp_dNo rfl ?_
    refine wp_dNo rfl ?_
    refine wp_dNo rfl ?_
    refine wp_dNo rfl ?_
    refine wp_dNo rfl ?_
    refine wp_dNo rfl ?_
    refine wp_dNo rfl ?_
    refine wp_dNo rfl ?_
    refine wp_dNo rfl ?_
    refine wp_dNo rfl ?_
    refine wp_dNo rfl ?_
    refine wp_dNo rfl ?_
    refine wp_dNo rfl ?_
    refine wp_dNo rfl ?_
    refine wp_dNo rfl ?_
    refine wp_dLook (l_pick0 rfl (by conv => lhs; whnf)) rfl ?_
    refine wp_dEnd ?_
    refine wp_condF rfl rfl ?_
    refine wp_skip ?_
    refine wp_move (by conv => lhs; whnf) ?_
    refine wp_look (l_loadN rfl hgv rfl) ?_
    refine wp_turn (tn_buildSlice rfl) ?_
    refine wp_turn (tn_append (n := 1) (new := flatS [s]) rfl rfl rfl (Heap.load_of (Heap.get_new _ _) rfl) (append_nil (by decide) (by decide))) ?_
    refine wp_move (by conv => lhs; whnf) ?_
    refine wp_end ?_
    refine wp_look (l_incN rfl rfl (by omega)) ?_
    refine wp_move (by conv => lhs; whnf) ?_
    refine wp_end ?_
    refine HN _ _ _ ⟨rfl, rfl, rfl, rfl⟩ (hle2.trans ((Heap.Le.push _ _).trans (Heap.Le.push _ _))) ?_
    rw [hsub]
    refine .inr ⟨by simp, h2.next + 1, rfl, ⟨?_, ?_⟩, ?_⟩
    · rw [List.append_nil]; exact Heap.get_new (h2.push _) _
    · show h2.next + 1 < h2.next + 1 + 1; omega
    · have := hle2.next; omega
  · have hp := List.length_pos_iff.2 hne
    obtain ⟨last, hlast⟩ : ∃ last, O[O.length - 1]? = some last := ⟨O[O.length - 1], List.getElem?_eq_getElem (by omega)⟩
    have hbp := hdiff bo rfl hne
    rw [stepS_some hlast hne] at hnext
    have hgt : decide ((Int.ofNat 0) < (Int.ofNat O.length)) = true := decide_eq_true (by show (0 : Int) < (O.length : Int); omega)
    have hOb : O.length - 1 < O.length := by omega
    refine wp_seq ?_
    refine wp_seq ?_
    refine wp_move (by conv => lhs; whnf) ?_
    refine wp_look (l_lenSl rfl) ?_
    refine wp_move (by conv => lhs; whnf) ?_
    refine wp_end ?_
    refine wp_seq ?_
    by_cases c1 : eqBytes last.2 [] = true
    · have hcond : (eqBytes last.2 [] || !(ltBytes last.2 s.1)) = true := by rw [c1]; rfl
      rw [if_pos hcond] at hnext
      have hmelt : meltS last s = last := by unfold meltS; rw [c1]; rfl
      have hset : O.set (O.length - 1) last = O := by
        obtain ⟨_, e⟩ := List.getElem?_eq_some_iff.1 hlast
        rw [← e]; exact List.set_getElem_self _
      rw [hmelt, hset] at hnext
      refine wp_draw ?_
      refine wp_dMove (by conv => lhs; whnf) rfl ?_
      refine wp_dLook (l_gtrI rfl rfl rfl) rfl ?_
      refine wp_dSay (b := true) rfl hgt rfl fun log => ?_
      refine wp_dYes rfl ?_
      refine wp_dMove (by conv => lhs; whnf) rfl ?_
      refine wp_dYes rfl ?_
      refine wp_dMove (by conv => lhs; whnf) rfl ?_
      refine wp_dYes rfl ?_
      refine wp_dLook (l_decN rfl rfl (by omega) (by omega)) rfl ?_
      refine wp_dYes rfl ?_
      refine wp_dLook (l_ixSl rfl rfl hOb) rfl ?_
      refine wp_dYes rfl ?_
      refine wp_dLook (l_fieldAddr rfl) rfl ?_
      refine wp_dYes rfl ?_
      refine wp_dLook (l_load1 rfl how.1 (flatS_hi O [] hlast)) rfl ?_
      refine wp_dYes rfl ?_
      refine wp_dLook (l_eqS rfl rfl) rfl ?_
      refine wp_dYes rfl ?_
      refine wp_dSay (b := true) rfl c1 rfl fun log => ?_
      refine wp_dNo rfl ?_
      refine wp_dNo rfl ?_
      refine wp_dNo rfl ?_
      refine wp_dNo rfl ?_
      refine wp_dNo rfl ?_
      refine wp_dNo rfl ?_
      refine wp_dNo rfl ?_
      refine wp_dNo rfl ?_
      refine wp_dNo rfl ?_
      refine wp_dYes rfl ?_
      refine wp_dLook (l_pick1 rfl (by conv => lhs; whnf)) rfl ?_
      refine wp_dLook (l_pick1 rfl (by conv => lhs; whnf)) rfl ?_
      refine wp_dEnd ?_
      refine wp_condT rfl rfl ?_
      refine wp_seq ?_
      refine wp_seq ?_
      refine wp_move (by conv => lhs; whnf) ?_
      refine wp_move (by conv => lhs; whnf) ?_
      refine wp_look (l_decN rfl rfl (by omega) (by omega)) ?_
      refine wp_look (l_ixSl rfl rfl hOb) ?_
      refine wp_move (by conv => lhs; whnf) ?_
      refine wp_end ?_
      refine wp_seq ?_
      refine wp_draw ?_
      refine wp_dMove (by conv => lhs; whnf) rfl ?_
      refine wp_dNil rfl rfl ?_
      refine wp_dLook (l_fieldAddr rfl) rfl ?_
      refine wp_dLook (l_load1 rfl how.1 (flatS_hi O [] hlast)) rfl ?_
      refine wp_dLook (l_neS rfl rfl) rfl ?_
      refine wp_dSay (b := false) rfl (by show (!(eqBytes last.2 [])) = false; rw [c1]; rfl) rfl fun log => ?_
      refine wp_dNo rfl ?_
      refine wp_dNo rfl ?_
      refine wp_dNo rfl ?_
      refine wp_dNo rfl ?_
      refine wp_dNo rfl ?_
      refine wp_dNo rfl ?_
      refine wp_dNo rfl ?_
      refine wp_dNo rfl ?_
      refine wp_dNo rfl ?_
      refine wp_dNo rfl ?_
      refine wp_dNo rfl ?_
      refine wp_dNo rfl ?_
      refine wp_dLook (l_pick0 rfl (by conv => lhs; whnf)) rfl ?_
      refine wp_dEnd ?_
      refine wp_condF rfl rfl ?_
      refine wp_skip ?_
      refine wp_exit ?_
      refine exit_here rfl ?_
      refine wp_look (l_incN rfl rfl (by omega)) ?_
      refine wp_move (by conv => lhs; whnf) ?_
      refine wp_end ?_
      refine HN _ _ _ ⟨rfl, rfl, rfl, rfl⟩ hle2 ?_
      rw [hnext]
      exact .inr ⟨hne, bo, rfl, how, hbo⟩
    · rw [Bool.not_eq_true] at c1
      by_cases c2 : ltBytes last.2 s.1 = true
      · have hcond : ¬ (eqBytes last.2 [] || !(ltBytes last.2 s.1)) = true := by rw [c1, c2]; decide
        rw [if_neg hcond] at hnext
        refine wp_draw ?_
        refine wp_dMove (by conv => lhs; whnf) rfl ?_
        refine wp_dLook (l_gtrI rfl rfl rfl) rfl ?_
        refine wp_dSay (b := true) rfl hgt rfl fun log => ?_
        refine wp_dYes rfl ?_
        refine wp_dMove (by conv => lhs; whnf) rfl ?_
        refine wp_dYes rfl ?_
        refine wp_dMove (by conv => lhs; whnf) rfl ?_
        refine wp_dYes rfl ?_
        refine wp_dLook (l_decN rfl rfl (by omega) (by omega)) rfl ?_
        refine wp_dYes rfl ?_
        refine wp_dLook (l_ixSl rfl rfl hOb) rfl ?_
        refine wp_dYes rfl ?_
        refine wp_dLook (l_fieldAddr rfl) rfl ?_
        refine wp_dYes rfl ?_
        refine wp_dLook (l_load1 rfl how.1 (flatS_hi O [] hlast)) rfl ?_
        refine wp_dYes rfl ?_
        refine wp_dLook (l_eqS rfl rfl) rfl ?_
        refine wp_dYes rfl ?_
        refine wp_dSay (b := false) rfl c1 rfl fun log => ?_
        refine wp_dYes rfl ?_
        refine wp_dLook (l_fieldAddr rfl) rfl ?_
        refine wp_dYes rfl ?_
        refine wp_dLook (l_load1 rfl hgv rfl) rfl ?_
        refine wp_dYes rfl ?_
        refine wp_dMove (by conv => lhs; whnf) rfl ?_
        refine wp_dYes rfl ?_
        refine wp_dMove (by conv => lhs; whnf) rfl ?_
        refine wp_dYes rfl ?_
        refine wp_dLook (l_decN rfl rfl (by omega) (by omega)) rfl ?_
        refine wp_dYes rfl ?_
        refine wp_dLook (l_ixSl rfl rfl hOb) rfl ?_
        refine wp_dYes rfl ?_
        refine wp_dLook (l_fieldAddr rfl) rfl ?_
        refine wp_dYes rfl ?_
        refine wp_dLook (l_load1 rfl how.1 (flatS_hi O [] hlast)) rfl ?_
        refine wp_dYes rfl ?_
        refine wp_dLook (l_leq rfl rfl) rfl ?_
        refine wp_dYes rfl ?_
        refine wp_dLook (l_pick0 rfl (by conv => lhs; whnf)) rfl ?_
        refine wp_dLook (l_pick1 rfl (by conv => lhs; whnf)) rfl ?_
        refine wp_dEnd ?_
        refine wp_condF rfl (by show (ltBytes s.1 last.2 || eqBytes s.1 last.2) = false; rw [leq_eq, c2]; rfl) ?_
        refine wp_skip ?_
        refine wp_move (by conv => lhs; whnf) ?_
        refine wp_look (l_loadN rfl hgv rfl) ?_
        refine wp_turn (tn_buildSlice rfl) ?_
        refine wp_turn (tn_append (n := 1) (new := flatS [s]) rfl rfl rfl (Heap.load_of (Heap.get_new _ _) rfl) (append_more (old := flatS O) (Heap.load_of (how.le (Heap.Le.push _ _)).1 (takeN_flat O [])) ⟨_, (how.le (Heap.Le.push _ _)).1⟩ hp (by decide) (by omega))) ?_
        refine wp_move (by conv => lhs; whnf) ?_
        refine wp_end ?_
        refine wp_look (l_incN rfl rfl (by omega)) ?_
        refine wp_move (by conv => lhs; whnf) ?_
        refine wp_end ?_
        refine HN _ _ _ ⟨rfl, rfl, rfl, rfl⟩ (((hle2.trans (Heap.Le.push _ _)).put hbo (Nat.lt_succ_of_lt how.2) _).trans (Heap.Le.push _ _)) ?_
        rw [hnext]
        refine .inr ⟨by simp, h2.next + 1, ?_, ⟨?_, ?_⟩, ?_⟩
        · rw [List.length_append]; rfl
        · rw [List.append_nil, flatS_append]; exact Heap.get_new ((h2.push _).put bo none) _
        · show h2.next + 1 < h2.next + 1 + 1; omega
        · have := hle2.next; omega
      · rw [Bool.not_eq_true] at c2
        have hcond : (eqBytes last.2 [] || !(ltBytes last.2 s.1)) = true := by rw [c1, c2]; rfl
        rw [if_pos hcond] at hnext
        have hset : O.set (O.length - 1) last = O := by
          obtain ⟨_, e⟩ := List.getElem?_eq_some_iff.1 hlast
          rw [← e]; exact List.set_getElem_self _
        by_cases c3 : eqBytes s.2 [] = true
        · have hmelt : meltS last s = (last.1, s.2) := by unfold meltS; rw [c1, c3]; rfl
          refine wp_draw ?_
          refine wp_dMove (by conv => lhs; whnf) rfl ?_
          refine wp_dLook (by first | exact l_gtrI rfl rfl rfl | exact l_gtr rfl rfl) rfl ?_
          refine wp_dSay (b := true) rfl hgt rfl fun log => ?_
          refine wp_dYes rfl ?_
          refine wp_dMove (by conv => lhs; whnf) rfl ?_
          refine wp_dYes rfl ?_
          refine wp_dMove (by conv => lhs; whnf) rfl ?_
          refine wp_dYes rfl ?_
          refine wp_dLook (l_decN rfl rfl (by omega) (by omega)) rfl ?_
          refine wp_dYes rfl ?_
          refine wp_dLook (l_ixSl rfl rfl hOb) rfl ?_
          refine wp_dYes rfl ?_
          refine wp_dLook (l_fieldAddr rfl) rfl ?_
          refine wp_dYes rfl ?_
          refine wp_dLook (l_load1 rfl how.1 (flatS_hi O [] hlast)) rfl ?_
          refine wp_dYes rfl ?_
          refine wp_dLook (l_eqS rfl rfl) rfl ?_
          refine wp_dYes rfl ?_
          refine wp_dSay (b := false) rfl c1 rfl fun log => ?_
          refine wp_dYes rfl ?_
          refine wp_dLook (l_fieldAddr rfl) rfl ?_
          refine wp_dYes rfl ?_
          refine wp_dLook (l_load1 rfl hgv rfl) rfl ?_
          refine wp_dYes rfl ?_
          refine wp_dMove (by conv => lhs; whnf) rfl ?_
          refine wp_dYes rfl ?_
          refine wp_dMove (by conv => lhs; whnf) rfl ?_
          refine wp_dYes rfl ?_
          refine wp_dLook (l_decN rfl rfl (by omega) (by omega)) rfl ?_
          refine wp_dYes rfl ?_
          refine wp_dLook (l_ixSl rfl rfl hOb) rfl ?_
          refine wp_dYes rfl ?_
          refine wp_dLook (l_fieldAddr rfl) rfl ?_
          refine wp_dYes rfl ?_
          refine wp_dLook (l_load1 rfl how.1 (flatS_hi O [] hlast)) rfl ?_
          refine wp_dYes rfl ?_
          refine wp_dLook (l_leq rfl rfl) rfl ?_
          refine wp_dYes rfl ?_
          refine wp_dLook (l_pick0 rfl (by conv => lhs; whnf)) rfl ?_
          refine wp_dLook (l_pick1 rfl (by conv => lhs; whnf)) rfl ?_
          refine wp_dEnd ?_
          refine wp_condT rfl (by show (ltBytes s.1 last.2 || eqBytes s.1 last.2) = true; rw [leq_eq, c2]; rfl) ?_
          refine wp_seq ?_
          refine wp_seq ?_
          refine wp_move (by conv => lhs; whnf) ?_
          refine wp_move (by conv => lhs; whnf) ?_
          refine wp_look (l_decN rfl rfl (by omega) (by omega)) ?_
          refine wp_look (l_ixSl rfl rfl hOb) ?_
          refine wp_move (by conv => lhs; whnf) ?_
          refine wp_end ?_
          refine wp_seq ?_
          refine wp_draw ?_
          refine wp_dMove (by conv => lhs; whnf) rfl ?_
          refine wp_dNil rfl rfl ?_
          refine wp_dLook (l_fieldAddr rfl) rfl ?_
          refine wp_dLook (l_load1 rfl how.1 (flatS_hi O [] hlast)) rfl ?_
          refine wp_dLook (l_neS rfl rfl) rfl ?_
          refine wp_dSay (b := true) rfl (by show (!(eqBytes last.2 [])) = true; rw [c1]; rfl) rfl fun log => ?_
          refine wp_dYes rfl ?_
          refine wp_dLook (l_fieldAddr rfl) rfl ?_
          refine wp_dYes rfl ?_
          refine wp_dLook (l_load1 rfl hgv rfl) rfl ?_
          refine wp_dYes rfl ?_
          refine wp_dLook (l_eqS rfl rfl) rfl ?_
          refine wp_dYes rfl ?_
          refine wp_dSay (b := true) rfl c3 rfl fun log => ?_
          refine wp_dNo rfl ?_
          refine wp_dNo rfl ?_
          refine wp_dNo rfl ?_
          refine wp_dNo rfl ?_
          refine wp_dNo rfl ?_
          refine wp_dNo rfl ?_
          refine wp_dNo rfl ?_
          refine wp_dYes rfl ?_
          refine wp_dLook (l_pick1 rfl (by conv => lhs; whnf)) rfl ?_
          refine wp_dLook (l_pick1 rfl (by conv => lhs; whnf)) rfl ?_
          refine wp_dEnd ?_
          refine wp_condT rfl rfl ?_
          refine wp_move (by conv => lhs; whnf) ?_
          refine wp_look (l_fieldAddr rfl) ?_
          refine wp_look (l_load1 rfl hgv rfl) ?_
          refine wp_nil rfl ?_
          refine wp_look (l_fieldAddr rfl) ?_
          refine wp_turnDo (tn_store rfl rfl rfl how.1 rfl (by show 0 + (O.length - 1) * 2 + 1 + 1 ≤ _; rw [List.length_append, flatS_length]; omega)) ?_
          refine wp_end ?_
          refine wp_exit ?_
          refine exit_here rfl ?_
          refine wp_look (l_incN rfl rfl (by omega)) ?_
          refine wp_move (by conv => lhs; whnf) ?_
          refine wp_end ?_
          refine HN _ _ _ ⟨rfl, rfl, rfl, rfl⟩ (hle2.put hbo how.2 _) ?_
          rw [hnext, hmelt]
          refine .inr ⟨?_, bo, ?_, ⟨?_, how.2⟩, hbo⟩
          · intro e; apply hne; apply List.eq_nil_of_length_eq_zero; rw [← List.length_set (as := O) (i := O.length - 1) (a := (last.1, s.2)), e]; rfl
          · rw [List.length_set]; rfl
          · rw [← putAt_hi O [] s.2 hlast]; exact Heap.get_put_eq _ _ _
        · rw [Bool.not_eq_true] at c3
          by_cases c4 : ltBytes last.2 s.2 = true
          · have hmelt : meltS last s = (last.1, s.2) := by unfold meltS; rw [c1, c3, c4]; rfl
            refine wp_draw ?_
            refine wp_dMove (by conv => lhs; whnf) rfl ?_
            refine wp_dLook (by first | exact l_gtrI rfl rfl rfl | exact l_gtr rfl rfl) rfl ?_
            refine wp_dSay (b := true) rfl hgt rfl fun log => ?_
            refine wp_dYes rfl ?_
            refine wp_dMove (by conv => lhs; whnf) rfl ?_
            refine wp_dYes rfl ?_
            refine wp_dMove (by conv => lhs; whnf) rfl ?_
            refine wp_dYes rfl ?_
            refine wp_dLook (l_decN rfl rfl (by omega) (by omega)) rfl ?_
            refine wp_dYes rfl ?_
            refine wp_dLook (l_ixSl rfl rfl hOb) rfl ?_
            refine wp_dYes rfl ?_
            refine wp_dLook (l_fieldAddr rfl) rfl ?_
            refine wp_dYes rfl ?_
            refine wp_dLook (l_load1 rfl how.1 (flatS_hi O [] hlast)) rfl ?_
            refine wp_dYes rfl ?_
            refine wp_dLook (l_eqS rfl rfl) rfl ?_
            refine wp_dYes rfl ?_
            refine wp_dSay (b := false) rfl c1 rfl fun log => ?_
            refine wp_dYes rfl ?_
            refine wp_dLook (l_fieldAddr rfl) rfl ?_
            refine wp_dYes rfl ?_
            refine wp_dLook (l_load1 rfl hgv rfl) rfl ?_
            refine wp_dYes rfl ?_
            refine wp_dMove (by conv => lhs; whnf) rfl ?_
            refine wp_dYes rfl ?_
            refine wp_dMove (by conv => lhs; whnf) rfl ?_
            refine wp_dYes rfl ?_
            refine wp_dLook (l_decN rfl rfl (by omega) (by omega)) rfl ?_
            refine wp_dYes rfl ?_
            refine wp_dLook (l_ixSl rfl rfl hOb) rfl ?_
            refine wp_dYes rfl ?_
            refine wp_dLook (l_fieldAddr rfl) rfl ?_
            refine wp_dYes rfl ?_
            refine wp_dLook (l_load1 rfl how.1 (flatS_hi O [] hlast)) rfl ?_
            refine wp_dYes rfl ?_
            refine wp_dLook (l_leq rfl rfl) rfl ?_
            refine wp_dYes rfl ?_
            refine wp_dLook (l_pick0 rfl (by conv => lhs; whnf)) rfl ?_
            refine wp_dLook (l_pick1 rfl (by conv => lhs; whnf)) rfl ?_
            refine wp_dEnd ?_
            refine wp_condT rfl (by show (ltBytes s.1 last.2 || eqBytes s.1 last.2) = true; rw [leq_eq, c2]; rfl) ?_
            refine wp_seq ?_
            refine wp_seq ?_
            refine wp_move (by conv => lhs; whnf) ?_
            refine wp_move (by conv => lhs; whnf) ?_
            refine wp_look (l_decN rfl rfl (by omega) (by omega)) ?_
            refine wp_look (l_ixSl rfl rfl hOb) ?_
            refine wp_move (by conv => lhs; whnf) ?_
            refine wp_end ?_
            refine wp_seq ?_
            refine wp_draw ?_
            refine wp_dMove (by conv => lhs; whnf) rfl ?_
            refine wp_dNil rfl rfl ?_
            refine wp_dLook (l_fieldAddr rfl) rfl ?_
            refine wp_dLook (l_load1 rfl how.1 (flatS_hi O [] hlast)) rfl ?_
            refine wp_dLook (l_neS rfl rfl) rfl ?_
            refine wp_dSay (b := true) rfl (by show (!(eqBytes last.2 [])) = true; rw [c1]; rfl) rfl fun log => ?_
            refine wp_dYes rfl ?_
            refine wp_dLook (l_fieldAddr rfl) rfl ?_
            refine wp_dYes rfl ?_
            refine wp_dLook (l_load1 rfl hgv rfl) rfl ?_
            refine wp_dYes rfl ?_
            refine wp_dLook (l_eqS rfl rfl) rfl ?_
            refine wp_dYes rfl ?_
            refine wp_dSay (b := false) rfl c3 rfl fun log => ?_
            refine wp_dYes rfl ?_
            refine wp_dLook (l_fieldAddr rfl) rfl ?_
            refine wp_dYes rfl ?_
            refine wp_dLook (l_load1 rfl hgv rfl) rfl ?_
            refine wp_dYes rfl ?_
            refine wp_dMove (by conv => lhs; whnf) rfl ?_
            refine wp_dYes rfl ?_
            refine wp_dNil rfl rfl ?_
            refine wp_dYes rfl ?_
            refine wp_dLook (l_fieldAddr rfl) rfl ?_
            refine wp_dYes rfl ?_
            refine wp_dLook (l_load1 rfl how.1 (flatS_hi O [] hlast)) rfl ?_
            refine wp_dYes rfl ?_
            refine wp_dLook (by first | exact l_gtrI rfl rfl rfl | exact l_gtr rfl rfl) rfl ?_
            refine wp_dYes rfl ?_
            refine wp_dLook (l_pick0 rfl (by conv => lhs; whnf)) rfl ?_
            refine wp_dLook (l_pick1 rfl (by conv => lhs; whnf)) rfl ?_
            refine wp_dEnd ?_
            refine wp_condT rfl (by show (!(ltBytes s.2 last.2 || eqBytes s.2 last.2)) = true; rw [leq_eq, c4]; rfl) ?_
            refine wp_move (by conv => lhs; whnf) ?_
            refine wp_look (l_fieldAddr rfl) ?_
            refine wp_look (l_load1 rfl hgv rfl) ?_
            refine wp_nil rfl ?_
            refine wp_look (l_fieldAddr rfl) ?_
            refine wp_turnDo (tn_store rfl rfl rfl how.1 rfl (by show 0 + (O.length - 1) * 2 + 1 + 1 ≤ _; rw [List.length_append, flatS_length]; omega)) ?_
            refine wp_end ?_
            refine wp_exit ?_
            refine exit_here rfl ?_
            refine wp_look (l_incN rfl rfl (by omega)) ?_
            refine wp_move (by conv => lhs; whnf) ?_
            refine wp_end ?_
            refine HN _ _ _ ⟨rfl, rfl, rfl, rfl⟩ (hle2.put hbo how.2 _) ?_
            rw [hnext, hmelt]
            refine .inr ⟨?_, bo, ?_, ⟨?_, how.2⟩, hbo⟩
            · intro e; apply hne; apply List.eq_nil_of_length_eq_zero; rw [← List.length_set (as := O) (i := O.length - 1) (a := (last.1, s.2)), e]; rfl
            · rw [List.length_set]; rfl
            · rw [← putAt_hi O [] s.2 hlast]; exact Heap.get_put_eq _ _ _
          · rw [Bool.not_eq_true] at c4
            have hmelt : meltS last s = last := by unfold meltS; rw [c1, c3, c4]; rfl
            refine wp_draw ?_
            refine wp_dMove (by conv => lhs; whnf) rfl ?_
            refine wp_dLook (by first | exact l_gtrI rfl rfl rfl | exact l_gtr rfl rfl) rfl ?_
            refine wp_dSay (b := true) rfl hgt rfl fun log => ?_
            refine wp_dYes rfl ?_
            refine wp_dMove (by conv => lhs; whnf) rfl ?_
            refine wp_dYes rfl ?_
            refine wp_dMove (by conv => lhs; whnf) rfl ?_
            refine wp_dYes rfl ?_
            refine wp_dLook (l_decN rfl rfl (by omega) (by omega)) rfl ?_
            refine wp_dYes rfl ?_
            refine wp_dLook (l_ixSl rfl rfl hOb) rfl ?_
            refine wp_dYes rfl ?_
            refine wp_dLook (l_fieldAddr rfl) rfl ?_
            refine wp_dYes rfl ?_
            refine wp_dLook (l_load1 rfl how.1 (flatS_hi O [] hlast)) rfl ?_
            refine wp_dYes rfl ?_
            refine wp_dLook (l_eqS rfl rfl) rfl ?_
            refine wp_dYes rfl ?_
            refine wp_dSay (b := false) rfl c1 rfl fun log => ?_
            refine wp_dYes rfl ?_
            refine wp_dLook (l_fieldAddr rfl) rfl ?_
            refine wp_dYes rfl ?_
            refine wp_dLook (l_load1 rfl hgv rfl) rfl ?_
            refine wp_dYes rfl ?_
            refine wp_dMove (by conv => lhs; whnf) rfl ?_
            refine wp_dYes rfl ?_
            refine wp_dMove (by conv => lhs; whnf) rfl ?_
            refine wp_dYes rfl ?_
            refine wp_dLook (l_decN rfl rfl (by omega) (by omega)) rfl ?_
            refine wp_dYes rfl ?_
            refine wp_dLook (l_ixSl rfl rfl hOb) rfl ?_
            refine wp_dYes rfl ?_
            refine wp_dLook (l_fieldAddr rfl) rfl ?_
            refine wp_dYes rfl ?_
            refine wp_dLook (l_load1 rfl how.1 (flatS_hi O [] hlast)) rfl ?_
            refine wp_dYes rfl ?_
            refine wp_dLook (l_leq rfl rfl) rfl ?_
            refine wp_dYes rfl ?_
            refine wp_dLook (l_pick0 rfl (by conv => lhs; whnf)) rfl ?_
            refine wp_dLook (l_pick1 rfl (by conv => lhs; whnf)) rfl ?_
            refine wp_dEnd ?_
            refine wp_condT rfl (by show (ltBytes s.1 last.2 || eqBytes s.1 last.2) = true; rw [leq_eq, c2]; rfl) ?_
            refine wp_seq ?_
            refine wp_seq ?_
            refine wp_move (by conv => lhs; whnf) ?_
            refine wp_move (by conv => lhs; whnf) ?_
            refine wp_look (l_decN rfl rfl (by omega) (by omega)) ?_
            refine wp_look (l_ixSl rfl rfl hOb) ?_
            refine wp_move (by conv => lhs; whnf) ?_
            refine wp_end ?_
            refine wp_seq ?_
            refine wp_draw ?_
            refine wp_dMove (by conv => lhs; whnf) rfl ?_
            refine wp_dNil rfl rfl ?_
            refine wp_dLook (l_fieldAddr rfl) rfl ?_
            refine wp_dLook (l_load1 rfl how.1 (flatS_hi O [] hlast)) rfl ?_
            refine wp_dLook (l_neS rfl rfl) rfl ?_
            refine wp_dSay (b := true) rfl (by show (!(eqBytes last.2 [])) = true; rw [c1]; rfl) rfl fun log => ?_
            refine wp_dYes rfl ?_
            refine wp_dLook (l_fieldAddr rfl) rfl ?_
            refine wp_dYes rfl ?_
            refine wp_dLook (l_load1 rfl hgv rfl) rfl ?_
            refine wp_dYes rfl ?_
            refine wp_dLook (l_eqS rfl rfl) rfl ?_
            refine wp_dYes rfl ?_
            refine wp_dSay (b := false) rfl c3 rfl fun log => ?_
            refine wp_dYes rfl ?_
            refine wp_dLook (l_fieldAddr rfl) rfl ?_
            refine wp_dYes rfl ?_
            refine wp_dLook (l_load1 rfl hgv rfl) rfl ?_
            refine wp_dYes rfl ?_
            refine wp_dMove (by conv => lhs; whnf) rfl ?_
            refine wp_dYes rfl ?_
            refine wp_dNil rfl rfl ?_
            refine wp_dYes rfl ?_
            refine wp_dLook (l_fieldAddr rfl) rfl ?_
            refine wp_dYes rfl ?_
            refine wp_dLook (l_load1 rfl how.1 (flatS_hi O [] hlast)) rfl ?_
            refine wp_dYes rfl ?_
            refine wp_dLook (by first | exact l_gtrI rfl rfl rfl | exact l_gtr rfl rfl) rfl ?_
            refine wp_dYes rfl ?_
            refine wp_dLook (l_pick0 rfl (by conv => lhs; whnf)) rfl ?_
            refine wp_dLook (l_pick1 rfl (by conv => lhs; whnf)) rfl ?_
            refine wp_dEnd ?_
            refine wp_condF rfl (by show (!(ltBytes s.2 last.2 || eqBytes s.2 last.2)) = false; rw [leq_eq, c4]; rfl) ?_
            refine wp_skip ?_
            refine wp_exit ?_
            refine exit_here rfl ?_
            refine wp_look (l_incN rfl rfl (by omega)) ?_
            refine wp_move (by conv => lhs; whnf) ?_
            refine wp_end ?_
            refine HN _ _ _ ⟨rfl, rfl, rfl, rfl⟩ hle2 ?_
            rw [hnext, hmelt, hset]
            exact .inr ⟨hne, bo, rfl, how, hbo⟩
end SpanK

namespace SpanK
open Go Go.Eng Go.Proofs.Ytfknpknbgfkbdaa.Eng
set_option maxRecDepth 100000
set_option linter.unusedVariables false
noncomputable def belowB (hi k : ByteArray) : Bool := eqBytes (bytes hi) [] || ltBytes (bytes k) (bytes hi)
theorem below32 (E : Env) (c : Ctx) (lo hi k : ByteArray) (h : Heap) : (enterK E c k32 [.agg ⟨[.string lo, .string hi]⟩, .string k] h).Wp fun v h' => v = .bool (belowB hi k) ∧ h.Le h' := by
  unfold k32
  refine wp_fn (Nat.le_of_ble_eq_true rfl) ?_
  dsimp only
  refine wp_seq ?_
  first | refine wp_turn (tn_boxAgg rfl) ?_ | refine wp_turn (tn_box1 (by conv => lhs; whnf) rfl) ?_
  refine wp_move (by conv => lhs; whnf) ?_
  refine wp_end ?_
  refine wp_seq ?_
  refine wp_look (l_fieldAddr rfl) ?_
  refine wp_look (l_fieldAddr rfl) ?_
  refine wp_look (l_load1 rfl (Heap.get_new _ _) rfl) ?_
  refine wp_look (l_eqS rfl rfl) ?_
  refine wp_name rfl fun b9 e9 => ?_
  refine wp_gMove (wantF_of rfl) (by conv => lhs; whnf) ?_
  refine wp_gLook (wantF_of rfl) (fun hb => by have hb := (Bool.not_eq_true' b9).mp hb; subst hb; exact (l_fieldAddr rfl)) ?_
  refine wp_gLook (wantF_of rfl) (fun hb => by have hb := (Bool.not_eq_true' b9).mp hb; subst hb; exact (l_fieldAddr rfl)) ?_
  refine wp_gLook (wantF_of rfl) (fun hb => by have hb := (Bool.not_eq_true' b9).mp hb; subst hb; exact (l_load1 rfl (Heap.get_new _ _) rfl)) ?_
  refine wp_gLook (wantF_of rfl) (fun hb => by have hb := (Bool.not_eq_true' b9).mp hb; subst hb; exact (by first | exact l_lss rfl rfl | exact l_lssI rfl rfl rfl)) ?_
  refine wp_look (l_or rfl rfl rfl) ?_
  refine wp_move (by conv => lhs; whnf) ?_
  refine wp_end ?_
  refine wp_ret ?_
  refine ⟨rfl, _, rfl, ?_, ?_⟩
  · subst e9; rfl
  · exact Heap.Le.push _ _

/-- What is asked of the functions that are called: they are these, not summed up (but for two). -/
structure Has0 (E : Env) : Prop where
  fn : ∀ n, E.fn n = tab.get n
  sum : ∀ n, n ≠ 41 → n ≠ 9 → E.sum n = none
/-- The sorting is summed up, and the examples. -/
structure Has (E : Env) : Prop extends Has0 E where
  sort : E.sum 41 = some (sortSum 42)
  awake : E.sum 9 = some trueSum
theorem Has0.go {E : Env} (H : Has0 E) {c : Ctx} {f : Nat} {k : KFun} {as : List Value} {h : Heap} {Q : Value → Heap → Prop} (hk : tab.get f = some k) (h1 : f ≠ 41) (h2 : f ≠ 9) (w : (enterK E c k as h).Wp Q) : (enter E c f as h).Wp Q :=
  wp_enter (H.sum f h1 h2) ((H.fn f).trans hk) w
section
theorem Has.go {E : Env} (H : Has E) {c : Ctx} {f : Nat} {k : KFun} {as : List Value} {h : Heap} {Q : Value → Heap → Prop} (hk : tab.get f = some k) (h1 : f ≠ 41) (h2 : f ≠ 9) (w : (enterK E c k as h).Wp Q) : (enter E c f as h).Wp Q := H.toHas0.go hk h1 h2 w
theorem empty13 {E : Env} (H : Has E) (n : Nat) (s : Sp) (h : Heap) : (enter E (ctx E (n + 1)) 13 [.agg ⟨svs s⟩] h).Wp fun v h' => v = .bool (emptyS s) ∧ h.Le h' := by
  refine H.go (k := k13) rfl (by decide) (by decide) ?_
  unfold k13
  refine wp_fn (Nat.le_of_ble_eq_true rfl) ?_
  dsimp only
  refine wp_seq ?_
  refine wp_turn (tn_boxAgg rfl) ?_
  refine wp_move (by conv => lhs; whnf) ?_
  refine wp_end ?_
  refine wp_seq ?_
  refine wp_look (l_loadN rfl (Heap.get_new _ _) rfl) ?_
  refine wp_look rfl ?_
  refine wp_look (l_fieldAddr rfl) ?_
  refine wp_look (l_load1 rfl (Heap.get_new _ _) rfl) ?_
  refine wp_ask (wp_func rfl (H.go (k := k32) rfl (by decide) (by decide) (below32 E _ ⟨⟨s.1⟩⟩ ⟨⟨s.2⟩⟩ ⟨⟨s.1⟩⟩ _))) fun h' hle => ?_
  refine wp_look (l_not rfl) ?_
  refine wp_move (by conv => lhs; whnf) ?_
  refine wp_end ?_
  refine wp_ret ?_
  exact ⟨rfl, _, rfl, rfl, (Heap.Le.push _ _).trans hle⟩
theorem in12 {E : Env} (H : Has E) (n : Nat) (s : Sp) (k : Str) (h : Heap) : (enter E (ctx E (n + 1)) 12 [.agg ⟨svs s⟩, sv k] h).Wp fun v h' => v = .bool (inS s k) ∧ h.Le h' := by
  refine H.go (k := k12) rfl (by decide) (by decide) ?_
  unfold k12
  refine wp_fn (Nat.le_of_ble_eq_true rfl) ?_
  dsimp only
  refine wp_seq ?_
  refine wp_turn (tn_boxAgg rfl) ?_
  refine wp_move (by conv => lhs; whnf) ?_
  refine wp_end ?_
  refine wp_seq ?_
  refine wp_move (by conv => lhs; whnf) ?_
  refine wp_look (l_fieldAddr rfl) ?_
  refine wp_look (l_load1 rfl (Heap.get_new _ _) rfl) ?_
  refine wp_look (l_geq rfl rfl) ?_
  refine wp_name rfl fun b9 e9 => ?_
  refine wp_gLook (wantT_of rfl) (fun hb => by subst hb; exact (l_loadN rfl (Heap.get_new _ _) rfl)) ?_
  refine wp_gLook (wantT_of rfl) (fun hb => by subst hb; exact rfl) ?_
  refine wp_gMove (wantT_of rfl) (by conv => lhs; whnf) ?_
  refine wp_gAsk (wantT_of rfl) (fun hb => by subst hb; exact wp_func rfl (H.go (k := k32) rfl (by decide) (by decide) (below32 E _ ⟨⟨s.1⟩⟩ ⟨⟨s.2⟩⟩ ⟨⟨k⟩⟩ _))) fun h13 le13 => ?_
  refine wp_look (l_and rfl rfl rfl) ?_
  refine wp_move (by conv => lhs; whnf) ?_
  refine wp_end ?_
  refine wp_ret ?_
  refine ⟨rfl, _, rfl, ?_, (Heap.Le.push _ _).trans le13⟩
  subst e9; rfl

theorem join34 {E : Env} (H : Has E) (n : Nat) (l : List Sp) (a : Option Addr) (m ca : Nat) (hm : l.length = m) (h : Heap) (ra : Reads h a l) (ba : Backed h a) (ha : a = none → m = 0) (hbig : m < 1000000) (hf : m + 10 < n) :
    (enter E (ctx E (n + 1)) 34 [.slice a m ca] h).Wp fun v h' => OutSl h h' v (joinS l) ∧ h.Le h' := by
  refine H.go (k := k34) rfl (by decide) (by decide) ?_
  unfold k34
  refine wp_fn (Nat.le_of_ble_eq_true rfl) ?_
  dsimp only
  refine wp_seq ?_
  refine wp_move (by conv => lhs; whnf) ?_
  refine wp_end ?_
  refine wp_seq ?_
  refine wp_move (by conv => lhs; whnf) ?_
  refine wp_callIn (wp_func rfl (H.go (k := k40) rfl (by decide) (by decide) (clone40 E _ l a m ca hm h ra hbig ha ba))) ?_
  rintro v1 h1 ⟨o1, le1⟩
  obtain ⟨n', rfl⟩ : ∃ n', n = n' + 3 := ⟨n - 3, by omega⟩
  have hp : ∀ (k : Nat) s hh, ((ctx E (k + 2)).call (.func (.func 13) ⟨[]⟩ ⟨[]⟩) [.agg ⟨svs s⟩] hh).Wp fun v h' => v = .bool (emptyS s) ∧ hh.Le h' := fun k s hh => wp_func rfl (empty13 H k s hh)
  refine wp_callIn (wp_func rfl (H.go (k := k39) rfl (by decide) (by decide) (del39 E (n' + 2) ((H.fn 45).trans rfl) (H.sum 45 (by decide) (by decide)) emptyS (.func (.func 13) ⟨[]⟩ ⟨[]⟩) l v1 h h1 o1 le1 (by omega) (by omega) (hp (n' + 1)) (hp n')))) ?_
  rintro v2 h2 ⟨o2, le2⟩
  change OwnSl h h2 v2 (fullS l) at o2
  have hfl : (fullS l).length ≤ l.length := List.length_filter_le _ _
  refine wp_move (by conv => lhs; whnf) ?_
  refine wp_end ?_
  refine wp_seq ?_
  refine wp_move (by conv => lhs; whnf) ?_
  -- the sorting
  obtain ⟨ao, cap, hs, e2, hsort, hLe, hcase⟩ : ∃ ao cap hs, v2 = .slice ao (fullS l).length cap ∧ sortSum 42 [v2, .func (.func 42) ⟨[]⟩ ⟨[]⟩] h2 = some (.tuple ⟨[]⟩, hs) ∧ h.Le hs ∧
      (fullS l = [] ∨ ∃ bl rest, ao = some ⟨bl, 0, some 2⟩ ∧ Owns hs bl (sortS (fullS l)) rest) := by
    rcases o2 with ⟨e, ao, cap, rfl, _⟩ | ⟨b, cap, rest, rfl, hc, hl, hlen, o, hb⟩
    · exact ⟨ao, cap, h2, by rw [e]; rfl, sortSum_none, le2, .inl e⟩
    · by_cases e : fullS l = []
      · exact ⟨_, cap, h2, rfl, by rw [e]; exact sortSum_none, le2, .inl e⟩
      · refine ⟨_, cap, _, rfl, sortSum_own o e (by omega), le2.put hb o.2 _, .inr ⟨b, rest, rfl, Heap.get_put_eq _ _ _, o.2⟩⟩
  refine wp_callIn (wp_func rfl (wp_sum H.sort hsort (Q := fun v h => v = .tuple ⟨[]⟩ ∧ h = hs) ⟨rfl, rfl⟩)) ?_
  rintro v3 h3 ⟨rfl, rfl⟩
  subst e2
  refine wp_end ?_
  refine wp_seq ?_
  refine wp_move (by conv => lhs; whnf) ?_
  refine wp_end ?_
  refine wp_seq ?_
  refine wp_seq ?_
  refine wp_move (by conv => lhs; whnf) ?_
  refine wp_look (l_lenSl rfl) ?_
  refine wp_move (by conv => lhs; whnf) ?_
  refine wp_end ?_
  refine wp_block ?_
  have hLl := sortS_length (fullS l)
  refine wp_loop (fun m t x h' => ∃ (i : Nat) (vo : Value), m = (fullS l).length - i ∧ i ≤ (fullS l).length ∧ (g15 t = .int .i64 (Int.ofNat i) ∧ g14 t = .int .i64 (Int.ofNat (fullS l).length) ∧ g13 t = .slice ao (fullS l).length cap ∧ g3 t = vo) ∧ x = ⟨[], none, none⟩ ∧ h3.Le h' ∧ OutSl h3 h' vo (mergeS ((sortS (fullS l)).take i)))
    (fullS l).length ⟨0, .slice none 0 0, rfl, Nat.zero_le _, ⟨rfl, rfl, rfl, rfl⟩, rfl, Heap.Le.refl _, .inl ⟨rfl, rfl⟩⟩ (by rw [ctx_fuel]; omega) ?_
  rintro m' t x h' ⟨i, vo, rfl, hi, ⟨r15, r14, r13, r3⟩, rfl, hle', hout⟩
  obtain ⟨t0, rfl⟩ : ∃ t0, t = p15 (.int .i64 (Int.ofNat i)) (p14 (.int .i64 (Int.ofNat (fullS l).length)) (p13 (.slice ao (fullS l).length cap) (p3 vo t0))) := ⟨t, by rw [← r15, ← r14, ← r13, ← r3]; rfl⟩
  clear r15 r14 r13 r3
  by_cases hlt : i < (fullS l).length
  · rcases hcase with e | ⟨bl, rest, rfl, hin⟩
    · rw [e] at hlt; exact absurd hlt (Nat.not_lt_zero _)
    · rw [← hLl] at hlt hi ⊢
      refine joinLoop E _ (sortS (fullS l)) bl cap rest h3 hin (by omega) t0 _ i hi vo h' hle' rfl hout hlt _ _ _ ?_
      intro t h'' vo' regs hle'' hout'
      exact ⟨_, by omega, i + 1, vo', rfl, hlt, regs, rfl, hle'', hout'⟩
  · have hil : i = (fullS l).length := by omega
    subst hil
    refine wp_seq ?_
    refine wp_look (l_lssI rfl rfl rfl) ?_
    refine wp_end ?_
    refine wp_seq ?_
    refine wp_condF rfl (decide_eq_false (by omega)) ?_
    refine wp_exit ?_
    refine exit_here rfl ?_
    refine wp_seq ?_
    refine wp_move (by conv => lhs; whnf) ?_
    refine wp_move (by conv => lhs; whnf) ?_
    refine wp_end ?_
    refine wp_ret ?_
    refine ⟨rfl, _, rfl, ?_, hLe.trans hle'⟩
    rw [← hLl, List.take_length] at hout
    change OutSl h h' vo (joinS l)
    rcases hout with h | ⟨h1, bo, e1, e2, e3⟩
    · exact .inl h
    · exact .inr ⟨h1, bo, e1, e2, Nat.le_trans hLe.next e3⟩
end
end SpanK

namespace SpanK
open Go Go.Eng Go.Proofs.Ytfknpknbgfkbdaa.Eng
set_option maxRecDepth 100000
set_option linter.unusedVariables false
section
theorem contains36 {E : Env} (H : Has E) (n : Nat) (p : Sp → Bool) (fv : Value) (l : List Sp) (a : Option Addr) (m ca : Nat) (hm : l.length = m) (h : Heap) (ra : Reads h a l) (hf : m < n) (hbig : m < 4611686018427387904)
    (hp : ∀ s h', h.Le h' → ((ctx E n).call fv [.agg ⟨svs s⟩] h').Wp fun v h'' => v = .bool (p s) ∧ h'.Le h'') :
    (enter E (ctx E (n + 1)) 36 [.slice a m ca, fv] h).Wp fun v h' => v = .bool (l.any p) ∧ h.Le h' := by
  refine H.go (k := k36) rfl (by decide) (by decide) ?_
  unfold k36
  refine wp_fn (Nat.le_of_ble_eq_true rfl) ?_
  dsimp only
  refine wp_seq ?_
  refine wp_move (by conv => lhs; whnf) ?_
  refine wp_end ?_
  refine wp_seq ?_
  refine wp_move (by conv => lhs; whnf) ?_
  refine wp_move (by conv => lhs; whnf) ?_
  refine wp_callIn (wp_func rfl (H.go (k := k45) rfl (by decide) (by decide) (idx45 E _ p fv l a m ca hm h ra (by rw [ctx_fuel]; exact hf) hbig hp))) ?_
  rintro v h' ⟨rfl, hle⟩
  refine wp_look (l_geqI rfl rfl rfl) ?_
  refine wp_move (by conv => lhs; whnf) ?_
  refine wp_end ?_
  refine wp_ret ?_
  refine ⟨rfl, _, rfl, ?_, hle⟩
  rw [← firstP_any]; rfl
theorem joins22 {E : Env} (H : Has E) (n : Nat) (l : List Sp) (a : Option Addr) (m ca : Nat) (hm : l.length = m) (h : Heap) (ra : Reads h a l) (ba : Backed h a) (ha : a = none → m = 0) (hbig : m < 1000000) (hf : m + 20 < n) :
    (enter E (ctx E (n + 1)) 22 [.slice a m ca] h).Wp fun v h' => OutSl h h' v (joinS l) ∧ h.Le h' := by
  refine H.go (k := k22) rfl (by decide) (by decide) ?_
  unfold k22
  refine wp_fn (Nat.le_of_ble_eq_true rfl) ?_
  dsimp only
  refine wp_seq ?_
  refine wp_move (by conv => lhs; whnf) ?_
  refine wp_end ?_
  refine wp_seq ?_
  refine wp_move (by conv => lhs; whnf) ?_
  obtain ⟨n', rfl⟩ : ∃ n', n = n' + 1 := ⟨n - 1, by omega⟩
  refine wp_callIn (wp_func rfl (join34 H n' l a m ca hm h ra ba ha hbig (by omega))) ?_
  rintro v h' ⟨ho, hle⟩
  refine wp_move (by conv => lhs; whnf) ?_
  refine wp_end ?_
  refine wp_ret ?_
  exact ⟨rfl, _, rfl, ho, hle⟩
theorem covers38 {E : Env} (H : Has E) (c : Ctx) (s x : Sp) (h : Heap) (b : Nat) (hb : h.get b = some (.cells true (svs s))) (hlt : b < h.next) : (enter E c 38 [.agg ⟨svs x⟩, .pointer (some ⟨b, 0, none⟩)] h).Wp fun v h' => v = .bool (!(ltBytes s.1 x.1) && (eqBytes x.2 [] || (!(eqBytes s.2 []) && !(ltBytes x.2 s.2)))) ∧ h.Le h' := by
  refine H.go (k := k38) rfl (by decide) (by decide) ?_
  unfold k38
  refine wp_fn (Nat.le_of_ble_eq_true rfl) ?_
  dsimp only
  have hb' : (h.push (.cells true (svs x))).get b = some (.cells true (svs s)) := by rw [Heap.get_push_ne (by omega)]; exact hb
  by_cases c1 : ltBytes s.1 x.1 = true
  · rw [c1]
    refine wp_seq ?_
    refine wp_turn (tn_boxAgg rfl) ?_
    refine wp_move (by conv => lhs; whnf) ?_
    refine wp_end ?_
    refine wp_seq ?_
    refine wp_look (l_fieldAddr rfl) ?_
    refine wp_look (l_load1 rfl (Heap.get_new _ _) rfl) ?_
    refine wp_look (l_fieldAddr rfl) ?_
    refine wp_look (l_load1 rfl hb' rfl) ?_
    refine wp_look (l_leq rfl rfl) ?_
    refine wp_say (b := false) rfl (by show (ltBytes x.1 s.1 || eqBytes x.1 s.1) = false; rw [leq_eq, c1]; rfl) ?_
    refine wp_no rfl ?_
    refine wp_no rfl ?_
    refine wp_no rfl ?_
    refine wp_no rfl ?_
    refine wp_no rfl ?_
    refine wp_no rfl ?_
    refine wp_no rfl ?_
    refine wp_no rfl ?_
    refine wp_no rfl ?_
    refine wp_no rfl ?_
    refine wp_no rfl ?_
    refine wp_no rfl ?_
    refine wp_no rfl ?_
    refine wp_no rfl ?_
    refine wp_no rfl ?_
    refine wp_look (l_pick0 rfl (by conv => lhs; whnf)) ?_
    refine wp_move (by conv => lhs; whnf) ?_
    refine wp_end ?_
    refine wp_ret ?_
    exact ⟨rfl, _, rfl, rfl, Heap.Le.push _ _⟩
  · rw [Bool.not_eq_true] at c1
    rw [c1]
    by_cases c2 : eqBytes x.2 [] = true
    · rw [c2]
      refine wp_seq ?_
      refine wp_turn (tn_boxAgg rfl) ?_
      refine wp_move (by conv => lhs; whnf) ?_
      refine wp_end ?_
      refine wp_seq ?_
      refine wp_look (l_fieldAddr rfl) ?_
      refine wp_look (l_load1 rfl (Heap.get_new _ _) rfl) ?_
      refine wp_look (l_fieldAddr rfl) ?_
      refine wp_look (l_load1 rfl hb' rfl) ?_
      refine wp_look (l_leq rfl rfl) ?_
      refine wp_say (b := true) rfl (by show (ltBytes x.1 s.1 || eqBytes x.1 s.1) = true; rw [leq_eq, c1]; rfl) ?_
      refine wp_yes rfl ?_
      refine wp_look (l_fieldAddr rfl) ?_
      refine wp_yes rfl ?_
      refine wp_look (l_load1 rfl (Heap.get_new _ _) rfl) ?_
      refine wp_yes rfl ?_
      refine wp_look (l_eqS rfl rfl) ?_
      refine wp_yes rfl ?_
      refine wp_say (b := true) rfl c2 ?_
      refine wp_no rfl ?_
      refine wp_no rfl ?_
      refine wp_no rfl ?_
      refine wp_no rfl ?_
      refine wp_no rfl ?_
      refine wp_no rfl ?_
      refine wp_no rfl ?_
      refine wp_no rfl ?_
      refine wp_no rfl ?_
      refine wp_no rfl ?_
      refine wp_yes rfl ?_
      refine wp_look (l_pick1 rfl (by conv => lhs; whnf)) ?_
      refine wp_look (l_pick1 rfl (by conv => lhs; whnf)) ?_
      refine wp_move (by conv => lhs; whnf) ?_
      refine wp_end ?_
      refine wp_ret ?_
      exact ⟨rfl, _, rfl, rfl, Heap.Le.push _ _⟩
    · rw [Bool.not_eq_true] at c2
      rw [c2]
      by_cases c3 : eqBytes s.2 [] = true
      · rw [c3]
        refine wp_seq ?_
        refine wp_turn (tn_boxAgg rfl) ?_
        refine wp_move (by conv => lhs; whnf) ?_
        refine wp_end ?_
        refine wp_seq ?_
        refine wp_look (l_fieldAddr rfl) ?_
        refine wp_look (l_load1 rfl (Heap.get_new _ _) rfl) ?_
        refine wp_look (l_fieldAddr rfl) ?_
        refine wp_look (l_load1 rfl hb' rfl) ?_
        refine wp_look (l_leq rfl rfl) ?_
        refine wp_say (b := true) rfl (by show (ltBytes x.1 s.1 || eqBytes x.1 s.1) = true; rw [leq_eq, c1]; rfl) ?_
        refine wp_yes rfl ?_
        refine wp_look (l_fieldAddr rfl) ?_
        refine wp_yes rfl ?_
        refine wp_look (l_load1 rfl (Heap.get_new _ _) rfl) ?_
        refine wp_yes rfl ?_
        refine wp_look (l_eqS rfl rfl) ?_
        refine wp_yes rfl ?_
        refine wp_say (b := false) rfl c2 ?_
        refine wp_yes rfl ?_
        refine wp_look (l_fieldAddr rfl) ?_
        refine wp_yes rfl ?_
        refine wp_look (l_load1 rfl hb' rfl) ?_
        refine wp_yes rfl ?_
        refine wp_look (l_neS rfl rfl) ?_
        refine wp_yes rfl ?_
        refine wp_say (b := false) rfl (by show (!(eqBytes s.2 [])) = false; rw [c3]; rfl) ?_
        refine wp_no rfl ?_
        refine wp_no rfl ?_
        refine wp_no rfl ?_
        refine wp_no rfl ?_
        refine wp_no rfl ?_
        refine wp_yes rfl ?_
        refine wp_look (l_pick0 rfl (by conv => lhs; whnf)) ?_
        refine wp_yes rfl ?_
        refine wp_look (l_pick0 rfl (by conv => lhs; whnf)) ?_
        refine wp_look (l_pick1 rfl (by conv => lhs; whnf)) ?_
        refine wp_move (by conv => lhs; whnf) ?_
        refine wp_end ?_
        refine wp_ret ?_
        exact ⟨rfl, _, rfl, rfl, Heap.Le.push _ _⟩
      · rw [Bool.not_eq_true] at c3
        rw [c3]
        refine wp_seq ?_
        refine wp_turn (tn_boxAgg rfl) ?_
        refine wp_move (by conv => lhs; whnf) ?_
        refine wp_end ?_
        refine wp_seq ?_
        refine wp_look (l_fieldAddr rfl) ?_
        refine wp_look (l_load1 rfl (Heap.get_new _ _) rfl) ?_
        refine wp_look (l_fieldAddr rfl) ?_
        refine wp_look (l_load1 rfl hb' rfl) ?_
        refine wp_look (l_leq rfl rfl) ?_
        refine wp_say (b := true) rfl (by show (ltBytes x.1 s.1 || eqBytes x.1 s.1) = true; rw [leq_eq, c1]; rfl) ?_
        refine wp_yes rfl ?_
        refine wp_look (l_fieldAddr rfl) ?_
        refine wp_yes rfl ?_
        refine wp_look (l_load1 rfl (Heap.get_new _ _) rfl) ?_
        refine wp_yes rfl ?_
        refine wp_look (l_eqS rfl rfl) ?_
        refine wp_yes rfl ?_
        refine wp_say (b := false) rfl c2 ?_
        refine wp_yes rfl ?_
        refine wp_look (l_fieldAddr rfl) ?_
        refine wp_yes rfl ?_
        refine wp_look (l_load1 rfl hb' rfl) ?_
        refine wp_yes rfl ?_
        refine wp_look (l_neS rfl rfl) ?_
        refine wp_yes rfl ?_
        refine wp_say (b := true) rfl (by show (!(eqBytes s.2 [])) = true; rw [c3]; rfl) ?_
        refine wp_yes rfl ?_
        refine wp_look (l_fieldAddr rfl) ?_
        refine wp_yes rfl ?_
        refine wp_look (l_load1 rfl hb' rfl) ?_
        refine wp_yes rfl ?_
        refine wp_look (l_fieldAddr rfl) ?_
        refine wp_yes rfl ?_
        refine wp_look (l_load1 rfl (Heap.get_new _ _) rfl) ?_
        refine wp_yes rfl ?_
        refine wp_look (l_leq rfl rfl) ?_
        refine wp_yes rfl ?_
        refine wp_look (l_pick1 rfl (by conv => lhs; whnf)) ?_
        refine wp_yes rfl ?_
        refine wp_look (l_pick0 rfl (by conv => lhs; whnf)) ?_
        refine wp_look (l_pick1 rfl (by conv => lhs; whnf)) ?_
        refine wp_move (by conv => lhs; whnf) ?_
        refine wp_end ?_
        refine wp_ret ?_
        exact ⟨rfl, _, rfl, (by rw [← leq_eq]; rfl), Heap.Le.push _ _⟩
end
end SpanK

namespace SpanK
open Go Go.Eng Go.Proofs.Ytfknpknbgfkbdaa.Eng
set_option maxRecDepth 100000
set_option linter.unusedVariables false
theorem OutSl.parts {hs h : Heap} {v : Value} {O : List Sp} (o : OutSl hs h v O) : ∃ ao cap, v = .slice ao O.length cap ∧ Reads h ao O ∧ Backed h ao ∧ (ao = none → O.length = 0) := by
  rcases o with ⟨rfl, rfl⟩ | ⟨h1, bo, rfl, h2, h3⟩
  · exact ⟨none, 0, rfl, Reads.nil _ _, fun x hx => (nomatch hx), fun _ => rfl⟩
  · refine ⟨some ⟨bo, 0, some 2⟩, O.length, rfl, h2.reads _, fun x hx => ?_, fun h => (nomatch h)⟩
    cases hx
    exact ⟨true, _, h2.1, h2.2⟩
theorem OutSl.le {hs h h' : Heap} {v : Value} {O : List Sp} (o : OutSl hs h v O) (k : h.Le h') : OutSl hs h' v O := by
  rcases o with h | ⟨h1, bo, h2, h3, h4⟩
  · exact .inl h
  · exact .inr ⟨h1, bo, h2, h3.le k, h4⟩
theorem join_length (l : List Sp) : (joinS l).length ≤ l.length := by
  have : ∀ (l : List Sp), (mergeS l).length ≤ l.length := by
    intro l
    cases l with
    | nil => exact Nat.le_refl _
    | cons x l =>
      show (goS x l).length ≤ l.length + 1
      induction l generalizing x with
      | nil => exact Nat.le_refl _
      | cons y l ih =>
        unfold goS
        split
        · have := ih (meltS x y); simp at this ⊢; omega
        · have := ih y; simp at this ⊢; omega
  have h1 := this (sortS (fullS l))
  rw [sortS_length] at h1
  exact Nat.le_trans h1 (List.length_filter_le _ _)
section
theorem covers28 {E : Env} (H : Has E) (n : Nat) (l : List Sp) (s : Sp) (a : Option Addr) (m ca : Nat) (hm : l.length = m) (h : Heap) (ra : Reads h a l) (ba : Backed h a) (ha : a = none → m = 0) (hbig : m < 1000000) (hf : m + 30 < n) :
    (enter E (ctx E (n + 1)) 28 [.slice a m ca, .agg ⟨svs s⟩] h).Wp fun v h' => v = .bool (emptyS s || coversS (joinS l) s) ∧ h.Le h' := by
  refine H.go (k := k28) rfl (by decide) (by decide) ?_
  unfold k28
  refine wp_fn (Nat.le_of_ble_eq_true rfl) ?_
  dsimp only
  obtain ⟨n', rfl⟩ : ∃ n', n = n' + 2 := ⟨n - 2, by omega⟩
  refine wp_seq ?_
  refine wp_turn (tn_boxAgg rfl) ?_
  refine wp_move (by conv => lhs; whnf) ?_
  refine wp_end ?_
  refine wp_seq ?_
  refine wp_seq ?_
  refine wp_look (l_loadN rfl (Heap.get_new _ _) rfl) ?_
  refine wp_callIn (wp_func rfl (empty13 H _ s _)) ?_
  rintro v h1 ⟨rfl, hle1⟩
  refine wp_end ?_
  refine wp_cond rfl (fun hb => ?_) (fun hb => ?_)
  · refine wp_seq ?_
    refine wp_move (by conv => lhs; whnf) ?_
    refine wp_end ?_
    refine wp_ret ?_
    refine ⟨rfl, _, rfl, ?_, (Heap.Le.push _ _).trans hle1⟩
    rw [hb]; rfl
  · refine wp_skip ?_
    have hpv : h1.get h.next = some (.cells true (svs s)) := (hle1.get _ (Nat.lt_succ_self _)).trans (Heap.get_new _ _)
    have hpn : h.next < h1.next := Nat.lt_of_lt_of_le (Nat.lt_succ_self _) hle1.next
    have hle : h.Le h1 := (Heap.Le.push _ _).trans hle1
    refine wp_seq ?_
    refine wp_move (by conv => lhs; whnf) ?_
    refine wp_callIn (wp_func rfl (joins22 H _ l a m ca hm h1 (ra.le hle) (ba.le hle) ha hbig (by omega))) ?_
    rintro v2 h2 ⟨ho, hle2⟩
    obtain ⟨ao, cap, rfl, hr, _, _⟩ := ho.parts
    refine wp_look rfl ?_
    have hjl := join_length l
    refine wp_callIn (wp_func rfl (contains36 H _ (fun x => !(ltBytes s.1 x.1) && (eqBytes x.2 [] || (!(eqBytes s.2 []) && !(ltBytes x.2 s.2)))) _ (joinS l) ao _ cap rfl h2 hr (by omega) (by omega) fun x h' hle' => wp_func rfl (covers38 H _ s x h' h.next ((hle'.get _ (Nat.lt_of_lt_of_le hpn hle2.next)).trans ((hle2.get _ hpn).trans hpv)) (Nat.lt_of_lt_of_le (Nat.lt_of_lt_of_le hpn hle2.next) hle'.next)))) ?_
    rintro v3 h3 ⟨rfl, hle3⟩
    refine wp_move (by conv => lhs; whnf) ?_
    refine wp_end ?_
    refine wp_ret ?_
    refine ⟨rfl, _, rfl, ?_, hle.trans (hle2.trans hle3)⟩
    rw [hb]; rfl
end
end SpanK

namespace SpanK
open Go Go.Eng Go.Proofs.Ytfknpknbgfkbdaa.Eng
set_option maxRecDepth 100000
set_option linter.unusedVariables false
noncomputable def cmpB (a b : Str) : Int := if ltBytes a b = true then -1 else if ltBytes b a = true then 1 else 0
noncomputable def cmpS (x y : Sp) : Int := if cmpB x.1 y.1 = 0 then cmpB x.2 y.2 else cmpB x.1 y.1
theorem unLook_same {log : List (Nat × LogE)} {i : Nat} {l : Look} {t : Tm} {s : ByteArray} {hp : Heap} (hf : findLog i log = some (.wr hp)) (hl : l t hp = some (.string s)) : unLook log l t (.string s) [i] = true := by
  show ((match findLog i log with
      | none => true
      | some (.wr before) => tellsAs (l t before) (.string s)
      | some (.ld _) => false) && true) = true
  rw [hf]
  show (tellsAs (l t hp) (.string s) && true) = true
  rw [hl]
  show ((s == s) && true) = true
  rw [← eqBytes_bytes, (eqB_iff _ _).2 rfl]; rfl
section
theorem nan48 {E : Env} (H : Has0 E) (c : Ctx) (s : ByteArray) (h : Heap) : (enter E c 48 [.string s] h).Wp fun v h' => v = .bool false ∧ h' = h := by
  refine H.go (k := k48) rfl (by decide) (by decide) ?_
  unfold k48
  refine wp_fn (Nat.le_of_ble_eq_true rfl) ?_
  dsimp only
  refine wp_seq ?_
  refine wp_move (by conv => lhs; whnf) ?_
  refine wp_end ?_
  refine wp_seq ?_
  refine wp_move (by conv => lhs; whnf) ?_
  refine wp_move (by conv => lhs; whnf) ?_
  refine wp_look (l_neS rfl rfl) ?_
  refine wp_move (by conv => lhs; whnf) ?_
  refine wp_end ?_
  refine wp_ret ?_
  refine ⟨rfl, _, rfl, ?_, rfl⟩
  show Value.bool (!(eqBytes (bytes s) (bytes s))) = _
  rw [(eqB_iff _ _).2 rfl]; rfl

theorem cmp44 {E : Env} (H : Has0 E) (n : Nat) (a b : ByteArray) (h : Heap) : (enter E (ctx E (n + 1)) 44 [.string a, .string b] h).Wp fun v h' => v = .int .i64 (cmpB (bytes a) (bytes b)) ∧ h' = h := by
  refine H.go (k := k44) rfl (by decide) (by decide) ?_
  unfold k44
  refine wp_fn (Nat.le_of_ble_eq_true rfl) ?_
  dsimp only
  by_cases c1 : ltBytes (bytes a) (bytes b) = true
  · have e : cmpB (bytes a) (bytes b) = -1 := if_pos c1
    rw [e]
    refine wp_seq ?_
    refine wp_move (by conv => lhs; whnf) ?_
    refine wp_end ?_
    refine wp_seq ?_
    refine wp_move (by conv => lhs; whnf) ?_
    refine wp_callIn (wp_func rfl (nan48 H _ _ _)) ?_  -- CALL
    rintro v h' ⟨rfl, rfl⟩
    refine wp_move (by conv => lhs; whnf) ?_
    refine wp_end ?_
    refine wp_seq ?_
    refine wp_move (by conv => lhs; whnf) ?_
    refine wp_callIn (wp_func rfl (nan48 H _ _ _)) ?_  -- CALL
    rintro v h' ⟨rfl, rfl⟩
    refine wp_move (by conv => lhs; whnf) ?_
    refine wp_end ?_
    refine wp_seq ?_
    refine wp_seq ?_
    refine wp_move (by conv => lhs; whnf) ?_
    refine wp_end ?_
    refine wp_condF rfl rfl ?_
    refine wp_skip ?_
    refine wp_seq ?_
    refine wp_seq ?_
    refine wp_move (by conv => lhs; whnf) ?_
    refine wp_end ?_
    refine wp_condF rfl rfl ?_
    refine wp_skip ?_
    refine wp_seq ?_
    refine wp_seq ?_
    refine wp_move (by conv => lhs; whnf) ?_
    refine wp_move (by conv => lhs; whnf) ?_
    refine wp_look (l_lss rfl rfl) ?_
    refine wp_end ?_
    refine wp_condT rfl c1 ?_
    refine wp_seq ?_
    refine wp_move (by conv => lhs; whnf) ?_
    refine wp_end ?_
    refine wp_ret ?_
    exact ⟨rfl, _, rfl, rfl, rfl⟩
  · by_cases c2 : ltBytes (bytes b) (bytes a) = true
    · have e : cmpB (bytes a) (bytes b) = 1 := by unfold cmpB; rw [if_neg c1, if_pos c2]
      rw [e]
      refine wp_seq ?_
      refine wp_move (by conv => lhs; whnf) ?_
      refine wp_end ?_
      refine wp_seq ?_
      refine wp_move (by conv => lhs; whnf) ?_
      refine wp_callIn (wp_func rfl (nan48 H _ _ _)) ?_  -- CALL
      rintro v h' ⟨rfl, rfl⟩
      refine wp_move (by conv => lhs; whnf) ?_
      refine wp_end ?_
      refine wp_seq ?_
      refine wp_move (by conv => lhs; whnf) ?_
      refine wp_callIn (wp_func rfl (nan48 H _ _ _)) ?_  -- CALL
      rintro v h' ⟨rfl, rfl⟩
      refine wp_move (by conv => lhs; whnf) ?_
      refine wp_end ?_
      refine wp_seq ?_
      refine wp_seq ?_
      refine wp_move (by conv => lhs; whnf) ?_
      refine wp_end ?_
      refine wp_condF rfl rfl ?_
      refine wp_skip ?_
      refine wp_seq ?_
      refine wp_seq ?_
      refine wp_move (by conv => lhs; whnf) ?_
      refine wp_end ?_
      refine wp_condF rfl rfl ?_
      refine wp_skip ?_
      refine wp_seq ?_
      refine wp_seq ?_
      refine wp_move (by conv => lhs; whnf) ?_
      refine wp_move (by conv => lhs; whnf) ?_
      refine wp_look (l_lss rfl rfl) ?_
      refine wp_end ?_
      refine wp_condF rfl (Bool.not_eq_true _ ▸ c1) ?_
      refine wp_skip ?_
      refine wp_seq ?_
      refine wp_seq ?_
      refine wp_move (by conv => lhs; whnf) ?_
      refine wp_move (by conv => lhs; whnf) ?_
      refine wp_look (l_gtr rfl rfl) ?_
      refine wp_end ?_
      refine wp_condT rfl (by show (!(ltBytes (bytes a) (bytes b) || eqBytes (bytes a) (bytes b))) = true; rw [leq_eq, c2]; rfl) ?_
      refine wp_seq ?_
      refine wp_move (by conv => lhs; whnf) ?_
      refine wp_end ?_
      refine wp_ret ?_
      exact ⟨rfl, _, rfl, rfl, rfl⟩
    · have e : cmpB (bytes a) (bytes b) = 0 := by unfold cmpB; rw [if_neg c1, if_neg c2]
      rw [e]
      rw [Bool.not_eq_true] at c2
      refine wp_seq ?_
      refine wp_move (by conv => lhs; whnf) ?_
      refine wp_end ?_
      refine wp_seq ?_
      refine wp_move (by conv => lhs; whnf) ?_
      refine wp_callIn (wp_func rfl (nan48 H _ _ _)) ?_  -- CALL
      rintro v h' ⟨rfl, rfl⟩
      refine wp_move (by conv => lhs; whnf) ?_
      refine wp_end ?_
      refine wp_seq ?_
      refine wp_move (by conv => lhs; whnf) ?_
      refine wp_callIn (wp_func rfl (nan48 H _ _ _)) ?_  -- CALL
      rintro v h' ⟨rfl, rfl⟩
      refine wp_move (by conv => lhs; whnf) ?_
      refine wp_end ?_
      refine wp_seq ?_
      refine wp_seq ?_
      refine wp_move (by conv => lhs; whnf) ?_
      refine wp_end ?_
      refine wp_condF rfl rfl ?_
      refine wp_skip ?_
      refine wp_seq ?_
      refine wp_seq ?_
      refine wp_move (by conv => lhs; whnf) ?_
      refine wp_end ?_
      refine wp_condF rfl rfl ?_
      refine wp_skip ?_
      refine wp_seq ?_
      refine wp_seq ?_
      refine wp_move (by conv => lhs; whnf) ?_
      refine wp_move (by conv => lhs; whnf) ?_
      refine wp_look (l_lss rfl rfl) ?_
      refine wp_end ?_
      refine wp_condF rfl (Bool.not_eq_true _ ▸ c1) ?_
      refine wp_skip ?_
      refine wp_seq ?_
      refine wp_seq ?_
      refine wp_move (by conv => lhs; whnf) ?_
      refine wp_move (by conv => lhs; whnf) ?_
      refine wp_look (l_gtr rfl rfl) ?_
      refine wp_end ?_
      refine wp_condF rfl (by show (!(ltBytes (bytes a) (bytes b) || eqBytes (bytes a) (bytes b))) = false; rw [leq_eq, c2]; rfl) ?_
      refine wp_skip ?_
      refine wp_seq ?_
      refine wp_move (by conv => lhs; whnf) ?_
      refine wp_end ?_
      refine wp_ret ?_
      exact ⟨rfl, _, rfl, rfl, rfl⟩

theorem or43 {E : Env} (H : Has0 E) (n : Nat) (x1 y1 : Int) (b : Nat) (h : Heap) (hb : h.get b = some (.cells true [.int .i64 x1, .int .i64 y1])) (hn : 2 < n) : (enter E (ctx E n) 43 [.slice (some ⟨b, 0, none⟩) 2 2] h).Wp fun v h' => v = .int .i64 (if x1 = 0 then y1 else x1) ∧ h' = h := by
  refine H.go (k := k43) rfl (by decide) (by decide) ?_
  unfold k43
  refine wp_fn (Nat.le_of_ble_eq_true rfl) ?_
  dsimp only
  refine wp_seq ?_
  refine wp_move (by conv => lhs; whnf) ?_
  refine wp_end ?_
  refine wp_seq ?_
  refine wp_move (by conv => lhs; whnf) ?_
  refine wp_end ?_
  refine wp_seq ?_
  refine wp_seq ?_
  refine wp_move (by conv => lhs; whnf) ?_
  refine wp_look (l_lenSl rfl) ?_
  refine wp_move (by conv => lhs; whnf) ?_
  refine wp_end ?_
  refine wp_block ?_
  refine wp_loop (fun m t x h' => ∃ (i : Nat), m = 2 - i ∧ i ≤ 2 ∧ (g8 t = .int .i64 (Int.ofNat i) ∧ g7 t = .int .i64 (Int.ofNat 2) ∧ g6 t = .slice (some ⟨b, 0, none⟩) 2 2 ∧ g3 t = .int .i64 (Int.ofNat 0)) ∧ x = ⟨[], none, none⟩ ∧ h' = h ∧ (0 < i → x1 = 0) ∧ (1 < i → y1 = 0)) 2 ⟨0, rfl, by omega, ⟨rfl, rfl, rfl, rfl⟩, rfl, rfl, fun h => absurd h (by omega), fun h => absurd h (by omega)⟩ (by rw [ctx_fuel]; exact hn) ?_
  rintro m t x h' ⟨i, rfl, hi, ⟨r8, r7, r6, r3⟩, rfl, rfl, hx, hy⟩
  obtain ⟨t0, rfl⟩ : ∃ t0, t = p8 (.int .i64 (Int.ofNat i)) (p7 (.int .i64 (Int.ofNat 2)) (p6 (.slice (some ⟨b, 0, none⟩) 2 2) (p3 (.int .i64 (Int.ofNat 0)) t0))) := ⟨t, by rw [← r8, ← r7, ← r6, ← r3]; rfl⟩
  clear r8 r7 r6 r3
  have hv : ∀ i : Nat, i < 2 → nth (0 + i * 1) [Value.int .i64 x1, Value.int .i64 y1] = some (.int .i64 (if i = 0 then x1 else y1)) := by
    intro i hi
    rcases i with _ | _ | i
    · rfl
    · rfl
    · omega
  by_cases hlt : i < 2
  · by_cases hz : (if i = 0 then x1 else y1) = 0
    ·
      refine wp_seq ?_
      refine wp_look (l_lssI rfl rfl rfl) ?_
      refine wp_end ?_
      refine wp_seq ?_
      refine wp_condT rfl (decide_eq_true (by show (i : Int) < 2; omega)) ?_
      refine wp_skip ?_
      refine wp_seq ?_
      refine wp_block ?_
      refine wp_seq ?_
      refine wp_look (l_ixSl rfl rfl hlt) ?_
      refine wp_look (l_load1 rfl hb (hv i hlt)) ?_
      refine wp_move (by conv => lhs; whnf) ?_
      refine wp_end ?_
      refine wp_seq ?_
      refine wp_move (by conv => lhs; whnf) ?_
      refine wp_move (by conv => lhs; whnf) ?_
      refine wp_look (l_neI rfl rfl rfl) ?_
      refine wp_end ?_
      refine wp_condF rfl (by show (!decide ((if i = 0 then x1 else y1) = 0)) = false; rw [hz]; rfl) ?_
      refine wp_skip ?_
      refine wp_look (l_incN rfl rfl (by omega)) ?_
      refine wp_move (by conv => lhs; whnf) ?_
      refine wp_end ?_
      refine ⟨2 - (i + 1), by omega, i + 1, rfl, hlt, ⟨rfl, rfl, rfl, rfl⟩, rfl, rfl, fun _ => ?_, fun h2 => ?_⟩
      · rcases i with _ | i
        · exact hz
        · exact hx (by omega)
      · rcases i with _ | i
        · omega
        · simpa using hz
    ·
      refine wp_seq ?_
      refine wp_look (l_lssI rfl rfl rfl) ?_
      refine wp_end ?_
      refine wp_seq ?_
      refine wp_condT rfl (decide_eq_true (by show (i : Int) < 2; omega)) ?_
      refine wp_skip ?_
      refine wp_seq ?_
      refine wp_block ?_
      refine wp_seq ?_
      refine wp_look (l_ixSl rfl rfl hlt) ?_
      refine wp_look (l_load1 rfl hb (hv i hlt)) ?_
      refine wp_move (by conv => lhs; whnf) ?_
      refine wp_end ?_
      refine wp_seq ?_
      refine wp_move (by conv => lhs; whnf) ?_
      refine wp_move (by conv => lhs; whnf) ?_
      refine wp_look (l_neI rfl rfl rfl) ?_
      refine wp_end ?_
      refine wp_condT rfl (by show (!decide ((if i = 0 then x1 else y1) = 0)) = true; rw [decide_eq_false hz]; rfl) ?_
      refine wp_seq ?_
      refine wp_move (by conv => lhs; whnf) ?_
      refine wp_move (by conv => lhs; whnf) ?_
      refine wp_end ?_
      refine wp_ret ?_
      refine ⟨rfl, _, rfl, ?_, rfl⟩
      show Value.int .i64 (if i = 0 then x1 else y1) = _
      congr 1
      rcases i with _ | i
      · have hz' : ¬ x1 = 0 := hz; show x1 = _; rw [if_neg hz']
      · rw [hx (by omega), if_pos rfl]; rfl
  ·
    refine wp_seq ?_
    refine wp_look (l_lssI rfl rfl rfl) ?_
    refine wp_end ?_
    refine wp_seq ?_
    refine wp_condF rfl (decide_eq_false (by show ¬ (i : Int) < 2; omega)) ?_
    refine wp_exit ?_
    refine exit_here rfl ?_
    -- 0
    refine wp_seq ?_
    refine wp_move (by conv => lhs; whnf) ?_
    refine wp_move (by conv => lhs; whnf) ?_
    refine wp_end ?_
    refine wp_ret ?_
    refine ⟨rfl, _, rfl, ?_, rfl⟩
    have hx0 := hx (by omega)
    have hy0 := hy (by omega)
    subst hx0; subst hy0; rfl

theorem cmp42 {E : Env} (H : Has0 E) (n : Nat) (x y : Sp) (h : Heap) (hn : 3 < n) : (enter E (ctx E (n + 1)) 42 [.agg ⟨svs x⟩, .agg ⟨svs y⟩] h).Wp fun v h' => v = .int .i64 (cmpS x y) := by
  refine H.go (k := k42) rfl (by decide) (by decide) ?_
  unfold k42
  refine wp_fn (Nat.le_of_ble_eq_true rfl) ?_
  dsimp only
  obtain ⟨n', rfl⟩ : ∃ n', n = n' + 1 := ⟨n - 1, by omega⟩
  have hx : ((h.push (.cells true (svs x))).push (.cells true (svs y))).get h.next = some (.cells true (svs x)) := by rw [Heap.get_push_ne (by show h.next ≠ h.next + 1; omega)]; exact Heap.get_new _ _
  have hy : ((h.push (.cells true (svs x))).push (.cells true (svs y))).get (h.next + 1) = some (.cells true (svs y)) := Heap.get_new (h.push _) _
  refine wp_seq ?_
  refine wp_turn (tn_boxAgg rfl) ?_
  refine wp_turn (tn_boxAgg rfl) ?_
  refine wp_move (by conv => lhs; whnf) ?_
  refine wp_end ?_
  refine wp_seq ?_
  refine wp_draw ?_
  refine wp_dLook (l_fieldAddr rfl) rfl ?_
  refine wp_dLook (l_load1 rfl hx rfl) rfl ?_
  refine wp_dLook (l_fieldAddr rfl) rfl ?_
  refine wp_dLook (l_load1 rfl hy rfl) rfl ?_
  refine wp_dCall (wp_func rfl (cmp44 H _ _ _ _)) (fun _ _ _ => rfl) ?_
  rintro v h' ⟨rfl, rfl⟩
  refine wp_dLook (l_fieldAddr rfl) rfl ?_
  refine wp_dLook (l_load1 rfl hx rfl) (unLook_same rfl (l_load1 rfl hx rfl)) ?_
  refine wp_dLook (l_fieldAddr rfl) rfl ?_
  refine wp_dLook (l_load1 rfl hy rfl) (unLook_same rfl (l_load1 rfl hy rfl)) ?_
  refine wp_dCall (wp_func rfl (cmp44 H _ _ _ _)) (fun _ _ _ => rfl) ?_
  rintro v h' ⟨rfl, rfl⟩
  refine wp_dTurn (tn_buildSlice rfl) rfl ?_
  refine wp_dCall (wp_func rfl (or43 H _ _ _ _ _ (Heap.get_new _ _) (by omega))) (fun _ _ _ => rfl) ?_
  rintro v h' ⟨rfl, rfl⟩
  refine wp_dMove (by conv => lhs; whnf) rfl ?_
  refine wp_dEnd ?_
  refine wp_ret ?_
  exact ⟨rfl, _, rfl, rfl⟩
end
end SpanK

namespace SpanK
open Go Go.Eng Go.Proofs.Ytfknpknbgfkbdaa.Eng
set_option maxRecDepth 100000
set_option linter.unusedVariables false
theorem readN {n k : Nat} {g : OpdF} {t : Tm} {h : Heap} {a : Addr} {w : Bool} {xs cs : List Value} (hg : g t = .pointer (some a)) (hb : h.get a.block = some (.cells w xs)) (hc : takeN k (dropN a.off xs) = some cs) : readRes [rCellN n g k] [] t h = some [.agg ⟨cs⟩] := by
  show (match optV none (fun p => optV none (fun cs => some [Value.agg ⟨cs⟩]) (h.load p.block p.off k)) (asPtr (g t)), some [] with
    | some v, some vs => some (app v vs)
    | _, _ => none) = _
  rw [hg]
  show (match optV none (fun cs => some [Value.agg ⟨cs⟩]) (h.load a.block a.off k), some [] with
    | some v, some vs => some (app v vs)
    | _, _ => none) = _
  rw [Heap.load_of hb hc]
  rfl
section
theorem meets11 {E : Env} (H : Has E) (n : Nat) (x y : Sp) (h : Heap)  : (enter E (ctx E (n + 2)) 11 [.agg ⟨svs x⟩, .agg ⟨svs y⟩] h).Wp fun v h' => v = .bool (inS x (maxB x.1 y.1) && inS y (maxB x.1 y.1)) ∧ h.Le h' := by
  refine H.go (k := k11) rfl (by decide) (by decide) ?_
  unfold k11
  refine wp_fn (Nat.le_of_ble_eq_true rfl) ?_
  dsimp only
  have hx : ((h.push (.cells true (svs x))).push (.cells true (svs y))).get h.next = some (.cells true (svs x)) := by rw [Heap.get_push_ne (by show h.next ≠ h.next + 1; omega)]; exact Heap.get_new _ _
  have hy : ((h.push (.cells true (svs x))).push (.cells true (svs y))).get (h.next + 1) = some (.cells true (svs y)) := Heap.get_new (h.push _) _
  have hxn : h.next < ((h.push (.cells true (svs x))).push (.cells true (svs y))).next := by show h.next < h.next + 1 + 1; omega
  have hyn : h.next + 1 < ((h.push (.cells true (svs x))).push (.cells true (svs y))).next := by show h.next + 1 < h.next + 1 + 1; omega
  have hl2 : h.Le ((h.push (.cells true (svs x))).push (.cells true (svs y))) := (Heap.Le.push _ _).trans (Heap.Le.push _ _)
  refine wp_seq ?_
  refine wp_turn (tn_boxAgg rfl) ?_
  refine wp_turn (tn_boxAgg rfl) ?_
  refine wp_move (by conv => lhs; whnf) ?_
  refine wp_end ?_
  refine wp_seq ?_
  refine wp_look (l_fieldAddr rfl) ?_
  refine wp_look (l_load1 rfl hx rfl) ?_
  refine wp_look (l_fieldAddr rfl) ?_
  refine wp_look (l_load1 rfl hy rfl) ?_
  refine wp_look (l_max rfl rfl) ?_
  refine wp_move (by conv => lhs; whnf) ?_
  refine wp_end ?_
  refine wp_seq ?_
  refine wp_look (l_loadN rfl hx rfl) ?_
  refine wp_move (by conv => lhs; whnf) ?_
  refine wp_callIn (wp_func rfl (in12 H _ x (maxB x.1 y.1) _)) ?_  -- CALL
  rintro v h' ⟨rfl, hle⟩
  refine wp_name rfl fun b14 e14 => ?_
  refine wp_gLook (wantT_of rfl) (fun hb => by subst hb; exact (l_loadN rfl ((hle.get _ hyn).trans hy) rfl)) ?_
  refine wp_gMove (wantT_of rfl) (by conv => lhs; whnf) ?_
  refine wp_gAsk (wantT_of rfl) (fun hb => by subst hb; exact wp_func rfl (in12 H _ y (maxB x.1 y.1) _)) fun h17 le17 => ?_
  refine wp_look (l_and rfl rfl rfl) ?_
  refine wp_move (by conv => lhs; whnf) ?_
  refine wp_end ?_
  refine wp_ret ?_
  refine ⟨rfl, _, rfl, ?_, hl2.trans (hle.trans le17)⟩
  subst e14; rfl
theorem refIn14 {E : Env} (H : Has E) (c : Ctx) (s : Sp) (k : Str) (h : Heap) : (enter E c 14 [.agg ⟨svs s⟩, sv k] h).Wp fun v h' => v = .bool (inS s k) ∧ h.Le h' := by
  refine H.go (k := k14) rfl (by decide) (by decide) ?_
  unfold k14
  refine wp_fn (Nat.le_of_ble_eq_true rfl) ?_
  dsimp only
  unfold inS
  by_cases c1 : ltBytes k s.1 = true
  · rw [c1]
    refine wp_seq ?_
    refine wp_turn (tn_boxAgg rfl) ?_
    refine wp_move (by conv => lhs; whnf) ?_
    refine wp_end ?_
    refine wp_seq ?_
    refine wp_move (by conv => lhs; whnf) ?_
    refine wp_look (l_fieldAddr rfl) ?_
    refine wp_look (l_load1 rfl (Heap.get_new _ _) rfl) ?_
    refine wp_look (l_geq rfl rfl) ?_
    refine wp_say (b := false) rfl (by show (!(ltBytes k s.1)) = false; rw [c1]; rfl) ?_
    refine wp_no rfl ?_
    refine wp_no rfl ?_
    refine wp_no rfl ?_
    refine wp_no rfl ?_
    refine wp_no rfl ?_
    refine wp_no rfl ?_
    refine wp_no rfl ?_
    refine wp_no rfl ?_
    refine wp_no rfl ?_
    refine wp_look (l_pick0 rfl (by conv => lhs; whnf)) ?_
    refine wp_move (by conv => lhs; whnf) ?_
    refine wp_end ?_
    refine wp_ret ?_
    exact ⟨rfl, _, rfl, rfl, Heap.Le.push _ _⟩
  · rw [Bool.not_eq_true] at c1
    rw [c1]
    by_cases c2 : eqBytes s.2 [] = true
    · rw [c2]
      refine wp_seq ?_
      refine wp_turn (tn_boxAgg rfl) ?_
      refine wp_move (by conv => lhs; whnf) ?_
      refine wp_end ?_
      refine wp_seq ?_
      refine wp_move (by conv => lhs; whnf) ?_
      refine wp_look (l_fieldAddr rfl) ?_
      refine wp_look (l_load1 rfl (Heap.get_new _ _) rfl) ?_
      refine wp_look (l_geq rfl rfl) ?_
      refine wp_say (b := true) rfl (by show (!(ltBytes k s.1)) = true; rw [c1]; rfl) ?_
      refine wp_yes rfl ?_
      refine wp_look (l_fieldAddr rfl) ?_
      refine wp_yes rfl ?_
      refine wp_look (l_load1 rfl (Heap.get_new _ _) rfl) ?_
      refine wp_yes rfl ?_
      refine wp_look (l_eqS rfl rfl) ?_
      refine wp_yes rfl ?_
      refine wp_say (b := true) rfl c2 ?_
      refine wp_no rfl ?_
      refine wp_no rfl ?_
      refine wp_no rfl ?_
      refine wp_no rfl ?_
      refine wp_yes rfl ?_
      refine wp_look (l_pick1 rfl (by conv => lhs; whnf)) ?_
      refine wp_look (l_pick1 rfl (by conv => lhs; whnf)) ?_
      refine wp_move (by conv => lhs; whnf) ?_
      refine wp_end ?_
      refine wp_ret ?_
      exact ⟨rfl, _, rfl, rfl, Heap.Le.push _ _⟩
    · rw [Bool.not_eq_true] at c2
      rw [c2]
      refine wp_seq ?_
      refine wp_turn (tn_boxAgg rfl) ?_
      refine wp_move (by conv => lhs; whnf) ?_
      refine wp_end ?_
      refine wp_seq ?_
      refine wp_move (by conv => lhs; whnf) ?_
      refine wp_look (l_fieldAddr rfl) ?_
      refine wp_look (l_load1 rfl (Heap.get_new _ _) rfl) ?_
      refine wp_look (l_geq rfl rfl) ?_
      refine wp_say (b := true) rfl (by show (!(ltBytes k s.1)) = true; rw [c1]; rfl) ?_
      refine wp_yes rfl ?_
      refine wp_look (l_fieldAddr rfl) ?_
      refine wp_yes rfl ?_
      refine wp_look (l_load1 rfl (Heap.get_new _ _) rfl) ?_
      refine wp_yes rfl ?_
      refine wp_look (l_eqS rfl rfl) ?_
      refine wp_yes rfl ?_
      refine wp_say (b := false) rfl c2 ?_
      refine wp_yes rfl ?_
      refine wp_move (by conv => lhs; whnf) ?_
      refine wp_yes rfl ?_
      refine wp_look (l_fieldAddr rfl) ?_
      refine wp_yes rfl ?_
      refine wp_look (l_load1 rfl (Heap.get_new _ _) rfl) ?_
      refine wp_yes rfl ?_
      refine wp_look (l_lss rfl rfl) ?_
      refine wp_yes rfl ?_
      refine wp_look (l_pick0 rfl (by conv => lhs; whnf)) ?_
      refine wp_look (l_pick1 rfl (by conv => lhs; whnf)) ?_
      refine wp_move (by conv => lhs; whnf) ?_
      refine wp_end ?_
      refine wp_ret ?_
      exact ⟨rfl, _, rfl, rfl, Heap.Le.push _ _⟩
theorem refEmpty15 {E : Env} (H : Has E) (c : Ctx) (s : Sp) (h : Heap)  : (enter E c 15 [.agg ⟨svs s⟩] h).Wp fun v h' => v = .bool (emptyS s) ∧ h.Le h' := by
  refine H.go (k := k15) rfl (by decide) (by decide) ?_
  unfold k15
  refine wp_fn (Nat.le_of_ble_eq_true rfl) ?_
  dsimp only
  refine wp_seq ?_
  refine wp_turn (tn_boxAgg rfl) ?_
  refine wp_move (by conv => lhs; whnf) ?_
  refine wp_end ?_
  refine wp_seq ?_
  refine wp_look (l_fieldAddr rfl) ?_
  refine wp_look (l_load1 rfl (Heap.get_new _ _) rfl) ?_
  refine wp_look (l_neS rfl rfl) ?_
  refine wp_name rfl fun b6 e6 => ?_
  refine wp_gLook (wantT_of rfl) (fun hb => by subst hb; exact (l_fieldAddr rfl)) ?_
  refine wp_gLook (wantT_of rfl) (fun hb => by subst hb; exact (l_load1 rfl (Heap.get_new _ _) rfl)) ?_
  refine wp_gLook (wantT_of rfl) (fun hb => by subst hb; exact (l_fieldAddr rfl)) ?_
  refine wp_gLook (wantT_of rfl) (fun hb => by subst hb; exact (l_load1 rfl (Heap.get_new _ _) rfl)) ?_
  refine wp_gLook (wantT_of rfl) (fun hb => by subst hb; exact (l_leq rfl rfl)) ?_
  refine wp_look (l_and rfl rfl rfl) ?_
  refine wp_move (by conv => lhs; whnf) ?_
  refine wp_end ?_
  refine wp_ret ?_
  refine ⟨rfl, _, rfl, ?_, Heap.Le.push _ _⟩
  subst e6
  show Value.bool ((!(eqBytes s.2 [])) && (ltBytes s.2 s.1 || eqBytes s.2 s.1)) = _
  rw [leq_eq]; unfold emptyS; rw [Bool.not_or]
theorem least33 {E : Env} (H : Has E) (c : Ctx) (a b : Str) (h : Heap) : (enter E c 33 [sv a, sv b] h).Wp fun v h' => v = sv (leastB a b) ∧ h' = h := by
  refine H.go (k := k33) rfl (by decide) (by decide) ?_
  unfold k33
  refine wp_fn (Nat.le_of_ble_eq_true rfl) ?_
  dsimp only
  unfold leastB
  by_cases c1 : eqBytes a [] = true
  · rw [c1, if_pos (by rfl)]
    refine wp_seq ?_
    refine wp_move (by conv => lhs; whnf) ?_
    refine wp_end ?_
    refine wp_seq ?_
    refine wp_seq ?_
    refine wp_move (by conv => lhs; whnf) ?_
    refine wp_look (l_eqS rfl rfl) ?_
    refine wp_say (b := true) rfl c1 ?_
    refine wp_no rfl ?_
    refine wp_no rfl ?_
    refine wp_no rfl ?_
    refine wp_no rfl ?_
    refine wp_no rfl ?_
    refine wp_no rfl ?_
    refine wp_no rfl ?_
    refine wp_look (l_pick1 rfl (by conv => lhs; whnf)) ?_
    refine wp_end ?_
    refine wp_condT rfl rfl ?_
    refine wp_seq ?_
    refine wp_move (by conv => lhs; whnf) ?_
    refine wp_move (by conv => lhs; whnf) ?_
    refine wp_end ?_
    refine wp_ret ?_
    exact ⟨rfl, _, rfl, rfl, rfl⟩
  · rw [Bool.not_eq_true] at c1
    by_cases c2 : eqBytes b [] = true
    · rw [c1, c2, if_neg (by simp)]
      refine wp_seq ?_
      refine wp_move (by conv => lhs; whnf) ?_
      refine wp_end ?_
      refine wp_seq ?_
      refine wp_seq ?_
      refine wp_move (by conv => lhs; whnf) ?_
      refine wp_look (l_eqS rfl rfl) ?_
      refine wp_say (b := false) rfl c1 ?_
      refine wp_yes rfl ?_
      refine wp_move (by conv => lhs; whnf) ?_
      refine wp_yes rfl ?_
      refine wp_look (l_neS rfl rfl) ?_
      refine wp_yes rfl ?_
      refine wp_say (b := false) rfl (by show (!(eqBytes b [])) = false; rw [c2]; rfl) ?_
      refine wp_no rfl ?_
      refine wp_no rfl ?_
      refine wp_no rfl ?_
      refine wp_yes rfl ?_
      refine wp_look (l_pick0 rfl (by conv => lhs; whnf)) ?_
      refine wp_look (l_pick0 rfl (by conv => lhs; whnf)) ?_
      refine wp_end ?_
      refine wp_condF rfl rfl ?_
      refine wp_skip ?_
      refine wp_seq ?_
      refine wp_move (by conv => lhs; whnf) ?_
      refine wp_move (by conv => lhs; whnf) ?_
      refine wp_end ?_
      refine wp_ret ?_
      exact ⟨rfl, _, rfl, rfl, rfl⟩
    · rw [Bool.not_eq_true] at c2
      by_cases c3 : ltBytes b a = true
      · rw [c1, c2, c3, if_pos (by rfl)]
        refine wp_seq ?_
        refine wp_move (by conv => lhs; whnf) ?_
        refine wp_end ?_
        refine wp_seq ?_
        refine wp_seq ?_
        refine wp_move (by conv => lhs; whnf) ?_
        refine wp_look (l_eqS rfl rfl) ?_
        refine wp_say (b := false) rfl c1 ?_
        refine wp_yes rfl ?_
        refine wp_move (by conv => lhs; whnf) ?_
        refine wp_yes rfl ?_
        refine wp_look (l_neS rfl rfl) ?_
        refine wp_yes rfl ?_
        refine wp_say (b := true) rfl (by show (!(eqBytes b [])) = true; rw [c2]; rfl) ?_
        refine wp_yes rfl ?_
        refine wp_move (by conv => lhs; whnf) ?_
        refine wp_yes rfl ?_
        refine wp_move (by conv => lhs; whnf) ?_
        refine wp_yes rfl ?_
        refine wp_look (l_lss rfl rfl) ?_
        refine wp_yes rfl ?_
        refine wp_look (l_pick1 rfl (by conv => lhs; whnf)) ?_
        refine wp_look (l_pick0 rfl (by conv => lhs; whnf)) ?_
        refine wp_end ?_
        refine wp_condT rfl c3 ?_
        refine wp_seq ?_
        refine wp_move (by conv => lhs; whnf) ?_
        refine wp_move (by conv => lhs; whnf) ?_
        refine wp_end ?_
        refine wp_ret ?_
        exact ⟨rfl, _, rfl, rfl, rfl⟩
      · rw [Bool.not_eq_true] at c3
        rw [c1, c2, c3, if_neg (by simp)]
        refine wp_seq ?_
        refine wp_move (by conv => lhs; whnf) ?_
        refine wp_end ?_
        refine wp_seq ?_
        refine wp_seq ?_
        refine wp_move (by conv => lhs; whnf) ?_
        refine wp_look (l_eqS rfl rfl) ?_
        refine wp_say (b := false) rfl c1 ?_
        refine wp_yes rfl ?_
        refine wp_move (by conv => lhs; whnf) ?_
        refine wp_yes rfl ?_
        refine wp_look (l_neS rfl rfl) ?_
        refine wp_yes rfl ?_
        refine wp_say (b := true) rfl (by show (!(eqBytes b [])) = true; rw [c2]; rfl) ?_
        refine wp_yes rfl ?_
        refine wp_move (by conv => lhs; whnf) ?_
        refine wp_yes rfl ?_
        refine wp_move (by conv => lhs; whnf) ?_
        refine wp_yes rfl ?_
        refine wp_look (l_lss rfl rfl) ?_
        refine wp_yes rfl ?_
        refine wp_look (l_pick1 rfl (by conv => lhs; whnf)) ?_
        refine wp_look (l_pick0 rfl (by conv => lhs; whnf)) ?_
        refine wp_end ?_
        refine wp_condF rfl c3 ?_
        refine wp_skip ?_
        refine wp_seq ?_
        refine wp_move (by conv => lhs; whnf) ?_
        refine wp_move (by conv => lhs; whnf) ?_
        refine wp_end ?_
        refine wp_ret ?_
        exact ⟨rfl, _, rfl, rfl, rfl⟩
theorem refMeets16 {E : Env} (H : Has E) (n : Nat) (x y : Sp) (h : Heap)  : (enter E (ctx E (n + 1)) 16 [.agg ⟨svs x⟩, .agg ⟨svs y⟩] h).Wp fun v h' => v = .bool (!(emptyS (maxB x.1 y.1, leastB x.2 y.2))) ∧ h.Le h' := by
  refine H.go (k := k16) rfl (by decide) (by decide) ?_
  unfold k16
  refine wp_fn (Nat.le_of_ble_eq_true rfl) ?_
  dsimp only
  have hx : ((h.push (.cells true (svs x))).push (.cells true (svs y))).get h.next = some (.cells true (svs x)) := by rw [Heap.get_push_ne (by show h.next ≠ h.next + 1; omega)]; exact Heap.get_new _ _
  have hy : ((h.push (.cells true (svs x))).push (.cells true (svs y))).get (h.next + 1) = some (.cells true (svs y)) := Heap.get_new (h.push _) _
  have hxn : h.next < ((h.push (.cells true (svs x))).push (.cells true (svs y))).next := by show h.next < h.next + 1 + 1; omega
  have hyn : h.next + 1 < ((h.push (.cells true (svs x))).push (.cells true (svs y))).next := by show h.next + 1 < h.next + 1 + 1; omega
  have hl2 : h.Le ((h.push (.cells true (svs x))).push (.cells true (svs y))) := (Heap.Le.push _ _).trans (Heap.Le.push _ _)
  refine wp_seq ?_
  refine wp_turn (tn_boxAgg rfl) ?_
  refine wp_turn (tn_boxAgg rfl) ?_
  refine wp_move (by conv => lhs; whnf) ?_
  refine wp_end ?_
  refine wp_seq ?_
  refine wp_draw ?_
  refine wp_dLook (l_fieldAddr rfl) rfl ?_
  refine wp_dLook (l_load1 rfl hx rfl) rfl ?_
  refine wp_dLook (l_fieldAddr rfl) rfl ?_
  refine wp_dLook (l_load1 rfl hy rfl) rfl ?_
  refine wp_dLook (l_max rfl rfl) rfl ?_
  refine wp_dLook (l_fieldAddr rfl) rfl ?_
  refine wp_dLook (l_load1 rfl hx rfl) rfl ?_
  refine wp_dLook (l_fieldAddr rfl) rfl ?_
  refine wp_dLook (l_load1 rfl hy rfl) rfl ?_
  refine wp_dCall (wp_func rfl (least33 H _ x.2 y.2 _)) (fun v h' q => by obtain ⟨rfl, rfl⟩ := q; exact unTurn_ld rfl (tells_str (l_load1 rfl hx rfl)) (unTurn_ld rfl (tells_str (l_load1 rfl hy rfl)) rfl)) ?_  -- CALL
  rintro v h' ⟨rfl, rfl⟩
  refine wp_dLook rfl rfl ?_
  refine wp_dCall (wp_func rfl (refEmpty15 H _ (maxB x.1 y.1, leastB x.2 y.2) _)) (fun _ _ _ => rfl) ?_  -- CALL
  rintro v h'' ⟨rfl, hle⟩
  refine wp_dLook (l_not rfl) rfl ?_
  refine wp_dMove (by conv => lhs; whnf) rfl ?_
  refine wp_dEnd ?_
  refine wp_ret ?_
  exact ⟨rfl, _, rfl, rfl, hl2.trans hle⟩
theorem one17 {E : Env} (H : Has E) (c : Ctx) (k : Str) (hk : k.length < 1000) (h : Heap)  : (enter E c 17 [sv k] h).Wp fun v h' => v = .agg ⟨svs (k, k ++ [0])⟩ ∧ h.Le h' := by
  refine H.go (k := k17) rfl (by decide) (by decide) ?_
  unfold k17
  refine wp_fn (Nat.le_of_ble_eq_true rfl) ?_
  dsimp only
  refine wp_seq ?_
  refine wp_turn tn_alloc ?_
  refine wp_end ?_
  refine wp_seq ?_
  refine wp_move (by conv => lhs; whnf) ?_
  refine wp_move (by conv => lhs; whnf) ?_
  refine wp_look (l_cat rfl rfl (by show k.length + 1 ≤ _; omega)) ?_
  refine wp_look rfl ?_
  refine wp_turnDo (tn_store rfl rfl rfl (Heap.get_new _ _) rfl (Nat.le_refl _)) ?_
  refine wp_end ?_
  refine wp_ret ?_
  refine ⟨rfl, [.agg ⟨svs (k, k ++ [0])⟩], ?_, rfl, ?_⟩
  · exact readN rfl (Heap.get_put_eq _ _ _) rfl
  exact (Heap.Le.push _ _).put (Nat.le_refl _) (Nat.lt_succ_self _) _
theorem refOne18 {E : Env} (H : Has E) (c : Ctx) (k : Str) (hk : k.length < 1000) (h : Heap)  : (enter E c 18 [sv k] h).Wp fun v h' => v = .agg ⟨svs (k, k ++ [0])⟩ ∧ h.Le h' := by
  refine H.go (k := k18) rfl (by decide) (by decide) ?_
  unfold k18
  refine wp_fn (Nat.le_of_ble_eq_true rfl) ?_
  dsimp only
  refine wp_seq ?_
  refine wp_turn tn_alloc ?_
  refine wp_end ?_
  refine wp_seq ?_
  refine wp_move (by conv => lhs; whnf) ?_
  refine wp_move (by conv => lhs; whnf) ?_
  refine wp_look (l_cat rfl rfl (by show k.length + 1 ≤ _; omega)) ?_
  refine wp_look rfl ?_
  refine wp_turnDo (tn_store rfl rfl rfl (Heap.get_new _ _) rfl (Nat.le_refl _)) ?_
  refine wp_end ?_
  refine wp_ret ?_
  refine ⟨rfl, [.agg ⟨svs (k, k ++ [0])⟩], ?_, rfl, ?_⟩
  · exact readN rfl (Heap.get_put_eq _ _ _) rfl
  exact (Heap.Le.push _ _).put (Nat.le_refl _) (Nat.lt_succ_self _) _
end
end SpanK

namespace SpanK
open Go Go.Eng Go.Proofs.Ytfknpknbgfkbdaa.Eng
set_option maxRecDepth 100000
set_option linter.unusedVariables false
theorem upto_least (s : Sp) (k : Str) : (s.1, leastB s.2 (k ++ [0])) = uptoB s k := by
  unfold leastB uptoB
  have e : eqBytes (k ++ [0]) [] = false := by
    cases h : eqBytes (k ++ [0]) [] with
    | false => rfl
    | true => have := (eqB_iff _ _).1 h; simp at this
  rw [e]
  show (s.1, if (eqBytes s.2 [] || ltBytes (k ++ [0]) s.2) = true then k ++ [0] else s.2) = _
  split <;> rfl
/-- More than most, or one that is longer than 100 (of the first ones). -/
def longS (l : List Sp) (m : Nat) : Bool := (l.take (m + 1)).any (fun s => decide (100 < s.1.length) || decide (100 < s.2.length)) || decide (m < l.length)
theorem nth_take2 {o : Nat} {cs : List Value} {s : Sp} (h : takeN 2 (dropN o cs) = some (svs s)) : nth (o + 0) cs = some (sv s.1) := by
  rw [dropN_eq, takeN_eq] at h
  split at h
  · rename_i hl
    injection h with h
    rw [nth_eq, Nat.add_zero]
    have := congrArg (·[0]?) h
    simp only [List.getElem?_take, List.getElem?_drop] at this
    have e : cs[o]? = (svs s)[0]? := by simpa using this
    exact e
  · cases h
theorem nth_take2' {o : Nat} {cs : List Value} {s : Sp} (h : takeN 2 (dropN o cs) = some (svs s)) : nth (o + 1) cs = some (sv s.2) := by
  rw [dropN_eq, takeN_eq] at h
  split at h
  · rename_i hl
    injection h with h
    rw [nth_eq]
    have := congrArg (·[1]?) h
    simp only [List.getElem?_take, List.getElem?_drop] at this
    have e : cs[o + 1]? = (svs s)[1]? := by simpa using this
    exact e
  · cases h
section
theorem upto19 {E : Env} (H : Has E) (n : Nat) (s : Sp) (k : Str) (hk : k.length < 1000) (h : Heap)  : (enter E (ctx E (n + 1)) 19 [.agg ⟨svs s⟩, sv k] h).Wp fun v h' => v = .agg ⟨svs (uptoB s k)⟩ ∧ h.Le h' := by
  refine H.go (k := k19) rfl (by decide) (by decide) ?_
  unfold k19
  refine wp_fn (Nat.le_of_ble_eq_true rfl) ?_
  dsimp only
  have hb2 : ((h.push (.cells true (svs s))).push (.cells true q17)).get h.next = some (.cells true (svs s)) := by rw [Heap.get_push_ne (by show h.next ≠ h.next + 1; omega)]; exact Heap.get_new _ _
  have hb4 : ((h.push (.cells true (svs s))).push (.cells true q17)).get (h.next + 1) = some (.cells true q17) := Heap.get_new (h.push _) _
  have hn2 : h.next < ((h.push (.cells true (svs s))).push (.cells true q17)).next := by show h.next < h.next + 1 + 1; omega
  have hn4 : h.next + 1 < ((h.push (.cells true (svs s))).push (.cells true q17)).next := by show h.next + 1 < h.next + 1 + 1; omega
  have hl2 : h.Le ((h.push (.cells true (svs s))).push (.cells true q17)) := (Heap.Le.push _ _).trans (Heap.Le.push _ _)
  have g2 : ∀ {h3 h4 : Heap}, ((h.push (.cells true (svs s))).push (.cells true q17)).Le h3 → h3.Le h4 → h4.get h.next = some (.cells true (svs s)) ∧ h4.get (h.next + 1) = some (.cells true q17) ∧ h.next < h4.next ∧ h.next + 1 < h4.next ∧ h.Le h4 := fun a b => ⟨((a.trans b).get _ hn2).trans hb2, ((a.trans b).get _ hn4).trans hb4, Nat.lt_of_lt_of_le hn2 (a.trans b).next, Nat.lt_of_lt_of_le hn4 (a.trans b).next, hl2.trans (a.trans b)⟩
  refine wp_seq ?_
  refine wp_turn (tn_boxAgg rfl) ?_
  refine wp_turn tn_alloc ?_
  refine wp_end ?_
  refine wp_seq ?_
  refine wp_seq ?_
  refine wp_move (by conv => lhs; whnf) ?_
  refine wp_callIn (wp_func rfl (one17 H _ k hk _)) ?_  -- CALL
  rintro v h3 ⟨rfl, hle⟩
  refine wp_look rfl ?_
  refine wp_move (by conv => lhs; whnf) ?_
  refine wp_end ?_
  refine wp_seq ?_
  refine wp_look (l_loadN rfl ((hle.get _ hn2).trans hb2) rfl) ?_
  refine wp_look rfl ?_
  refine wp_move (by conv => lhs; whnf) ?_
  refine wp_callIn (wp_func rfl (H.go (k := k32) rfl (by decide) (by decide) (below32 E _ ⟨⟨s.1⟩⟩ ⟨⟨s.2⟩⟩ ⟨⟨k ++ [0]⟩⟩ _))) ?_  -- CALL
  rintro v h4 ⟨rfl, hle'⟩
  obtain ⟨q2, q4, qn2, qn4, qle⟩ := g2 hle hle'
  refine wp_end ?_
  refine wp_cond rfl (fun hb => ?_) (fun hb => ?_)
  ·
    refine wp_turnDo (tn_store rfl rfl rfl q2 rfl (by show 0 + 1 + 1 ≤ 2; omega)) ?_
    refine wp_end ?_
    refine wp_seq ?_
    refine wp_look (l_loadN rfl (Heap.get_put_eq _ _ _) rfl) ?_
    refine wp_turnDo (tn_store rfl rfl rfl ((Heap.get_put_ne (by show h.next + 1 ≠ h.next; omega)).trans q4) rfl (Nat.le_refl _)) ?_
    refine wp_end ?_
    refine wp_ret ?_
    refine ⟨rfl, [.agg ⟨svs (s.1, k ++ [0])⟩], readN rfl (Heap.get_put_eq _ _ _) rfl, ?_, ?_⟩
    · show Value.agg _ = _; unfold uptoB; rw [if_pos (show (eqBytes s.2 [] || ltBytes (k ++ [0]) s.2) = true from hb)]
    · exact (qle.put (Nat.le_refl _) qn2 _).put (Nat.le_succ _) qn4 _
  ·
    refine wp_skip ?_
    refine wp_seq ?_
    refine wp_look (l_loadN rfl q2 rfl) ?_
    refine wp_turnDo (tn_store rfl rfl rfl q4 rfl (Nat.le_refl _)) ?_
    refine wp_end ?_
    refine wp_ret ?_
    refine ⟨rfl, [.agg ⟨svs s⟩], readN rfl (Heap.get_put_eq _ _ _) rfl, ?_, ?_⟩
    · show Value.agg _ = _; unfold uptoB; rw [if_neg (by have hb' : (eqBytes s.2 [] || ltBytes (k ++ [0]) s.2) = false := hb; rw [hb']; simp)]
    · exact qle.put (Nat.le_succ _) qn4 _
theorem refUpto20 {E : Env} (H : Has E) (n : Nat) (s : Sp) (k : Str) (hk : k.length < 1000) (h : Heap)  : (enter E (ctx E (n + 1)) 20 [.agg ⟨svs s⟩, sv k] h).Wp fun v h' => v = .agg ⟨svs (uptoB s k)⟩ ∧ h.Le h' := by
  refine H.go (k := k20) rfl (by decide) (by decide) ?_
  unfold k20
  refine wp_fn (Nat.le_of_ble_eq_true rfl) ?_
  dsimp only
  have hb2 : ((h.push (.cells true (svs s))).push (.cells true q17)).get h.next = some (.cells true (svs s)) := by rw [Heap.get_push_ne (by show h.next ≠ h.next + 1; omega)]; exact Heap.get_new _ _
  have hb4 : ((h.push (.cells true (svs s))).push (.cells true q17)).get (h.next + 1) = some (.cells true q17) := Heap.get_new (h.push _) _
  have hn2 : h.next < ((h.push (.cells true (svs s))).push (.cells true q17)).next := by show h.next < h.next + 1 + 1; omega
  have hn4 : h.next + 1 < ((h.push (.cells true (svs s))).push (.cells true q17)).next := by show h.next + 1 < h.next + 1 + 1; omega
  have hl2 : h.Le ((h.push (.cells true (svs s))).push (.cells true q17)) := (Heap.Le.push _ _).trans (Heap.Le.push _ _)
  have g2 : ∀ {h3 h4 : Heap}, ((h.push (.cells true (svs s))).push (.cells true q17)).Le h3 → h3.Le h4 → h4.get h.next = some (.cells true (svs s)) ∧ h4.get (h.next + 1) = some (.cells true q17) ∧ h.next < h4.next ∧ h.next + 1 < h4.next ∧ h.Le h4 := fun a b => ⟨((a.trans b).get _ hn2).trans hb2, ((a.trans b).get _ hn4).trans hb4, Nat.lt_of_lt_of_le hn2 (a.trans b).next, Nat.lt_of_lt_of_le hn4 (a.trans b).next, hl2.trans (a.trans b)⟩
  refine wp_seq ?_
  refine wp_turn (tn_boxAgg rfl) ?_
  refine wp_turn tn_alloc ?_
  refine wp_end ?_
  refine wp_seq ?_
  refine wp_draw ?_
  refine wp_dLook (l_fieldAddr rfl) rfl ?_
  refine wp_dLook (l_load1 rfl hb2 rfl) rfl ?_
  refine wp_dLook (l_fieldAddr rfl) rfl ?_
  refine wp_dLook (l_load1 rfl hb2 rfl) rfl ?_
  refine wp_dMove (by conv => lhs; whnf) rfl ?_
  refine wp_dLook (l_cat rfl rfl (by show k.length + 1 ≤ _; omega)) rfl ?_
  refine wp_dCall (wp_func rfl (least33 H _ s.2 (k ++ [0]) _)) (fun v h' q => by obtain ⟨rfl, rfl⟩ := q; exact unTurn_ld rfl (tells_str (l_load1 rfl hb2 rfl)) rfl) ?_  -- CALL
  rintro v h' ⟨rfl, rfl⟩
  refine wp_dLook rfl rfl ?_
  refine wp_dTurn (tn_store rfl rfl rfl hb4 rfl (Nat.le_refl _)) rfl ?_
  refine wp_dEnd ?_
  refine wp_ret ?_
  refine ⟨rfl, [.agg ⟨svs (s.1, leastB s.2 (k ++ [0]))⟩], readN rfl (Heap.get_put_eq _ _ _) rfl, ?_, ?_⟩
  · rw [upto_least]; rfl
  · exact hl2.put (Nat.le_succ _) hn4 _
theorem long10 {E : Env} (H : Has E) (n : Nat) (l : List Sp) (a : Option Addr) (m ca most : Nat) (hm : l.length = m) (h : Heap) (ra : Reads h a l) (hf : m < n) (hbig : m < 1000000) (hmost : most < 1000000) :
    (enter E (ctx E n) 10 [.slice a m ca, .int .i64 (Int.ofNat most)] h).Wp fun v h' => v = .bool (longS l most) ∧ h' = h := by
  refine H.go (k := k10) rfl (by decide) (by decide) ?_
  unfold k10
  refine wp_fn (Nat.le_of_ble_eq_true rfl) ?_
  dsimp only
  refine wp_seq ?_
  refine wp_move (by conv => lhs; whnf) ?_
  refine wp_end ?_
  refine wp_seq ?_
  refine wp_seq ?_
  refine wp_move (by conv => lhs; whnf) ?_
  refine wp_end ?_
  refine wp_block ?_
  refine wp_loop (fun q t x h' => ∃ (i : Nat), q = m - i ∧ i ≤ m ∧ (g5 t = .int .i64 (Int.ofNat i) ∧ g1 t = .int .i64 (Int.ofNat most) ∧ g0 t = .slice a m ca) ∧ x = ⟨[], none, none⟩ ∧ h' = h ∧ (i ≤ most + 1) ∧ ∀ j s, j < i → l[j]? = some s → (decide (100 < s.1.length) || decide (100 < s.2.length)) = false) m ⟨0, rfl, Nat.zero_le _, ⟨rfl, rfl, rfl⟩, rfl, rfl, Nat.zero_le _, fun j s hj => by omega⟩ (by rw [ctx_fuel]; exact hf) ?_
  rintro q t x h' ⟨i, rfl, hi, ⟨r5, r1, r0⟩, rfl, rfl, him, hno⟩
  obtain ⟨t0, rfl⟩ : ∃ t0, t = p5 (.int .i64 (Int.ofNat i)) (p1 (.int .i64 (Int.ofNat most)) (p0 (.slice a m ca) t0)) := ⟨t, by rw [← r5, ← r1, ← r0]; rfl⟩
  clear r5 r1 r0
  have hlong : ∀ s, l[i]? = some s → i ≤ most → (decide (100 < s.1.length) || decide (100 < s.2.length)) = true → longS l most = true := by
    intro s hs hle hl
    unfold longS
    rw [Bool.or_eq_true]; left
    rw [List.any_eq_true]
    refine ⟨s, List.mem_of_getElem? (i := i) ?_, hl⟩
    rw [List.getElem?_take_of_lt (by omega)]; exact hs
  by_cases hlt : i < m
  · obtain ⟨s, hs⟩ : ∃ s, l[i]? = some s := ⟨l[i]'(by omega), List.getElem?_eq_getElem (by omega)⟩
    obtain ⟨pa, w1, cs1, rfl, e2, e3, e4⟩ := ra i s hs
    have lo4 : nth (pa.off + i * 2 + 0) cs1 = some (sv s.1) := nth_take2 e4
    have hi4 : nth (pa.off + i * 2 + 1) cs1 = some (sv s.2) := nth_take2' e4
    by_cases hle : i ≤ most
    · by_cases c1 : 100 < s.1.length
      ·
        refine wp_seq ?_
        refine wp_seq ?_
        refine wp_move (by conv => lhs; whnf) ?_
        refine wp_move (by conv => lhs; whnf) ?_
        refine wp_look (l_lenSl rfl) ?_
        refine wp_look (l_lssI rfl rfl rfl) ?_
        refine wp_say (b := true) rfl (decide_eq_true (by show (i : Int) < (m : Int); omega)) ?_
        refine wp_yes rfl ?_
        refine wp_move (by conv => lhs; whnf) ?_
        refine wp_yes rfl ?_
        refine wp_move (by conv => lhs; whnf) ?_
        refine wp_yes rfl ?_
        refine wp_look (l_leqI rfl rfl rfl) ?_
        refine wp_look (l_pick1 rfl (by conv => lhs; whnf)) ?_
        refine wp_end ?_
        refine wp_condT rfl (decide_eq_true (by show (i : Int) ≤ (most : Int); omega)) ?_
        refine wp_skip ?_
        refine wp_seq ?_
        refine wp_block ?_
        refine wp_seq ?_
        refine wp_move (by conv => lhs; whnf) ?_
        refine wp_move (by conv => lhs; whnf) ?_
        refine wp_look (l_ixSl rfl rfl hlt) ?_
        refine wp_look (l_fieldAddr rfl) ?_
        refine wp_look (l_load1 rfl e2 lo4) ?_
        refine wp_look (l_lenStr rfl) ?_
        refine wp_look (l_gtrI rfl rfl rfl) ?_
        refine wp_say (b := true) rfl (decide_eq_true (by show (100 : Int) < (s.1.length : Int); omega)) ?_
        refine wp_no rfl ?_
        refine wp_no rfl ?_
        refine wp_no rfl ?_
        refine wp_no rfl ?_
        refine wp_no rfl ?_
        refine wp_no rfl ?_
        refine wp_no rfl ?_
        refine wp_look (l_pick1 rfl (by conv => lhs; whnf)) ?_
        refine wp_end ?_
        refine wp_condT rfl rfl ?_
        refine wp_seq ?_
        refine wp_move (by conv => lhs; whnf) ?_
        refine wp_end ?_
        refine wp_ret ?_
        refine ⟨rfl, _, rfl, ?_, rfl⟩
        rw [hlong s hs hle (by rw [decide_eq_true c1]; simp)]; rfl
      · by_cases c2 : 100 < s.2.length
        ·
          refine wp_seq ?_
          refine wp_seq ?_
          refine wp_move (by conv => lhs; whnf) ?_
          refine wp_move (by conv => lhs; whnf) ?_
          refine wp_look (l_lenSl rfl) ?_
          refine wp_look (l_lssI rfl rfl rfl) ?_
          refine wp_say (b := true) rfl (decide_eq_true (by show (i : Int) < (m : Int); omega)) ?_
          refine wp_yes rfl ?_
          refine wp_move (by conv => lhs; whnf) ?_
          refine wp_yes rfl ?_
          refine wp_move (by conv => lhs; whnf) ?_
          refine wp_yes rfl ?_
          refine wp_look (l_leqI rfl rfl rfl) ?_
          refine wp_look (l_pick1 rfl (by conv => lhs; whnf)) ?_
          refine wp_end ?_
          refine wp_condT rfl (decide_eq_true (by show (i : Int) ≤ (most : Int); omega)) ?_
          refine wp_skip ?_
          refine wp_seq ?_
          refine wp_block ?_
          refine wp_seq ?_
          refine wp_move (by conv => lhs; whnf) ?_
          refine wp_move (by conv => lhs; whnf) ?_
          refine wp_look (l_ixSl rfl rfl hlt) ?_
          refine wp_look (l_fieldAddr rfl) ?_
          refine wp_look (l_load1 rfl e2 lo4) ?_
          refine wp_look (l_lenStr rfl) ?_
          refine wp_look (l_gtrI rfl rfl rfl) ?_
          refine wp_say (b := false) rfl (decide_eq_false (by show ¬ (100 : Int) < (s.1.length : Int); omega)) ?_
          refine wp_yes rfl ?_
          refine wp_move (by conv => lhs; whnf) ?_
          refine wp_yes rfl ?_
          refine wp_move (by conv => lhs; whnf) ?_
          refine wp_yes rfl ?_
          refine wp_look (l_ixSl rfl rfl hlt) ?_
          refine wp_yes rfl ?_
          refine wp_look (l_fieldAddr rfl) ?_
          refine wp_yes rfl ?_
          refine wp_look (l_load1 rfl e2 hi4) ?_
          refine wp_yes rfl ?_
          refine wp_look (l_lenStr rfl) ?_
          refine wp_yes rfl ?_
          refine wp_look (l_gtrI rfl rfl rfl) ?_
          refine wp_look (l_pick0 rfl (by conv => lhs; whnf)) ?_
          refine wp_end ?_
          refine wp_condT rfl (decide_eq_true (by show (100 : Int) < (s.2.length : Int); omega)) ?_
          refine wp_seq ?_
          refine wp_move (by conv => lhs; whnf) ?_
          refine wp_end ?_
          refine wp_ret ?_
          refine ⟨rfl, _, rfl, ?_, rfl⟩
          rw [hlong s hs hle (by rw [decide_eq_true c2]; simp)]; rfl
        ·
          refine wp_seq ?_
          refine wp_seq ?_
          refine wp_move (by conv => lhs; whnf) ?_
          refine wp_move (by conv => lhs; whnf) ?_
          refine wp_look (l_lenSl rfl) ?_
          refine wp_look (l_lssI rfl rfl rfl) ?_
          refine wp_say (b := true) rfl (decide_eq_true (by show (i : Int) < (m : Int); omega)) ?_
          refine wp_yes rfl ?_
          refine wp_move (by conv => lhs; whnf) ?_
          refine wp_yes rfl ?_
          refine wp_move (by conv => lhs; whnf) ?_
          refine wp_yes rfl ?_
          refine wp_look (l_leqI rfl rfl rfl) ?_
          refine wp_look (l_pick1 rfl (by conv => lhs; whnf)) ?_
          refine wp_end ?_
          refine wp_condT rfl (decide_eq_true (by show (i : Int) ≤ (most : Int); omega)) ?_
          refine wp_skip ?_
          refine wp_seq ?_
          refine wp_block ?_
          refine wp_seq ?_
          refine wp_move (by conv => lhs; whnf) ?_
          refine wp_move (by conv => lhs; whnf) ?_
          refine wp_look (l_ixSl rfl rfl hlt) ?_
          refine wp_look (l_fieldAddr rfl) ?_
          refine wp_look (l_load1 rfl e2 lo4) ?_
          refine wp_look (l_lenStr rfl) ?_
          refine wp_look (l_gtrI rfl rfl rfl) ?_
          refine wp_say (b := false) rfl (decide_eq_false (by show ¬ (100 : Int) < (s.1.length : Int); omega)) ?_
          refine wp_yes rfl ?_
          refine wp_move (by conv => lhs; whnf) ?_
          refine wp_yes rfl ?_
          refine wp_move (by conv => lhs; whnf) ?_
          refine wp_yes rfl ?_
          refine wp_look (l_ixSl rfl rfl hlt) ?_
          refine wp_yes rfl ?_
          refine wp_look (l_fieldAddr rfl) ?_
          refine wp_yes rfl ?_
          refine wp_look (l_load1 rfl e2 hi4) ?_
          refine wp_yes rfl ?_
          refine wp_look (l_lenStr rfl) ?_
          refine wp_yes rfl ?_
          refine wp_look (l_gtrI rfl rfl rfl) ?_
          refine wp_look (l_pick0 rfl (by conv => lhs; whnf)) ?_
          refine wp_end ?_
          refine wp_condF rfl (decide_eq_false (by show ¬ (100 : Int) < (s.2.length : Int); omega)) ?_
          refine wp_skip ?_
          refine wp_move (by conv => lhs; whnf) ?_
          refine wp_look (l_incN rfl rfl (by omega)) ?_
          refine wp_move (by conv => lhs; whnf) ?_
          refine wp_end ?_
          refine ⟨m - (i + 1), by omega, i + 1, rfl, hlt, ⟨rfl, rfl, rfl⟩, rfl, rfl, by omega, fun j s' hj hs' => ?_⟩
          by_cases e : j = i
          · subst e; rw [hs] at hs'; cases hs'; rw [decide_eq_false c1, decide_eq_false c2]; rfl
          · exact hno j s' (by omega) hs'
    ·
      refine wp_seq ?_
      refine wp_seq ?_
      refine wp_move (by conv => lhs; whnf) ?_
      refine wp_move (by conv => lhs; whnf) ?_
      refine wp_look (l_lenSl rfl) ?_
      refine wp_look (l_lssI rfl rfl rfl) ?_
      refine wp_say (b := true) rfl (decide_eq_true (by show (i : Int) < (m : Int); omega)) ?_
      refine wp_yes rfl ?_
      refine wp_move (by conv => lhs; whnf) ?_
      refine wp_yes rfl ?_
      refine wp_move (by conv => lhs; whnf) ?_
      refine wp_yes rfl ?_
      refine wp_look (l_leqI rfl rfl rfl) ?_
      refine wp_look (l_pick1 rfl (by conv => lhs; whnf)) ?_
      refine wp_end ?_
      refine wp_condF rfl (decide_eq_false (by show ¬ (i : Int) ≤ (most : Int); omega)) ?_
      refine wp_exit ?_
      refine exit_here rfl ?_
      refine wp_seq ?_
      refine wp_move (by conv => lhs; whnf) ?_
      refine wp_look (l_lenSl rfl) ?_
      refine wp_move (by conv => lhs; whnf) ?_
      refine wp_look (l_gtrI rfl rfl rfl) ?_
      refine wp_move (by conv => lhs; whnf) ?_
      refine wp_end ?_
      refine wp_ret ?_
      refine ⟨rfl, _, rfl, ?_, rfl⟩
      show Value.bool (decide ((most : Int) < (m : Int))) = _
      congr 1
      unfold longS
      have e1 : (l.take (most + 1)).any (fun s => decide (100 < s.1.length) || decide (100 < s.2.length)) = false := by
        rw [List.any_eq_false]
        intro x hx
        obtain ⟨j, hj⟩ := List.getElem?_of_mem hx
        rw [List.getElem?_take] at hj
        split at hj
        · rw [hno j x (by have := (List.getElem?_eq_some_iff.1 hj).1; omega) hj]; simp
        · cases hj
      rw [e1, Bool.false_or]
      exact decide_eq_decide.2 (by omega)
  ·
    refine wp_seq ?_
    refine wp_seq ?_
    refine wp_move (by conv => lhs; whnf) ?_
    refine wp_move (by conv => lhs; whnf) ?_
    refine wp_look (l_lenSl rfl) ?_
    refine wp_look (l_lssI rfl rfl rfl) ?_
    refine wp_say (b := false) rfl (decide_eq_false (by show ¬ (i : Int) < (m : Int); omega)) ?_
    refine wp_no rfl ?_
    refine wp_no rfl ?_
    refine wp_no rfl ?_
    refine wp_look (l_pick0 rfl (by conv => lhs; whnf)) ?_
    refine wp_end ?_
    refine wp_condF rfl rfl ?_
    refine wp_exit ?_
    refine exit_here rfl ?_
    refine wp_seq ?_
    refine wp_move (by conv => lhs; whnf) ?_
    refine wp_look (l_lenSl rfl) ?_
    refine wp_move (by conv => lhs; whnf) ?_
    refine wp_look (l_gtrI rfl rfl rfl) ?_
    refine wp_move (by conv => lhs; whnf) ?_
    refine wp_end ?_
    refine wp_ret ?_
    refine ⟨rfl, _, rfl, ?_, rfl⟩
    show Value.bool (decide ((most : Int) < (m : Int))) = _
    congr 1
    unfold longS
    have e1 : (l.take (most + 1)).any (fun s => decide (100 < s.1.length) || decide (100 < s.2.length)) = false := by
      rw [List.any_eq_false]
      intro x hx
      obtain ⟨j, hj⟩ := List.getElem?_of_mem hx
      rw [List.getElem?_take] at hj
      split at hj
      · rw [hno j x (by have := (List.getElem?_eq_some_iff.1 hj).1; omega) hj]; simp
      · cases hj
    rw [e1, Bool.false_or]
    exact decide_eq_decide.2 (by omega)
end
end SpanK

namespace SpanK
open Go Go.Eng Go.Proofs.Ytfknpknbgfkbdaa.Eng
set_option maxRecDepth 100000
set_option linter.unusedVariables false
section
theorem copy21 {E : Env} (H : Has E) (n : Nat) (l : List Sp) (ao : Option Addr) (m ca : Nat) (h : Heap) (s : Sl h ao m ca l) (hbig : m < 1000000) : (enter E (ctx E n) 21 [.slice ao m ca] h).Wp fun v h' => CopySl h h' v l ∧ h.Le h' := by
  refine H.go (k := k21) rfl (by decide) (by decide) ?_
  unfold k21
  refine wp_fn (Nat.le_of_ble_eq_true rfl) ?_
  dsimp only
  refine wp_seq ?_
  refine wp_move (by conv => lhs; whnf) ?_
  refine wp_end ?_
  refine wp_seq ?_
  refine wp_turn (tn_buildSlice rfl) ?_
  refine wp_move (by conv => lhs; whnf) ?_
  have hm := s.len
  obtain ⟨v', h', e1, e2, e3⟩ := append_copy (h0 := h) (t := p4 (.slice ao m ca) (p3 (.slice (some ⟨h.next, 0, none⟩) 0 0) (p2 (.slice none 0 0) (initTmps [.slice ao m ca] 0 Tm.empty)))) (g := g3) (g' := g4) (A := []) (.inl ⟨rfl, h.next, rfl, Heap.get_new h _, Nat.le_refl _, Nat.lt_succ_self _⟩) (s.le (Heap.Le.push _ _)) rfl rfl (Heap.Le.push _ _) (by decide) (by omega)
  refine wp_turn e1 ?_
  refine wp_move (by conv => lhs; whnf) ?_
  refine wp_end ?_
  refine wp_ret ?_
  exact ⟨rfl, _, rfl, by rw [List.nil_append] at e3; exact e3, e2⟩
theorem has37 {E : Env} (H : Has E) (n : Nat) (s : Sp) (k : Str) (h : Heap) (b : Nat) (hb : h.get b = some (.cells true [sv k])) (hlt : b < h.next) : (enter E (ctx E (n + 2)) 37 [.agg ⟨svs s⟩, .pointer (some ⟨b, 0, none⟩)] h).Wp fun v h' => v = .bool (inS s k) ∧ h.Le h' := by
  refine H.go (k := k37) rfl (by decide) (by decide) ?_
  unfold k37
  refine wp_fn (Nat.le_of_ble_eq_true rfl) ?_
  dsimp only
  refine wp_seq ?_
  refine wp_turn (tn_boxAgg rfl) ?_
  refine wp_move (by conv => lhs; whnf) ?_
  refine wp_end ?_
  refine wp_seq ?_
  refine wp_look (l_loadN rfl (Heap.get_new _ _) rfl) ?_
  refine wp_look (l_load1 rfl ((Heap.get_push_ne (by show b ≠ h.next; omega)).trans hb) rfl) ?_
  refine wp_callL (wp_func rfl (in12 H _ s k _)) fun h' hle => ?_
  refine wp_move (by conv => lhs; whnf) ?_
  refine wp_end ?_
  refine wp_ret ?_
  exact ⟨rfl, _, rfl, rfl, (Heap.Le.push _ _).trans hle⟩
theorem has26 {E : Env} (H : Has E) (n : Nat) (l : List Sp) (k : Str) (ao : Option Addr) (m ca : Nat) (h : Heap) (s : Sl h ao m ca l) (hbig : m < 1000000) (hf : m + 20 < n) : (enter E (ctx E (n + 1)) 26 [.slice ao m ca, sv k] h).Wp fun v h' => v = .bool (hasS l k) ∧ h.Le h' := by
  refine H.go (k := k26) rfl (by decide) (by decide) ?_
  unfold k26
  refine wp_fn (Nat.le_of_ble_eq_true rfl) ?_
  dsimp only
  obtain ⟨n', rfl⟩ : ∃ n', n = n' + 4 := ⟨n - 4, by omega⟩
  refine wp_seq ?_
  refine wp_turn (tn_box1 (v := sv k) rfl rfl) ?_
  refine wp_move (by conv => lhs; whnf) ?_
  refine wp_end ?_
  refine wp_seq ?_
  refine wp_move (by conv => lhs; whnf) ?_
  refine wp_look rfl ?_
  refine wp_callL (wp_func rfl (contains36 H _ (fun x => inS x k) _ l ao m ca s.len _ (s.rd.le (Heap.Le.push _ _)) (by omega) (by omega) fun x h' hle' => wp_func rfl (has37 H _ x k h' h.next ((hle'.get _ (Nat.lt_succ_self _)).trans (Heap.get_new _ _)) (Nat.lt_of_lt_of_le (Nat.lt_succ_self _) hle'.next)))) fun h' hle => ?_
  refine wp_move (by conv => lhs; whnf) ?_
  refine wp_end ?_
  refine wp_ret ?_
  exact ⟨rfl, _, rfl, rfl, (Heap.Le.push _ _).trans hle⟩
theorem pick30 {E : Env} (H : Has E) (c : Ctx) (z : Int) (m : Nat) (hm : 0 < m) (hbig : m < 1000000) (h : Heap) : ∃ r : Nat, r < m ∧ (enter E c 30 [.int .i64 z, .int .i64 (Int.ofNat m)] h).Wp fun v h' => v = .int .i64 (Int.ofNat r) ∧ h' = h := by
  have hlo : -(m : Int) < z.tmod m := by
    have := Int.tmod_lt_of_pos (-z) (b := (m : Int)) (by omega)
    rw [Int.neg_tmod] at this
    omega
  have hhi : z.tmod m < (m : Int) := Int.tmod_lt_of_pos z (by omega)
  by_cases hneg : z.tmod m < 0
  · refine ⟨(z.tmod m + m).toNat, by omega, ?_⟩
    refine H.go (k := k30) rfl (by decide) (by decide) ?_
    unfold k30
    refine wp_fn (Nat.le_of_ble_eq_true rfl) ?_
    dsimp only
    refine wp_seq ?_
    refine wp_move (by conv => lhs; whnf) ?_
    refine wp_end ?_
    refine wp_seq ?_
    refine wp_seq ?_
    refine wp_move (by conv => lhs; whnf) ?_
    refine wp_look (l_lssI rfl rfl rfl) ?_
    refine wp_end ?_
    refine wp_condF rfl (decide_eq_false (by show ¬ (m : Int) < 1; omega)) ?_
    refine wp_skip ?_
    refine wp_seq ?_
    refine wp_move (by conv => lhs; whnf) ?_
    refine wp_move (by conv => lhs; whnf) ?_
    refine wp_look (l_remI rfl rfl (by show (m : Int) ≠ 0; omega)) ?_
    refine wp_move (by conv => lhs; whnf) ?_
    refine wp_end ?_
    refine wp_seq ?_
    refine wp_seq ?_
    refine wp_move (by conv => lhs; whnf) ?_
    refine wp_look (l_lssI rfl rfl rfl) ?_
    refine wp_end ?_
    refine wp_condT rfl (decide_eq_true (by show z.tmod (m : Int) < 0; exact hneg)) ?_
    refine wp_move (by conv => lhs; whnf) ?_
    refine wp_move (by conv => lhs; whnf) ?_
    refine wp_look (l_addI rfl rfl rfl) ?_
    refine wp_move (by conv => lhs; whnf) ?_
    refine wp_end ?_
    refine wp_seq ?_
    refine wp_move (by conv => lhs; whnf) ?_
    refine wp_move (by conv => lhs; whnf) ?_
    refine wp_end ?_
    refine wp_ret ?_
    refine ⟨rfl, _, rfl, ?_, rfl⟩
    show Value.int .i64 (IntKind.i64.wrap (z.tmod (m : Int) + (m : Int))) = _
    rw [wrap64 (by omega) (by omega)]
    show Value.int .i64 (z.tmod (m : Int) + (m : Int)) = Value.int .i64 (((z.tmod (m : Int) + (m : Int)).toNat : Nat) : Int)
    congr 1
    omega
  · refine ⟨(z.tmod m).toNat, by omega, ?_⟩
    refine H.go (k := k30) rfl (by decide) (by decide) ?_
    unfold k30
    refine wp_fn (Nat.le_of_ble_eq_true rfl) ?_
    dsimp only
    refine wp_seq ?_
    refine wp_move (by conv => lhs; whnf) ?_
    refine wp_end ?_
    refine wp_seq ?_
    refine wp_seq ?_
    refine wp_move (by conv => lhs; whnf) ?_
    refine wp_look (l_lssI rfl rfl rfl) ?_
    refine wp_end ?_
    refine wp_condF rfl (decide_eq_false (by show ¬ (m : Int) < 1; omega)) ?_
    refine wp_skip ?_
    refine wp_seq ?_
    refine wp_move (by conv => lhs; whnf) ?_
    refine wp_move (by conv => lhs; whnf) ?_
    refine wp_look (l_remI rfl rfl (by show (m : Int) ≠ 0; omega)) ?_
    refine wp_move (by conv => lhs; whnf) ?_
    refine wp_end ?_
    refine wp_seq ?_
    refine wp_seq ?_
    refine wp_move (by conv => lhs; whnf) ?_
    refine wp_look (l_lssI rfl rfl rfl) ?_
    refine wp_end ?_
    refine wp_condF rfl (decide_eq_false (by show ¬ z.tmod (m : Int) < 0; exact hneg)) ?_
    refine wp_skip ?_
    refine wp_seq ?_
    refine wp_move (by conv => lhs; whnf) ?_
    refine wp_move (by conv => lhs; whnf) ?_
    refine wp_end ?_
    refine wp_ret ?_
    refine ⟨rfl, _, rfl, ?_, rfl⟩
    show Value.int .i64 (z.tmod (m : Int)) = Value.int .i64 (((z.tmod (m : Int)).toNat : Nat) : Int)
    congr 1
    omega
end
end SpanK
