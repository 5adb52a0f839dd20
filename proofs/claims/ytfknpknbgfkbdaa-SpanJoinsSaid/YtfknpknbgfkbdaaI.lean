/-
  The library's sorting of spans as a summary, by the shelf's contract; what spans look like that come in. Conditions: those that each lemma states.
-/
import Derived.Test.YtfknpknbgfkbdaaG
import Derived.Shelf.SlSortCmp.NoneTotal
import Derived.OpenShut
import Derived.ChangeSame

set_option linter.unusedSimpArgs false
set_option linter.unusedSectionVars false
set_option linter.unusedVariables false
/- The library's sorting of spans, as a summary: by the shelf's contract. -/
namespace Go.Eng
set_option linter.unusedVariables false
open Go.RowKit Go.Proofs Go.Sort

theorem CallOK.of_calls {P : Program} {B : Nat} {ι : Inj} {H H' : Heap} {w : World} {f : Nat} {fn : Func} {code : Code} (hf : P.funcs[f]? = some fn) (hn : (fn.name == "runtime.NumGoroutine") = false) (hb : fn.body = some code) (s : Sim P B ι H w) {args : Array Value} {v : Value}
    (h : Calls P f args w fun e w' => ∃ v', e = .returned v' ∧ ∃ ι', VRel ι' v v' ∧ Sim P B ι' H' w' ∧ Adv ι H w ι' H' w') : CallOK P B ι H w (callFunc f args) (.ret v H') := by
  refine CallOK.of_enter (callFunc_enter hf hn hb args w) (fun fr cs hm => ?_) s.bound
  obtain ⟨e, w', fr', ⟨v', rfl, ι', h1, h2, h3⟩, hc, hfn, hl⟩ := h (fr :: cs)
  show ∃ _ _ _, _
  exact ⟨ι', w', v', Steps.trans hc (Steps.one (step_leave_returned hl)), h1, h2, h3⟩

theorem flatK_get (l : List Sp) (t : Nat) (h : t < l.length * 2) : (flatS l)[t]? = some ((svs (l.toArray[t / 2]!))[t % 2]!) := by
  induction l generalizing t with
  | nil => simp at h
  | cons s l ih =>
    rcases t with _ | _ | t
    · rfl
    · rfl
    · show (flatS l)[t]? = _
      rw [ih t (by simp at h ⊢; omega)]
      have e1 : (t + 1 + 1) / 2 = t / 2 + 1 := by omega
      have e2 : (t + 1 + 1) % 2 = t % 2 := by omega
      rw [e1, e2]
      congr 2
      simp
theorem flatK_flat (l : List Sp) {t : Nat} (h : t < l.length * 2) : (flatS l)[t]? = some ((flatK svs 2 l.toArray)[t]!) := by
  rw [flatK_get l t h, get_flatK svs 2 l.toArray t (by simpa using h)]

theorem parse_spec : ∀ (n : Nat) (xs : List Value) (l : List Sp), parseS n xs = some l → l.length = n ∧ ∃ rest, xs = flatS l ++ rest
  | 0, xs, l, h => by cases h; exact ⟨rfl, xs, rfl⟩
  | n + 1, xs, l, h => by
    unfold parseS at h
    split at h
    · rename_i e; cases e
    · rename_i a b cs e
      cases hp : parseS n cs with
      | none => cases e; rw [hp] at h; cases h
      | some l' =>
        cases e
        rw [hp] at h
        cases h
        obtain ⟨h1, rest, h2⟩ := parse_spec n cs l' hp
        exact ⟨by simp [h1], rest, by rw [h2]; rfl⟩
    · cases h

theorem sort_sound {P : Program} {B f g : Nat} {fn : Func} {code : Code} (hf : P.funcs[f]? = some fn) (hn : (fn.name == "runtime.NumGoroutine") = false) (hb : fn.body = some code)
    (hsort : ∀ (blk off cap : Nat) (d : Array Sp) (w : World), HoldsK svs 2 w blk off d → blk < w.heap.size → d.size < 4611686018427387904 → Calls P f #[.slice (some ⟨blk, off, none⟩) d.size cap, .func (.func g) #[] #[]] w fun e w' => e = .returned (.tuple #[]) ∧ ∃ n os, w' = sortWorldK svs 2 w blk off n (sortS d.toList).toArray os)
    (hnone : ∀ (p : Option Addr) (cap : Nat) (fv : Value) (w : World), Calls P f #[.slice p 0 cap, fv] w fun e w' => e = .returned (.tuple #[]) ∧ w' = w)
    {ι : Inj} {H : Heap} {w : World} {args args' : List Value} {v : Value} {H' : Heap} (s : Sim P B ι H w) (hr : LRel ι args args') (h : sortSum g args H = some (v, H')) :
    CallOK P B ι H w (callFunc f args'.toArray) (.ret v H') := by
  unfold sortSum at h
  split at h
  · rename_i ao n c f'
    cases hg : Nat.beq g f' with
    | false => rw [hg] at h; cases h
    | true =>
    rw [beq_iff] at hg
    subst hg
    rw [Nat.beq_refl] at h
    obtain ⟨x', y', rfl, rx, ry⟩ : ∃ x' y', args' = [x', y'] ∧ VRel ι (.slice ao n c) x' ∧ VRel ι (.func (.func g) ⟨[]⟩ ⟨[]⟩) y' := by
      cases hr with
      | cons h1 h2 => cases h2 with
        | cons h2 h3 => cases h3; exact ⟨_, _, rfl, h1, h2⟩
    obtain rfl : y' = .func (.func g) #[] #[] := by
      cases ry with
      | func hf ha hc ra rc =>
        cases hf
        rw [Array.eq_empty_of_size_eq_zero ha.symm, Array.eq_empty_of_size_eq_zero hc.symm]
    by_cases hz : n = 0
    · subst hz
      cases h
      obtain ⟨p, c', rfl⟩ : ∃ p c', x' = .slice p 0 c' := by cases rx <;> exact ⟨_, _, rfl⟩
      refine CallOK.of_calls hf hn hb s ((hnone p c' _ w).mono fun e w' he => ?_)
      obtain ⟨rfl, rfl⟩ := he
      exact ⟨_, rfl, ι, .tuple rfl (fun i h => absurd h (Nat.not_lt_zero _)), s, Adv.refl _ _ _⟩
    · rw [show Nat.beq n 0 = false from by cases e : Nat.beq n 0; rfl; exact absurd (beq_iff.1 e) hz] at h
      dsimp only [cond_false, Bool.not_true] at h
      cases hbl : Nat.blt n 1000000 with
      | false => rw [hbl] at h; cases h
      | true =>
      rw [hbl] at h
      rw [blt_iff] at hbl
      cases ao with
      | none => cases h
      | some a =>
      dsimp only at h
      split at h
      · rename_i cs hget
        cases hp : parseS n (dropN a.off cs) with
        | none => rw [hp] at h; cases h
        | some l =>
        rw [hp] at h
        cases h
        obtain ⟨hl, rest, hcs⟩ := parse_spec _ _ _ hp
        rw [dropN_eq] at hcs
        cases rx with
        | sempty => exact absurd rfl hz
        | @slice _ p _ _ c' hι he hc hnc hl' =>
          obtain ⟨o1, o2, o3, o4⟩ := s.obj a.block p _ hι hget
          obtain ⟨o4, o5, o6⟩ := o4 rfl
          have hlen : a.off + l.length * 2 ≤ cs.length := by
            have := congrArg List.length hcs
            rw [List.length_drop, List.length_append, flatS_length] at this
            by_cases hle : a.off ≤ cs.length
            · omega
            · have : l.length * 2 = 0 := by omega
              omega
          have hcell : ∀ j, j < l.length * 2 → w.cell? ⟨p.b, p.d + a.off + j, none⟩ = some ((flatK svs 2 l.toArray)[j]!) := by
            intro j hj
            have e1 : cs[a.off + j]? = some ((flatK svs 2 l.toArray)[j]!) := by
              have : (cs.drop a.off)[j]? = (flatS l ++ rest)[j]? := by rw [hcs]
              rw [List.getElem?_drop, List.getElem?_append_left (by rw [flatS_length]; exact hj), flatK_flat l hj] at this
              exact this
            obtain ⟨v', k1, k2, _⟩ := o3 _ _ e1
            rw [← Nat.add_assoc] at k1
            rw [k1]
            have : ∃ sb, (flatK svs 2 l.toArray)[j]! = .string sb := by
              have := flatK_flat l hj
              rw [flatK_get l j hj] at this
              injection this with this
              rw [← this]
              rcases Nat.mod_two_eq_zero_or_one j with e | e <;> rw [e] <;> exact ⟨_, rfl⟩
            obtain ⟨sb, e⟩ := this
            rw [e] at k2 ⊢
            cases k2
            rfl
          have hH : HoldsK svs 2 w p.b (p.d + a.off) l.toArray := by
            intro j hj
            rw [size_flatK] at hj
            simp only [List.size_toArray] at hj
            refine ⟨hcell j hj, ?_⟩
            have := o5 (a.off + j) (by omega)
            rw [← Nat.add_assoc] at this
            exact this
          subst hl
          have hc1 := hsort p.b (p.d + a.off) c' l.toArray w hH (s.lt _ _ hι) (by simp only [List.size_toArray]; omega)
          refine CallOK.of_calls hf hn hb s (hc1.mono fun e w' he => ?_)
          obtain ⟨rfl, nd, os, rfl⟩ := he
          refine ⟨_, rfl, ι, .tuple rfl (fun i h => absurd h (Nat.not_lt_zero _)), ?_⟩
          have hsl : (sortS l).length = l.length := sortS_length l
          have hH' : HoldsK svs 2 (Sort.ahead w nd) p.b (p.d + a.off) l.toArray := hH
          have up := s.update (w' := putRowK svs 2 (Sort.ahead w nd) p.b (p.d + a.off) (sortS l).toArray) hι hget (o1 := .cells true (putAt (flatS (sortS l)) a.off cs)) trivial rfl ⟨rfl, Nat.le_add_right _ _⟩ rfl
            (by rw [size_putRowK]; rfl)
            (fun k hk => by
              show ((Sort.ahead w nd).heap.modify p.b _)[k]? = _
              rw [Array.getElem?_modify, if_neg (Ne.symm hk)]; rfl)
            (fun wr xs e i hi => by
              refine ⟨?_, ?_⟩
              · refine (cell?_putRow_other id _ _ _ _ _ (Or.inr ?_)).trans rfl
                rw [size_flatK]
                simp only [List.size_toArray, hsl]
                rcases hi with hi | hi
                · left; show i < _; omega
                · right; show _ ≤ i; omega
              · exact frozen?_putRow id _ _ _ _ _)
            (fun wr xs e c0 e0 fr0 hk => by
              replace hk : ((Sort.ahead w nd).heap.modify p.b (onCells _))[p.b]? = _ := hk
              rw [Array.getElem?_modify, if_pos rfl] at hk
              replace hk : (w.heap[p.b]?).map (onCells _) = _ := hk
              cases ho : w.heap[p.b]? with
              | none => rw [ho] at hk; cases hk
              | some ob =>
                rw [ho] at hk
                cases ob <;> first | (cases hk; exact ⟨_, rfl⟩) | (cases hk; done))
            (by
              have cin : ∀ j, j < l.length * 2 → (putRowK svs 2 (Sort.ahead w nd) p.b (p.d + a.off) (sortS l).toArray).cell? ⟨p.b, p.d + a.off + j, none⟩ = some ((flatK svs 2 (sortS l).toArray)[j]!) := fun j hj =>
                cell?_putRow id (Sort.ahead w nd) p.b (p.d + a.off) (flatK svs 2 l.toArray) (flatK svs 2 (sortS l).toArray) hH' (by simp [hsl]) j (by simpa [hsl] using hj)
              have cout : ∀ i, ¬ (a.off ≤ i ∧ i < a.off + l.length * 2) → (putRowK svs 2 (Sort.ahead w nd) p.b (p.d + a.off) (sortS l).toArray).cell? ⟨p.b, p.d + i, none⟩ = w.cell? ⟨p.b, p.d + i, none⟩ := fun i hi => by
                refine (cell?_putRow_other id _ _ _ _ _ (Or.inr ?_)).trans rfl
                rw [size_flatK]
                simp only [List.size_toArray, hsl]
                by_cases h1 : a.off ≤ i
                · right; have : ¬ i < a.off + l.length * 2 := fun k => hi ⟨h1, k⟩
                  show _ ≤ p.d + i; omega
                · left; show p.d + i < _; omega
              have hfl : (flatS (sortS l)).length = l.length * 2 := by rw [flatS_length, hsl]
              refine ⟨by rw [putAt_length _ _ _ (by rw [hfl]; exact hlen)]; exact o1, fun i hi => ?_, fun i x hx => ?_, fun _ => ⟨o4, fun i hi => ?_, fun hL => ?_⟩⟩
              · by_cases hin : a.off ≤ i ∧ i < a.off + l.length * 2
                · have := cin (i - a.off) (by omega)
                  rw [show p.d + a.off + (i - a.off) = p.d + i by omega] at this
                  rw [this]; rfl
                · rw [cout i hin]; exact o2 i hi
              · rw [putAt_get _ _ _ (by rw [hfl]; exact hlen), hfl] at hx
                split at hx
                · rename_i hin
                  have := cin (i - a.off) (by omega)
                  rw [show p.d + a.off + (i - a.off) = p.d + i by omega] at this
                  rw [flatK_flat (sortS l) (by rw [hsl]; omega)] at hx
                  cases hx
                  refine ⟨_, this, ?_⟩
                  have : ∃ sb, (flatK svs 2 (sortS l).toArray)[i - a.off]! = .string sb := by
                    have := flatK_flat (sortS l) (t := i - a.off) (by rw [hsl]; omega)
                    rw [flatK_get (sortS l) _ (by rw [hsl]; omega)] at this
                    injection this with this
                    rw [← this]
                    rcases Nat.mod_two_eq_zero_or_one (i - a.off) with e | e <;> rw [e] <;> exact ⟨_, rfl⟩
                  obtain ⟨sb, e⟩ := this
                  rw [e]
                  exact ⟨.string sb, trivial⟩
                · rename_i hin
                  rw [cout i hin]
                  exact o3 i x hx
              · exact (frozen?_putRow id _ _ _ _ _).trans (o5 i hi)
              · refine (o6 hL).fz ?_
                intro c0 e0 fr0 hk
                replace hk : ((Sort.ahead w nd).heap.modify p.b (onCells _))[p.b]? = _ := hk
                rw [Array.getElem?_modify, if_pos rfl] at hk
                replace hk : (w.heap[p.b]?).map (onCells _) = _ := hk
                cases ho : w.heap[p.b]? with
                | none => rw [ho] at hk; cases hk
                | some ob =>
                  rw [ho] at hk
                  cases ob <;> first | (cases hk; exact ⟨_, rfl⟩) | (cases hk; done))
          obtain ⟨u1, u2⟩ := up
          have hsz : (putRowK svs 2 (Sort.ahead w nd) p.b (p.d + a.off) (sortS l).toArray).heap.size ≤ (sortWorldK svs 2 w p.b (p.d + a.off) nd (sortS l).toArray os).heap.size := by
            show _ ≤ (_ ++ os).size
            rw [Array.size_append]; exact Nat.le_add_right _ _
          have hk : ∀ k, k < (putRowK svs 2 (Sort.ahead w nd) p.b (p.d + a.off) (sortS l).toArray).heap.size → (sortWorldK svs 2 w p.b (p.d + a.off) nd (sortS l).toArray os).heap[k]? = (putRowK svs 2 (Sort.ahead w nd) p.b (p.d + a.off) (sortS l).toArray).heap[k]? := fun k hk => by
            show (_ ++ os)[k]? = _
            rw [Array.getElem?_append_left hk]
          exact ⟨u1.grown hsz hk, Adv.trans s.bound u2 (Adv.grown _ _ rfl ⟨rfl, Nat.le_refl _⟩ rfl hsz hk)⟩
      · cases h
  · cases h
end Go.Eng

/- The library's sorting under a comparison that the abstract machine has run; what spans look like that come in. -/
namespace Go.Eng
set_option linter.unusedVariables false
open Go.RowKit Go.Proofs Go.Sort Go.WideShapes

theorem calls_wp {P : Program} {E : Env} (hmix : P.follows .mixedOrders = true) {w : World} {B : Nat} (hE : EnvOK P B E) (n : Nat) {f : Nat} {k : KFun} (hk : E.fn f = some k) {ι : Inj} {H : Heap} (s : Sim P B ι H w) {args : List Value} {args' : Array Value} (ha : LRel ι args args'.toList)
    {Q : Value → Heap → Prop} (h : (enterK E (ctx E n) k args H).Wp Q) : Calls P f args' w fun e w' => ∃ v H' v' ι', Q v H' ∧ e = .returned v' ∧ VRel ι' v v' ∧ Adv ι H w ι' H' w' := by
  have hd : ∀ c, CtxOK P B c → DrawOK P B c := fun c C => draw_ok hmix C
  have C := ctx_ok hE hd n
  intro cs
  have := enterK_sound hE C (hd _ C) (hE.fn f k hk) s ha cs
  obtain ⟨v, H', e, q⟩ := h
  rw [e] at this
  obtain ⟨ι', w', v', F, h1, h2, h3, h4, h5, h6⟩ := this
  exact ⟨.returned v', w', F, ⟨v, H', v', ι', q, rfl, h4, h6⟩, h1, h2, h3⟩

theorem grown_of {w w' : World} {ι ι' : Inj} {H' : Heap} (h : Adv (fun _ => none) ⟨0, .nil⟩ w ι' H' w') : ∃ q os, w' = grow (w.drewN q) os := by
  refine ⟨w'.drawn - w.drawn, w'.heap.extract w.heap.size w'.heap.size, ?_⟩
  have hd := h.tape.2
  have hh : w'.heap = w.heap ++ w'.heap.extract w.heap.size w'.heap.size := by
    apply Array.ext_getElem?
    intro k
    by_cases hk : k < w.heap.size
    · rw [Array.getElem?_append_left hk]
      exact h.keep k hk (fun b p o hb => by cases hb)
    · rw [Array.getElem?_append_right (by omega), Array.getElem?_extract]
      have hs := h.size
      by_cases hk' : k < w'.heap.size
      · rw [if_pos (by omega), show w.heap.size + (k - w.heap.size) = k by omega]
      · rw [if_neg (by omega), Array.getElem?_eq_none (by omega)]
  obtain ⟨heap, tape, drawn, os, output⟩ := w'
  obtain ⟨heap0, tape0, drawn0, os0, output0⟩ := w
  have h1 := h.os
  have h2 := h.tape.1
  have h3 := h.output
  simp only at h1 h2 h3 hd hh
  subst h1; subst h2; subst h3
  show World.mk heap tape drawn os output = World.mk (heap0 ++ _) tape (drawn0 + (drawn - drawn0)) os output
  rw [show drawn0 + (drawn - drawn0) = drawn by omega]
  congr 1

theorem cmp_lays {P : Program} {E : Env} (hmix : P.follows .mixedOrders = true) (hE : ∀ B, EnvOK P B E) (n : Nat) {g : Nat} {k : KFun} (hk : E.fn g = some k) (cf : Sp → Sp → Int)
    (run : ∀ x y : Sp, (enterK E (ctx E n) k [.agg ⟨svs x⟩, .agg ⟨svs y⟩] ⟨0, .nil⟩).Wp fun v _ => v = .int .i64 (cf x y)) (blk off size : Nat) (w : World) : CmpLays P g #[] svs 2 cf blk off size w := by
  intro m os dk _ x y
  have hc := calls_wp hmix (hE (sortWorldK svs 2 w blk off m dk os).heap.size) n hk (sim_empty (sortWorldK svs 2 w blk off m dk os)) (args := [.agg ⟨svs x⟩, .agg ⟨svs y⟩]) (args' := #[.agg (svs x).toArray, .agg (svs y).toArray] ++ #[])
    (.cons (plainV_rel rfl) (.cons (plainV_rel rfl) .nil)) (run x y)
  refine hc.mono fun e w' he => ?_
  obtain ⟨v, H', v', ι', rfl, rfl, hv, had⟩ := he
  cases hv
  exact ⟨rfl, grown_of (ι := fun _ => none) had⟩

theorem sorted_get : ∀ {l : List Sp}, (∀ (i j : Nat) (x y : Sp), i < j → l[i]? = some x → l[j]? = some y → ltSp y x = false) → Sorted l
  | [], _ => trivial
  | s :: l, h => ⟨fun t ht => by
      obtain ⟨j, hj⟩ := List.getElem?_of_mem ht
      exact h 0 (j + 1) s t (by omega) rfl hj, sorted_get fun i j x y hij hx hy => h (i + 1) (j + 1) x y (by omega) hx hy⟩
theorem sorts {d d' : Array Sp} {lt : Sp → Sp → Bool} (hlt : ∀ x y, lt x y = ltSp x y) (hp : PermIn 0 d.size d d') (hs : SortedIn lt 0 d.size d') : d' = (sortS d.toList).toArray := by
  obtain ⟨h1, _, h3⟩ := hp
  have h3' : d'.toList.Perm d.toList := by
    rw [← h1] at h3
    have e1 : (d'.extract 0 d'.size) = d' := by simp
    have e2 : (d.extract 0 d'.size) = d := by rw [h1]; simp
    rw [e1, e2] at h3
    exact h3
  have hsort : Sorted d'.toList := sorted_get fun i j x y hij hx hy => by
    have hj : j < d'.size := by have := (List.getElem?_eq_some_iff.1 hy).1; simpa using this
    have := hs i j (Nat.zero_le _) hij (by omega)
    rw [hlt] at this
    have ex : d'[i]! = x := by
      have : d'[i]? = some x := by rw [← hx]; simp
      rw [getElem!_def, this]
    have ey : d'[j]! = y := by
      have : d'[j]? = some y := by rw [← hy]; simp
      rw [getElem!_def, this]
    rw [ex, ey] at this
    exact this
  have := sorted_unique hsort (sort_sorted d.toList) (h3'.trans (sort_perm d.toList).symm)
  rw [← this]

/-- A span that came in. -/
theorem span_open {H : Type} {enc : TypeId × Value → H} {P : Program} {w : World} {base : Nat} {spare : Nat → Bool} {held : Bool} {r : Reach} {b0 : Nat} {k : TypeId} {f0 f1 : Field} (ht : P.underlying k = some (.struct #[f0, f1])) (h0 : P.underlying f0.type = some .string) (h1 : P.underlying f1.type = some .string)
    (o0 : f0.offset = 0) (o1 : f1.offset = 1) (c0 : P.cellsOf f0.type = 1) (c1 : P.cellsOf f1.type = 1) (c2 : P.cellsOf k = 2) {v : Value} {d : DataW H} {ps : List MemPlace}
    (hval : Value.okWide P w r b0 k v) (hd : DataW.Trod enc P w base spare held k v d ps) : ∃ a b : ByteArray, v = .agg #[.string a, .string b] := by
  simp only [Value.okWide, ht] at hval
  obtain ⟨cs, rfl, hsz, _⟩ := hval
  obtain ⟨fuel, hf⟩ := hd
  obtain ⟨y0, y1, n, _, hl, e0, e1⟩ := Go.ChangeShapes.trod_struct2 ht hf
  replace hl : cs.toList.length = P.cellsOf k := hl
  rw [c2] at hl
  replace e0 : DataW.trod enc P w base spare held n f0.type ((cs.toList.drop f0.offset).take (P.cellsOf f0.type)) = some y0 := e0
  replace e1 : DataW.trod enc P w base spare held n f1.type ((cs.toList.drop f1.offset).take (P.cellsOf f1.type)) = some y1 := e1
  rw [o0, c0] at e0
  rw [o1, c1] at e1
  obtain ⟨a, ha, _⟩ := DataW.trod_string h0 e0
  obtain ⟨b, hb, _⟩ := DataW.trod_string h1 e1
  refine ⟨a, b, ?_⟩
  congr 1
  apply Array.ext'
  generalize cs.toList = l at hl ha hb
  match l, hl with
  | [p, q], _ =>
    simp at ha hb
    rw [ha, hb]
theorem ltOf_cmp {cf : Sp → Sp → Int} (h : ∀ x y, decide (cf x y < 0) = ltSp x y) (x y : Sp) : ltOf cf x y = ltSp x y := h x y
theorem swo_sp {cf : Sp → Sp → Int} (h : ∀ x y, decide (cf x y < 0) = ltSp x y) : SWO (ltOf cf) where
  irrefl x := by rw [ltOf_cmp h]; exact ltSp_irrefl x
  trans x y z h1 h2 := by rw [ltOf_cmp h] at *; exact ltSp_trans h1 h2
  ntrans x y z h1 h2 := by
    rw [ltOf_cmp h] at *
    cases e : ltSp x z with
    | false => rfl
    | true =>
      rcases ltSp_total x y with k | rfl | k
      · rw [h1] at k; cases k
      · rw [h2] at e; cases e
      · have := ltSp_trans k e; rw [h2] at this; cases this
end Go.Eng

/- A slice of spans that came in. -/
namespace Go.Eng
set_option linter.unusedVariables false
open Go.RowKit Go.Proofs Go.Sort Go.WideShapes

theorem flatS_at : ∀ (l : List Sp) (j : Nat) (x : Value), (flatS l)[j]? = some x → ∃ s, l[j / 2]? = some s ∧ (svs s)[j % 2]? = some x
  | [], j, x, h => by cases h
  | s :: l, 0, x, h => ⟨s, rfl, h⟩
  | s :: l, 1, x, h => ⟨s, rfl, h⟩
  | s :: l, j + 2, x, h => by
    obtain ⟨t, h1, h2⟩ := flatS_at l j x h
    refine ⟨t, ?_, ?_⟩
    · rw [show (j + 2) / 2 = j / 2 + 1 by omega]; exact h1
    · rw [show (j + 2) % 2 = j % 2 by omega]; exact h2

theorem list_of {α : Type} {Q : Nat → α → Prop} : ∀ n : Nat, (∀ i, i < n → ∃ a, Q i a) → ∃ l : List α, l.length = n ∧ ∀ i a, l[i]? = some a → Q i a
  | 0, _ => ⟨[], rfl, fun i a h => by cases h⟩
  | n + 1, h => by
    obtain ⟨l, h1, h2⟩ := list_of n fun i hi => h i (by omega)
    obtain ⟨a, ha⟩ := h n (by omega)
    refine ⟨l ++ [a], by simp [h1], fun i b hb => ?_⟩
    by_cases hi : i < n
    · rw [List.getElem?_append_left (by omega)] at hb; exact h2 i b hb
    · rw [List.getElem?_append_right (by omega)] at hb
      have : i = n := by
        cases e : i - l.length with
        | zero => omega
        | succ k => rw [e] at hb; cases hb
      subst this
      rw [h1, Nat.sub_self] at hb
      cases hb
      exact ha

theorem spans_open {H : Type} {enc : TypeId × Value → H} {P : Program} {w : World} {base : Nat} {spare : Nat → Bool} {held : Bool} {r : Reach} {b0 : Nat} {t k : TypeId} {f0 f1 : Field} (hs : P.underlying t = some (.slice k)) (ht : P.underlying k = some (.struct #[f0, f1])) (h0 : P.underlying f0.type = some .string) (h1 : P.underlying f1.type = some .string)
    (o0 : f0.offset = 0) (o1 : f1.offset = 1) (c0 : P.cellsOf f0.type = 1) (c1 : P.cellsOf f1.type = 1) (c2 : P.cellsOf k = 2) {v : Value} {d : DataW H} {ps : List MemPlace}
    (hval : Value.okWide P w r b0 t v) (hd : DataW.Trod enc P w base spare held t v d ps) :
    v = .slice none 0 0 ∨ ∃ (a : Addr) (len cap : Nat) (l : List Sp), v = .slice (some a) len cap ∧ a.spot = none ∧ len ≤ cap ∧ l.length = len ∧ ∀ i x, (flatS l)[i]? = some x → w.cell? ⟨a.block, a.off + i, none⟩ = some x := by
  obtain ⟨a0, len, cap, rfl⟩ := okWide_slice hs hval
  obtain ⟨fuel, hf⟩ := hd
  rcases DataW.trod_slice hs hf with ⟨h, _⟩ | ⟨a, len', cap', elems, rest, n, _, h, _, hb, hl, hm, hlen, hel, hsp, hns⟩
  · simp [Value.cells] at h
    obtain ⟨rfl, rfl, rfl⟩ := h
    exact .inl rfl
  · simp [Value.cells] at h
    obtain ⟨rfl, rfl, rfl⟩ := h
    have hspot : a.spot = none := by
      have hv : Value.okWide P w r b0 t (.slice (some a) len cap) := hval
      simp only [Value.okWide, hs, Cell.okWide, Cell.ok] at hv
      exact hv.2.2.2.1
    obtain ⟨b, o, sp⟩ := a
    simp only at hspot
    subst hspot
    have each : ∀ i, i < len → ∃ s : Sp, w.cell? ⟨b, o + i * 2, none⟩ = some (sv s.1) ∧ w.cell? ⟨b, o + i * 2 + 1, none⟩ = some (sv s.2) := by
      intro i hi
      have h := hel i hi
      rw [List.getElem?_eq_getElem (by omega), Option.bind_eq_some_iff, c2] at h
      obtain ⟨cs, hcs, hy⟩ := h
      obtain ⟨y0, y1, m, _, hl2, e0, e1⟩ := Go.ChangeShapes.trod_struct2 ht hy
      rw [c2] at hl2
      rw [o0, c0] at e0
      rw [o1, c1] at e1
      obtain ⟨x, hx, _⟩ := DataW.trod_string h0 e0
      obtain ⟨y, hy', _⟩ := DataW.trod_string h1 e1
      refine ⟨(bytes x, bytes y), ?_⟩
      match cs, hl2 with
      | [p, q], _ =>
        simp at hx hy'
        subst hx
        subst hy'
        obtain ⟨_, _, hc⟩ := World.cells?_some hcs
        have g0 := hc 0 (by omega)
        have g1 := hc 1 (by omega)
        have ea : ∀ (q : Nat) (j : Nat), (⟨b, q, none⟩ : Addr).add j = ⟨b, q + j, none⟩ := by
          intro q j
          unfold Addr.add
          split <;> simp_all
        rw [ea, ea] at g0 g1
        exact ⟨g0, g1⟩
    obtain ⟨l, h1, h2⟩ := list_of len each
    refine .inr ⟨_, len, cap, l, rfl, rfl, hl, h1, fun i x hx => ?_⟩
    obtain ⟨s, q1, q2⟩ := flatS_at l i x hx
    obtain ⟨g1, g2⟩ := h2 _ s q1
    rcases Nat.mod_two_eq_zero_or_one i with e | e
    · rw [e] at q2
      cases q2
      rw [← g1]; congr 2; show o + i = _; omega
    · rw [e] at q2
      cases q2
      rw [← g2]; congr 2; show o + i = _; omega
/-- Memory that holds the spans that came in, and nothing else. -/
theorem spans_sim {P : Program} {w : World} {v : Value} (h : v = .slice none 0 0 ∨ ∃ (a : Addr) (len cap : Nat) (l : List Sp), v = .slice (some a) len cap ∧ a.spot = none ∧ len ≤ cap ∧ l.length = len ∧ ∀ i x, (flatS l)[i]? = some x → w.cell? ⟨a.block, a.off + i, none⟩ = some x) :
    ∃ (ι : Inj) (H : Heap) (ao : Option Addr) (m ca : Nat) (l : List Sp), Sim P w.heap.size ι H w ∧ VRel ι (.slice ao m ca) v ∧ Sl H ao m ca l := by
  rcases h with rfl | ⟨⟨b, o, sp⟩, len, cap, l, rfl, hsp, hl, hlen, hc⟩
  · exact ⟨fun _ => none, ⟨0, .nil⟩, none, 0, 0, [], sim_empty w, .snil 0 0, rfl, Reads.nil _ _, fun x hx => (nomatch hx), fun _ => rfl, Nat.le_refl _, fun x hx => (nomatch hx)⟩
  · simp only at hsp
    subst hsp
    have blank : ∀ (o : AObj) k, 1 ≤ k → ((⟨0, .nil⟩ : Heap).push o).get k = none := fun o k hk => by
      rw [Heap.get_push_ne (by show k ≠ 0; omega)]; rfl
    have here : ∀ o : AObj, ((⟨0, .nil⟩ : Heap).push o).get 0 = some o := fun o => Heap.get_new ⟨0, .nil⟩ o
    by_cases h0 : len = 0
    · subst h0
      refine ⟨fun _ => none, (⟨0, .nil⟩ : Heap).push (.cells false []), some ⟨0, 0, some 2⟩, 0, 0, [], ⟨fun b p o h => (nomatch h), fun b b' p p' o o' _ h => (nomatch h), fun b p h => (nomatch h), fun b p h => (nomatch h), blank _, Nat.le_refl _⟩, .sempty (fun h => (nomatch h)), rfl, Reads.nil _ _, ?_, fun h => (nomatch h), Nat.le_refl _, fun x hx => .inl rfl⟩
      intro x hx
      cases hx
      exact ⟨_, _, here _, Nat.lt_succ_self _⟩
    · have hlt : b < w.heap.size := by
        cases l with
        | nil => exact absurd hlen.symm h0
        | cons s l =>
          have := hc 0 _ rfl
          exact (cell_lt this).2
      have hget : ∀ b' p, (fun k => if k = 0 then some (⟨b, o, len * 2⟩ : Place) else none) b' = some p → b' = 0 ∧ p = ⟨b, o, len * 2⟩ := by
        intro b' p h
        simp only at h
        split at h
        · rename_i e; cases h; exact ⟨e, rfl⟩
        · cases h
      have rd : Reads ((⟨0, .nil⟩ : Heap).push (.cells false (flatS l))) (some ⟨0, 0, none⟩) l := fun i s hi => ⟨_, false, _, rfl, here _, Nat.lt_succ_self _, by have := flatS_get l [] hi; rw [List.append_nil] at this; exact this⟩
      refine ⟨fun k => if k = 0 then some ⟨b, o, len * 2⟩ else none, (⟨0, .nil⟩ : Heap).push (.cells false (flatS l)), some ⟨0, 0, none⟩, len, cap, l, ⟨?_, ?_, ?_, ?_, blank _, Nat.le_refl _⟩, ?_, hlen, rd, ?_, fun h => (nomatch h), hl, fun x hx => by cases hx; exact .inr (.inl rfl)⟩
      · intro b' p ob h1 h2
        obtain ⟨rfl, rfl⟩ := hget b' p h1
        rw [here] at h2
        cases h2
        refine ⟨by rw [flatS_length, hlen]; exact Nat.le_refl _, fun i hi => ?_, fun i x hx => ⟨x, hc i x hx, ?_⟩, fun h => by cases h⟩
        · have hi' : i < (flatS l).length := by rw [flatS_length, hlen]; exact hi
          have := hc i _ (List.getElem?_eq_getElem hi')
          show (w.cell? ⟨b, o + i, none⟩).isSome = true
          rw [this]; rfl
        · obtain ⟨s, _, q⟩ := flatS_at l i x hx
          rcases Nat.mod_two_eq_zero_or_one i with e | e
          · rw [e] at q; cases q; exact ⟨.string _, trivial⟩
          · rw [e] at q; cases q; exact ⟨.string _, trivial⟩
      · intro b1 b2 p p' o1 o2 hne h1 h2
        obtain ⟨rfl, _⟩ := hget b1 p h1
        obtain ⟨rfl, _⟩ := hget b2 p' h2
        exact absurd rfl hne
      · intro b' p h1
        obtain ⟨rfl, _⟩ := hget b' p h1
        exact Nat.lt_succ_self _
      · intro b' p h1
        obtain ⟨_, rfl⟩ := hget b' p h1
        exact hlt
      · exact .slice (a := ⟨0, 0, none⟩) (p := ⟨b, o, len * 2⟩) rfl (fun _ => rfl) (Nat.le_refl _) hl (fun z h => by cases h)
      · intro x hx
        cases hx
        exact ⟨_, _, here _, Nat.lt_succ_self _⟩
end Go.Eng
