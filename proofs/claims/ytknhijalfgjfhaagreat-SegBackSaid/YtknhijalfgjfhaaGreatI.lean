/-
  The library's sorting of IDs as a summary, by the shelf's contract. Conditions: those that each lemma states.
-/
import Derived.Test.YtknhijalfgjfhaaGreatG
import Derived.Shelf.SlSortCmp.NoneTotal
import Derived.OpenShut
import Derived.ChangeSame
set_option linter.unusedVariables false
set_option linter.unusedSimpArgs false
set_option linter.unusedSectionVars false
open List renaming getElem?_append_left -> XjY, size_toArray -> Xj0
open Array renaming eq_empty_of_size_eq_zero -> Xj9, getElem?_modify -> XjQ, getElem?_append_left -> Xkb
open Nat renaming le_add_right -> XjR
namespace Go.Eng
open Go.RowKit Go.Proofs Go.Sort
theorem CallOK.of_calls {P : Program} {B : Nat} {ι : Inj} {H H' : Heap} {w : World} {f : Nat} {fn : Func} {code : Code} (hf : P.funcs[f]? = some fn) (hn : (fn.name == "runtime.NumGoroutine") = false) (hb : fn.body = some code) (s : Sim P B ι H w) {args : Array Value} {v : Value}
  (h : Calls P f args w fun e w' => ∃ v', e = .returned v' /\ ∃ ι', VRel ι' v v' /\ Sim P B ι' H' w' /\ Adv ι H w ι' H' w') : CallOK P B ι H w (callFunc f args) (.ret v H') := by
 refine CallOK.of_enter (Xdw hf hn hb args w) (fun fr cs hm => ?_) s.bound
 obtain ⟨e, w', fr', ⟨v', rfl, ι', h1, h2, h3⟩, hc, hfn, hl⟩ := h (fr :: cs)
 show ∃ _ _ _, _
 exact ⟨ι', w', v', Steps.trans hc (Steps.one (step_leave_returned hl)), h1, h2, h3⟩
theorem flatKI_get (l : List Bid) (t : Nat) (h : t < l.length * 32) : (YY l)[t]? = some ((encI (l.toArray[t / 32]!))[t % 32]!) := by
 induction l generalizing t with
 | nil => simp at h
 | cons s l ih =>
  show (encI s ++ YY l)[t]? = _
  by_cases h32 : t < 32
  ·rw [XjY (by rw [encI_length]; exact h32), show t / 32 = 0 by omega, show t % 32 = t by omega]
   have e : (s :: l).toArray[0]! = s := by simp
   rw [e, List.getElem?_eq_getElem (by rw [encI_length]; exact h32)]
   simp [encI_length, h32]
  ·rw [List.getElem?_append_right (by rw [encI_length]; omega), encI_length, ih (t - 32) (by simp at h; omega)]
   have e1 : t / 32 = (t - 32) / 32 + 1 := by omega
   have e2 : (t - 32) % 32 = t % 32 := by omega
   rw [e1, e2]
   congr 2
   simp
theorem flatKI_flat (l : List Bid) {t : Nat} (h : t < l.length * 32) : (YY l)[t]? = some ((flatK encI 32 l.toArray)[t]!) := by
 rw [flatKI_get l t h, get_flatK encI 32 l.toArray t (by simpa using h)]
theorem flatKI_byte (l : List Bid) {t : Nat} (h : t < l.length * 32) : ∃ b, (flatK encI 32 l.toArray)[t]! = byteVal b := by
 have h1 := flatKI_flat l h
 have h2 : (flatK encI 32 l.toArray)[t]! ∈ YY l := List.mem_of_getElem? h1
 unfold YY at h2
 obtain ⟨c, hc, h3⟩ := List.mem_flatten.1 h2
 obtain ⟨x, _, rfl⟩ := List.mem_map.1 hc
 unfold encI at h3
 rw [Yb] at h3
 obtain ⟨b, _, e⟩ := List.mem_map.1 h3
 exact ⟨b, e.symm⟩
theorem sortI_sound {P : Program} {B f g : Nat} {fn : Func} {code : Code} (hf : P.funcs[f]? = some fn) (hn : (fn.name == "runtime.NumGoroutine") = false) (hb : fn.body = some code)
  (hsort : ∀ (blk off cap : Nat) (d : Array Bid) (w : World), HoldsK encI 32 w blk off d -> blk < w.heap.size -> d.size < 4611686018427387904 -> Calls P f #[.slice (some ⟨blk, off, none⟩) d.size cap, .func (.func g) #[] #[]] w fun e w' => e = .returned (.tuple #[]) /\ ∃ n os, w' = sortWorldK encI 32 w blk off n (Zw d.toList).toArray os)
  (hnone : ∀ (p : Option Addr) (cap : Nat) (fv : Value) (w : World), Calls P f #[.slice p 0 cap, fv] w fun e w' => e = .returned (.tuple #[]) /\ w' = w)
  {ι : Inj} {H : Heap} {w : World} {args args' : List Value} {v : Value} {H' : Heap} (s : Sim P B ι H w) (hr : LRel ι args args') (h : Jr g args H = some (v, H')) :
  CallOK P B ι H w (callFunc f args'.toArray) (.ret v H') := by
 unfold Jr at h
 split at h
 ·rename_i ao n c f'
  cases hg : Nat.beq g f' with
  | false => rw [hg] at h; cases h
  | true =>
  rw [beq_iff] at hg
  subst hg
  rw [Nat.beq_refl] at h
  obtain ⟨x', y', rfl, rx, ry⟩ : ∃ x' y', args' = [x', y'] /\ VRel ι (.slice ao n c) x' /\ VRel ι (.func (.func g) ⟨[]⟩ ⟨[]⟩) y' := by
   cases hr with
   | cons h1 h2 => cases h2 with
    | cons h2 h3 => cases h3; exact ⟨_, _, rfl, h1, h2⟩
  obtain rfl : y' = .func (.func g) #[] #[] := by
   cases ry with
   | func hf ha hc ra rc =>
    cases hf
    rw [Xj9 ha.symm, Xj9 hc.symm]
  by_cases hz : n = 0
  ·subst hz
   cases h
   obtain ⟨p, c', rfl⟩ : ∃ p c', x' = .slice p 0 c' := by cases rx <;> exact ⟨_, _, rfl⟩
   refine CallOK.of_calls hf hn hb s ((hnone p c' _ w).mono fun e w' he => ?_)
   obtain ⟨rfl, rfl⟩ := he
   exact ⟨_, rfl, ι, .tuple rfl (fun i h => absurd h (Nat.not_lt_zero _)), s, Adv.refl _ _ _⟩
  ·rw [show Nat.beq n 0 = false from by cases e : Nat.beq n 0; rfl; exact absurd (beq_iff.1 e) hz] at h
   dsimp only [cond_false, Bool.not_true] at h
   cases hbl : Nat.blt n 1000000 with
   | false => rw [hbl] at h; cases h
   | true =>
   rw [hbl] at h
   rw [blt_iff] at hbl
   cases ao with
   | none => cases h
   | some a =>
   dsimp only at h
   split at h
   ·rename_i cs hget
    cases hp : XgP n (XS a.off cs) with
    | none => rw [hp] at h; cases h
    | some l =>
    rw [hp] at h
    cases h
    obtain ⟨hl, rest, hcs⟩ := parseI_spec _ _ _ hp
    rw [Vg] at hcs
    cases rx with
    | sempty => exact absurd rfl hz
    | @slice _ p _ _ c' hι he hc hnc hl' =>
     obtain ⟨o1, o2, o3, o4⟩ := s.obj a.block p _ hι hget
     obtain ⟨o4, o5, o6⟩ := o4 rfl
     have hlen : a.off + l.length * 32 <= cs.length := by
      have := congrArg List.length hcs
      rw [List.length_drop, List.length_append, UJ] at this
      by_cases hle : a.off <= cs.length
      ·omega
      ·have : l.length * 32 = 0 := by omega
       omega
     have hcell : ∀ j, j < l.length * 32 -> w.cell? ⟨p.b, p.d + a.off + j, none⟩ = some ((flatK encI 32 l.toArray)[j]!) := by
      intro j hj
      have e1 : cs[a.off + j]? = some ((flatK encI 32 l.toArray)[j]!) := by
       have : (cs.drop a.off)[j]? = (YY l ++ rest)[j]? := by rw [hcs]
       rw [List.getElem?_drop, XjY (by rw [UJ]; exact hj), flatKI_flat l hj] at this
       exact this
      obtain ⟨v', k1, k2, _⟩ := o3 _ _ e1
      rw [<- Nat.add_assoc] at k1
      rw [k1]
      obtain ⟨sb, e⟩ := flatKI_byte l hj
      rw [e] at k2 ⊢
      cases k2
      rfl
     have hH : HoldsK encI 32 w p.b (p.d + a.off) l.toArray := by
      intro j hj
      rw [size_flatK] at hj
      simp only [Xj0] at hj
      refine ⟨hcell j hj, ?_⟩
      have := o5 (a.off + j) (by omega)
      rw [<- Nat.add_assoc] at this
      exact this
     subst hl
     have hc1 := hsort p.b (p.d + a.off) c' l.toArray w hH (s.lt _ _ hι) (by simp only [Xj0]; omega)
     refine CallOK.of_calls hf hn hb s (hc1.mono fun e w' he => ?_)
     obtain ⟨rfl, nd, os, rfl⟩ := he
     refine ⟨_, rfl, ι, .tuple rfl (fun i h => absurd h (Nat.not_lt_zero _)), ?_⟩
     have hsl : (Zw l).length = l.length := Xde l
     have hH' : HoldsK encI 32 (Sort.ahead w nd) p.b (p.d + a.off) l.toArray := hH
     have up := s.update (w' := putRowK encI 32 (Sort.ahead w nd) p.b (p.d + a.off) (Zw l).toArray) hι hget (o1 := .cells true (X0 (YY (Zw l)) a.off cs)) trivial rfl ⟨rfl, XjR _ _⟩ rfl
      (by rw [size_putRowK]; rfl)
      (fun k hk => by
       show ((Sort.ahead w nd).heap.modify p.b _)[k]? = _
       rw [XjQ, if_neg (Ne.symm hk)]; rfl)
      (fun wr xs e i hi => by
       refine ⟨?_, ?_⟩
       ·refine (cell?_putRow_other id _ _ _ _ _ (Or.inr ?_)).trans rfl
        rw [size_flatK]
        simp only [Xj0, hsl]
        rcases hi with hi | hi
        ·left; show i < _; omega
        ·right; show _ <= i; omega
       ·exact frozen?_putRow id _ _ _ _ _)
      (fun wr xs e c0 e0 fr0 hk => by
       replace hk : ((Sort.ahead w nd).heap.modify p.b (onCells _))[p.b]? = _ := hk
       rw [XjQ, if_pos rfl] at hk
       replace hk : (w.heap[p.b]?).map (onCells _) = _ := hk
       cases ho : w.heap[p.b]? with
       | none => rw [ho] at hk; cases hk
       | some ob =>
        rw [ho] at hk
        cases ob <;> first | (cases hk; exact ⟨_, rfl⟩) | (cases hk; done))
      (by
       have cin : ∀ j, j < l.length * 32 -> (putRowK encI 32 (Sort.ahead w nd) p.b (p.d + a.off) (Zw l).toArray).cell? ⟨p.b, p.d + a.off + j, none⟩ = some ((flatK encI 32 (Zw l).toArray)[j]!) := fun j hj =>
        cell?_putRow id (Sort.ahead w nd) p.b (p.d + a.off) (flatK encI 32 l.toArray) (flatK encI 32 (Zw l).toArray) hH' (by simp [hsl]) j (by simpa [hsl] using hj)
       have cout : ∀ i, ¬ (a.off <= i /\ i < a.off + l.length * 32) -> (putRowK encI 32 (Sort.ahead w nd) p.b (p.d + a.off) (Zw l).toArray).cell? ⟨p.b, p.d + i, none⟩ = w.cell? ⟨p.b, p.d + i, none⟩ := fun i hi => by
        refine (cell?_putRow_other id _ _ _ _ _ (Or.inr ?_)).trans rfl
        rw [size_flatK]
        simp only [Xj0, hsl]
        by_cases h1 : a.off <= i
        ·right; have : ¬ i < a.off + l.length * 32 := fun k => hi ⟨h1, k⟩
         show _ <= p.d + i; omega
        ·left; show p.d + i < _; omega
       have hfl : (YY (Zw l)).length = l.length * 32 := by rw [UJ, hsl]
       refine ⟨by rw [Vy _ _ _ (by rw [hfl]; exact hlen)]; exact o1, fun i hi => ?_, fun i x hx => ?_, fun _ => ⟨o4, fun i hi => ?_, fun hL => ?_⟩⟩
       ·by_cases hin : a.off <= i /\ i < a.off + l.length * 32
        ·have := cin (i - a.off) (by omega)
         rw [show p.d + a.off + (i - a.off) = p.d + i by omega] at this
         obtain ⟨sb, e⟩ := flatKI_byte (Zw l) (t := i - a.off) (by rw [hsl]; omega)
         exact ⟨_, this, by rw [e]; trivial⟩
        ·exact (o2 i hi).eq (cout i hin)
       ·rw [UD _ _ _ (by rw [hfl]; exact hlen), hfl] at hx
        split at hx
        ·rename_i hin
         have := cin (i - a.off) (by omega)
         rw [show p.d + a.off + (i - a.off) = p.d + i by omega] at this
         rw [flatKI_flat (Zw l) (by rw [hsl]; omega)] at hx
         cases hx
         refine ⟨_, this, ?_⟩
         obtain ⟨sb, e⟩ := flatKI_byte (Zw l) (t := i - a.off) (by rw [hsl]; omega)
         rw [e]
         exact ⟨.int _ _, trivial⟩
        ·rename_i hin
         rw [cout i hin]
         exact o3 i x hx
       ·exact (frozen?_putRow id _ _ _ _ _).trans (o5 i hi)
       ·refine (o6 hL).fz ?_
        intro c0 e0 fr0 hk
        replace hk : ((Sort.ahead w nd).heap.modify p.b (onCells _))[p.b]? = _ := hk
        rw [XjQ, if_pos rfl] at hk
        replace hk : (w.heap[p.b]?).map (onCells _) = _ := hk
        cases ho : w.heap[p.b]? with
        | none => rw [ho] at hk; cases hk
        | some ob =>
         rw [ho] at hk
         cases ob <;> first | (cases hk; exact ⟨_, rfl⟩) | (cases hk; done))
     obtain ⟨u1, u2⟩ := up
     have hsz : (putRowK encI 32 (Sort.ahead w nd) p.b (p.d + a.off) (Zw l).toArray).heap.size <= (sortWorldK encI 32 w p.b (p.d + a.off) nd (Zw l).toArray os).heap.size := by
      show _ <= (_ ++ os).size
      rw [Array.size_append]; exact XjR _ _
     have hk : ∀ k, k < (putRowK encI 32 (Sort.ahead w nd) p.b (p.d + a.off) (Zw l).toArray).heap.size -> (sortWorldK encI 32 w p.b (p.d + a.off) nd (Zw l).toArray os).heap[k]? = (putRowK encI 32 (Sort.ahead w nd) p.b (p.d + a.off) (Zw l).toArray).heap[k]? := fun k hk => by
      show (_ ++ os)[k]? = _
      rw [Xkb hk]
     exact ⟨u1.grown hsz hk, Adv.trans s.bound u2 (Adv.grown _ _ rfl ⟨rfl, Nat.le_refl _⟩ rfl hsz hk)⟩
   ·cases h
 ·cases h
open Go.RowKit Go.Proofs Go.Sort Go.WideShapes
theorem calls_wp {P : Program} {E : Env} (hmix : P.follows .mixedOrders = true) {w : World} {B : Nat} (hE : EnvOK P B E) (n : Nat) {f : Nat} {k : XC} (hk : E.fn f = some k) {ι : Inj} {H : Heap} (s : Sim P B ι H w) {args : List Value} {args' : Array Value} (ha : LRel ι args args'.toList)
  {Q : Value -> Heap -> Prop} (h : (Vx E (ctx E n) k args H).Wp true Q) : Calls P f args' w fun e w' => ∃ v H' v' ι', Q v H' /\ e = .returned v' /\ VRel ι' v v' /\ Adv ι H w ι' H' w' := by
 have hd : ∀ c, Vv P B c -> Kt P B c := fun c C => draw_ok hmix C
 have C := ctx_ok hE hd n
 intro cs
 have := XgH hE C (hd _ C) (hE.fn f k hk) s ha cs
 obtain ⟨v, H', e, q⟩ := h.one
 rw [e] at this
 obtain ⟨ι', w', v', F, h1, h2, h3, h4, h5, h6⟩ := this
 exact ⟨.returned v', w', F, ⟨v, H', v', ι', q, rfl, h4, h6⟩, h1, h2, h3⟩
theorem grown_of {w w' : World} {ι ι' : Inj} {H' : Heap} (h : Adv (fun _ => none) ⟨0, .nil⟩ w ι' H' w') : ∃ q os, w' = grow (w.drewN q) os := by
 refine ⟨w'.drawn - w.drawn, w'.heap.extract w.heap.size w'.heap.size, ?_⟩
 have hd := h.tape.2
 have hh : w'.heap = w.heap ++ w'.heap.extract w.heap.size w'.heap.size := by
  apply Array.ext_getElem?
  intro k
  by_cases hk : k < w.heap.size
  ·rw [Xkb hk]
   exact h.keep k hk (fun b p o hb => by cases hb)
  ·rw [Array.getElem?_append_right (by omega), Array.getElem?_extract]
   have hs := h.size
   by_cases hk' : k < w'.heap.size
   ·rw [if_pos (by omega), show w.heap.size + (k - w.heap.size) = k by omega]
   ·rw [if_neg (by omega), Array.getElem?_eq_none (by omega)]
 obtain ⟨heap, tape, drawn, os, output⟩ := w'
 obtain ⟨heap0, tape0, drawn0, os0, output0⟩ := w
 have h1 := h.os
 have h2 := h.tape.1
 have h3 := h.output
 simp only at h1 h2 h3 hd hh
 subst h1; subst h2; subst h3
 show World.mk heap tape drawn os output = World.mk (heap0 ++ _) tape (drawn0 + (drawn - drawn0)) os output
 rw [show drawn0 + (drawn - drawn0) = drawn by omega]
 congr 1
theorem plain_bytes : ∀ l : List UInt8, Xcm (Xa l) = true
 | [] => rfl
 | b :: l => by
  show (XgA (byteVal b) && Xcm (Xa l)) = true
  rw [plain_bytes l]; rfl
theorem plain_enc (x : Bid) : UW (.agg ⟨encI x⟩) = true := plain_bytes x.b
theorem cmp_laysI {P : Program} {E : Env} (hmix : P.follows .mixedOrders = true) (hE : ∀ B, EnvOK P B E) (n : Nat) {g : Nat} {k : XC} (hk : E.fn g = some k) (cf : Bid -> Bid -> Int)
  (run : ∀ x y : Bid, (Vx E (ctx E n) k [.agg ⟨encI x⟩, .agg ⟨encI y⟩] ⟨0, .nil⟩).Wp true fun v _ => v = .int .i64 (cf x y)) (blk off size : Nat) (w : World) : CmpLays P g #[] encI 32 cf blk off size w := by
 intro m os dk _ x y
 have hc := calls_wp hmix (hE (sortWorldK encI 32 w blk off m dk os).heap.size) n hk (sim_empty (sortWorldK encI 32 w blk off m dk os)) (args := [.agg ⟨encI x⟩, .agg ⟨encI y⟩]) (args' := #[.agg (encI x).toArray, .agg (encI y).toArray] ++ #[])
  (.cons (JE (plain_enc x)) (.cons (JE (plain_enc y)) .nil)) (run x y)
 refine hc.mono fun e w' he => ?_
 obtain ⟨v, H', v', ι', rfl, rfl, hv, had⟩ := he
 cases hv
 exact ⟨rfl, grown_of (ι := fun _ => none) had⟩
theorem sorted_getI : ∀ {l : List Bid}, (∀ (i j : Nat) (x y : Bid), i < j -> l[i]? = some x -> l[j]? = some y -> ltI y x = false) -> Xdf l
 | [], _ => .nil
 | s :: l, h => List.pairwise_cons.2 ⟨fun t ht => by
   obtain ⟨j, hj⟩ := List.getElem?_of_mem ht
   exact h 0 (j + 1) s t (by omega) rfl hj, sorted_getI fun i j x y hij hx hy => h (i + 1) (j + 1) x y (by omega) hx hy⟩
theorem sortsI {d d' : Array Bid} {lt : Bid -> Bid -> Bool} (hlt : ∀ x y, lt x y = ltI x y) (hp : PermIn 0 d.size d d') (hs : SortedIn lt 0 d.size d') : d' = (Zw d.toList).toArray := by
 obtain ⟨h1, _, h3⟩ := hp
 have h3' : d'.toList.Perm d.toList := by
  rw [<- h1] at h3
  have e1 : (d'.extract 0 d'.size) = d' := by simp
  have e2 : (d.extract 0 d'.size) = d := by rw [h1]; simp
  rw [e1, e2] at h3
  exact h3
 have hsort : Xdf d'.toList := sorted_getI fun i j x y hij hx hy => by
  have hj : j < d'.size := by have := (List.getElem?_eq_some_iff.1 hy).1; simpa using this
  have := hs i j (Nat.zero_le _) hij (by omega)
  rw [hlt] at this
  have ex : d'[i]! = x := by
   have : d'[i]? = some x := by rw [<- hx]; simp
   rw [getElem!_def, this]
  have ey : d'[j]! = y := by
   have : d'[j]? = some y := by rw [<- hy]; simp
   rw [getElem!_def, this]
  rw [ex, ey] at this
  exact this
 have := XdD hsort (XgO d.toList) (h3'.trans (XdC d.toList).symm)
 rw [<- this]
theorem swo_I {cf : Bid -> Bid -> Int} (h : ∀ x y, decide (cf x y < 0) = ltI x y) : SWO (ltOf cf) where
 irrefl x := by rw [show ltOf cf x x = ltI x x from h x x]; exact ltI_irrefl x
 trans x y z h1 h2 := by
  rw [show ltOf cf x y = ltI x y from h x y] at h1
  rw [show ltOf cf y z = ltI y z from h y z] at h2
  exact (h x z).trans (ltI_trans h1 h2)
 ntrans x y z h1 h2 := by
  rw [show ltOf cf x y = ltI x y from h x y] at h1
  rw [show ltOf cf y z = ltI y z from h y z] at h2
  refine (h x z).trans ?_
  cases e : ltI x z with
  | false => rfl
  | true =>
   rcases ltI_total x y with k | rfl | k
   ·rw [h1] at k; cases k
   ·rw [h2] at e; cases e
   ·have := ltI_trans k e; rw [h2] at this; cases this
end Go.Eng
