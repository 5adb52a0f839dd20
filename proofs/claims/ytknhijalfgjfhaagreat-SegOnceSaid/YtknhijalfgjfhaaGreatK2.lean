/-
  The functions of the program, of the document's answer and of the library, each gone through once: what it answers. Conditions: those that each lemma states.
-/
import Derived.Test.YtknhijalfgjfhaaGreatK1
set_option linter.unusedVariables false
set_option linter.unusedSimpArgs false
set_option linter.unusedSectionVars false
open Nat renaming lt_of_lt_of_le -> Xia, zero_le -> XhO, mul_one -> XhI, le_trans -> Xh4, le_succ -> Xil, lt_succ_self -> Xh0, le_of_ble_eq_true -> XhH, le_refl -> XhE, sub_zero -> XiV
open List renaming length_append -> XhC, mem_append -> XhV, getD_eq_getElem?_getD -> Xih, getElem?_eq_getElem -> XhL, drop_eq_getElem_cons -> XiX, mem_of_mem_take -> Xiu, mem_singleton -> XhB, drop_eq_nil_iff -> Xjz, take_add_one -> Xh6, getElem?_drop -> Xjp, map_append -> Xh2, isEmpty_iff -> XiP, length_singleton -> Xi0, length_eq_zero_iff -> Xjs, map_map -> Xis, mem_of_getElem? -> Xh5, length_map -> XhP, getElem?_map -> Xic, take_of_length_le -> Xi6, mem_map -> XhW, append_assoc -> Xh1, mem_append_right -> XiC, mem_cons_self -> Xh9, mem_cons_of_mem -> Xii, mem_append_left -> XiE, mem_flatten -> XiK, length_cons -> Xh8, mem_map_of_mem -> XiJ, length_nil -> Xjh, length_drop -> Xif, take_append_drop -> Xiw, flatten_append -> XiF, take_length -> Xh7, eq_nil_of_length_eq_zero -> XiB, append_nil -> Xij, length_take -> Xie, drop_zero -> XiN, map_take -> Xi3, drop_of_length_le -> Xjq, getElem?_eq_some_iff -> Xig
open Int renaming ofNat -> XhA
open Bool renaming and_eq_true -> XhN, not_eq_true -> Xje
open Option renaming some -> XhU
noncomputable section
set_option maxRecDepth 100000
namespace Sp
open Go Go.Eng
variable {h : Heap} {bs : List (List UInt8)} {vs : List Value} {lev oc : Nat} {fp : List Nat} {oo : Option Addr}
structure RowV (h : Heap) (base : Nat) (oo : Option Addr) (oc : Nat) (io : Option Addr) (ic : Nat) (vs is : List Value) (bs : List (List UInt8)) (fp : List Nat) : Prop where
 o : Own h 1 oo vs.length oc vs
 i : Own h 1 io is.length ic is
 b : Bss h fp vs bs
 ob : ∀ x ∈ XD oo, base <= x
 ib : ∀ x ∈ XD io, base <= x
 fb : ∀ x ∈ fp, base <= x /\ x < h.next /\ x ∉ XD oo /\ x ∉ XD io
 oi : ∀ x ∈ XD oo, x ∉ XD io
theorem RowV.ext {h' : Heap} {base : Nat} {io : Option Addr} {ic : Nat} {is : List Value} (r : RowV h base oo oc io ic vs is bs fp) (e : Ext [] h h') : RowV h' base oo oc io ic vs is bs fp :=
 ⟨r.o.ext e, r.i.ext e, r.b.ext e, r.ob, r.ib, fun x hx => ⟨(r.fb x hx).1, Xia (r.fb x hx).2.1 e.next, (r.fb x hx).2.2⟩, r.oi⟩
theorem RowV.nil (h : Heap) (base : Nat) : RowV h base none 0 none 0 [] [] [] [] :=
 ⟨.empty h 1, .empty h 1, .nil, (fun _ h => nomatch h), (fun _ h => nomatch h), (fun _ h => nomatch h), fun _ h => nomatch h⟩
theorem RowV.app1 {h3 : Heap} {base : Nat} {oo2 : Option Addr} {oc2 : Nat} {io : Option Addr} {ic : Nat} {is : List Value} (r : RowV h base oo oc io ic vs is bs fp) {b : List UInt8} {lo : Option Addr} {lc : Nat} (sl : Slc h 1 lo b.length lc (Xa b)) (hb : ∀ x ∈ XD lo, base <= x /\ x ∉ XD oo /\ x ∉ XD io)
  (o5 : Own h3 1 oo2 (vs.length + 1) oc2 (vs ++ [.slice lo b.length lc])) (e5 : Ext (XD oo) h h3) (f5 : ∀ a, oo2 = some a -> a.block ∈ XD oo \/ (h.next <= a.block /\ a.block < h3.next)) (hbase : base <= h.next) : RowV h3 base oo2 oc2 io ic (vs ++ [.slice lo b.length lc]) is (bs ++ [b]) (XD lo ++ fp) := by
 have en := e5.next
 have hll : ∀ x ∈ XD lo, x < h.next := fun x hx => by obtain ⟨a, h1, h2⟩ := Xu hx; rw [<- h2]; exact sl.lt a h1
 have hil : ∀ x ∈ XD io, x < h.next := fun x hx => by obtain ⟨a, h1, h2⟩ := Xu hx; rw [<- h2]; exact r.i.toSlc.lt a h1
 have h2 : ∀ x ∈ XD oo2, x ∈ XD oo \/ h.next <= x := fun x hx => by
  obtain ⟨a, h1, h2⟩ := Xu hx
  rcases f5 a h1 with k | k
  ·rw [<- h2]; exact .inl k
  ·rw [<- h2]; exact .inr k.1
 refine ⟨by rw [XhC]; exact o5, r.i.extS e5 fun a ha hm => r.oi _ hm (Va ha), ?_, fun x hx => ?_, r.ib, fun x hx => ?_, fun x hx hi => ?_⟩
 ·refine All2.append ((r.b.extS e5 fun x hx => (r.fb x hx).2.2.1).mono fun x hx => XhV.2 (.inr hx)) (.cons ⟨lo, lc, rfl, sl.extS e5 (fun a ha => (hb _ (Va ha)).2.1), fun a ha => XhV.2 (.inl (Va ha))⟩ .nil)
 ·rcases h2 x hx with k | k
  ·exact r.ob x k
  ·omega
 ·rcases XhV.1 hx with k | k
  ·have k1 := hb x k
   have k2 := hll x k
   exact ⟨k1.1, by omega, fun hq => (h2 x hq).elim k1.2.1 (fun k3 => by omega), k1.2.2⟩
  ·have k1 := r.fb x k
   exact ⟨k1.1, by omega, fun hq => (h2 x hq).elim k1.2.2.1 (fun k3 => by omega), k1.2.2.2⟩
 ·rcases h2 x hx with k | k
  ·exact r.oi x k hi
  ·have := hil x hi; omega
theorem RowV.app2 {h3 : Heap} {base : Nat} {io io2 : Option Addr} {ic ic2 : Nat} {is : List Value} (r : RowV h base oo oc io ic vs is bs fp) {v : Value}
  (o5 : Own h3 1 io2 (is.length + 1) ic2 (is ++ [v])) (e5 : Ext (XD io) h h3) (f5 : ∀ a, io2 = some a -> a.block ∈ XD io \/ (h.next <= a.block /\ a.block < h3.next)) (hbase : base <= h.next) : RowV h3 base oo oc io2 ic2 vs (is ++ [v]) bs fp := by
 have en := e5.next
 have hol : ∀ x ∈ XD oo, x < h.next := fun x hx => by obtain ⟨a, h1, h2⟩ := Xu hx; rw [<- h2]; exact r.o.toSlc.lt a h1
 have h2 : ∀ x ∈ XD io2, x ∈ XD io \/ h.next <= x := fun x hx => by
  obtain ⟨a, h1, h2⟩ := Xu hx
  rcases f5 a h1 with k | k
  ·rw [<- h2]; exact .inl k
  ·rw [<- h2]; exact .inr k.1
 refine ⟨r.o.extS e5 fun a ha hm => r.oi _ (Va ha) hm, by rw [XhC]; exact o5, r.b.extS e5 fun x hx => (r.fb x hx).2.2.2, r.ob, fun x hx => ?_, fun x hx => ?_, fun x hx hi => ?_⟩
 ·rcases h2 x hx with k | k
  ·exact r.ib x k
  ·omega
 ·have k1 := r.fb x hx
  exact ⟨k1.1, by omega, k1.2.2.1, fun hq => (h2 x hq).elim k1.2.2.2 (fun k3 => by omega)⟩
 ·rcases h2 x hi with k | k
  ·exact r.oi x hx k
  ·have := hol x hx; omega
structure RowS (h : Heap) (base : Nat) (oo : Option Addr) (oc : Nat) (io : Option Addr) (ic : Nat) (vs is : List Value) (bs : List (List UInt8)) (fp : List Nat) : Prop where
 o : Slc h 1 oo vs.length oc vs
 i : Slc h 1 io is.length ic is
 b : Bss h fp vs bs
 ob : ∀ x ∈ XD oo, base <= x
 ib : ∀ x ∈ XD io, base <= x
 fb : ∀ x ∈ fp, base <= x /\ x < h.next
theorem RowV.toS {base : Nat} {io : Option Addr} {ic : Nat} {is : List Value} (r : RowV h base oo oc io ic vs is bs fp) : RowS h base oo oc io ic vs is bs fp :=
 ⟨r.o.toSlc, r.i.toSlc, r.b, r.ob, r.ib, fun x hx => ⟨(r.fb x hx).1, (r.fb x hx).2.1⟩⟩
theorem RowS.extS {h' : Heap} {base : Nat} {io : Option Addr} {ic : Nat} {is : List Value} (r : RowS h base oo oc io ic vs is bs fp) {S : List Nat} (e : Ext S h h') (q : ∀ x ∈ S, x < base \/ h.next <= x) : RowS h' base oo oc io ic vs is bs fp :=
 ⟨r.o.extS e (fun a ha hm => by have := r.ob _ (Va ha); have := r.o.lt a ha; have := q _ hm; omega), r.i.extS e (fun a ha hm => by have := r.ib _ (Va ha); have := r.i.lt a ha; have := q _ hm; omega), r.b.extS e (fun x hx hm => by have := r.fb x hx; have := q _ hm; omega), r.ob, r.ib, fun x hx => ⟨(r.fb x hx).1, Xia (r.fb x hx).2 e.next⟩⟩
theorem RowS.ext {h' : Heap} {base : Nat} {io : Option Addr} {ic : Nat} {is : List Value} (r : RowS h base oo oc io ic vs is bs fp) (e : Ext [] h h') : RowS h' base oo oc io ic vs is bs fp := r.extS e fun _ hx => nomatch hx
def XcP (n : Nat) : Value := .int .i64 (XhA n)
section
variable {E : Env} {sg : Bool} (H : Has E)
include H
theorem ref21_ends_ok (m : Nat) (h : Heap) (b : UInt8) (n : Nat) : (enter E (ctx E m) Xc9 [byteVal b, .int .i64 (XhA n)] h).Wp sg fun v h' => v = .bool (decide (b.toNat % 8 = 0) || decide (n = 8)) /\ h' = h := by
 refine H.run (k := Jy) rfl rfl rfl ?_
 dsimp only [Jy]
 refine R ?_
 refine Xd (l_remK (a := b.toNat) rfl rfl (by decide)) ?_
 by_cases hr : b.toNat % 8 = 0
 ·refine R ?_
  exact ⟨rfl, _, Xb (Xw rfl) Xg, by rw [decide_eq_true hr]; rfl, rfl⟩
 ·by_cases h8 : n = 8
  ·refine R ?_
   exact ⟨rfl, _, Xb (Xw rfl) Xg, by rw [decide_eq_true h8, decide_eq_false hr]; rfl, rfl⟩
  ·refine R ?_
   exact ⟨rfl, _, Xb (Xw rfl) Xg, by rw [decide_eq_false h8, decide_eq_false hr]; rfl, rfl⟩
set_option maxHeartbeats 2000000 in
theorem ref21_Leaves_ok (m : Nat) (hm : 100000000 <= m) (h : Heap) (texts : List (List UInt8)) (ao : Option Addr) (ca n : Nat) (hn : texts.length = n) (sl : Slc h 1 ao n ca (fl YU texts)) (ht : n <= 130) (hs : ∀ s ∈ texts, s.length <= 8000) :
  (enter E (ctx E (m + 7)) XaY [.slice ao n ca] h).Wp sg fun v h' => ∃ oo oc io ic vs is fp, v = .tuple ⟨[.slice oo vs.length oc, .slice io is.length ic]⟩ /\ RowS h' h.next oo oc io ic vs is ((leaves texts).map (Nd.bytes 0)) fp /\ is = (leaves texts).map (fun n => XcP n.many) /\ Ext [] h h' := by
 refine H.run (k := V0) rfl rfl rfl ?_
 dsimp only [V0]
 refine R ?_
 refine Yl n 0 (fun i t x hk => ∃ oo oc io ic vs is fp cs cur, (g0 t = (.slice ao n ca) /\ g4 t = (.slice oo vs.length oc) /\ g5 t = (.slice io is.length ic) /\ g6 t = (.int .i64 (XhA (i - cur.length))) /\ g7 t = (.int .i64 (XhA i))) /\ x = ⟨[], none, none⟩ /\ Ext [] h hk /\ cur.length <= i /\ vs.length <= i /\ is.length <= i /\ (texts.drop (i - cur.length)).take cur.length = cur /\ X0 eS [] texts = cs ++ X0 eS cur (texts.drop i) /\ RowV hk h.next oo oc io ic vs is (cs.map fun c => X3 0 c []) fp /\ is = cs.map fun c => XcP c.length) ⟨none, 0, none, 0, [], [], [], [], [], ⟨rfl, rfl, rfl, rfl, rfl⟩, rfl, .refl h, by simp, by simp, by simp, by simp, by simp, .nil h _, rfl⟩ (XhO _) (XG (by omega)) ?_
 rintro i t x hk hi ⟨oo, oc, io, ic, vs, is, fp, cs, cur, ⟨r0, r4, r5, r6, r7⟩, rfl, ek, hcl, hvl, hil, hcur, hcut, row, his⟩
 obtain ⟨t0, rfl⟩ : ∃ t0, t = p0 (.slice ao n ca) (p4 (.slice oo vs.length oc) (p5 (.slice io is.length ic) (p6 (.int .i64 (XhA (i - cur.length))) (p7 (.int .i64 (XhA i)) t0)))) := ⟨t, (show t = p0 (g0 t) (p4 (g4 t) (p5 (g5 t) (p6 (g6 t) (p7 (g7 t) t)))) from rfl).trans (by rw [r0, r4, r5, r6, r7])⟩
 clear r0 r4 r5 r6 r7
 have lk := ek.next
 by_cases hlt : i < n
 ·obtain ⟨a, wa, xa, hao, ga, na, ta⟩ := (sl.ext ek).nonempty (by omega)
  subst hao
  have hload : nth (a.off + i * 1) xa = some (sv (texts.getD i [])) := by
   rw [XhI, Yf ta (by omega), Xd2 (by omega)]
  have hsi : (texts.getD i []).length <= 8000 := hs _ (by
   rw [Xih, XhL (by omega)]; simp)
  have hdrop : texts.drop i = texts.getD i [] :: texts.drop (i + 1) := by
   rw [XiX (by omega), Xih, XhL (by omega)]; rfl
  have hall : ∀ x ∈ cur ++ [texts.getD i []], x.length <= 8000 := by
   intro x hx
   rcases XhV.1 hx with hx | hx
   ·rw [<- hcur] at hx; exact hs x (List.mem_of_mem_drop (Xiu hx))
   ·rw [XhB.1 hx]; exact hsi
  generalize texts.getD i [] = s at hload hsi hdrop hall
  have hrest : texts.drop (i + 1) = [] ↔ i = n - 1 := by
   rw [Xjz]; omega
  have hcurS : (texts.drop (i - cur.length)).take (cur.length + 1) = cur ++ [s] := by
   rw [Xh6, hcur, Xjp, show i - cur.length + cur.length = i by omega]
   have : texts[i]? = some s := by
    have := congrArg (·[0]?) hdrop
    simpa using this
   rw [this]; rfl
  by_cases hl : i = n - 1
  ·have hstep : X0 eS cur (texts.drop i) = (cur ++ [s]) :: X0 eS [] (texts.drop (i + 1)) := by
    rw [hdrop, X0, hrest.2 hl]; simp
   refine R ?_
   refine Xd (Xaj rfl rfl (by omega) (by omega)) ?_
   refine R ?_
   refine wp_say (b := false) rfl (by simp only [decide_eq_false_iff_not, Bool.not_eq_false', decide_eq_true_eq, Bool.and_eq_false_iff, Bool.or_eq_false_iff]; omega) ?_
   refine R ?_
   refine Xal (l := i - cur.length) (r := i + 1) (sl.ext ek) rfl rfl rfl (by omega) (by omega) fun ao' ca' sl' hbl => ?_
   rw [show i + 1 - (i - cur.length) = cur.length + 1 by omega] at sl' ⊢
   rw [XhI, XhI] at sl'
   have hsl' : ((fl YU texts).drop (i - cur.length)).take (cur.length + 1) = fl YU (cur ++ [s]) := by
    have := Xgy (enc := YU) (z := 1) (l := texts) (fun _ _ => rfl) (i - cur.length) (cur.length + 1)
    rw [XhI, XhI] at this
    rw [this, hcurS]
   rw [hsl'] at sl'
   have hcl1 : (cur ++ [s]).length = cur.length + 1 := by simp
   rw [<- hcl1] at sl' ⊢
   refine Xj (Xi rfl (Xem H (m + 2) (by omega) _ (cur ++ [s]) ao' ca' sl' (by omega) hall)) ?_
   rintro v h6 ⟨lo, lc, rfl, ol, fl6, e6⟩
   have hmany : XcP (cur ++ [s]).length = .int .i64 (XhA (i + 1 - (i - cur.length))) := by unfold XcP; rw [show i + 1 - (i - cur.length) = (cur ++ [s]).length by omega]
   obtain ⟨nb, hnb⟩ : ∃ nb, nb = X3 0 (cur ++ [s]) [] := ⟨_, rfl⟩
   rw [<- hnb] at ol ⊢
   have l6 := e6.next
   have rowq := row
   have eqq : Ext [] h _ := ek
   have lqq := eqq.next
   refine XJ (Xf (by conv => lhs; whnf) rfl rfl rfl XB) fun H40 B40 E40 L40 G40 N40 Q40 => ?_
   have row1 := (rowq.ext e6).ext E40
   refine XP row1.o rfl rfl rfl (Slc.of_get (z := 1) G40 N40 rfl).elemsAll rfl (by omega) fun oo2 oc2 h7 o7 e7 l7 f7 => ?_
   have row2 := row1.app1 (ol.toSlc.ext E40) (fun x hx => by
    obtain ⟨q, h1, h2⟩ := Xu hx
    have h3 := fl6 q h1
    refine ⟨by omega, fun hm => ?_, fun hm => ?_⟩
    ·obtain ⟨q2, k1, k2⟩ := Xu hm
     have := rowq.o.toSlc.lt q2 k1; omega
    ·obtain ⟨q2, k1, k2⟩ := Xu hm
     have := rowq.i.toSlc.lt q2 k1; omega) o7 e7 f7 (by omega)
   refine R ?_
   refine Xd (YY rfl rfl (by omega) (by omega)) ?_
   refine XJ (Xf (by conv => lhs; whnf) rfl rfl rfl XB) fun H50 B50 E50 L50 G50 N50 Q50 => ?_
   refine XP (row2.i.ext E50) rfl rfl rfl (Slc.of_get (z := 1) G50 N50 rfl).elemsAll rfl (by omega) fun io2 ic2 h8 o8 e8 l8 f8 => ?_
   have row3 := (row2.ext E50).app2 o8 e8 f8 (by omega)
   refine R ?_
   have eF := ((eqq.trans0 e6).trans0 E40).trans e7 (fun x hx => .inr (rowq.ob x hx))
   have eG := (eF.trans0 E50).trans e8 (fun x hx => .inr (rowq.ib x hx))
   have hlen1 : (vs ++ [Value.slice lo nb.length lc]).length = vs.length + 1 := by simp
   have hlen2 : (is ++ [XcP (cur ++ [s]).length]).length = is.length + 1 := by simp
   rw [<- hmany] at row3
   refine ⟨hlt, oo2, oc2, io2, ic2, vs ++ [.slice lo nb.length lc], is ++ [XcP (cur ++ [s]).length], XD lo ++ fp, cs ++ [cur ++ [s]], [], ?_, rfl, eG, by simp, by omega, by omega, by simp, by rw [hcut, hstep]; simp, ?_, by rw [his]; simp⟩
   ·rw [hlen1, hlen2]; exact ⟨rfl, rfl, rfl, rfl, rfl⟩
   ·rw [Xh2]
    have hn1 : [cur ++ [s]].map (fun c => X3 0 c []) = [nb] := by rw [hnb]; rfl
    rw [hn1]
    exact row3
  ·refine R ?_
   refine Xd (Xaj rfl rfl (by omega) (by omega)) ?_
   refine R ?_
   refine wp_say (b := true) rfl (by simp only [decide_eq_true_eq, Bool.not_eq_true', decide_eq_false_iff_not, XhN, Bool.or_eq_true]; omega) ?_
   refine R2 ?_
   refine wp_toBytesE rfl (fun H2 b2 E2 L2 s2 N2 Q2 => ?_)
   refine wp_yes rfl ?_
   refine Xj (Xi rfl (XgB H m hm _ s _ _ _ rfl s2 (by omega))) ?_
   rintro v h3 ⟨rfl, e3⟩
   have l3 := e3.next
   have hd0 : nth 0 (Xa (Sha s)) = some (byteVal ((Sha s).getD 0 0)) := by
    rw [Xea]; exact XcH (by rw [X5]; omega)
   have hE : (decide (((Sha s).getD 0 0).toNat % 8 = 0) || decide (cur.length + 1 = 8)) = eS (cur.length + 1) s := by
    unfold eS Xd1; simp [Bool.or_comm]
   generalize hb0 : (Sha s).getD 0 0 = c0 at hd0 hE
   refine wp_yes rfl ?_
   refine Xd (l_ixVal1 rfl rfl (by omega) (by assumption)) ?_
   refine R ?_
   refine Xd (YY rfl rfl (by omega) (by omega)) ?_
   refine wp_yes rfl ?_
   rw [show i + 1 - (i - cur.length) = cur.length + 1 by omega]
   refine Xj (Xi rfl (ref21_ends_ok H _ _ c0 (cur.length + 1))) ?_
   rintro v h4 ⟨rfl, rfl⟩
   rw [hE]
   have eq2 : Ext [] hk h4 := E2.trans0 e3
   cases he : eS (cur.length + 1) s with
   | true =>
    have hstep : X0 eS cur (texts.drop i) = (cur ++ [s]) :: X0 eS [] (texts.drop (i + 1)) := by
     rw [hdrop, X0, he]; rfl
    refine R ?_
    refine Xal (l := i - cur.length) (r := i + 1) (sl.ext (ek.trans0 eq2)) rfl rfl rfl (by omega) (by omega) fun ao' ca' sl' hbl => ?_
    rw [show i + 1 - (i - cur.length) = cur.length + 1 by omega] at sl' ⊢
    rw [XhI, XhI] at sl'
    have hsl' : ((fl YU texts).drop (i - cur.length)).take (cur.length + 1) = fl YU (cur ++ [s]) := by
     have := Xgy (enc := YU) (z := 1) (l := texts) (fun _ _ => rfl) (i - cur.length) (cur.length + 1)
     rw [XhI, XhI] at this
     rw [this, hcurS]
    rw [hsl'] at sl'
    have hcl1 : (cur ++ [s]).length = cur.length + 1 := by simp
    rw [<- hcl1] at sl' ⊢
    refine Xj (Xi rfl (Xem H (m + 2) (by omega) _ (cur ++ [s]) ao' ca' sl' (by omega) hall)) ?_
    rintro v h6 ⟨lo, lc, rfl, ol, fl6, e6⟩
    have hmany : XcP (cur ++ [s]).length = .int .i64 (XhA (i + 1 - (i - cur.length))) := by unfold XcP; rw [show i + 1 - (i - cur.length) = (cur ++ [s]).length by omega]
    obtain ⟨nb, hnb⟩ : ∃ nb, nb = X3 0 (cur ++ [s]) [] := ⟨_, rfl⟩
    rw [<- hnb] at ol ⊢
    have l6 := e6.next
    have rowq := row.ext eq2
    have eqq : Ext [] h _ := ek.trans0 eq2
    have lqq := eqq.next
    refine XJ (Xf (by conv => lhs; whnf) rfl rfl rfl XB) fun H70 B70 E70 L70 G70 N70 Q70 => ?_
    have row1 := (rowq.ext e6).ext E70
    refine XP row1.o rfl rfl rfl (Slc.of_get (z := 1) G70 N70 rfl).elemsAll rfl (by omega) fun oo2 oc2 h7 o7 e7 l7 f7 => ?_
    have row2 := row1.app1 (ol.toSlc.ext E70) (fun x hx => by
     obtain ⟨q, h1, h2⟩ := Xu hx
     have h3 := fl6 q h1
     refine ⟨by omega, fun hm => ?_, fun hm => ?_⟩
     ·obtain ⟨q2, k1, k2⟩ := Xu hm
      have := rowq.o.toSlc.lt q2 k1; omega
     ·obtain ⟨q2, k1, k2⟩ := Xu hm
      have := rowq.i.toSlc.lt q2 k1; omega) o7 e7 f7 (by omega)
    refine R ?_
    refine Xd (YY rfl rfl (by omega) (by omega)) ?_
    refine XJ (Xf (by conv => lhs; whnf) rfl rfl rfl XB) fun H80 B80 E80 L80 G80 N80 Q80 => ?_
    refine XP (row2.i.ext E80) rfl rfl rfl (Slc.of_get (z := 1) G80 N80 rfl).elemsAll rfl (by omega) fun io2 ic2 h8 o8 e8 l8 f8 => ?_
    have row3 := (row2.ext E80).app2 o8 e8 f8 (by omega)
    refine R ?_
    have eF := ((eqq.trans0 e6).trans0 E70).trans e7 (fun x hx => .inr (rowq.ob x hx))
    have eG := (eF.trans0 E80).trans e8 (fun x hx => .inr (rowq.ib x hx))
    have hlen1 : (vs ++ [Value.slice lo nb.length lc]).length = vs.length + 1 := by simp
    have hlen2 : (is ++ [XcP (cur ++ [s]).length]).length = is.length + 1 := by simp
    rw [<- hmany] at row3
    refine ⟨hlt, oo2, oc2, io2, ic2, vs ++ [.slice lo nb.length lc], is ++ [XcP (cur ++ [s]).length], XD lo ++ fp, cs ++ [cur ++ [s]], [], ?_, rfl, eG, by simp, by omega, by omega, by simp, by rw [hcut, hstep]; simp, ?_, by rw [his]; simp⟩
    ·rw [hlen1, hlen2]; exact ⟨rfl, rfl, rfl, rfl, rfl⟩
    ·rw [Xh2]
     have hn1 : [cur ++ [s]].map (fun c => X3 0 c []) = [nb] := by rw [hnb]; rfl
     rw [hn1]
     exact row3
   | false =>
    have hstep : X0 eS cur (texts.drop i) = X0 eS (cur ++ [s]) (texts.drop (i + 1)) := by
     have hne : (texts.drop (i + 1)).isEmpty = false := by
      rw [<- Xje, XiP]; exact fun e => hl (hrest.1 e)
     rw [hdrop, X0, he, hne]; rfl
    refine R ?_
    refine ⟨hlt, oo, oc, io, ic, vs, is, fp, cs, cur ++ [s], ⟨rfl, rfl, rfl, ?_, rfl⟩, rfl, ek.trans0 eq2, by simp; omega, by omega, by omega, ?_, by rw [hcut, hstep], row.ext eq2, his⟩
    ·rw [XhC, Xi0, show i + 1 - (cur.length + 1) = i - cur.length by omega]; rfl
    ·rw [XhC, Xi0, show i + 1 - (cur.length + 1) = i - cur.length by omega, hcurS]
 ·by_cases h0 : n = 0
  ·refine R ?_
   have ht0 : texts = [] := Xjs.1 (by omega)
   refine Xj (Xi rfl (Xem H (m + 2) (by omega) _ [] none 0 (.empty _ _) (by simp) (by simp))) ?_
   rintro v h6 ⟨lo, lc, rfl, ol, fl6, e6⟩
   obtain ⟨nb, hnb⟩ : ∃ nb, nb = X3 0 [] [] := ⟨_, rfl⟩
   rw [<- hnb] at ol ⊢
   have l6 := e6.next
   refine XJ (Xf (by conv => lhs; whnf) rfl rfl rfl XB) fun H310 B310 E310 L310 G310 N310 Q310 => ?_
   refine XJ (Xf (by conv => lhs; whnf) rfl rfl rfl XB) fun H311 B311 E311 L311 G311 N311 Q311 => ?_
   refine R ?_
   have hlv : leaves texts = [⟨[], []⟩] := by rw [ht0]; rfl
   refine ⟨rfl, _, Xb (Xw rfl) (Xb (Xw rfl) Xg), some ⟨B310, 0, none⟩, 1, some ⟨B311, 0, none⟩, 1, [.slice lo nb.length lc], [XcP 0], XD lo, rfl, ⟨Slc.of_get (z := 1) (E311.get0 N310 G310) (by omega) rfl, Slc.of_get (z := 1) G311 N311 rfl, ?_, ?_, ?_, ?_⟩, by rw [hlv]; rfl, ((ek.trans0 e6).trans0 E310).trans0 E311⟩
   ·rw [hlv]
    refine All2.cons ⟨lo, lc, ?_, ?_, fun a ha => Va ha⟩ .nil
    ·rw [hnb]; rfl
    ·have := (ol.toSlc.ext E310).ext E311
     rw [hnb] at this; exact this
   ·intro x hx; have : x = B310 := XhB.1 hx; omega
   ·intro x hx; have : x = B311 := XhB.1 hx; omega
   ·intro x hx
    obtain ⟨q, h1, h2⟩ := Xu hx
    have := fl6 q h1
    have := ol.toSlc.lt q h1
    omega
  ·have hin : i = n := by omega
   have hcs : X0 eS [] texts = cs := by rw [hcut, hin, <- hn, List.drop_length]; simp [X0]
   refine R ?_
   refine ⟨rfl, _, Xb (Xw rfl) (Xb (Xw rfl) Xg), oo, oc, io, ic, vs, is, fp, rfl, ?_, ?_, ek⟩
   ·have : (leaves texts).map (Nd.bytes 0) = cs.map fun c => X3 0 c [] := by
     unfold leaves
     rw [if_neg (by rw [XiP, <- Xjs]; omega), hcs, Xis]; rfl
    rw [this]; exact row.toS
   ·unfold leaves
    rw [if_neg (by rw [XiP, <- Xjs]; omega), hcs, Xis, his]; rfl
end
section
variable {E : Env} {sg : Bool} (H : Has E)
include H
set_option maxHeartbeats 2000000 in
theorem ref21_Inners_ok (m : Nat) (hm : 100000000 <= m) (h : Heap) (lev : Nat) (hlev : lev <= 1000) (hlev1 : 1 <= lev) (ls : List Lk) (ao : Option Addr) (ca n : Nat) (hn : ls.length = n) (sl : Slc h 33 ao n ca (fl Yh ls)) (ht : n <= 130) (hs : ∀ y ∈ ls, LkOK y) :
  (enter E (ctx E (m + 7)) XaZ [.int .i64 (XhA lev), .slice ao n ca] h).Wp sg fun v h' => ∃ oo oc io ic vs is fp, v = .tuple ⟨[.slice oo vs.length oc, .slice io is.length ic]⟩ /\ RowV h' h.next oo oc io ic vs is ((X0 (eL lev) [] ls).map fun c => X3 lev [] c) fp /\ is = (X0 (eL lev) [] ls).map (fun c => XcP (Y7 c)) /\ Ext [] h h' := by
 refine H.run (k := V1) rfl rfl rfl ?_
 dsimp only [V1]
 refine R ?_
 refine Yl n 0 (fun i t x hk => ∃ oo oc io ic vs is fp cs cur, (g0 t = (.int .i64 (XhA lev)) /\ g1 t = (.slice ao n ca) /\ g6 t = (.slice oo vs.length oc) /\ g7 t = (.slice io is.length ic) /\ g8 t = (.int .i64 (XhA (i - cur.length))) /\ g9 t = (.int .i64 (XhA (Y7 cur))) /\ g10 t = (.int .i64 (XhA i))) /\ x = ⟨[], none, none⟩ /\ Ext [] h hk /\ cur.length <= i /\ vs.length <= i /\ is.length <= i /\ (ls.drop (i - cur.length)).take cur.length = cur /\ X0 (eL lev) [] ls = cs ++ X0 (eL lev) cur (ls.drop i) /\ RowV hk h.next oo oc io ic vs is (cs.map fun c => X3 lev [] c) fp /\ is = cs.map fun c => XcP (Y7 c)) ⟨none, 0, none, 0, [], [], [], [], [], ⟨rfl, rfl, rfl, rfl, rfl, rfl, rfl⟩, rfl, .refl h, by simp, by simp, by simp, by simp, by simp, .nil h _, rfl⟩ (XhO _) (XG (by omega)) ?_
 rintro i t x hk hi ⟨oo, oc, io, ic, vs, is, fp, cs, cur, ⟨r0, r1, r6, r7, r8, r9, r10⟩, rfl, ek, hcl, hvl, hil, hcur, hcut, row, his⟩
 obtain ⟨t0, rfl⟩ : ∃ t0, t = p0 (.int .i64 (XhA lev)) (p1 (.slice ao n ca) (p6 (.slice oo vs.length oc) (p7 (.slice io is.length ic) (p8 (.int .i64 (XhA (i - cur.length))) (p9 (.int .i64 (XhA (Y7 cur))) (p10 (.int .i64 (XhA i)) t0)))))) := ⟨t, (show t = p0 (g0 t) (p1 (g1 t) (p6 (g6 t) (p7 (g7 t) (p8 (g8 t) (p9 (g9 t) (p10 (g10 t) t)))))) from rfl).trans (by rw [r0, r1, r6, r7, r8, r9, r10])⟩
 clear r0 r1 r6 r7 r8 r9 r10
 have lk := ek.next
 by_cases hlt : i < n
 ·obtain ⟨a, wa, xa, hao, ga, na, ta⟩ := (sl.ext ek).nonempty (by omega)
  subst hao
  obtain ⟨y, hy⟩ : ∃ y, ls[i]? = some y := ⟨_, XhL (by omega)⟩
  have hyo := hs y (Xh5 hy)
  have hdrop : ls.drop i = y :: ls.drop (i + 1) := by
   have h1 : ls[i] = y := XhU.inj ((XhL (by omega)).symm.trans hy)
   rw [XiX (by omega), h1]
  have ht33 : XU 33 (XY (a.off + i * 33) xa) = some (Yh y) := by
   rw [take_take (i := i * 33) (k := 33) ta (by omega), XcK (fun x hx => YS (hs x hx)) hy]
  have hcurm : ∀ x ∈ cur, x ∈ ls := fun x hx => by rw [<- hcur] at hx; exact List.mem_of_mem_drop (Xiu hx)
  have hall : ∀ x ∈ cur ++ [y], LkOK x := by
   intro x hx
   rcases XhV.1 hx with hx | hx
   ·exact hs x (hcurm x hx)
   ·rw [XhB.1 hx]; exact hyo
  have hsum := sumN_le (l := cur) fun x hx => hs x (hcurm x hx)
  have hy2 := hyo.2
  have hsumS : Y7 cur + y.2 = Y7 (cur ++ [y]) := by rw [XbR]; rfl
  have hrest : ls.drop (i + 1) = [] ↔ i = n - 1 := by
   rw [Xjz]; omega
  have hcurS : (ls.drop (i - cur.length)).take (cur.length + 1) = cur ++ [y] := by
   rw [Xh6, hcur, Xjp, show i - cur.length + cur.length = i by omega, hy]; rfl
  have hn32 : nth (a.off + i * 33 + 32) xa = some (.int .i64 (XhA y.2)) := by
   rw [Yf ht33 (by omega)]
   unfold Yh
   rw [List.getElem?_append_right (by rw [Xc, hyo.1]; omega), Xc, hyo.1]; rfl
  have hn0 : nth (a.off + i * 33 + 0 + 0 * 1) xa = some (byteVal (y.1.getD 0 0)) := by
   rw [show a.off + i * 33 + 0 + 0 * 1 = a.off + i * 33 + 0 by omega, Yf ht33 (by omega)]
   unfold Yh
   rw [List.getElem?_append_left (by rw [Xc, hyo.1]; omega), XcH (by rw [hyo.1]; omega)]
  have hE : (!decide (cur.length = 0) && (decide ((y.1.getD 0 0).toNat % 8 = 0) || decide (cur.length + 1 = 8))) = eL lev (cur.length + 1) y := by
   unfold eL Xd1
   have q1 : decide (lev = 0) = false := decide_eq_false (by omega)
   rw [q1]
   by_cases z1 : cur.length = 0
   ·simp [z1]
   ·by_cases z2 : cur.length = 7
    ·simp [z2]
    ·simp [z1, z2]; omega
  by_cases hl : i < n - 1
  ·by_cases hc0 : i = i - cur.length
   ·have hf : eL lev (cur.length + 1) y = false := by rw [<- hE, decide_eq_true (show cur.length = 0 by omega)]; rfl
    have hstep : X0 (eL lev) cur (ls.drop i) = X0 (eL lev) (cur ++ [y]) (ls.drop (i + 1)) := by
     have hne : (ls.drop (i + 1)).isEmpty = false := by
      rw [<- Xje, XiP]; exact fun e => by have := hrest.1 e; omega
     rw [hdrop, X0, hf, hne]; rfl
    refine R2 ?_
    refine Xd (ZI rfl rfl (by omega)) ?_
    refine R ?_
    refine Xd (Xaj rfl rfl (by omega) (by omega)) ?_
    refine R ?_
    refine ⟨hlt, oo, oc, io, ic, vs, is, fp, cs, cur ++ [y], ⟨rfl, rfl, rfl, rfl, ?_, ?_, rfl⟩, rfl, ek, by simp; omega, by omega, by omega, ?_, by rw [hcut, hstep], row, his⟩
    ·rw [XhC, Xi0, show i + 1 - (cur.length + 1) = i - cur.length by omega]; rfl
    ·rw [<- hsumS]; rfl
    ·rw [XhC, Xi0, show i + 1 - (cur.length + 1) = i - cur.length by omega, hcurS]
   ·rw [decide_eq_false (show ¬ cur.length = 0 by omega)] at hE
    refine R2 ?_
    refine Xd (ZI rfl rfl (by omega)) ?_
    refine R ?_
    refine Xd (Xaj rfl rfl (by omega) (by omega)) ?_
    refine R2 ?_
    refine Xd (YY rfl rfl (by omega) (by omega)) ?_
    refine wp_yes rfl ?_
    rw [show i + 1 - (i - cur.length) = cur.length + 1 by omega]
    refine Xj (Xi rfl (ref21_ends_ok H _ _ (y.1.getD 0 0) (cur.length + 1))) ?_
    rintro v h4 ⟨rfl, rfl⟩
    rw [show (decide ((y.1.getD 0 0).toNat % 8 = 0) || decide (cur.length + 1 = 8)) = eL lev (cur.length + 1) y from hE]
    cases he : eL lev (cur.length + 1) y with
    | true =>
     have hstep : X0 (eL lev) cur (ls.drop i) = (cur ++ [y]) :: X0 (eL lev) [] (ls.drop (i + 1)) := by
      rw [hdrop, X0, he]; rfl
     refine R ?_
     refine Xal (l := i - cur.length) (r := i + 1) (sl.ext ek) rfl rfl rfl (by omega) (by omega) fun ao' ca' sl' hbl => ?_
     rw [show i + 1 - (i - cur.length) = cur.length + 1 by omega] at sl' ⊢
     have hsl' : ((fl Yh ls).drop ((i - cur.length) * 33)).take ((cur.length + 1) * 33) = fl Yh (cur ++ [y]) := by
      have := Xgy (enc := Yh) (z := 33) (l := ls) (fun x hx => YS (hs x hx)) (i - cur.length) (cur.length + 1)
      rw [this, hcurS]
     rw [hsl'] at sl'
     have hcl1 : (cur ++ [y]).length = cur.length + 1 := by simp
     rw [<- hcl1] at sl' ⊢
     refine Xj (Xi rfl (ref21_inner_ok H (m + 2) (by omega) _ lev hlev (cur ++ [y]) ao' ca' sl' (by omega) hall)) ?_
     rintro v h6 ⟨lo, lc, rfl, ol, fl6, e6⟩
     have hmany : XcP (Y7 (cur ++ [y])) = .int .i64 (XhA (Y7 cur + y.2)) := by unfold XcP; rw [hsumS]
     obtain ⟨nb, hnb⟩ : ∃ nb, nb = X3 lev [] (cur ++ [y]) := ⟨_, rfl⟩
     rw [<- hnb] at ol ⊢
     have l6 := e6.next
     have rowq := row
     have eqq : Ext [] h _ := ek
     have lqq := eqq.next
     refine XJ (Xf (by conv => lhs; whnf) rfl rfl rfl XB) fun H70 B70 E70 L70 G70 N70 Q70 => ?_
     have row1 := (rowq.ext e6).ext E70
     refine XP row1.o rfl rfl rfl (Slc.of_get (z := 1) G70 N70 rfl).elemsAll rfl (by omega) fun oo2 oc2 h7 o7 e7 l7 f7 => ?_
     have row2 := row1.app1 (ol.toSlc.ext E70) (fun x hx => by
      obtain ⟨q, h1, h2⟩ := Xu hx
      have h3 := fl6 q h1
      refine ⟨by omega, fun hm => ?_, fun hm => ?_⟩
      ·obtain ⟨q2, k1, k2⟩ := Xu hm
       have := rowq.o.toSlc.lt q2 k1; omega
      ·obtain ⟨q2, k1, k2⟩ := Xu hm
       have := rowq.i.toSlc.lt q2 k1; omega) o7 e7 f7 (by omega)
     refine R ?_
     refine XJ (Xf (by conv => lhs; whnf) rfl rfl rfl XB) fun H80 B80 E80 L80 G80 N80 Q80 => ?_
     refine XP (row2.i.ext E80) rfl rfl rfl (Slc.of_get (z := 1) G80 N80 rfl).elemsAll rfl (by omega) fun io2 ic2 h8 o8 e8 l8 f8 => ?_
     have row3 := (row2.ext E80).app2 o8 e8 f8 (by omega)
     refine R ?_
     have eF := ((eqq.trans0 e6).trans0 E70).trans e7 (fun x hx => .inr (rowq.ob x hx))
     have eG := (eF.trans0 E80).trans e8 (fun x hx => .inr (rowq.ib x hx))
     have hlen1 : (vs ++ [Value.slice lo nb.length lc]).length = vs.length + 1 := by simp
     have hlen2 : (is ++ [XcP (Y7 (cur ++ [y]))]).length = is.length + 1 := by simp
     rw [<- hmany] at row3
     refine ⟨hlt, oo2, oc2, io2, ic2, vs ++ [.slice lo nb.length lc], is ++ [XcP (Y7 (cur ++ [y]))], XD lo ++ fp, cs ++ [cur ++ [y]], [], ?_, rfl, eG, by simp, by omega, by omega, by simp, by rw [hcut, hstep]; simp, ?_, by rw [his]; simp⟩
     ·rw [hlen1, hlen2]; exact ⟨rfl, rfl, rfl, rfl, rfl, rfl, rfl⟩
     ·rw [Xh2]
      have hn1 : [cur ++ [y]].map (fun c => X3 lev [] c) = [nb] := by rw [hnb]; rfl
      rw [hn1]
      exact row3
    | false =>
     have hstep : X0 (eL lev) cur (ls.drop i) = X0 (eL lev) (cur ++ [y]) (ls.drop (i + 1)) := by
      have hne : (ls.drop (i + 1)).isEmpty = false := by
       rw [<- Xje, XiP]; exact fun e => by have := hrest.1 e; omega
      rw [hdrop, X0, he, hne]; rfl
     refine R ?_
     refine ⟨hlt, oo, oc, io, ic, vs, is, fp, cs, cur ++ [y], ⟨rfl, rfl, rfl, rfl, ?_, ?_, rfl⟩, rfl, ek, by simp; omega, by omega, by omega, ?_, by rw [hcut, hstep], row, his⟩
     ·rw [XhC, Xi0, show i + 1 - (cur.length + 1) = i - cur.length by omega]; rfl
     ·rw [<- hsumS]; rfl
     ·rw [XhC, Xi0, show i + 1 - (cur.length + 1) = i - cur.length by omega, hcurS]
  ·have hstep : X0 (eL lev) cur (ls.drop i) = (cur ++ [y]) :: X0 (eL lev) [] (ls.drop (i + 1)) := by
    rw [hdrop, X0, hrest.2 (by omega)]; simp
   refine R2 ?_
   refine Xd (ZI rfl rfl (by omega)) ?_
   refine R ?_
   refine Xd (Xaj rfl rfl (by omega) (by omega)) ?_
   refine R ?_
   refine Xal (l := i - cur.length) (r := i + 1) (sl.ext ek) rfl rfl rfl (by omega) (by omega) fun ao' ca' sl' hbl => ?_
   rw [show i + 1 - (i - cur.length) = cur.length + 1 by omega] at sl' ⊢
   have hsl' : ((fl Yh ls).drop ((i - cur.length) * 33)).take ((cur.length + 1) * 33) = fl Yh (cur ++ [y]) := by
    have := Xgy (enc := Yh) (z := 33) (l := ls) (fun x hx => YS (hs x hx)) (i - cur.length) (cur.length + 1)
    rw [this, hcurS]
   rw [hsl'] at sl'
   have hcl1 : (cur ++ [y]).length = cur.length + 1 := by simp
   rw [<- hcl1] at sl' ⊢
   refine Xj (Xi rfl (ref21_inner_ok H (m + 2) (by omega) _ lev hlev (cur ++ [y]) ao' ca' sl' (by omega) hall)) ?_
   rintro v h6 ⟨lo, lc, rfl, ol, fl6, e6⟩
   have hmany : XcP (Y7 (cur ++ [y])) = .int .i64 (XhA (Y7 cur + y.2)) := by unfold XcP; rw [hsumS]
   obtain ⟨nb, hnb⟩ : ∃ nb, nb = X3 lev [] (cur ++ [y]) := ⟨_, rfl⟩
   rw [<- hnb] at ol ⊢
   have l6 := e6.next
   have rowq := row
   have eqq : Ext [] h _ := ek
   have lqq := eqq.next
   refine XJ (Xf (by conv => lhs; whnf) rfl rfl rfl XB) fun H40 B40 E40 L40 G40 N40 Q40 => ?_
   have row1 := (rowq.ext e6).ext E40
   refine XP row1.o rfl rfl rfl (Slc.of_get (z := 1) G40 N40 rfl).elemsAll rfl (by omega) fun oo2 oc2 h7 o7 e7 l7 f7 => ?_
   have row2 := row1.app1 (ol.toSlc.ext E40) (fun x hx => by
    obtain ⟨q, h1, h2⟩ := Xu hx
    have h3 := fl6 q h1
    refine ⟨by omega, fun hm => ?_, fun hm => ?_⟩
    ·obtain ⟨q2, k1, k2⟩ := Xu hm
     have := rowq.o.toSlc.lt q2 k1; omega
    ·obtain ⟨q2, k1, k2⟩ := Xu hm
     have := rowq.i.toSlc.lt q2 k1; omega) o7 e7 f7 (by omega)
   refine R ?_
   refine XJ (Xf (by conv => lhs; whnf) rfl rfl rfl XB) fun H50 B50 E50 L50 G50 N50 Q50 => ?_
   refine XP (row2.i.ext E50) rfl rfl rfl (Slc.of_get (z := 1) G50 N50 rfl).elemsAll rfl (by omega) fun io2 ic2 h8 o8 e8 l8 f8 => ?_
   have row3 := (row2.ext E50).app2 o8 e8 f8 (by omega)
   refine R ?_
   have eF := ((eqq.trans0 e6).trans0 E40).trans e7 (fun x hx => .inr (rowq.ob x hx))
   have eG := (eF.trans0 E50).trans e8 (fun x hx => .inr (rowq.ib x hx))
   have hlen1 : (vs ++ [Value.slice lo nb.length lc]).length = vs.length + 1 := by simp
   have hlen2 : (is ++ [XcP (Y7 (cur ++ [y]))]).length = is.length + 1 := by simp
   rw [<- hmany] at row3
   refine ⟨hlt, oo2, oc2, io2, ic2, vs ++ [.slice lo nb.length lc], is ++ [XcP (Y7 (cur ++ [y]))], XD lo ++ fp, cs ++ [cur ++ [y]], [], ?_, rfl, eG, by simp, by omega, by omega, by simp, by rw [hcut, hstep]; simp, ?_, by rw [his]; simp⟩
   ·rw [hlen1, hlen2]; exact ⟨rfl, rfl, rfl, rfl, rfl, rfl, rfl⟩
   ·rw [Xh2]
    have hn1 : [cur ++ [y]].map (fun c => X3 lev [] c) = [nb] := by rw [hnb]; rfl
    rw [hn1]
    exact row3
 ·have hin : i = n := by omega
  have hcs : X0 (eL lev) [] ls = cs := by rw [hcut, hin, <- hn, List.drop_length]; simp [X0]
  refine R ?_
  exact ⟨rfl, _, Xb (Xw rfl) (Xb (Xw rfl) Xg), oo, oc, io, ic, vs, is, fp, rfl, by rw [hcs]; exact row, by rw [hcs]; exact his, ek⟩
end
theorem RowV.appM {h3 : Heap} {base : Nat} {oo2 : Option Addr} {oc2 : Nat} {vs2 : List Value} {bs2 : List (List UInt8)} {fp2 : List Nat} (r : RowV h base oo oc none 0 vs [] bs fp) (b2 : Bss h fp2 vs2 bs2) (hb : ∀ x ∈ fp2, base <= x /\ x < h.next /\ x ∉ XD oo)
  (o5 : Own h3 1 oo2 (vs.length + vs2.length) oc2 (vs ++ vs2)) (e5 : Ext (XD oo) h h3) (f5 : ∀ a, oo2 = some a -> a.block ∈ XD oo \/ (h.next <= a.block /\ a.block < h3.next)) (hbase : base <= h.next) : RowV h3 base oo2 oc2 none 0 (vs ++ vs2) [] (bs ++ bs2) (fp2 ++ fp) := by
 have en := e5.next
 have h2 : ∀ x ∈ XD oo2, x ∈ XD oo \/ h.next <= x := fun x hx => by
  obtain ⟨a, h1, h2⟩ := Xu hx
  rcases f5 a h1 with k | k
  ·rw [<- h2]; exact .inl k
  ·rw [<- h2]; exact .inr k.1
 refine ⟨by rw [XhC]; exact o5, .empty _ _, ?_, fun x hx => ?_, (fun x hx => nomatch hx), fun x hx => ?_, fun x hx hi => nomatch hi⟩
 ·exact All2.append ((r.b.extS e5 fun x hx => (r.fb x hx).2.2.1).mono fun x hx => XhV.2 (.inr hx)) ((b2.extS e5 fun x hx => (hb x hx).2.2).mono fun x hx => XhV.2 (.inl hx))
 ·rcases h2 x hx with k | k
  ·exact r.ob x k
  ·omega
 ·rcases XhV.1 hx with k | k
  ·have k1 := hb x k
   exact ⟨k1.1, by omega, fun hq => (h2 x hq).elim k1.2.2 (fun k3 => by omega), fun hq => nomatch hq⟩
  ·have k1 := r.fb x k
   exact ⟨k1.1, by omega, fun hq => (h2 x hq).elim k1.2.2.1 (fun k3 => by omega), fun hq => nomatch hq⟩
theorem RowS.base {base base' : Nat} {io : Option Addr} {ic : Nat} {is : List Value} (r : RowS h base oo oc io ic vs is bs fp) (q : base' <= base) : RowS h base' oo oc io ic vs is bs fp :=
 ⟨r.o, r.i, r.b, fun x hx => Xh4 q (r.ob x hx), fun x hx => Xh4 q (r.ib x hx), fun x hx => ⟨Xh4 q (r.fb x hx).1, (r.fb x hx).2⟩⟩
theorem Vu {f : Nat} {nds : List Nd} (h : nds.length <= 1) : YT (Ya f lev nds) = nds.map (Nd.bytes lev) := by
 cases f with
 | zero => simp [Ya, YT]
 | succ f => rw [Ya, if_pos h]; simp [YT]
theorem JJ {f : Nat} {nds : List Nd} (h : 1 < nds.length) : YT (Ya (f + 1) lev nds) = nds.map (Nd.bytes lev) ++ YT (Ya f (lev + 1) (above lev nds)) := by
 rw [Ya, if_neg (by omega)]
 simp [YT]
section
variable {E : Env} {sg : Bool} (H : Has E)
include H
attribute [local irreducible] Sha
set_option maxHeartbeats 4000000 in
theorem ref21_Puts_ok (m : Nat) (hm : 100000000 <= m) (h : Heap) (texts : List (List UInt8)) (ao : Option Addr) (ca n : Nat) (hn : texts.length = n) (sl : Slc h 1 ao n ca (fl YU texts)) (ht : n <= 130) (hs : ∀ s ∈ texts, s.length <= 8000) :
  (enter E (ctx E (m + 8)) Xc6 [.slice ao n ca] h).Wp sg fun v h' => ∃ oo oc vs fp, v = .slice oo vs.length oc /\ RowV h' h.next oo oc none 0 vs [] (Yu texts) fp /\ Ext [] h h' := by
 refine H.run (k := Jq) rfl rfl rfl ?_
 dsimp only [Jq]
 obtain ⟨lok, lsum, lpos, l100⟩ := XcQ (texts := texts) (by omega) hs
 refine R ?_
 refine Xj (Xi rfl (ref21_Leaves_ok H m (by omega) _ texts ao ca n hn sl ht hs)) ?_
 rintro v h2 ⟨oo, oc, io, ic, vs, is, fp, rfl, row, his, e2⟩
 have l2 := e2.next
 have hvl : vs.length = (leaves texts).length := by rw [All2.length row.b, XhP]
 refine R ?_
 refine XJ XB fun H10 B10 E10 L10 G10 N10 Q10 => ?_
 refine R ?_
 have row1 := row.ext E10
 have nil1 : RowV H10 h.next (some ⟨B10, 0, none⟩) 0 none 0 [] [] [] [] := ⟨Own.lit G10 N10, .empty _ _, .nil, (fun x hx => by have : x = B10 := XhB.1 hx; omega), (fun _ h => nomatch h), (fun _ h => nomatch h), fun _ _ h => nomatch h⟩
 refine XP nil1.o rfl rfl rfl row1.o.elemsAll (by rw [XhI]) (by simp; omega) fun xo xc h3 o3 e3 l3 f3 => ?_
 have all1 := nil1.appM row1.b (fun x hx => ⟨(row1.fb x hx).1, (row1.fb x hx).2, fun hm => by have e1 : x = B10 := XhB.1 hm; have := (row.fb x hx).2; omega⟩) o3 e3 f3 (by omega)
 have e23 : Ext [] h2 h3 := E10.trans e3 (fun s hs => .inr (by have e1 : s = B10 := XhB.1 hs; omega))
 have row3 := row.ext e23
 refine R ?_
 refine Yl 131 1 (fun i t x hk => ∃ oo oc io ic vs is fp xo xc xs xfp nds f acc, (g3 t = (.slice oo vs.length oc) /\ g4 t = (.slice io is.length ic) /\ g5 t = (.slice xo xs.length xc) /\ g6 t = (.int .i64 (XhA i))) /\ x = ⟨[], none, none⟩ /\ Ext [] h hk /\ RowS hk h.next oo oc io ic vs is (nds.map (Nd.bytes (i - 1))) fp /\ is = nds.map (fun n => XcP n.many) /\ RowV hk h.next xo xc none 0 xs [] (acc ++ nds.map (Nd.bytes (i - 1))) xfp /\ Yu texts = acc ++ YT (Ya f (i - 1) nds) /\ f = 131 - i /\ 1 <= i /\ (∀ n ∈ nds, n.OK) /\ XcM nds <= 2000 /\ 0 < nds.length /\ nds.length + i <= 131 /\ acc.length <= 130 * i) ?_ (by omega) (XG (by omega)) ?_
 ·refine ⟨oo, oc, io, ic, vs, is, fp, xo, xc, [] ++ vs, fp ++ [], leaves texts, 130, [], ⟨rfl, rfl, ?_, rfl⟩, rfl, e2.trans0 e23, row3, his, all1, by rfl, rfl, by omega, lok, lsum, lpos, by omega, by simp⟩
  show Value.slice xo ([].length + vs.length) xc = Value.slice xo ([] ++ vs).length xc
  simp
 rintro i t x hk hi ⟨oo, oc, io, ic, vs, is, fp, xo, xc, xs, xfp, nds, f, acc, ⟨r3, r4, r5, r6⟩, rfl, ek, row, his, all, hput, hf, hi1, nok, nsum, npos, nlen, hacc⟩
 obtain ⟨t0, rfl⟩ : ∃ t0, t = p3 (.slice oo vs.length oc) (p4 (.slice io is.length ic) (p5 (.slice xo xs.length xc) (p6 (.int .i64 (XhA i)) t0))) := ⟨t, (show t = p3 (g3 t) (p4 (g4 t) (p5 (g5 t) (p6 (g6 t) t))) from rfl).trans (by rw [r3, r4, r5, r6])⟩
 clear r3 r4 r5 r6
 have hvl : vs.length = nds.length := by rw [All2.length row.b, XhP]
 have lk := ek.next
 by_cases hgt : 1 < vs.length
 ·refine R ?_
  refine Yl nds.length 0 (fun j t x hj => ∃ ro rc, (g3 t = (.slice oo vs.length oc) /\ g4 t = (.slice io is.length ic) /\ g5 t = (.slice xo xs.length xc) /\ g6 t = (.int .i64 (XhA i)) /\ g7 t = (.slice ro j rc) /\ g8 t = (.int .i64 (XhA j))) /\ x = ⟨[], none, none⟩ /\ Ext [] hk hj /\ Own hj 33 ro j rc (fl Yh ((links (i - 1) nds).take j)) /\ ∀ x ∈ XD ro, hk.next <= x) ⟨none, 0, ⟨rfl, rfl, rfl, rfl, rfl, rfl⟩, rfl, .refl hk, by rw [List.take_zero]; exact .empty _ _, fun x hx => nomatch hx⟩ (XhO _) (XG (by omega)) ?_
  rintro j t x hj hjn ⟨ro, rc, ⟨r3, r4, r5, r6, r7, r8⟩, rfl, ej, own, fr⟩
  obtain ⟨t0, rfl⟩ : ∃ t0, t = p3 (.slice oo vs.length oc) (p4 (.slice io is.length ic) (p5 (.slice xo xs.length xc) (p6 (.int .i64 (XhA i)) (p7 (.slice ro j rc) (p8 (.int .i64 (XhA j)) t0))))) := ⟨t, (show t = p3 (g3 t) (p4 (g4 t) (p5 (g5 t) (p6 (g6 t) (p7 (g7 t) (p8 (g8 t) t))))) from rfl).trans (by rw [r3, r4, r5, r6, r7, r8])⟩
  clear r3 r4 r5 r6 r7 r8
  have lj := ej.next
  by_cases hlj : j < nds.length
  ·obtain ⟨nd, hnd⟩ : ∃ nd, nds[j]? = some nd := ⟨_, XhL hlj⟩
   have hnd' : nds[j] = nd := XhU.inj ((XhL hlj).symm.trans hnd)
   have rowj := row.ext ej
   obtain ⟨bo, bc, hv, sb, fb⟩ := rowj.b.get j (by omega) (by rw [XhP]; exact hlj)
   rw [List.getElem_map, hnd'] at hv sb
   have hndo := nok nd (Xh5 hnd)
   obtain ⟨a, wa, xa, hao, ga, na, ta⟩ := rowj.o.nonempty (by omega)
   subst hao
   have hisl : is.length = nds.length := by rw [his, XhP]
   obtain ⟨ia, wi, xi, hio, gi, ni, ti⟩ := rowj.i.nonempty (by omega)
   subst hio
   have hload : nth (a.off + j * 1) xa = some (.slice bo (nd.bytes (i - 1)).length bc) := by
    rw [XhI, Yf ta (by omega), XhL (by omega), hv]
   have hloadi : nth (ia.off + j * 1) xi = some (.int .i64 (XhA nd.many)) := by
    rw [XhI, Yf ti (by omega), his, Xic, hnd]; rfl
   obtain ⟨nb, hnb⟩ : ∃ nb, nb = nd.bytes (i - 1) := ⟨_, rfl⟩
   rw [<- hnb] at hload sb
   have hnbl : nb.length < 90000000 := by have := hndo.bytes_le (lev := i - 1) (by omega); rw [hnb]; omega
   refine R2 ?_
   refine YL (Xi rfl (XgB H (m + 1) (by omega) _ nb bo nb.length bc rfl sb hnbl)) (fun _ _ _ => rfl) ?_
   rintro v h5 ⟨rfl, e5⟩
   have l5 := e5.next
   have gi5 := e5.get0 ni gi
   have hd32 : (Xa (Sha nb)).length = 32 := by rw [Xc, X5]
   refine R ?_
   refine Xk (XQ rfl gi5 (by assumption)) (YH rfl (XH (XQ rfl gi (by assumption)) rfl) rfl) ?_
   have hp1 : XZ (Xa (Sha nb)) 0 q_5ccab404 = Xa (Sha nb) ++ ([Value.int .i64 (XhA 0)] ++ []) := Yk (k := 0) (a := []) (b := Xa zeros32) (c := [.int .i64 (XhA 0)]) rfl (by rw [hd32]; rfl)
   have hp2 : XZ [Value.int .i64 (XhA nd.many)] 32 (XZ (Xa (Sha nb)) 0 q_5ccab404) = Yh (Sha nb, nd.many) := by
    rw [hp1]; exact Yk hd32 rfl
   have hel : (Yh (Sha nb, nd.many)).length = 33 := YS (hnb ▸ hndo.link (i - 1))
   have hq33 : q_5ccab404.length = 33 := rfl
   refine Xk (Yo (cs := Yh (Sha nb, nd.many)) (Xf rfl rfl hd32 rfl (Xf rfl rfl rfl (by rw [hp1, XhC, hd32] <;> rfl) (congrArg some hp2)))) rfl ?_
   refine Xak (cs := Yh (Sha nb, nd.many)) (Xf rfl rfl hel rfl (congrArg some (Yq (by rw [hel, hq33])))) (fun h' => rfl) (fun H7 B7 E7 L7 G7 N7 Q7 => ?_)
   refine WM ((own.ext e5).ext E7) rfl rfl rfl (Slc.of_get (z := 33) G7 N7 hel).elemsAll hel (by omega) (fun h' => rfl) fun ro2 rc2 h8 o8 e8 l8 f8 => ?_
   refine R ?_
   refine ⟨hlj, ro2, rc2, ⟨rfl, rfl, rfl, rfl, rfl, rfl⟩, rfl, ((ej.trans0 e5).trans0 E7).trans e8 (fun x hx => .inr (fr x hx)), ?_, fun x hx => ?_⟩
   ·have hlj2 : (links (i - 1) nds)[j]? = some (Sha nb, nd.many) := by
     unfold links; rw [Xic, hnd, hnb]; rfl
    rw [Xh6, hlj2, Us]
    have : fl Yh (some (Sha nb, nd.many)).toList = Yh (Sha nb, nd.many) := by simp [fl]
    rw [this]; exact o8
   ·obtain ⟨q, k2, k3⟩ := Xu hx
    rcases f8 q k2 with k4 | k4
    ·rw [<- k3]; exact fr _ k4
    ·omega
  ·have hje : j = nds.length := by omega
   rw [Xi6 (by unfold links; rw [XhP]; omega)] at own
   have hlk : (links (i - 1) nds).length = j := by unfold links; rw [XhP, hje]
   refine R ?_
   refine Xj (Xi rfl (ref21_Inners_ok H m hm _ i (by omega) hi1 (links (i - 1) nds) ro rc j hlk own.toSlc (by omega) (fun y hy => by obtain ⟨n, hn, rfl⟩ := XhW.1 hy; exact (nok n hn).link (i - 1)))) ?_
   rintro v h6 ⟨oo2, oc2, io2, ic2, vs2, is2, fp2, rfl, row6, his2, e6⟩
   have l6 := e6.next
   refine R ?_
   have allj := (all.ext ej).ext e6
   have hb2 : vs2.length <= j := by
    rw [All2.length row6.b, XhP]
    have := cutG_half (fun k x => eL_two hi1 k x) [] (links (i - 1) nds)
    simp at this; omega
   have hxs : xs.length = acc.length + nds.length := by rw [All2.length all.b, XhC, XhP]
   refine XP allj.o rfl rfl rfl row6.o.toSlc.elemsAll (by rw [XhI]) (by omega) fun xo3 xc3 h9 o9 e9 l9 f9 => ?_
   have all9 := allj.appM row6.b (fun x hx => by
    have k1 := row6.fb x hx
    refine ⟨by omega, k1.2.1, fun hm => ?_⟩
    obtain ⟨q, k2, k3⟩ := Xu hm
    have := all.o.toSlc.lt q k2; omega) o9 e9 f9 (by omega)
   have row9 := (row6.toS.extS e9 (fun x hx => by obtain ⟨q, k2, k3⟩ := Xu hx; have := all.o.toSlc.lt q k2; omega)).base (base' := h.next) (by omega)
   refine R ?_
   have hii : i - 1 + 1 = i := by omega
   have hab : above (i - 1) nds = (X0 (eL i) [] (links (i - 1) nds)).map fun c => ⟨[], c⟩ := by unfold above; rw [hii]
   have hbm : (above (i - 1) nds).map (Nd.bytes i) = (X0 (eL i) [] (links (i - 1) nds)).map fun c => X3 i [] c := by rw [hab, Xis]; rfl
   have h2n : 2 <= nds.length := by omega
   have hal := XcN (lev := i - 1) h2n
   rw [<- hbm] at all9 row9
   have hf1 : f = (131 - (i + 1)) + 1 := by omega
   rw [hf1, JJ (by omega), hii, <- Xh1] at hput
   refine ⟨by omega, oo2, oc2, io2, ic2, vs2, is2, fp2, xo3, xc3, xs ++ vs2, fp2 ++ xfp, above (i - 1) nds, 131 - (i + 1), acc ++ nds.map (Nd.bytes (i - 1)), ⟨rfl, rfl, ?_, rfl⟩, rfl, ?_, row9, ?_, all9, hput, rfl, by omega, above_OK nok nsum, by rw [JI]; exact nsum, hal.1, by omega, by rw [XhC, XhP]; omega⟩
   ·rw [XhC]; rfl
   ·exact ((ek.trans0 ej).trans0 e6).trans e9 (fun x hx => .inr (all.ob x hx))
   ·rw [his2, hab, Xis]
    refine List.map_congr_left fun c _ => ?_
    show XcP (Y7 c) = XcP (0 + Y7 c)
    rw [Nat.zero_add]
 ·have hone : nds.length <= 1 := by omega
  rw [Vu hone] at hput
  refine R ?_
  exact ⟨rfl, _, Xb (Xw rfl) Xg, xo, xc, xs, xfp, rfl, by rw [hput]; exact all, ek⟩
end
theorem Bss.bytes {ls : List (List UInt8)} (c : Bss h fp vs ls) : ls.length = vs.length := (All2.length c).symm
def dskCells (many mb : Nat) : List Value := [.int .i64 0, .int .i64 (-1), .bool false, .bool true, .int .i64 (XhA many), .map (some mb), .slice none 0 0]
structure FreshD (h : Heap) (db mb many : Nat) : Prop where
 d : h.get db = some (.cells true (dskCells many mb))
 m : h.get mb = some (.map (.one (.int .i64)) 0 [])
 lt : db < h.next /\ mb < h.next
theorem FreshD.ext {h' : Heap} {db mb many : Nat} (f : FreshD h db mb many) (e : Ext [] h h') : FreshD h' db mb many :=
 ⟨e.get0 f.lt.1 f.d, e.get0 f.lt.2 f.m, Xia f.lt.1 e.next, Xia f.lt.2 e.next⟩
def zeros64 : List UInt8 := List.replicate 64 0
theorem l_lookupI0 {t : Tm} {x i : Xe} {zero : Value} {ok : Bool} {r gv : Nat} {k : Int} (hx : x t = .map (some r)) (hi : i t = .int .i64 k) (g : h.get r = some (.map (.one (.int .i64)) gv [])) : W1 (.one (.int .i64)) zero ok x i t h = some (J3 zero ok none) := by
 unfold W1
 rw [hi, hx]
 have e : Wg (.one (.int .i64)) (.int .i64 k) = true := rfl
 rw [e]
 show (match h.get r with
  | some (.map sh' _ es) => bif !(XcT (.one (.int .i64)) sh') then none else Yr none (fun v => some (J3 zero ok v)) (JM (.one (.int .i64)) (.int .i64 k) es)
  | _ => none) = _
 rw [g]
 rfl
theorem wp_mkSliceE {sg : Bool} {N : Tm -> Aux -> Heap -> Prop} {X : Nat -> Tm -> Aux -> Heap -> Prop} {R : Tm -> Aux -> Heap -> Prop} {c : Ctx} {t : Tm} {x : Aux} {g g' : Xe} {p : Value -> Tm -> Tm} {rest : KB} {z : List Value} {l k : Nat} (hg : g t = .int .i64 (XhA l)) (hg' : g' t = .int .i64 (XhA k)) (hl : l <= k) (hk : k < 1000000)
  (K : ∀ h' b, Ext [] h h' -> h.next <= h'.next -> h'.get b = some (.cells true (rep z k)) -> b < h'.next -> b = h.next -> (rest c (p (.slice (some ⟨b, 0, none⟩) l k) t) x h').Wp sg N X R) : (ZN (Yi (Xab z g g')) p rest c t x h).Wp sg N X R := by
 refine VI (l := Xab z g g') (v := .slice (some ⟨h.next, 0, none⟩) l k) (h' := h.push (.cells true (rep z k))) ?_ (K _ _ (.push _ _) (Xil _) (Heap.get_new _ _) (Xh0 _) rfl)
 unfold Xab
 rw [hg, hg']
 show (bif Nat.ble l k && Nat.blt k 1000000 then _ else _) = _
 have h1 : (Nat.ble l k && Nat.blt k 1000000) = true := by rw [XhN, ble_iff, blt_iff]; exact ⟨hl, hk⟩
 rw [h1]; rfl
section
variable {E : Env} {sg : Bool} (H : Has E)
include H
theorem disk_New_ok (m : Nat) (h : Heap) (many : Nat) (hm : many <= 65536) : (enter E (ctx E m) f_disk_New [.int .i64 (XhA many)] h).Wp sg fun v h' => ∃ db mb, v = .tuple ⟨[.pointer (some ⟨db, 0, none⟩), .int .i64 (XhA 0)]⟩ /\ FreshD h' db mb many /\ h.next <= db /\ Ext [] h h' := by
 refine H.run (k := k_disk_New) rfl rfl rfl ?_
 dsimp only [k_disk_New]
 refine R ?_
 refine Xd (Yo (Xf (by conv => lhs; whnf) rfl rfl rfl XB)) ?_
 refine R ?_
 refine wp_mapE fun H1 B1 E1 L1 G1 N1 Q1 => ?_
 refine Xd (Yo (Xf (by conv => lhs; whnf) rfl rfl rfl (Xf (by conv => lhs; whnf) rfl rfl rfl (Xf (by conv => lhs; whnf) rfl rfl rfl (Xf (by conv => lhs; whnf) rfl rfl rfl XB))))) ?_
 refine X2 (by conv => lhs; whnf) rfl fun H2 B2 E2 L2 G2 N2 Q2 => ?_
 refine R ?_
 exact ⟨rfl, _, Xb (Xw rfl) (Xb (Xw rfl) Xg), B2, B1, rfl, ⟨G2, E2.get0 N1 G1, N2, by omega⟩, by omega, E1.trans0 E2⟩
theorem disk_ready_ok (m : Nat) (h : Heap) (db mb many n : Nat) (f : FreshD h db mb many) (hn : n < many) : (enter E (ctx E (m + 1)) XdN [.pointer (some ⟨db, 0, none⟩), .int .i64 (XhA n)] h).Wp sg fun v h' => v = .int .i64 (XhA 0) /\ h' = h := by
 refine H.run (k := Ky) rfl rfl rfl ?_
 dsimp only [Ky]
 have g := f.d
 refine R ?_
 refine X6 (Xi rfl (disk_none_ok H _ _ _ _ _ f.d rfl)) ?_
 refine R2 ?_
 refine Xd (l_geqN rfl rfl rfl) ?_
 refine R ?_
 exact ⟨rfl, _, Xb (Xw rfl) Xg, rfl, rfl⟩
set_option maxHeartbeats 1000000 in
theorem XgC (m : Nat) (hm : 10000 <= m) (h : Heap) (db mb many n : Nat) (f : FreshD h db mb many) (hn : n < many) : (enter E (ctx E (m + 2)) XeF [.pointer (some ⟨db, 0, none⟩), .int .i64 (XhA n)] h).Wp sg fun v h' => ∃ b, v = .tuple ⟨[.slice (some ⟨b, 0, none⟩) 64 64, .int .i64 (XhA 0)]⟩ /\ h'.get b = some (.cells true (Xa zeros64)) /\ h.next <= b /\ b < h'.next /\ Ext [] h h' := by
 refine H.run (k := Xas) rfl rfl rfl ?_
 dsimp only [Xas]
 have g := f.d
 have gm := f.m
 refine R ?_
 refine X6 (Xi rfl (disk_ready_ok H _ _ _ _ _ _ f hn)) ?_
 refine R2 ?_
 refine Xd (l_lookupI0 rfl rfl gm) ?_
 refine Xt fun H3 B3 E3 L3 G3 N3 Q3 => ?_
 refine Xm rfl (by conv => lhs; whnf) rfl G3 rfl (XhH rfl) fun H4 E4 L4 G4 => ?_
 refine R ?_
 have gd4 := E4.get1 (by have := f.lt; omega) (by have := f.lt; omega) (E3.get0 f.lt.1 g)
 refine R2 ?_
 refine Yl 0 0 (fun i t x hh => (g27 t = (.int .i64 (XhA 0)) /\ g26 t = (.int .i64 (XhA 0)) /\ g7 t = (.pointer (some ⟨B3, 0, none⟩))) /\ x = ⟨[], none, none⟩ /\ hh = H4) ⟨⟨rfl, rfl, rfl⟩, rfl, rfl⟩ (by decide) (XG (by omega)) ?_
 rintro i t x hh hi ⟨⟨r27, r26, r7⟩, rfl, rfl⟩
 obtain ⟨t0, rfl⟩ : ∃ t0, t = p27 (.int .i64 (XhA 0)) (p26 (.int .i64 (XhA 0)) (p7 (.pointer (some ⟨B3, 0, none⟩)) t0)) := ⟨t, (show t = p27 (g27 t) (p26 (g26 t) (p7 (g7 t) t)) from rfl).trans (by rw [r27, r26, r7])⟩
 clear r27 r26 r7
 refine R ?_
 refine Xd (Jk rfl rfl rfl (by omega) (by omega) (by omega)) ?_
 refine R ?_
 exact ⟨rfl, _, Xb (Xw rfl) (Xb (Xw rfl) Xg), B3, rfl, G4.trans (by rfl), by omega, by omega, E3.trans1 E4 (by omega)⟩
theorem bytes_Equal_ok (m : Nat) (h : Heap) (xs ys : List UInt8) (xo yo : Option Addr) (xn yn xc yc : Nat) (sx : Slc h 1 xo xn xc (Xa xs)) (sy : Slc h 1 yo yn yc (Xa ys)) : (enter E (ctx E m) f_bytes_Equal [.slice xo xn xc, .slice yo yn yc] h).Wp sg fun v h' => v = .bool (decide (xs = ys)) /\ h' = h := by
 refine H.run (k := Xeh) rfl rfl rfl ?_
 dsimp only [Xeh]
 refine R ?_
 refine Xd (XfR sx rfl) ?_
 refine R ?_
 refine Xd (XfR sy rfl) ?_
 have e : Vf (bytes (⟨⟨xs⟩⟩ : ByteArray)) (bytes (⟨⟨ys⟩⟩ : ByteArray)) = decide (xs = ys) := (Ji xs ys).trans (by rw [Bool.eq_iff_iff]; simp)
 refine Xd (l_eqS rfl rfl) ?_
 rw [e]
 refine R ?_
 exact ⟨rfl, _, Xb (Xw rfl) Xg, rfl, rfl⟩
set_option maxHeartbeats 1000000 in
theorem super_Unpack_0 (m : Nat) (h : Heap) (b : Nat) (g : h.get b = some (.cells true (Xa zeros64))) (hb : b < h.next) : (enter E (ctx E m) f_super_Unpack [.slice (some ⟨b, 0, none⟩) 64 64] h).Wp sg fun v h' => (∃ cs : List Value, cs.length = 35 /\ v = .tuple ⟨[.agg ⟨cs⟩, .bool false]⟩) /\ Ext [] h h' := by
 refine H.run (k := Xdm) rfl rfl rfl ?_
 dsimp only [Xdm]
 have n0 : nth (0 + 0 * 1) (Xa zeros64) = some (.int .u8 (XhA 0)) := rfl
 refine X9 ?_
 refine Xt fun H1 B1 E1 L1 G1 N1 Q1 => ?_
 refine R ?_
 have T2 := E1.get0 (by omega) g
 refine R2 ?_
 refine Xd (Yo XB) ?_
 refine Xm rfl (by conv => lhs; whnf) rfl G1 rfl (XhH rfl) fun H3 E3 L3 G3 => ?_
 refine R ?_
 exact ⟨rfl, _, Xb (Y4 (cs := Y6) rfl G3 rfl) (Xb (Xw rfl) Xg), ⟨Y6, rfl, rfl⟩, E1.trans1 E3 (by omega)⟩
theorem super_greatest_0 (m : Nat) (hm : 10000 <= m) (h : Heap) (ao : Option Addr) (ca : Nat) (sl : Slc h 1 ao 2 ca [.pointer none, .pointer none]) : (enter E (ctx E m) XeH [.slice ao 2 ca] h).Wp sg fun v h' => v = .int .i64 (-1) /\ Ext [] h h' := by
 refine H.run (k := Xav) rfl rfl rfl ?_
 dsimp only [Xav]
 obtain ⟨a, wa, xa, rfl, ga, na, ta⟩ := sl.nonempty (by decide)
 refine R ?_
 refine Yl 2 0 (fun i t x hh => (g3 t = (.int .i64 (-1)) /\ g6 t = (.slice (some a) 2 ca) /\ g7 t = (.int .i64 (XhA 2)) /\ g8 t = (.int .i64 (XhA i))) /\ x = ⟨[], none, none⟩ /\ hh = h) ⟨⟨rfl, rfl, rfl, rfl⟩, rfl, rfl⟩ (by decide) (XG (by omega)) ?_
 rintro i t x hh hi ⟨⟨r3, r6, r7, r8⟩, rfl, rfl⟩
 obtain ⟨t0, rfl⟩ : ∃ t0, t = p3 (.int .i64 (-1)) (p6 (.slice (some a) 2 ca) (p7 (.int .i64 (XhA 2)) (p8 (.int .i64 (XhA i)) t0))) := ⟨t, (show t = p3 (g3 t) (p6 (g6 t) (p7 (g7 t) (p8 (g8 t) t))) from rfl).trans (by rw [r3, r6, r7, r8])⟩
 clear r3 r6 r7 r8
 by_cases hlt : i < 2
 ·have hn : nth (a.off + i * 1) xa = some (.pointer none) := by
   rw [XhI, Yf ta (by omega)]
   have : i = 0 \/ i = 1 := by omega
   rcases this with rfl | rfl <;> rfl
  refine R2 ?_
  refine Xk rfl rfl ?_
  refine R ?_
  exact ⟨hlt, ⟨rfl, rfl, rfl, rfl⟩, rfl, rfl⟩
 ·refine R ?_
  exact ⟨rfl, _, Xb (Xw rfl) Xg, rfl, .refl _⟩
set_option maxHeartbeats 2000000 in
theorem super_slots_0 (m : Nat) (hm : 10000 <= m) (h : Heap) (db mb many : Nat) (f : FreshD h db mb many) (h2 : 2 <= many) : (enter E (ctx E (m + 3)) f_super_slots [.pointer (some ⟨db, 0, none⟩)] h).Wp sg fun v h' => ∃ ao ca, v = .tuple ⟨[.slice ao 2 ca, .bool true, .int .i64 (XhA 0)]⟩ /\ Slc h' 1 ao 2 ca [.pointer none, .pointer none] /\ Ext [] h h' := by
 refine H.run (k := Xeg) rfl rfl rfl ?_
 dsimp only [Xeg]
 refine R ?_
 refine Xj (Xi rfl (XgC H m hm _ db mb many 0 f (by omega))) ?_
 rintro v h1 ⟨b1, rfl, gb1, lb1, lb1', e1⟩
 have f1 := f.ext e1
 refine R ?_
 refine X6 (Xi rfl (disk_Len_ok H (m + 1) _ db many true _ f1.d rfl rfl)) ?_
 refine R ?_
 refine Yl 2 0 (fun i t x hk => ∃ oo oc, (g0 t = (.pointer (some ⟨db, 0, none⟩)) /\ g7 t = (.bool (decide (0 < i))) /\ g8 t = (.slice oo i oc) /\ g25 t = (.int .i64 (XhA i))) /\ x = ⟨[], none, none⟩ /\ Ext [] h hk /\ Own hk 1 oo i oc (List.replicate i (.pointer none)) /\ ∀ x ∈ XD oo, h.next <= x) ⟨none, 0, ⟨rfl, rfl, rfl, rfl⟩, rfl, e1, .empty _ _, fun x hx => nomatch hx⟩ (by decide) (XG (by omega)) ?_
 rintro i t x hk hi ⟨oo, oc, ⟨r0, r7, r8, r25⟩, rfl, ek, own, fr⟩
 obtain ⟨t0, rfl⟩ : ∃ t0, t = p0 (.pointer (some ⟨db, 0, none⟩)) (p7 (.bool (decide (0 < i))) (p8 (.slice oo i oc) (p25 (.int .i64 (XhA i)) t0))) := ⟨t, (show t = p0 (g0 t) (p7 (g7 t) (p8 (g8 t) (p25 (g25 t) t))) from rfl).trans (by rw [r0, r7, r8, r25])⟩
 clear r0 r7 r8 r25
 have lk := ek.next
 have fk := f.ext ek
 by_cases hlt : i < 2
 ·refine R ?_
  refine Xj (Xi rfl (XgC H m hm _ db mb many i fk (by omega))) ?_
  rintro v h3 ⟨b3, rfl, gb3, lb3, lb3', e3⟩
  have l3 := e3.next
  have sb3 : Slc h3 1 (some ⟨b3, 0, none⟩) 64 64 (Xa zeros64) := Slc.of_get gb3 lb3' rfl
  by_cases hi0 : i = 0
  ·subst hi0
   refine R ?_
   refine wp_mkSliceE rfl rfl (by decide) (by decide) fun H4 B4 E4 L4 G4 N4 Q4 => ?_
   refine wp_yes rfl ?_
   refine Xj (Xi rfl (bytes_Equal_ok H _ _ zeros64 zeros64 _ _ _ _ _ _ (sb3.ext E4) (Slc.of_get G4 N4 rfl))) ?_
   rintro v h4 ⟨rfl, rfl⟩
   refine R ?_
   refine Xj (Xi rfl (super_Unpack_0 H _ _ b3 (E4.get0 lb3' gb3) (by omega))) ?_
   rintro v h5 ⟨⟨cs, hcs, rfl⟩, e5⟩
   have l5 := e5.next
   refine R ?_
   refine Xt fun H60 B60 E60 L60 G60 N60 Q60 => ?_
   refine Xm rfl (by conv => lhs; whnf) rfl G60 (by assumption) (XhH rfl) fun H61 E61 L61 G61 => ?_
   refine R ?_
   refine XJ (Xf (by conv => lhs; whnf) rfl rfl rfl XB) fun H62 B62 E62 L62 G62 N62 Q62 => ?_
   have e6f : Ext [] hk _ := ((e3.trans0 E4).trans0 e5)
   have eU : Ext [] hk H62 := ((e6f.trans0 E60).trans1 E61 (by omega)).trans0 E62
   have lU := eU.next
   refine XP (own.ext eU) rfl rfl rfl (Slc.of_get (z := 1) G62 N62 rfl).elemsAll rfl (by omega) fun oo2 oc2 h7 o7 e7 l7 f7 => ?_
   refine R ?_
   refine ⟨hlt, oo2, oc2, ⟨rfl, rfl, rfl, rfl⟩, rfl, (ek.trans0 eU).trans e7 (fun x hx => .inr (fr x hx)), o7, fun x hx => ?_⟩
   obtain ⟨q, k2, k3⟩ := Xu hx
   rcases f7 q k2 with k4 | k4
   ·rw [<- k3]; exact fr _ k4
   ·omega
  ·have hi1 : i = 1 := by omega
   subst hi1
   refine R ?_
   refine Xj (Xi rfl (super_Unpack_0 H _ _ b3 (gb3) (by omega))) ?_
   rintro v h5 ⟨⟨cs, hcs, rfl⟩, e5⟩
   have l5 := e5.next
   refine R ?_
   refine Xt fun H60 B60 E60 L60 G60 N60 Q60 => ?_
   refine Xm rfl (by conv => lhs; whnf) rfl G60 (by assumption) (XhH rfl) fun H61 E61 L61 G61 => ?_
   refine R ?_
   refine XJ (Xf (by conv => lhs; whnf) rfl rfl rfl XB) fun H62 B62 E62 L62 G62 N62 Q62 => ?_
   have e6f : Ext [] hk _ := (e3.trans0 e5)
   have eU : Ext [] hk H62 := ((e6f.trans0 E60).trans1 E61 (by omega)).trans0 E62
   have lU := eU.next
   refine XP (own.ext eU) rfl rfl rfl (Slc.of_get (z := 1) G62 N62 rfl).elemsAll rfl (by omega) fun oo2 oc2 h7 o7 e7 l7 f7 => ?_
   refine R ?_
   refine ⟨hlt, oo2, oc2, ⟨rfl, rfl, rfl, rfl⟩, rfl, (ek.trans0 eU).trans e7 (fun x hx => .inr (fr x hx)), o7, fun x hx => ?_⟩
   obtain ⟨q, k2, k3⟩ := Xu hx
   rcases f7 q k2 with k4 | k4
   ·rw [<- k3]; exact fr _ k4
   ·omega
 ·have hi2 : i = 2 := by omega
  subst hi2
  refine R ?_
  exact ⟨rfl, _, Xb (Xw rfl) (Xb (Xw rfl) (Xb (Xw rfl) Xg)), oo, oc, rfl, own.toSlc, ek⟩
set_option maxHeartbeats 2000000 in
theorem super_Load_0 (m : Nat) (hm : 10000 <= m) (h : Heap) (db mb many : Nat) (f : FreshD h db mb many) (h2 : 2 <= many) : (enter E (ctx E (m + 4)) f_super_Load [.pointer (some ⟨db, 0, none⟩)] h).Wp sg fun v h' => (∃ cs : List Value, cs.length = 35 /\ v = .tuple ⟨[.agg ⟨cs⟩, .int .i64 (XhA 0), .int .i64 (XhA 6)]⟩) /\ Ext [] h h' := by
 refine H.run (k := Xgl) rfl rfl rfl ?_
 dsimp only [Xgl]
 refine X9 ?_
 refine Xt fun H1 B1 E1 L1 G1 N1 Q1 => ?_
 refine R ?_
 refine Xj (Xi rfl (super_slots_0 H m hm _ db mb many (f.ext E1) h2)) ?_
 rintro v h2 ⟨ao, ca, rfl, sl, e2⟩
 have l2 := e2.next
 refine R ?_
 refine Xj (Xi rfl (super_greatest_0 H _ (by omega) _ ao ca sl)) ?_
 rintro v h3 ⟨rfl, e3⟩
 have l3 := e3.next
 have g3 := e3.get0 (by omega) (e2.get0 N1 G1)
 refine R ?_
 refine Xd (l_geqI rfl rfl rfl) ?_
 refine R ?_
 refine Xd (Yo XB) ?_
 refine Xm rfl (by conv => lhs; whnf) rfl g3 rfl (XhH rfl) fun H20 E20 L20 G20 => ?_
 refine R ?_
 exact ⟨rfl, _, Xb (Y4 (cs := Y6) rfl G20 rfl) (Xb (Xw rfl) (Xb (Xw rfl) Xg)), ⟨Y6, rfl, rfl⟩, ((E1.trans0 e2).trans0 e3).trans1 E20 (by omega)⟩
set_option maxHeartbeats 2000000 in
theorem store_fresh_ok (m : Nat) (h : Heap) : (enter E (ctx E m) f_store_fresh [] h).Wp sg fun v h' => ∃ gb, v = .agg ⟨[.slice none 0 0, .map (some gb)]⟩ /\ h'.get gb = some (.map (.many 32 .u8) 0 []) /\ h.next <= gb /\ gb < h'.next /\ Ext [] h h' := by
 refine H.run (k := Xef) rfl rfl rfl ?_
 dsimp only [Xef]
 refine X9 ?_
 refine Xt fun H1 B1 E1 L1 G1 N1 Q1 => ?_
 refine R ?_
 refine wp_mapE fun H2 B2 E2 L2 G2 N2 Q2 => ?_
 refine Xd (Yo (Xf (by conv => lhs; whnf) rfl rfl rfl XB)) ?_
 have T3 := E2.get0 (by omega) G1
 refine Xm rfl (by conv => lhs; whnf) rfl T3 rfl (XhH rfl) fun H4 E4 L4 G4 => ?_
 refine R ?_
 exact ⟨rfl, _, Xb (Y4 (cs := [.slice none 0 0, .map (some B2)]) rfl G4 rfl) Xg, B2, rfl, E4.get1 N2 (by omega) G2, by omega, by omega, (E1.trans0 E2).trans1 E4 (by omega)⟩
set_option maxHeartbeats 2000000 in
theorem store_Open_0 (m : Nat) (hm : 10000 <= m) (h : Heap) (db mb many : Nat) (f : FreshD h db mb many) (h2 : 4 <= many) (base : Nat) (hb : base <= db) (hb2 : base <= h.next) : (enter E (ctx E (m + 5)) f_store_Open [.pointer (some ⟨db, 0, none⟩)] h).Wp sg fun v h' => ∃ p gb lb priv, v = .tuple ⟨[.pointer (some ⟨p, 0, none⟩), .int .i64 (XhA 0)]⟩ /\ StQ h' p gb db lb many [] priv /\ (∀ x ∈ priv, base <= x) /\ Ext [] h h' := by
 refine H.run (k := Xgf) rfl rfl rfl ?_
 dsimp only [Xgf]
 refine R ?_
 refine Xj (Xi rfl (XgC H (m + 2) (by omega) _ db mb many 0 f (by omega))) ?_
 rintro v h1 ⟨b1, rfl, gb1, lb1, lb1', e1⟩
 have f1 := f.ext e1
 have l1 := e1.next
 refine R ?_
 refine X6 (Xi rfl (disk_Len_ok H (m + 3) _ db many true _ f1.d rfl rfl)) ?_
 refine R ?_
 refine Xj (Xi rfl (store_fresh_ok H _ _)) ?_
 rintro v h2 ⟨gb, rfl, ggb, lgb, lgb', e2⟩
 have l2 := e2.next
 have f2 := f1.ext e2
 refine R ?_
 refine wp_mapE fun H30 B30 E30 L30 G30 N30 Q30 => ?_
 refine Xd (Yo (Xf (by conv => lhs; whnf) rfl rfl rfl (Xf (by conv => lhs; whnf) rfl rfl rfl (Xf (by conv => lhs; whnf) rfl rfl rfl XB)))) ?_
 refine X2 (by conv => lhs; whnf) rfl fun H31 B31 E31 L31 G31 N31 Q31 => ?_
 refine R ?_
 have gst : H31.get B31 = some (.cells true (stCells none 0 0 gb db B30)) := G31
 refine Xj (Xi rfl (super_Load_0 H m hm _ db mb many ((f2.ext E30).ext E31) (by omega))) ?_
 rintro v h4 ⟨⟨cs, hcs, rfl⟩, e4⟩
 have l4 := e4.next
 have hc0 : cs.length = 35 := hcs
 have gst4 := e4.get0 N31 gst
 have gl4 := e4.get0 (by omega) (E31.get0 N30 G30)
 have gg4 := e4.get0 (by omega) (E31.get0 (by omega) (E30.get0 lgb' ggb))
 have f4 := ((f2.ext E30).ext E31).ext e4
 refine R ?_
 refine Xt fun H40 B40 E40 L40 G40 N40 Q40 => ?_
 refine Xm rfl (by conv => lhs; whnf) rfl G40 (by assumption) (XhH rfl) fun H41 E41 L41 G41 => ?_
 refine R ?_
 have eF : Ext [] h H41 := (((((e1.trans0 e2).trans0 E30).trans0 E31).trans0 e4).trans0 E40).trans1 E41 (by omega)
 have s1 : StQ h4 B31 gb db B30 many [] (stBlk B31 gb db B30 none []) := by
  have d1 := f4.lt.1
  have d2 := f1.lt.1
  refine ⟨none, 0, 0, [], ⟨gst4, .empty _ _, gg4, gl4, ⟨true, _, f4.d, rfl, rfl⟩, ⟨by omega, by omega, by omega, by omega⟩, ⟨by omega, by omega, by omega, by omega, by omega⟩, (fun a ha => nomatch ha), (fun y hy => nomatch hy), trivial⟩, rfl, rfl⟩
 refine ⟨rfl, _, Xb (Xw rfl) (Xb (Xw rfl) Xg), B31, gb, B30, _, rfl, s1.ext (E40.trans1 E41 (by omega)), fun x hx => ?_, eF⟩
 rcases mem_stBlk.1 hx with rfl | rfl | rfl | rfl | hx | ⟨y, hy, hx⟩
 ·omega
 ·omega
 ·exact hb
 ·omega
 ·exact nomatch hx
 ·exact nomatch hy
theorem law21_made_ok (m : Nat) (hm : 10000 <= m) (h : Heap) : (enter E (ctx E (m + 6)) Xc5 [] h).Wp sg fun v h' => ∃ p gb db lb priv, v = .tuple ⟨[.pointer (some ⟨db, 0, none⟩), .pointer (some ⟨p, 0, none⟩)]⟩ /\ StQ h' p gb db lb 4000 [] priv /\ (∀ x ∈ priv, h.next <= x) /\ Ext [] h h' := by
 refine H.run (k := Jn) rfl rfl rfl ?_
 dsimp only [Jn]
 refine R ?_
 refine Xj (Xi rfl (disk_New_ok H _ _ 4000 (by decide))) ?_
 rintro v h1 ⟨db, mb, rfl, f1, hdb, e1⟩
 have l1 := e1.next
 refine R ?_
 refine Xd rfl ?_
 refine R ?_
 refine Xj (Xi rfl (store_Open_0 H m hm _ db mb 4000 f1 (by decide) h.next hdb l1)) ?_
 rintro v h2 ⟨p, gb, lb, priv, rfl, s2, hpr, e2⟩
 refine R ?_
 exact ⟨rfl, _, Xb (Xw rfl) (Xb (Xw rfl) Xg), p, gb, db, lb, priv, rfl, s2, hpr, e1.trans0 e2⟩
end
theorem stPut_mem {L : List (List UInt8)} {b : List UInt8} (h : ∀ a ∈ L, Sha a = Sha b -> a = b) : b ∈ Y1 L b := by
 unfold Y1
 split
 ·rename_i hm
  obtain ⟨a, ha, e⟩ := XhW.1 hm
  rw [<- h a ha e]; exact ha
 ·exact XiC _ (XhB.2 rfl)
theorem XaH : ∀ {L : List (List UInt8)} {x : List UInt8}, x ∈ XX L bs -> x ∈ L \/ x ∈ bs := by
 induction bs with
 | nil => intro L x h; exact .inl h
 | cons b bs ih =>
  intro L x h
  rcases ih (L := Y1 L b) h with k | k
  ·rcases stPut_sub x k with k | rfl
   ·exact .inl k
   ·exact .inr Xh9
  ·exact .inr (Xii _ k)
theorem putAll_mono : ∀ {L : List (List UInt8)} {x : List UInt8}, x ∈ L -> x ∈ XX L bs := by
 induction bs with
 | nil => intro L x h; exact h
 | cons b bs ih => intro L x h; exact ih (stPut_mono x h)
theorem putAll_mem : ∀ {L : List (List UInt8)}, (∀ a ∈ L ++ bs, ∀ b ∈ L ++ bs, Sha a = Sha b -> a = b) -> ∀ x ∈ bs, x ∈ XX L bs := by
 induction bs with
 | nil => intro L _ x h; exact nomatch h
 | cons b bs ih =>
  intro L noc x h
  have hb : b ∈ Y1 L b := stPut_mem fun a ha e => noc a (XiE _ ha) b (XiC _ Xh9) e
  rcases List.mem_cons.1 h with rfl | h
  ·show x ∈ XX (Y1 L x) bs
   exact putAll_mono hb
  ·refine ih (L := Y1 L b) (fun a ha c hc e => ?_) x h
   have q : ∀ y ∈ Y1 L b ++ bs, y ∈ L ++ b :: bs := fun y hy => by
    rcases XhV.1 hy with k | k
    ·rcases stPut_sub y k with k | rfl
     ·exact XiE _ k
     ·exact XiC _ Xh9
    ·exact XiC _ (Xii _ k)
   exact noc a (q a ha) c (q c hc) e
structure Nd.Small (nd : Nd) : Prop extends nd.OK where
 t100 : ∀ s ∈ nd.texts, s.length <= 100
 tl : nd.texts = [] \/ nd.links = []
theorem Nd.Small.bytes_le {nd : Nd} (h : nd.Small) (hl : lev <= 1000) : (nd.bytes lev).length <= 820 := by
 have ct := Xel (f := X4) (l := nd.texts) (k := 101) fun x hx => by
  have := h.t100 x hx
  unfold X4; rw [XhC, YB (by omega)]; simp; omega
 have cl := Xel (f := Y2) (l := nd.links) (k := 36) fun x hx => encLk_le (h.ls x hx)
 have i1 := Zs (k := lev) (by omega)
 have h1 := h.t8
 have h2 := h.l8
 have i2 := Zs (k := nd.texts.length + nd.links.length) (by omega)
 have h3 : nd.texts.length = 0 \/ nd.links.length = 0 := h.tl.imp (fun e => by rw [e]; rfl) (fun e => by rw [e]; rfl)
 unfold Nd.bytes X3
 rw [XhC, XhC, XhC]
 omega
theorem Xd5 {nds : List Nd} (h : ∀ n ∈ nds, n.Small) (hs : XcM nds <= 2000) : ∀ n ∈ above lev nds, n.Small := by
 intro n hn
 have hok := above_OK (fun n hn => (h n hn).toOK) hs n hn
 unfold above at hn
 obtain ⟨c, hc, rfl⟩ := XhW.1 hn
 exact ⟨hok, (fun s hs => nomatch hs), .inl rfl⟩
theorem rows_small (f : Nat) : ∀ (lev : Nat) (nds : List Nd), (∀ n ∈ nds, n.Small) -> XcM nds <= 2000 -> lev + f <= 1000 -> ∀ b ∈ YT (Ya f lev nds), b.length <= 820 := by
 have one : ∀ (lev : Nat) (nds : List Nd), (∀ n ∈ nds, n.Small) -> lev <= 1000 -> ∀ b ∈ nds.map (Nd.bytes lev), b.length <= 820 := by
  intro lev nds h hl b hb
  obtain ⟨n, hn, rfl⟩ := XhW.1 hb
  exact (h n hn).bytes_le hl
 induction f with
 | zero =>
  intro lev nds h hs hl b hb
  rw [show YT (Ya 0 lev nds) = nds.map (Nd.bytes lev) by simp [Ya, YT]] at hb
  exact one lev nds h (by omega) b hb
 | succ f ih =>
  intro lev nds h hs hl b hb
  by_cases h1 : nds.length <= 1
  ·rw [Vu h1] at hb; exact one lev nds h (by omega) b hb
  ·rw [JJ (by omega)] at hb
   rcases XhV.1 hb with hb | hb
   ·exact one lev nds h (by omega) b hb
   ·exact ih (lev + 1) (above lev nds) (Xd5 h hs) (by rw [JI]; exact hs) (by omega) b hb
theorem XgD (lev : Nat) (nds : List Nd) : (above lev nds).length * 2 <= nds.length + 1 := by
 unfold above
 rw [XhP]
 have h1 := cutG_half (fun k x => eL_two (Nat.succ_pos lev) k x) [] (links lev nds)
 have h2 : (links lev nds).length = nds.length := by unfold links; rw [XhP]
 rw [h2] at h1
 simpa using h1
theorem rows_count (k : Nat) : ∀ (f lev : Nat) (nds : List Nd), nds.length <= 2 ^ k -> (YT (Ya f lev nds)).length <= 2 * nds.length + k := by
 induction k with
 | zero =>
  intro f lev nds h
  rw [Vu (by simpa using h), XhP]; omega
 | succ k ih =>
  intro f lev nds h
  by_cases h1 : nds.length <= 1
  ·rw [Vu h1, XhP]; omega
  ·cases f with
   | zero =>
    rw [show YT (Ya 0 lev nds) = nds.map (Nd.bytes lev) by simp [Ya, YT], XhP]; omega
   | succ f =>
    have h2 := XgD lev nds
    rw [Nat.pow_succ] at h
    have h3 := ih f (lev + 1) (above lev nds) (by omega)
    rw [JJ (by omega), XhC, XhP]
    omega
theorem cutG_count {α : Type} (e : Nat -> α -> Bool) (l : List α) : ∀ cur : List α, (X0 e cur l).length <= l.length := by
 induction l with
 | nil => intro cur; simp [X0]
 | cons x l ih =>
  intro cur
  rw [X0]
  split
  ·have := ih []; simp; omega
  ·have := ih (cur ++ [x]); simp; omega
theorem XgE (texts : List (List UInt8)) : (leaves texts).length <= texts.length + 1 := by
 unfold leaves
 split
 ·simp
 ·rw [XhP]
  have := cutG_count eS texts []
  omega
theorem usedL_le {L : List (List UInt8)} {n : Nat} (h : ∀ b ∈ L, b.length <= 820) : Yt L <= 14 * L.length := by
 induction L with
 | nil => simp [Yt]
 | cons b L ih =>
  have h1 := h b Xh9
  have h2 := ih fun x hx => h x (Xii _ hx)
  show X1 b.length + Yt L <= 14 * (L.length + 1)
  have : X1 b.length <= 14 := by unfold X1; omega
  omega
theorem puts_small {texts : List (List UInt8)} (ht : texts.length <= 60) (hs : ∀ s ∈ texts, s.length <= 100) : (Yu texts).length <= 128 /\ (∀ b ∈ Yu texts, b.length <= 820) /\ Yt (Yu texts) <= 1792 := by
 obtain ⟨lok, lsum, lpos, l100⟩ := XcQ (texts := texts) (by omega) (fun s h => by have := hs s h; omega)
 have lc := XgE texts
 have hc := rows_count 6 130 0 (leaves texts) (by omega)
 have hsm : ∀ n ∈ leaves texts, n.Small := by
  intro n hn
  have h1 := lok n hn
  unfold leaves at hn
  split at hn
  ·rw [XhB.1 hn] at h1 ⊢
   exact ⟨h1, (fun s hs => nomatch hs), .inl rfl⟩
  ·obtain ⟨c, hc, rfl⟩ := XhW.1 hn
   refine ⟨h1, fun s hs' => hs s ?_, .inr rfl⟩
   rw [<- Y3 eS texts]
   exact XiK.2 ⟨c, hc, hs'⟩
 have hb := rows_small 130 0 (leaves texts) hsm lsum (by omega)
 have hu := usedL_le (L := Yu texts) (n := 0) hb
 have hc' : (Yu texts).length <= 128 := by unfold Yu rowsT; omega
 exact ⟨hc', hb, by omega⟩
theorem encLk_34 {y : Lk} (h : LkOK y) : (Y2 y).length <= 34 := by
 unfold Y2
 rw [XhC, h.1]
 have h2 := h.2
 by_cases h1 : y.2 < 128
 ·rw [YB h1]; simp
 ·rw [WR h1, Xh8, YB (by omega)]; simp
theorem Nd.Small.secs {nd : Nd} (h : nd.Small) (hl : lev < 128) : X1 (nd.bytes lev).length <= 14 /\ (nd.links = [] -> X1 (nd.bytes lev).length <= 3 * nd.texts.length + 1) /\ (nd.texts = [] -> X1 (nd.bytes lev).length <= nd.links.length + 1 /\ X1 (nd.bytes lev).length <= 5) := by
 have ct := Xel (f := X4) (l := nd.texts) (k := 101) fun x hx => by
  have := h.t100 x hx
  unfold X4; rw [XhC, YB (by omega)]; simp; omega
 have cl := Xel (f := Y2) (l := nd.links) (k := 34) fun x hx => encLk_34 (h.ls x hx)
 have h1 := h.t8
 have h2 := h.l8
 have hb : (nd.bytes lev).length <= 2 + nd.texts.length * 101 + nd.links.length * 34 := by
  unfold Nd.bytes X3
  rw [XhC, XhC, XhC, YB hl, YB (by omega)]
  simp
  omega
 have h820 := h.bytes_le (lev := lev) (by omega)
 unfold X1
 refine ⟨by omega, fun e => ?_, fun e => ?_⟩
 ·rw [e] at hb; simp at hb; omega
 ·rw [e] at hb; simp at hb; omega
theorem used_leaf : ∀ {nds : List Nd}, (∀ n ∈ nds, n.Small /\ n.links = []) -> Yt (nds.map (Nd.bytes 0)) <= 3 * XcM nds + nds.length
 | [], _ => by simp [Yt]
 | n :: nds, h => by
  have ih := used_leaf fun x hx => h x (Xii _ hx)
  obtain ⟨h1, h2⟩ := h n Xh9
  have h3 := (h1.secs (lev := 0) (by omega)).2.1 h2
  have h4 : n.many = n.texts.length := by unfold Nd.many; rw [h2]; rfl
  show X1 (n.bytes 0).length + Yt (nds.map (Nd.bytes 0)) <= 3 * (n.many + XcM nds) + (nds.length + 1)
  omega
theorem used_inner (hl : lev < 128) : ∀ {cs : List (List Lk)}, (∀ n ∈ cs.map (fun c => (⟨[], c⟩ : Nd)), n.Small) -> Yt ((cs.map fun c => (⟨[], c⟩ : Nd)).map (Nd.bytes lev)) <= cs.flatten.length + cs.length
 | [], _ => by simp [Yt]
 | c :: cs, h => by
  have ih := used_inner hl (cs := cs) fun x hx => h x (Xii _ hx)
  have h3 := ((h ⟨[], c⟩ Xh9).secs hl).2.2 rfl
  show X1 (Nd.bytes lev ⟨[], c⟩).length + Yt ((cs.map fun c => (⟨[], c⟩ : Nd)).map (Nd.bytes lev)) <= _
  rw [List.flatten_cons, XhC, Xh8]
  have h4 := h3.1
  replace h4 : X1 (Nd.bytes lev ⟨[], c⟩).length <= c.length + 1 := h4
  omega
theorem used_above (hl : lev < 127) {nds : List Nd} (h : ∀ n ∈ nds, n.Small) (hs : XcM nds <= 2000) : Yt ((above lev nds).map (Nd.bytes (lev + 1))) <= nds.length + (above lev nds).length := by
 have hsm := Xd5 (lev := lev) h hs
 unfold above at hsm ⊢
 have h1 := used_inner (lev := lev + 1) (by omega) hsm
 rw [Y3] at h1
 have h2 : (links lev nds).length = nds.length := by unfold links; rw [XhP]
 rw [XhP]
 omega
theorem used_rows (k : Nat) : ∀ (f lev : Nat) (nds : List Nd), nds.length <= 2 ^ k -> (∀ n ∈ nds, n.Small) -> XcM nds <= 2000 -> lev + k < 120 -> Yt (YT (Ya f lev nds)) <= Yt (nds.map (Nd.bytes lev)) + 3 * nds.length + 2 * k := by
 induction k with
 | zero =>
  intro f lev nds h hs hm hl
  rw [Vu (by simpa using h)]; omega
 | succ k ih =>
  intro f lev nds h hs hm hl
  by_cases h1 : nds.length <= 1
  ·rw [Vu h1]; omega
  ·cases f with
   | zero =>
    rw [show YT (Ya 0 lev nds) = nds.map (Nd.bytes lev) by simp [Ya, YT]]; omega
   | succ f =>
    have h2 := XgD lev nds
    have h5 := used_above (lev := lev) (by omega) hs hm
    rw [Nat.pow_succ] at h
    have h3 := ih f (lev + 1) (above lev nds) (by omega) (Xd5 hs hm) (by rw [JI]; exact hm) (by omega)
    rw [JJ (by omega), XcL]
    omega
theorem XgF {texts : List (List UInt8)} (ht : texts.length <= 120) (hs : ∀ s ∈ texts, s.length <= 100) : (∀ n ∈ leaves texts, n.Small /\ n.links = []) /\ XcM (leaves texts) = texts.length := by
 obtain ⟨lok, lsum, lpos, l100⟩ := XcQ (texts := texts) (by omega) (fun s h => by have := hs s h; omega)
 refine ⟨fun n hn => ?_, ?_⟩
 ·have h1 := lok n hn
  unfold leaves at hn
  split at hn
  ·rw [XhB.1 hn] at h1 ⊢
   exact ⟨⟨h1, (fun s hs => nomatch hs), .inl rfl⟩, rfl⟩
  ·obtain ⟨c, hc, rfl⟩ := XhW.1 hn
   refine ⟨⟨h1, fun s hs' => hs s ?_, .inr rfl⟩, rfl⟩
   rw [<- Y3 eS texts]
   exact XiK.2 ⟨c, hc, hs'⟩
 ·unfold leaves
  split
  ·rename_i he
   rw [XiP] at he
   subst he; rfl
  ·rw [sumM_leaf, Y3]
theorem used_puts {texts : List (List UInt8)} (ht : texts.length <= 120) (hs : ∀ s ∈ texts, s.length <= 100) : Yt (Yu texts) <= 7 * texts.length + 18 /\ (Yu texts).length <= 2 * texts.length + 9 := by
 obtain ⟨h1, h2⟩ := XgF ht hs
 have h3 := XgE texts
 have h4 := used_leaf h1
 have h5 := used_rows 7 130 0 (leaves texts) (by omega) (fun n hn => (h1 n hn).1) (by omega) (by omega)
 have h6 := rows_count 7 130 0 (leaves texts) (by omega)
 unfold Yu rowsT
 omega
theorem cutG_state {α : Type} (e : Nat -> α -> Bool) : ∀ (u cur : List α), ∃ A z, ∀ v, v ≠ [] -> X0 e cur (u ++ v) = A ++ X0 e z v
 | [], cur => ⟨[], cur, fun v _ => rfl⟩
 | x :: u, cur => by
  obtain ⟨A, z, h⟩ := cutG_state e u []
  obtain ⟨A', z', h'⟩ := cutG_state e u (cur ++ [x])
  cases he : e (cur.length + 1) x with
  | true => exact ⟨(cur ++ [x]) :: A, z, fun v hv => by
    show X0 e cur (x :: (u ++ v)) = _
    rw [X0, he, Bool.true_or, if_pos rfl, h v hv]; rfl⟩
  | false => exact ⟨A', z', fun v hv => by
    show X0 e cur (x :: (u ++ v)) = _
    have : (u ++ v).isEmpty = false := by cases u <;> cases v <;> simp_all
    rw [X0, he, this, Bool.or_self, if_neg (by decide), h' v hv]⟩
def Grew (a b : List Nd) : Prop := ∃ U x, a = U ++ [x] /\ ((∃ y, b = U ++ [y]) \/ ∃ y, b = U ++ [x, y])
theorem grew_cut {α : Type} (e : Nat -> α -> Bool) (g : List α -> Nd) (U : List α) (x y : α) : Grew ((X0 e [] (U ++ [x])).map g) ((X0 e [] (U ++ [y])).map g) /\ Grew ((X0 e [] (U ++ [x])).map g) ((X0 e [] (U ++ [x, y])).map g) := by
 obtain ⟨A, z, h⟩ := cutG_state e U []
 have one : ∀ q : α, X0 e z [q] = [z ++ [q]] := fun q => by rw [X0]; simp [X0]
 rw [h [x] (by simp), h [y] (by simp), h [x, y] (by simp), one, one, Xh2, Xh2, Xh2]
 refine ⟨⟨A.map g, g (z ++ [x]), rfl, .inl ⟨_, rfl⟩⟩, ⟨A.map g, g (z ++ [x]), rfl, ?_⟩⟩
 rw [X0]
 cases e (z.length + 1) x with
 | true => exact .inr ⟨g [y], by simp [X0]⟩
 | false => exact .inl ⟨g (z ++ [x] ++ [y]), by simp [X0]⟩
theorem Grew.above {a b : List Nd} (h : Grew a b) (lev : Nat) : Grew (above lev a) (above lev b) := by
 obtain ⟨U, x, rfl, ⟨y, rfl⟩ | ⟨y, rfl⟩⟩ := h
 ·unfold Sp.above links
  rw [Xh2, Xh2]
  exact (grew_cut _ _ _ _ _).1
 ·unfold Sp.above links
  rw [Xh2, Xh2]
  exact (grew_cut _ _ _ _ _).2
theorem leaves_grew (l : List (List UInt8)) (x : List UInt8) : Grew (leaves l) (leaves (l ++ [x])) := by
 rcases List.eq_nil_or_concat l with rfl | ⟨T, y, rfl⟩
 ·refine ⟨[], ⟨[], []⟩, rfl, .inl ⟨⟨[x], []⟩, ?_⟩⟩
  simp [leaves, X0]
 ·rw [List.concat_eq_append]
  unfold leaves
  rw [if_neg (by simp), if_neg (by simp), Xh1]
  exact (grew_cut _ _ _ _ _).2
theorem stPut_in {L : List (List UInt8)} {b : List UInt8} (h : b ∈ L) : Y1 L b = L := by
 unfold Y1; rw [if_pos (XiJ h)]
theorem putAll_in {L : List (List UInt8)} : ∀ {bs : List (List UInt8)}, (∀ b ∈ bs, b ∈ L) -> XX L bs = L
 | [], _ => rfl
 | b :: bs, h => by
  show XX (Y1 L b) bs = L
  rw [stPut_in (h b Xh9)]
  exact putAll_in fun x hx => h x (Xii _ hx)
theorem grew_row {L : List (List UInt8)} {a b : List Nd} (g : Grew a b) (h : ∀ n ∈ a, n.bytes lev ∈ L) : ∃ y, y ∈ b /\ XX L (b.map (Nd.bytes lev)) = Y1 L (y.bytes lev) := by
 obtain ⟨U, x, rfl, ⟨y, rfl⟩ | ⟨y, rfl⟩⟩ := g
 ·refine ⟨y, by simp, ?_⟩
  have e : XX L (U.map (Nd.bytes lev)) = L := putAll_in fun b hb => by
   obtain ⟨n, hn, rfl⟩ := XhW.1 hb
   exact h n (by simp [hn])
  rw [Xh2, Z4, e]; rfl
 ·refine ⟨y, by simp, ?_⟩
  have e : XX L ((U ++ [x]).map (Nd.bytes lev)) = L := putAll_in fun b hb => by
   obtain ⟨n, hn, rfl⟩ := XhW.1 hb
   exact h n hn
  rw [show U ++ [x, y] = (U ++ [x]) ++ [y] by simp, Xh2, Z4, e]; rfl
theorem above_texts {nds : List Nd} : ∀ n ∈ above lev nds, n.texts = [] := by
 intro n hn
 unfold above at hn
 obtain ⟨c, _, rfl⟩ := XhW.1 hn
 rfl
theorem above_two (x y : Nd) : (above lev [x, y]).length = 1 := by
 have := XgD lev [x, y]
 have h := XcN (lev := lev) (nds := [x, y]) (by simp)
 simp at this
 omega
theorem used_step {s0 : Nat} (k : Nat) : ∀ (L : List (List UInt8)) (f lev : Nat) (a b : List Nd), Grew a b -> b.length <= 2 ^ k -> (∀ n ∈ b, n.Small) -> XcM b <= 2000 -> lev + k < 120 -> k <= f -> (∀ n ∈ b, X1 (n.bytes lev).length <= s0) -> (∀ x ∈ YT (Ya f lev a), x ∈ L) ->
  Yt (XX L (YT (Ya f lev b))) <= Yt L + s0 + 5 * k /\ (XX L (YT (Ya f lev b))).length <= L.length + 1 + k := by
 have row : ∀ (L : List (List UInt8)) (lev : Nat) (a b : List Nd) (s0 : Nat), Grew a b -> (∀ n ∈ b, X1 (n.bytes lev).length <= s0) -> (∀ n ∈ a, n.bytes lev ∈ L) -> Yt (XX L (b.map (Nd.bytes lev))) <= Yt L + s0 /\ (XX L (b.map (Nd.bytes lev))).length <= L.length + 1 := by
  intro L lev a b s0 g hs h
  obtain ⟨y, hy, e⟩ := grew_row g h
  rw [e]
  have h1 := stPut_used (L := L) (b := y.bytes lev)
  have h2 := hs y hy
  omega
 have first : ∀ (f lev : Nat) (a : List Nd) (L : List (List UInt8)), (∀ x ∈ YT (Ya f lev a), x ∈ L) -> ∀ n ∈ a, n.bytes lev ∈ L := by
  intro f lev a L h n hn
  refine h _ ?_
  cases f with
  | zero =>
   rw [show YT (Ya 0 lev a) = a.map (Nd.bytes lev) by simp [Ya, YT]]
   exact XiJ hn
  | succ f =>
   by_cases h1 : a.length <= 1
   ·rw [Vu h1]; exact XiJ hn
   ·rw [JJ (by omega)]; exact XiE _ (XiJ hn)
 induction k generalizing s0 with
 | zero =>
  intro L f lev a b g hb hs hm hl hf h0 hL
  rw [Vu (by simpa using hb)]
  have := row L lev a b s0 g h0 (first f lev a L hL)
  omega
 | succ k ih =>
  intro L f lev a b g hb hs hm hl hf h0 hL
  have h1 := row L lev a b s0 g h0 (first f lev a L hL)
  by_cases hb1 : b.length <= 1
  ·rw [Vu hb1]; omega
  ·obtain ⟨f, rfl⟩ : ∃ q, f = q + 1 := ⟨f - 1, by omega⟩
   rw [JJ (by omega), Z4]
   have h2 := XgD lev b
   have hS := Xd5 (lev := lev) hs hm
   have h5 : ∀ n ∈ above lev b, X1 (n.bytes (lev + 1)).length <= 5 := fun n hn => ((hS n hn).secs (by omega)).2.2 (above_texts n hn) |>.2
   rw [Nat.pow_succ] at hb
   by_cases ha1 : a.length <= 1
   ·-- the first inner node
    obtain ⟨U, x, rfl, hh⟩ := g
    have hU : U = [] := by
     rw [XhC] at ha1
     exact Xjs.1 (by simp at ha1; exact ha1 ▸ rfl)
    subst hU
    rcases hh with ⟨y, rfl⟩ | ⟨y, rfl⟩
    ·simp at hb1
    ·have h3 := above_two (lev := lev) x y
     rw [show ([] : List Nd) ++ [x, y] = [x, y] from rfl] at *
     rw [Vu (by omega)]
     obtain ⟨n, hn⟩ := List.length_eq_one_iff.1 h3
     have h4 := JX (XX L ([x, y].map (Nd.bytes lev))) ((above lev [x, y]).map (Nd.bytes (lev + 1)))
     rw [hn] at h4 h5 ⊢
     have h6 := h5 n (by simp)
     have h7 : Yt ([n].map (Nd.bytes (lev + 1))) = X1 (n.bytes (lev + 1)).length := rfl
     rw [h7] at h4
     simp only [List.map_cons, List.map_nil, Xh8, Xjh] at h4 h1 ⊢
     omega
   ·have h3 := ih (s0 := 5) (XX L (b.map (Nd.bytes lev))) f (lev + 1) (above lev a) (above lev b) (g.above lev) (by omega) hS (by rw [JI]; exact hm) (by omega) (by omega) h5 (fun x hx => putAll_mono (hL x (by
     rw [JJ (by omega)]; exact XiC _ hx)))
    omega
theorem used_more {L : List (List UInt8)} {l : List (List UInt8)} {x : List UInt8} (ht : l.length < 60) (hs : ∀ s ∈ l ++ [x], s.length <= 100) (h : ∀ b ∈ Yu l, b ∈ L) : Yt (XX L (Yu (l ++ [x]))) <= Yt L + 44 /\ (XX L (Yu (l ++ [x]))).length <= L.length + 7 := by
 have hlen : (l ++ [x]).length <= 60 := by rw [XhC]; simp; omega
 obtain ⟨h1, h2⟩ := XgF (texts := l ++ [x]) (by omega) hs
 have h3 := XgE (l ++ [x])
 have := used_step (s0 := 14) 6 L 130 0 (leaves l) (leaves (l ++ [x])) (leaves_grew l x) (by omega) (fun n hn => (h1 n hn).1) (by omega) (by omega) (by omega) (fun n hn => ((h1 n hn).1.secs (by omega)).1) h
 unfold Yu rowsT
 omega
def PtS (h : Heap) (vs : List Value) (ls : List (List (List UInt8))) : Prop := All2 (fun v l => ∃ o c, v = .slice o l.length c /\ Slc h 1 o l.length c (fl YU l)) vs ls
theorem PtS.extS {h' : Heap} {ls : List (List (List UInt8))} (p : PtS h vs ls) {S : List Nat} (e : Ext S h h') (q : ∀ b, b < h.next -> b ∉ S) : PtS h' vs ls :=
 All2.mono p fun _ _ ⟨o, c, h1, h2⟩ => ⟨o, c, h1, h2.extS e fun a ha => q _ (h2.lt a ha)⟩
theorem append_none {size b o len cap : Nat} {sp : Option Nat} {w : Bool} {cs : List Value} (ha : h.get b = some (.cells w cs)) (hl : o + len * size <= cs.length) (hc : len <= cap) (hb : len < 100000000) : h.appendL size (.slice (some ⟨b, o, sp⟩) len cap) 0 [] = some (.slice (some ⟨b, o, sp⟩) len cap, h) := by
 have e : h.load b o (Nat.mul len size) = some ((cs.drop o).take (len * size)) := by
  refine Heap.load_of ha ?_
  show XU (len * size) (XY o cs) = _
  rw [VR, UZ, if_pos (by rw [Xif]; omega)]
 unfold Heap.appendL
 dsimp only
 rw [e]
 dsimp only
 rw [show Nat.add len 0 = len from rfl, blt_iff.2 hb, ble_iff.2 hc]
 rfl
theorem l_sub0 {t : Tm} {g g' : Xe} {b n : Nat} (hg : g t = .slice (some ⟨b, 0, some 1⟩) n n) (hg' : g' t = .int .i64 (XhA 0)) (hn : 0 < n) : XC 1 g none (some g') none t h = some (.slice (some ⟨b, 0, some 1⟩) 0 n) := by
 unfold XC
 rw [hg]
 dsimp only
 rw [show Y5 t 0 none = some 0 from rfl, show Y5 t n (some g') = some 0 from (show Wf (g' t) = some 0 by rw [hg']; rfl)]
 show XaI 1 (some ⟨b, 0, some 1⟩) n 0 0 n false = _
 rw [sliceOf_eq (XhE _) (XhO _)]
 show (bif Nat.beq n 0 then _ else _) = _
 rw [show Nat.beq n 0 = false from by rw [beqN]; exact decide_eq_false (by omega)]
 rfl
section
variable {E : Env} {sg : Bool} (H : Has E)
include H
set_option maxHeartbeats 4000000 in
theorem grow_ok (m : Nat) (h : Heap) (n : Nat) (hn : n < 100000) :
  (enter E (ctx E m) VJ [.slice none 0 0, .int .i64 (XhA n)] h).Wp sg fun v h' => (n = 0 /\ v = .slice none 0 0 \/ 0 < n /\ ∃ b cs, v = .slice (some ⟨b, 0, some 1⟩) 0 n /\ h'.get b = some (.cells true cs) /\ cs.length = n /\ h.next <= b /\ b < h'.next) /\ Ext [] h h' := by
 refine H.run (k := Z0) rfl rfl rfl ?_
 dsimp only [Z0]
 by_cases h0 : n = 0
 ·subst h0
  refine R ?_
  refine Xd rfl ?_
  refine R ?_
  refine Xd (YY rfl rfl (by omega) (by omega)) ?_
  refine Xd (YY rfl rfl (by omega) (by omega)) ?_
  refine R ?_
  exact ⟨rfl, _, Xb (Xw rfl) Xg, .inl ⟨rfl, rfl⟩, .refl _⟩
 ·refine R ?_
  refine Xd rfl ?_
  refine R ?_
  refine Xd (YY rfl rfl (by omega) (by omega)) ?_
  refine Xd (YY rfl rfl (by omega) (by omega)) ?_
  refine R ?_
  refine Xd rfl ?_
  refine Xd rfl ?_
  refine R ?_
  refine wp_appendZ (k := n) (Own.empty h 1) rfl rfl (by omega) (by omega) fun ao2 ca2 h2 o2 e2 l2 f2 => ?_
  rcases o2.own with ⟨_, h1, _⟩ | ⟨b, rfl, hc, _, hg⟩ | ⟨b, _, h1, _⟩
  ·omega
  ·subst hc
   have hb := o2.toSlc.lt _ rfl
   rw [Nat.zero_add] at *
   refine R ?_
   refine Xd (l_sub0 rfl rfl (by omega)) ?_
   refine R ?_
   exact ⟨rfl, _, Xb (Xw rfl) Xg, .inr ⟨by omega, b, _, rfl, hg, by simp, by rcases f2 _ rfl with k | k; exact nomatch k; exact k.1, hb⟩, e2⟩
  ·omega
set_option maxHeartbeats 4000000 in
theorem concat_ok (m : Nat) (hm : 100000000 <= m) (h : Heap) (vs : List Value) (ls : List (List (List UInt8))) (po : Option Addr) (pc : Nat) (sp : Slc h 1 po vs.length pc vs) (hv : PtS h vs ls) (hn : vs.length <= 1000) (ht : ls.flatten.length <= 10000) :
  (enter E (ctx E (m + 2)) Ve [.slice po vs.length pc] h).Wp sg fun v h' => ∃ o c, v = .slice o ls.flatten.length c /\ Slc h' 1 o ls.flatten.length c (fl YU ls.flatten) /\ (∀ a, o = some a -> h.next <= a.block) /\ Ext [] h h' := by
 refine H.run (k := ZL) rfl rfl rfl ?_
 dsimp only [ZL]
 have hvl : vs.length = ls.length := All2.length hv
 have tot : ∀ i, (ls.take i).flatten.length <= ls.flatten.length := fun i => by
  conv => rhs; rw [<- Xiw i ls, XiF, XhC]
  omega
 refine R ?_
 refine Yl vs.length 0 (fun i t x hk => (g3 t = (.int .i64 (XhA (ls.take i).flatten.length)) /\ g9 t = (.slice po vs.length pc) /\ g10 t = (.int .i64 (XhA vs.length)) /\ g11 t = (.int .i64 (XhA i)) /\ g0 t = (.slice po vs.length pc)) /\ x = ⟨[], none, none⟩ /\ h = hk) ⟨⟨rfl, rfl, rfl, rfl, rfl⟩, rfl, rfl⟩ (XhO _) (XG (by omega)) ?_
 rintro i t x hk hi ⟨⟨r3, r9, r10, r11, r0⟩, rfl, rfl⟩
 obtain ⟨t0, rfl⟩ : ∃ t0, t = p3 (.int .i64 (XhA (ls.take i).flatten.length)) (p9 (.slice po vs.length pc) (p10 (.int .i64 (XhA vs.length)) (p11 (.int .i64 (XhA i)) (p0 (.slice po vs.length pc) t0)))) := ⟨t, (show t = p3 (g3 t) (p9 (g9 t) (p10 (g10 t) (p11 (g11 t) (p0 (g0 t) t)))) from rfl).trans (by rw [r3, r9, r10, r11, r0])⟩
 clear r3 r9 r10 r11 r0
 by_cases hlt : i < vs.length
 ·obtain ⟨a, wa, xa, hao, ga, na, ta⟩ := sp.nonempty (by omega)
  obtain ⟨v, hvi⟩ : ∃ v, vs[i]? = some v := ⟨_, XhL hlt⟩
  obtain ⟨l, hl, o, c, rfl, so⟩ := All2.get? hv hvi
  have n1 : nth (a.off + i * 1) xa = some (.slice o l.length c) := by
   rw [XhI, Yf ta (by omega), hvi]
  have hfl : (ls.take (i + 1)).flatten.length = (ls.take i).flatten.length + l.length := by
   rw [Xh6, hl, XiF, XhC]; simp
  have := tot (i + 1)
  rw [hao]
  refine R2 ?_
  refine Xd (ZI rfl rfl (by omega)) ?_
  refine R ?_
  exact ⟨hlt, ⟨by rw [hfl]; rfl, rfl, rfl, rfl, rfl⟩, rfl, rfl⟩
 ·have hin : i = vs.length := by omega
  subst hin
  rw [show ls.take vs.length = ls by rw [hvl, Xh7]] at *
  refine R ?_
  refine Xj (Xi rfl (grow_ok H _ _ _ (by omega))) ?_
  rintro v h2 ⟨hv2, e2⟩
  have hvs2 := hv.extS e2 fun _ _ hh => nomatch hh
  rcases hv2 with ⟨hz, rfl⟩ | ⟨hz, b, cs, rfl, gb, hcs, hb1, hb2⟩
  ·refine R ?_
   refine Yl vs.length 0 (fun i t x hk => (g6 t = (.slice none 0 0) /\ g25 t = (.slice po vs.length pc) /\ g26 t = (.int .i64 (XhA vs.length)) /\ g27 t = (.int .i64 (XhA i))) /\ x = ⟨[], none, none⟩ /\ h2 = hk) ⟨⟨rfl, rfl, rfl, rfl⟩, rfl, rfl⟩ (XhO _) (XG (by omega)) ?_
   rintro i t x hk hi ⟨⟨r6, r25, r26, r27⟩, rfl, rfl⟩
   obtain ⟨t0, rfl⟩ : ∃ t0, t = p6 (.slice none 0 0) (p25 (.slice po vs.length pc) (p26 (.int .i64 (XhA vs.length)) (p27 (.int .i64 (XhA i)) t0))) := ⟨t, (show t = p6 (g6 t) (p25 (g25 t) (p26 (g26 t) (p27 (g27 t) t))) from rfl).trans (by rw [r6, r25, r26, r27])⟩
   clear r6 r25 r26 r27
   by_cases hlt : i < vs.length
   ·obtain ⟨a, wa, xa, hao, ga, na, ta⟩ := (sp.ext e2).nonempty (by omega)
    obtain ⟨v, hvi⟩ : ∃ v, vs[i]? = some v := ⟨_, XhL hlt⟩
    obtain ⟨l, hl, o, c, rfl, so⟩ := All2.get? hvs2 hvi
    have n1 : nth (a.off + i * 1) xa = some (.slice o l.length c) := by
     rw [XhI, Yf ta (by omega), hvi]
    have hl0 : l.length = 0 := by
     have h1 : (ls.take (i + 1)).flatten.length = (ls.take i).flatten.length + l.length := by
      rw [Xh6, hl, XiF, XhC]; simp
     have := tot (i + 1)
     omega
    rw [hao]
    refine R2 ?_
    refine VI (JS rfl rfl rfl so.elemsAll (by rw [hl0]; exact append_nil0)) ?_
    refine R ?_
    exact ⟨hlt, ⟨rfl, rfl, rfl, rfl⟩, rfl, rfl⟩
   ·refine R ?_
    have hfe : ls.flatten = [] := XiB hz
    rw [hfe]
    exact ⟨rfl, _, Xb (Xw rfl) Xg, none, 0, rfl, .empty _ _, (fun a e => nomatch e), e2⟩
  ·refine R ?_
   refine Yl vs.length 0 (fun i t x hk => ∃ tl, (g6 t = (.slice (some ⟨b, 0, some 1⟩) (ls.take i).flatten.length ls.flatten.length) /\ g25 t = (.slice po vs.length pc) /\ g26 t = (.int .i64 (XhA vs.length)) /\ g27 t = (.int .i64 (XhA i))) /\ x = ⟨[], none, none⟩ /\ Ext [b] h2 hk /\ hk.get b = some (.cells true (fl YU (ls.take i).flatten ++ tl)) /\ tl.length + (ls.take i).flatten.length = ls.flatten.length) ⟨cs, ⟨rfl, rfl, rfl, rfl⟩, rfl, (Ext.refl _).mono (fun _ hh => nomatch hh), gb, by simpa using hcs⟩ (XhO _) (XG (by omega)) ?_
   rintro i t x hk hi ⟨tl, ⟨r6, r25, r26, r27⟩, rfl, ek, gk, htl⟩
   obtain ⟨t0, rfl⟩ : ∃ t0, t = p6 (.slice (some ⟨b, 0, some 1⟩) (ls.take i).flatten.length ls.flatten.length) (p25 (.slice po vs.length pc) (p26 (.int .i64 (XhA vs.length)) (p27 (.int .i64 (XhA i)) t0))) := ⟨t, (show t = p6 (g6 t) (p25 (g25 t) (p26 (g26 t) (p27 (g27 t) t))) from rfl).trans (by rw [r6, r25, r26, r27])⟩
   clear r6 r25 r26 r27
   have hnb : ∀ x, x < h.next -> x ∉ [b] := fun x hx hm => by have := XhB.1 hm; omega
   have lk := ek.next
   have l2 := e2.next
   by_cases hlt : i < vs.length
   ·obtain ⟨a, wa, xa, hao, ga, na, ta⟩ := ((sp.ext e2).extS ek fun a ha => hnb _ (sp.lt a ha)).nonempty (by omega)
    obtain ⟨v, hvi⟩ : ∃ v, vs[i]? = some v := ⟨_, XhL hlt⟩
    obtain ⟨l, hl, o, c, rfl, so0⟩ := All2.get? hv hvi
    have so := (so0.ext e2).extS ek fun a ha => hnb _ (so0.lt a ha)
    have n1 : nth (a.off + i * 1) xa = some (.slice o l.length c) := by
     rw [XhI, Yf ta (by omega), hvi]
    have hfe : (ls.take (i + 1)).flatten = (ls.take i).flatten ++ l := by
     rw [Xh6, hl, XiF]; simp
    have hfl : (ls.take (i + 1)).flatten.length = (ls.take i).flatten.length + l.length := by rw [hfe, XhC]
    have := tot (i + 1)
    have hF := Zg (ls.take i).flatten
    have hK := Zg l
    rw [hao]
    refine R2 ?_
    by_cases hl0 : l.length = 0
    ·have hle : l = [] := XiB hl0
     subst hle
     refine VI (JS rfl rfl rfl so.elemsAll (append_none gk (by rw [XhC]; omega) (by omega) (by omega))) ?_
     refine R ?_
     refine ⟨hlt, tl, ⟨by rw [hfl]; rfl, rfl, rfl, rfl⟩, rfl, ek, ?_, by rw [hfl]; simpa using htl⟩
     rw [hfe, Xij]; exact gk
    ·refine VI (JS rfl rfl rfl so.elemsAll (append_room gk (by omega) (by omega) (by omega) (by rw [XhC]; omega))) ?_
     have ePut := Ext.put hk b (some (.cells true (XZ (fl YU l) (0 + (ls.take i).flatten.length * 1) (fl YU (ls.take i).flatten ++ tl))))
     have gPut := Heap.get_put_eq hk b (some (.cells true (XZ (fl YU l) (0 + (ls.take i).flatten.length * 1) (fl YU (ls.take i).flatten ++ tl))))
     generalize hk.put b (some (.cells true (XZ (fl YU l) (0 + (ls.take i).flatten.length * 1) (fl YU (ls.take i).flatten ++ tl)))) = h5 at ePut gPut ⊢
     refine R ?_
     refine ⟨hlt, tl.drop l.length, ⟨by rw [hfl]; rfl, rfl, rfl, rfl⟩, rfl, ek.trans ePut fun s hs => .inl hs, ?_, by rw [hfl, Xif]; omega⟩
     rw [gPut, hfe, Us]
     have hp := Yk (k := 0 + (ls.take i).flatten.length * 1) (a := fl YU (ls.take i).flatten) (b := tl.take l.length) (ys := fl YU l) (c := tl.drop l.length) (by omega) (by rw [hK, Xie]; omega)
     rw [Xiw] at hp
     rw [hp, <- Xh1]
   ·have hin : i = vs.length := by omega
    subst hin
    rw [show ls.take vs.length = ls by rw [hvl, Xh7]] at *
    have ht0 : tl = [] := XiB (by omega)
    subst ht0
    rw [Xij] at gk
    refine R ?_
    refine ⟨rfl, _, Xb (Xw rfl) Xg, _, _, rfl, ?_, fun a e => by cases e; exact hb1, e2.trans ek fun s hs => .inr (by rw [XhB.1 hs]; exact hb1)⟩
    exact ⟨by rw [Zg, XhI], XhE _, fun e => (nomatch e), fun a e => by cases e; exact .inr (.inr rfl), fun a e => by cases e; exact ⟨true, _, gk, by show b < hk.next; omega, XK (by rw [Zg, XhI])⟩⟩
end
section
variable {E : Env} {sg : Bool} (H : Has E)
include H
attribute [local irreducible] Sha
set_option maxHeartbeats 4000000 in
theorem seg_Splice_ok (m : Nat) (hm : 100000000 <= m) (h : Heap) (p gb db lb many : Nat) (L : List (List UInt8)) (noc : ∀ a ∈ L, ∀ b ∈ L, Sha a = Sha b -> a = b) (priv : List Nat) (s : StQ h p gb db lb many L priv) (hmany : many <= 65536) (cur ins new : List (List UInt8)) (at' out : Nat) (hc1 : cur.length <= 130) (hc2 : ∀ s ∈ cur, s.length <= 8000) (hc3 : ∀ b ∈ Yu cur, b ∈ L) (hao : at' + out <= cur.length)
  (hnew : new = cur.take at' ++ (ins ++ cur.drop (at' + out))) (hn1 : new.length <= 130) (hn2 : ∀ s ∈ new, s.length <= 8000) (hL : (XX L (Yu new)).length <= 1500) (hu : 2 + Yt (XX L (Yu new)) < many) (io : Option Addr) (ic : Nat) (si : Slc h 1 io ins.length ic (fl YU ins)) :
  (enter E (ctx E (m + 1200)) f_seg_Splice [.pointer (some ⟨p, 0, none⟩), .agg ⟨Xa (YC cur)⟩, .int .i64 (XhA at'), .int .i64 (XhA out), .slice io ins.length ic] h).Wp sg fun v h' => v = .tuple ⟨[.agg ⟨Xa (YC new)⟩, .int .i64 (XhA 0)]⟩ /\ ∃ priv', StQ h' p gb db lb many (XX L (Yu new)) priv' /\ Ext priv h h' /\ ∀ b ∈ priv', b ∈ priv \/ h.next <= b := by
 have hd1 := root32 cur hc1 hc2
 have hd2 := root32 new hn1 hn2
 have hmore := (Xd4 L (Yu new)).2
 have lt0 := s.lt
 refine H.run (k := Xge) rfl rfl rfl ?_
 dsimp only [Xge]
 have t1 : XU 32 (XY 0 (Xa (YC cur))) = some (Xa (YC cur)) := XK (by rw [Xc, hd1])
 refine X9 ?_
 refine X2 (by conv => lhs; whnf) rfl fun H1 B1 E1 L1 G1 N1 Q1 => ?_
 refine Xt fun H2 B2 E2 L2 G2 N2 Q2 => ?_
 refine R ?_
 have T3 := E2.get0 (by omega) G1
 refine R2 ?_
 refine Xj (Xi rfl (seg_List_T H (m + 1109) (by omega) _ p gb db lb many L (by omega) noc priv (s.ext (E1.trans0 E2)) cur hc1 hc2 hc3)) ?_
 rintro v h3 ⟨xo, xc, rfl, ox, fx, e3⟩
 have ea := (E1.trans0 E2).trans0 e3
 have gb2 := e3.get0 N2 G2
 have hat : at' <= cur.length := by omega
 have pos : ∀ (a : Nat), decide ((XhA a) < 0) = false := fun a => decide_eq_false (by show ¬ ((a : Int) < 0); omega)
 refine R ?_
 refine Xd (YY rfl rfl (by omega) (by omega)) ?_
 refine R ?_
 refine wp_dSub (l := 0) (r := at') ox.toSlc rfl rfl rfl (XhO _) hat rfl fun ao1 ca1 lg1 sl1 hb1 => ?_
 refine R ?_
 refine Xk (ZI rfl rfl (by omega)) rfl ?_
 refine wp_dSub (l := at' + out) (r := cur.length) ox.toSlc rfl rfl rfl hao (XhE _) rfl fun ao2 ca2 lg2 sl2 hb2 => ?_
 refine Xak (Xf (by conv => lhs; whnf) rfl rfl rfl (Xf (by conv => lhs; whnf) rfl rfl rfl (Xf (by conv => lhs; whnf) rfl rfl rfl XB))) (fun _ => rfl) fun H30 B30 E30 L30 G30 N30 Q30 => ?_
 have G30' : H30.get B30 = some (.cells true [.slice ao1 (at' - 0) ca1, .slice io ins.length ic, .slice ao2 (cur.length - (at' + out)) ca2]) := G30
 have l1 : (cur.take at').length = at' - 0 := by rw [Xie]; omega
 have l2 : (cur.drop (at' + out)).length = cur.length - (at' + out) := by rw [Xif]
 have eb := ea.trans0 E30
 have p1 : Slc H30 1 ao1 (cur.take at').length ca1 (fl YU (cur.take at')) := by
  have k := sl1.ext E30
  rw [XhI, XhI, XiN, Uu, <- Xi3, <- Uu] at k
  rw [l1]; exact k
 have p2 : Slc H30 1 ao2 (cur.drop (at' + out)).length ca2 (fl YU (cur.drop (at' + out))) := by
  have k := sl2.ext E30
  rw [XhI, XhI, Uu, <- List.map_drop, <- Xi3, <- Uu, <- l2, Xh7] at k
  rw [l2] at k ⊢; exact k
 have hpt : PtS H30 [.slice ao1 (at' - 0) ca1, .slice io ins.length ic, .slice ao2 (cur.length - (at' + out)) ca2] [cur.take at', ins, cur.drop (at' + out)] :=
  .cons ⟨ao1, ca1, by rw [l1], p1⟩ (.cons ⟨io, ic, rfl, si.ext eb⟩ (.cons ⟨ao2, ca2, by rw [l2], p2⟩ .nil))
 have hfl : [cur.take at', ins, cur.drop (at' + out)].flatten = new := by rw [hnew]; simp
 have lp := s.lt
 refine YL (Xi rfl (concat_ok H (m + 1197) (by omega) _ _ _ _ _ (Slc.of_get (z := 1) (n := 3) G30' N30 rfl) hpt (by simp) (by rw [hfl]; omega))) (fun _ _ _ => rfl) ?_
 rintro v h4 ⟨no, nc, rfl, sn, fn, e4⟩
 rw [hfl] at sn ⊢
 have l4 := e4.next
 have ec := eb.trans0 e4
 have lbn := eb.next
 refine YL (Xi rfl (XcO H (m + 61) (by omega) _ p gb db lb many L priv (s.ext ec) hmany new hn1 hn2 hL hu no nc sn (fun a ha hm => by have := lp _ hm; have := fn a ha; omega))) (fun _ _ _ => rfl) ?_
 rintro v h5 ⟨rfl, pr5, s5, e5, f5⟩
 have l5 := e5.next
 have n3 := e3.next
 have hB2 : B2 < h3.next := by omega
 have g5 := e5.getS (b := B2) (by omega) (fun hm => by have := lp _ hm; omega) (e4.get0 (by omega) (E30.get0 (by omega) gb2))
 have t2 : XU 32 (XY 0 (Xa (YC new))) = some (Xa (YC new)) := XK (by rw [Xc, hd2])
 refine R ?_
 refine Yw (o := 0) rfl rfl rfl g5 (by rw [Xc, hd2]) (XhH rfl) (fun _ => rfl) fun h6 e6 l6 g6 => ?_
 refine R ?_
 have hpw : XZ (Xa (YC new)) 0 Xr = Xa (YC new) := Yq (by rw [Xc, hd2]; rfl)
 rw [hpw] at g6
 refine ⟨rfl, _, Xb (Y4 rfl g6 t2) (Xb (Xw rfl) Xg), rfl, pr5, s5.extS e6 (fun x hx hm => ?_), ((ec.mono fun _ hh => nomatch hh).trans e5 fun x hx => .inl hx).trans e6 fun x hx => .inr (by have := XhB.1 hx; omega), fun b hb => ?_⟩
 ·rw [XhB.1 hm] at hx
  rcases f5 _ hx with k | k
  ·have := lp _ k; omega
  ·omega
 ·rcases f5 b hb with k | k
  ·exact .inl k
  ·exact .inr (by omega)
end
section
variable {E : Env} {sg : Bool} (H : Has E)
include H
theorem Pick_ok (m : Nat) (h : Heap) (a : Int) (n : Nat) (hn : 0 < n) (hn' : n <= 1000000) :
  (enter E (ctx E m) XeD [.int .i64 a, .int .i64 (XhA n)] h).Wp sg fun v h' => ∃ k, k < n /\ v = .int .i64 (XhA k) /\ h' = h := by
 refine H.run (k := Xap) rfl rfl rfl ?_
 dsimp only [Xap]
 refine R ?_
 have h1 : a.tmod n < n := Int.tmod_lt_of_pos a (by omega)
 have h2 : -(n : Int) < a.tmod n := Int.lt_tmod_of_pos a (by omega)
 refine Xd (l_remI rfl rfl (by show (n : Int) ≠ 0; omega)) ?_
 rw [show a.tmod (XhA n) = a.tmod n from rfl]
 generalize a.tmod n = z at h1 h2
 by_cases hz : z < 0
 ·refine R ?_
  refine Xd (l_lssI rfl rfl rfl) ?_
  refine R ?_
  refine Xd (YV rfl rfl rfl) ?_
  refine R ?_
  exact ⟨rfl, _, Xb (Xw rfl) Xg, (z + n).toNat, by omega, congrArg (Value.int .i64) ((wrap64 (a := z + XhA n) (by show _ <= z + (n : Int); omega) (by show z + (n : Int) <= _; omega)).trans (show z + (n : Int) = (((z + n).toNat : Nat) : Int) by omega)), rfl⟩
 ·refine R ?_
  refine Xd (l_lssI rfl rfl rfl) ?_
  refine R ?_
  exact ⟨rfl, _, Xb (Xw rfl) Xg, z.toNat, by omega, congrArg (Value.int .i64) (show z = ((z.toNat : Nat) : Int) by omega), rfl⟩
end
def Xhh (xs : List (List UInt8)) (i : Nat) : List (List UInt8) := ((List.range i).map fun j => Yu (xs.take j)).flatten
theorem prefP_succ (xs : List (List UInt8)) (i : Nat) : Xhh xs (i + 1) = Xhh xs i ++ Yu (xs.take i) := by
 unfold Xhh; rw [List.range_succ, Xh2, XiF]; simp
def XgG (xs ys : List (List UInt8)) (k : Nat) : List (List UInt8) := Yu (xs.take k ++ ys) ++ Xhh xs (xs.length + 1)
theorem prefP_mem {xs : List (List UInt8)} {b : List UInt8} {i j : Nat} (h : b ∈ Yu (xs.take j)) (hj : j < i) : b ∈ Xhh xs i := by
 unfold Xhh
 exact XiK.2 ⟨_, XhW.2 ⟨j, List.mem_range.2 hj, rfl⟩, h⟩
theorem prefP_small {xs : List (List UInt8)} (hx : xs.length <= 60) (hs : ∀ s ∈ xs, s.length <= 100) : ∀ i, (Xhh xs i).length <= 129 * i /\ ∀ b ∈ Xhh xs i, b.length <= 820
 | 0 => ⟨by simp [Xhh], fun b h => by simp [Xhh] at h⟩
 | i + 1 => by
  obtain ⟨h1, h2⟩ := prefP_small hx hs i
  obtain ⟨h3, h4, _⟩ := puts_small (texts := xs.take i) (by rw [Xie]; omega) fun s h => hs s (Xiu h)
  rw [prefP_succ]
  refine ⟨by rw [XhC]; omega, fun b hb => ?_⟩
  rcases XhV.1 hb with k | k
  ·exact h2 b k
  ·exact h4 b k
theorem puts_820 {texts : List (List UInt8)} (ht : texts.length <= 120) (hs : ∀ s ∈ texts, s.length <= 100) : ∀ b ∈ Yu texts, b.length <= 820 := by
 obtain ⟨h1, h2⟩ := XgF ht hs
 exact rows_small 130 0 (leaves texts) (fun n hn => (h1 n hn).1) (by omega) (by omega)
theorem sub_fl {xs : List (List UInt8)} {l r : Nat} (h : l <= r) (hr : r <= xs.length) : ((fl YU xs).drop (l * 1)).take ((r - l) * 1) = fl YU ((xs.drop l).take (r - l)) := by
 rw [XhI, XhI, Uu, <- List.map_drop, <- Xi3, <- Uu]
section
variable {E : Env} {sg : Bool} (H : Has E)
include H
attribute [local irreducible] Sha
set_option maxHeartbeats 4000000 in
theorem law21_steps_ok (m : Nat) (hm : 100000000 <= m) (h : Heap) (xs ys : List (List UInt8)) (xo yo : Option Addr) (xc yc k : Nat) (hk : k <= xs.length) (sx : Slc h 1 xo xs.length xc (fl YU xs)) (sy : Slc h 1 yo ys.length yc (fl YU ys)) (hx : xs.length <= 60) (hy : ys.length <= 60) (hxs : ∀ s ∈ xs, s.length <= 100) (hys : ∀ s ∈ ys, s.length <= 100) :
  (enter E (ctx E (m + 9)) Xb2 [.slice xo xs.length xc, .slice yo ys.length yc, .int .i64 (XhA k)] h).Wp sg fun v h' => ∃ b, v = .bool b /\ (b = false -> NoC (XgG xs ys k)) /\ Ext [] h h' := by
 refine H.run (k := UG) rfl rfl rfl ?_
 dsimp only [UG]
 have lk : (xs.take k).length = k - 0 := by rw [Xie]; omega
 have l0 : (xs.take k ++ ys).length <= 120 := by rw [XhC]; omega
 have hs0 : ∀ s ∈ xs.take k ++ ys, s.length <= 100 := fun s hs => by
  rcases XhV.1 hs with q | q
  ·exact hxs s (Xiu q)
  ·exact hys s q
 refine R ?_
 refine XJ XB fun H1 B1 E1 L1 G1 N1 Q1 => ?_
 refine R ?_
 refine Xal (l := 0) (r := k) (sx.ext E1) rfl rfl rfl (XhO _) hk fun ao1 ca1 sl1 hb1 => ?_
 rw [sub_fl (XhO _) hk, XiN, XiV] at sl1
 have o1 : Own H1 1 (some ⟨B1, 0, none⟩) 0 0 [] := .lit G1 N1
 rw [XiV]
 refine XP o1 rfl rfl rfl sl1.elemsAll (by rw [Zg, lk]; omega) (by omega) fun ao2 ca2 h2 o2 e2 l2 f2 => ?_
 refine R ?_
 have n1 := E1.next
 have e12 : Ext [] h h2 := E1.trans e2 fun s hs => .inr (by have e : s = B1 := XhB.1 hs; omega)
 refine XP o2 rfl rfl rfl (sy.ext e12).elemsAll (by rw [Zg]; omega) (by omega) fun ao3 ca3 h3 o3 e3 l3 f3 => ?_
 have hln : 0 + k + ys.length = (xs.take k ++ ys).length := by rw [XhC, lk]; omega
 have hfe : [] ++ fl YU (xs.take k) ++ fl YU ys = fl YU (xs.take k ++ ys) := by rw [Us]; rfl
 rw [hfe, hln] at o3
 rw [hln]
 have e13 : Ext [] h h3 := e12.trans e3 fun s hs => .inr (by
  obtain ⟨a, h1, rfl⟩ := Xu hs
  rcases f2 a h1 with q | q
  ·have e : a.block = B1 := XhB.1 q; omega
  ·omega)
 have n3 := e13.next
 refine Xj (Xi rfl (ref21_Puts_ok H m hm _ (xs.take k ++ ys) ao3 ca3 _ rfl o3.toSlc (by omega) (fun s hs => by have := hs0 s hs; omega))) ?_
 rintro v h4 ⟨oo, oc, vs, fp, rfl, row, e4⟩
 have n4 := e4.next
 have e14 := e13.trans0 e4
 have row0 : RowV h4 h.next oo oc none 0 vs [] (Yu (xs.take k ++ ys)) fp := ⟨row.o, row.i, row.b, fun x hx => Xh4 n3 (row.ob x hx), (fun _ h => nomatch h), fun x hx => ⟨Xh4 n3 (row.fb x hx).1, (row.fb x hx).2⟩, row.oi⟩
 have k0 := row0.b.bytes
 obtain ⟨u1, u2⟩ := used_puts l0 hs0
 have u3 := puts_820 l0 hs0
 refine R ?_
 refine Yl (xs.length + 1) 0 (fun i t x hk => ∃ oo oc vs fp, (g0 t = (.slice xo xs.length xc) /\ g7 t = (.slice oo vs.length oc) /\ g8 t = (.int .i64 (XhA i))) /\ x = ⟨[], none, none⟩ /\ Ext [] h hk /\ RowV hk h.next oo oc none 0 vs [] (Yu (xs.take k ++ ys) ++ Xhh xs i) fp) ⟨oo, oc, vs, fp, ⟨rfl, rfl, rfl⟩, rfl, e14, by rw [show Xhh xs 0 = [] from rfl, Xij]; exact row0⟩ (XhO _) (XG (by omega)) ?_
 rintro i t x hk hi ⟨oo, oc, vs, fp, ⟨r0, r7, r8⟩, rfl, ek, row⟩
 obtain ⟨t0, rfl⟩ : ∃ t0, t = p0 (.slice xo xs.length xc) (p7 (.slice oo vs.length oc) (p8 (.int .i64 (XhA i)) t0)) := ⟨t, (show t = p0 (g0 t) (p7 (g7 t) (p8 (g8 t) t)) from rfl).trans (by rw [r0, r7, r8])⟩
 clear r0 r7 r8
 have k1 := row.b.bytes
 have u4 := prefP_small hx hxs i
 rw [XhC] at k1
 by_cases hlt : i < xs.length + 1
 ·have hix : i <= xs.length := by omega
  refine R ?_
  refine Xd (l_leqN rfl rfl rfl) ?_
  refine R ?_
  refine Xal (l := 0) (r := i) (sx.ext ek) rfl rfl rfl (XhO _) hix fun ao1 ca1 sl1 hb1 => ?_
  rw [sub_fl (XhO _) hix, XiN, XiV] at sl1
  rw [XiV]
  have li : (xs.take i).length = i := by rw [Xie]; omega
  refine Xj (Xi rfl (ref21_Puts_ok H m hm _ (xs.take i) ao1 ca1 i li sl1 (by omega) (fun s hs => by have := hxs s (Xiu hs); omega))) ?_
  rintro v h5 ⟨oo2, oc2, vs2, fp2, rfl, row2, e5⟩
  have n5 := e5.next
  have nk := ek.next
  have row1 := row.ext e5
  have k2 := row2.b.bytes
  obtain ⟨u5, u6, _⟩ := puts_small (texts := xs.take i) (by omega) fun s h => hxs s (Xiu h)
  refine XP row1.o rfl rfl rfl row2.o.toSlc.elemsAll (by rw [XhI]) (by omega) fun xo3 xc3 h6 o6 e6 l6 f6 => ?_
  have row3 := row1.appM row2.b (fun x hx => by
   have q1 := row2.fb x hx
   refine ⟨by omega, q1.2.1, fun hm => ?_⟩
   obtain ⟨q, k2, k3⟩ := Xu hm
   have := row.o.toSlc.lt q k2; omega) o6 e6 f6 (by omega)
  rw [Xh1, <- prefP_succ] at row3
  have eF : Ext [] h h6 := (ek.trans0 e5).trans e6 (fun x hx => .inr (row.ob x hx))
  refine R ?_
  exact ⟨hlt, xo3, xc3, vs ++ vs2, fp2 ++ fp, ⟨rfl, by rw [XhC]; rfl, rfl⟩, rfl, eF, row3⟩
 ·have hin : i = xs.length + 1 := by omega
  subst hin
  refine R ?_
  refine Xd (l_leqN rfl rfl rfl) ?_
  refine R ?_
  refine Xj (Xi rfl (ref02_Clash_ok H (m + 1) (by omega) _ vs _ oo oc _ rfl row.o.toSlc fp (fun b hb => (row.fb b hb).2.1) row.b (fun b hb => by
   rcases XhV.1 hb with q | q
   ·have := u3 b q; omega
   ·have := u4.2 b q; omega) (by omega))) ?_
  rintro v h5 ⟨b, rfl, hb, e5⟩
  refine R ?_
  exact ⟨rfl, _, Xb (Xw rfl) Xg, b, rfl, hb, ek.trans0 e5⟩
end
section
variable {E : Env} {sg : Bool} (H : Has E)
include H
attribute [local irreducible] Sha
set_option maxHeartbeats 8000000 in
theorem law21_SegOnce_ok (m : Nat) (hm : 100000000 <= m) (h : Heap) (xs ys : List (List UInt8)) (xo yo : Option Addr) (xc yc : Nat) (z : Int) (sx : Slc h 1 xo xs.length xc (fl YU xs)) (sy : Slc h 1 yo ys.length yc (fl YU ys)) :
  (enter E (ctx E (m + 1201)) f_retconlaw21_SegOnce [.slice xo xs.length xc, .slice yo ys.length yc, .int .i64 z] h).Wp sg fun v h' => v = .bool true := by
 refine H.run (k := k_retconlaw21_SegOnce) rfl rfl rfl ?_
 dsimp only [k_retconlaw21_SegOnce]
 refine R ?_
 refine X6 (Xi rfl (H.true rfl)) ?_
 refine R ?_
 refine Xj (Xi rfl (law21_made_ok H (m + 1194) (by omega) _)) ?_
 rintro v h1 ⟨p, gb, db, lb, priv, rfl, s1, hpr, e1⟩
 have l1 := e1.next
 have lt1 := s1.lt
 refine R ?_
 refine Xj (Xi rfl (law21_made_ok H (m + 1194) (by omega) _)) ?_
 rintro v h2 ⟨q, gb2, db2, lb2, priv2, rfl, s2, hpr2, e2⟩
 have l2 := e2.next
 have lt2 := s2.lt
 refine R ?_
 refine Xd rfl ?_
 refine R ?_
 refine Xd rfl ?_
 refine R ?_
 have e12 := e1.trans0 e2
 refine Xj (Xi rfl (law21_big_ok H _ (by omega) _ xs xo xc (sx.ext e12))) ?_
 rintro v h3 ⟨r, rfl, hr, rfl⟩
 cases r with
 | true =>
  refine R ?_
  exact ⟨rfl, _, Xb (Xw rfl) Xg, rfl⟩
 | false =>
 obtain ⟨hx60, hx100⟩ := hr rfl
 refine R ?_
 refine Xj (Xi rfl (law21_big_ok H _ (by omega) _ ys yo yc (sy.ext e12))) ?_
 rintro v h3 ⟨r, rfl, hr, rfl⟩
 cases r with
 | true =>
  refine R ?_
  exact ⟨rfl, _, Xb (Xw rfl) Xg, rfl⟩
 | false =>
 obtain ⟨hy60, hy100⟩ := hr rfl
 refine R ?_
 refine Xj (Xi rfl (Pick_ok H _ _ z (xs.length + 1) (by omega) (by omega))) ?_
 rintro v h3 ⟨k, hk1, rfl, rfl⟩
 have hk : k <= xs.length := by omega
 refine R ?_
 refine Xj (Xi rfl (law21_steps_ok H (m + 1191) (by omega) _ xs ys xo yo xc yc k hk (sx.ext e12) (sy.ext e12) hx60 hy60 hx100 hy100)) ?_
 rintro v h3 ⟨r, rfl, hr, e3⟩
 have l3 := e3.next
 cases r with
 | true =>
  refine R ?_
  exact ⟨rfl, _, Xb (Xw rfl) Xg, rfl⟩
 | false =>
 have noc := hr rfl
 have hx8 : ∀ s ∈ xs, s.length <= 8000 := fun s hs => by have := hx100 s hs; omega
 have hxl := sx.lt
 have hyl := sy.lt
 have e03 := e12.trans0 e3
 obtain ⟨px1, px2⟩ := used_puts (texts := xs) (by omega) hx100
 have pa := JX [] (Yu xs)
 simp only [Yt, Xjh] at pa
 refine R ?_
 refine Xj (Xi rfl (XcO H (m + 62) (by omega) _ p gb db lb 4000 [] priv (s1.ext (e2.trans0 e3)) (by decide) xs (by omega) hx8 (by omega) (by omega) xo xc (sx.ext e03) (fun a ha hm => by have := hpr _ hm; have := hxl a ha; omega))) ?_
 rintro v h4 ⟨rfl, pr4, s4, e4, q4⟩
 have l4 := e4.next
 have hrx : (YC xs).length = 32 := root32 xs (by omega) hx8
 have hrxv : (Xa (YC xs)).length = 32 := by rw [Xc, hrx]
 refine R ?_
 refine Xt fun H60 B60 E60 L60 G60 N60 Q60 => ?_
 refine Xm rfl (by conv => lhs; whnf) rfl G60 (by assumption) (XhH rfl) fun H61 E61 L61 G61 => ?_
 refine R ?_
 refine XJ XB fun H62 B62 E62 L62 G62 N62 Q62 => ?_
 refine R ?_
 have e04 : Ext [] h h4 := e03.trans e4 fun s hs => .inr (hpr s hs)
 have n04 := e04.next
 have e61 : Ext [] h4 H61 := E60.trans1 E61 (by omega)
 have e06 := (e04.trans0 e61).trans0 E62
 have g61 : H61.get B60 = some (.cells true (Xa (YC xs))) := G61.trans (congrArg (fun z => some (AObj.cells true z)) (Yq hrxv))
 have s2b := ((s2.ext e3).extS e4 fun x hx hm => by have := hpr2 x hx; have := lt1 x hm; omega).ext e61
 have lk : (xs.take k).length = k := by rw [Xie]; omega
 obtain ⟨zs, hzs⟩ : ∃ zs, zs = xs.take k ++ ys := ⟨_, rfl⟩
 have lz : zs.length = k + ys.length := by rw [hzs, XhC, lk]
 have hz100 : ∀ s ∈ zs, s.length <= 100 := fun s hs => by
  rw [hzs] at hs
  rcases XhV.1 hs with q | q
  ·exact hx100 s (Xiu q)
  ·exact hy100 s q
 have hz8 : ∀ s ∈ zs, s.length <= 8000 := fun s hs => by have := hz100 s hs; omega
 obtain ⟨pz1, pz2⟩ := used_puts (texts := zs) (by omega) hz100
 have paz := JX [] (Yu zs)
 simp only [Yt, Xjh] at paz
 refine Xal (l := 0) (r := k) (sx.ext e06) rfl rfl rfl (XhO _) hk fun ao1 ca1 sl1 hb1 => ?_
 rw [sub_fl (XhO _) hk, XiN, XiV] at sl1
 rw [XiV]
 have o1 : Own H62 1 (some ⟨B62, 0, none⟩) 0 0 [] := .lit G62 N62
 refine XP o1 rfl rfl rfl sl1.elemsAll (by rw [Zg, lk]; omega) (by omega) fun ao2 ca2 h7 o7 e7 l7 f7 => ?_
 refine R ?_
 have e617 : Ext [] H61 h7 := E62.trans e7 fun s hs => .inr (by have e : s = B62 := XhB.1 hs; omega)
 have e07 := (e04.trans0 e61).trans0 e617
 refine XP o7 rfl rfl rfl (sy.ext e07).elemsAll (by rw [Zg]; omega) (by omega) fun ao3 ca3 h8 o8 e8 l8 f8 => ?_
 have hln : 0 + k + ys.length = zs.length := by omega
 have hfe : [] ++ fl YU (xs.take k) ++ fl YU ys = fl YU zs := by rw [hzs, Us]; rfl
 rw [hfe, hln] at o8
 rw [hln]
 have n61 := e61.next
 have b2 : ∀ s ∈ XD ao2, H61.next <= s := fun s hs => by
  obtain ⟨a, h1, rfl⟩ := Xu hs
  rcases f7 a h1 with q | q
  ·have e : a.block = B62 := XhB.1 q; omega
  ·omega
 have b3 : ∀ a, ao3 = some a -> H61.next <= a.block := fun a ha => by
  rcases f8 a ha with q | q
  ·exact b2 _ q
  ·have := e617.next; omega
 have e618 : Ext [] H61 h8 := e617.trans e8 fun s hs => .inr (b2 s hs)
 have e08 := (e04.trans0 e61).trans0 e618
 have n618 := e618.next
 refine Xj (Xi rfl (XcO H (m + 62) (by omega) _ q gb2 db2 lb2 4000 [] priv2 (s2b.ext e618) (by decide) zs (by omega) hz8 (by omega) (by omega) ao3 ca3 o8.toSlc (fun a ha hm => by have := lt2 _ hm; have := b3 a ha; omega))) ?_
 rintro v h9 ⟨rfl, pr9, s9, e9, q9⟩
 have l9 := e9.next
 have e09 : Ext [] h h9 := e08.trans e9 fun s hs => .inr (by have := hpr2 s hs; omega)
 have hrz : (YC zs).length = 32 := root32 zs (by omega) hz8
 have hrzv : (Xa (YC zs)).length = 32 := by rw [Xc, hrz]
 have g9 := e9.getS (b := B60) (by omega) (fun hm => by have := lt2 _ hm; omega) (e618.get0 (by omega) g61)
 have trz : XU 32 (XY 0 (Xa (YC zs))) = some (Xa (YC zs)) := XK hrzv
 refine R ?_
 refine Xt fun H80 B80 E80 L80 G80 N80 Q80 => ?_
 refine Xm rfl (by conv => lhs; whnf) rfl G80 (by assumption) (XhH rfl) fun H81 E81 L81 G81 => ?_
 refine R ?_
 have n09 := e09.next
 have g81 : H81.get B80 = some (.cells true (Xa (YC zs))) := G81.trans (congrArg (fun z => some (AObj.cells true z)) (Yq hrzv))
 have e981 : Ext [] h9 H81 := E80.trans1 E81 (by omega)
 have e081 := e09.trans0 e981
 have gb81 := e981.get0 (by omega) g9
 have b9 : ∀ x ∈ pr9, x < h9.next := s9.lt
 refine Xk (XdJ rfl g81 trz) rfl ?_
 refine R ?_
 refine wp_dSub (l := k) (r := xs.length) (sx.ext e081) rfl rfl rfl hk (XhE _) rfl fun ao4 ca4 lg4 sl4 hb4 => ?_
 rw [sub_fl hk (XhE _)] at sl4
 have ld : ((xs.drop k).take (xs.length - k)) = xs.drop k := Xi6 (by rw [Xif]; omega)
 have ldl : (xs.drop k).length = xs.length - k := Xif
 rw [ld] at sl4
 rw [<- ldl] at sl4 ⊢
 have subz : ∀ b ∈ XX [] (Yu zs), b ∈ XgG xs ys k := fun b hb => by
  rcases XaH hb with q | q
  ·exact nomatch q
  ·unfold XgG; rw [<- hzs]; exact XiE _ q
 have subx : ∀ i, i <= xs.length -> ∀ b ∈ Yu (xs.take i), b ∈ XgG xs ys k := fun i hi b hb => XiC _ (prefP_mem hb (by omega))
 have subx' : ∀ b ∈ Yu xs, b ∈ XgG xs ys k := fun b hb => subx xs.length (XhE _) b (by rw [Xh7]; exact hb)
 have inz : ∀ b ∈ Yu zs, b ∈ XX [] (Yu zs) := putAll_mem fun a ha c hc => noc.2 a (by
  rw [List.nil_append] at ha; unfold XgG; rw [<- hzs]; exact XiE _ ha) c (by
  rw [List.nil_append] at hc; unfold XgG; rw [<- hzs]; exact XiE _ hc)
 have pab := JX (XX [] (Yu zs)) (Yu xs)
 refine YL (Xi rfl (seg_Splice_ok H m hm _ q gb2 db2 lb2 4000 (XX [] (Yu zs)) (fun a ha b hb => noc.2 a (subz a ha) b (subz b hb)) pr9 (s9.ext e981) (by decide) zs (xs.drop k) xs k ys.length (by omega) hz8 inz (by omega) (by
  have h1 : zs.drop (k + ys.length) = [] := Xjq (by omega)
  have h2 : zs.take k = xs.take k := by rw [hzs]; exact List.take_left' lk
  rw [h1, h2, Xij, Xiw]) (by omega) hx8 (by omega) (by omega) ao4 ca4 sl4)) (fun _ _ _ => rfl) ?_
 rintro v h10 ⟨rfl, pr10, s10, e10, q10⟩
 refine R ?_
 refine Xf9 (fun _ => rfl) fun H90 B90 E90 L90 G90 N90 Q90 => ?_
 refine Yw rfl (by conv => lhs; whnf) rfl G90 (by assumption) (XhH rfl) (fun _ => rfl) fun H91 E91 L91 G91 => ?_
 refine R ?_
 have hvx : XZ (Xa (YC xs)) 0 Xr = Xa (YC xs) := Yq hrxv
 have l10 := e10.next
 have n81 := e081.next
 have g91 : H91.get B90 = some (.cells true (Xa (YC xs))) := G91.trans (congrArg (fun z => some (AObj.cells true z)) hvx)
 have e1091 : Ext [] h10 H91 := E90.trans1 E91 (by omega)
 have e010 : Ext [] h h10 := e081.trans e10 fun s hs => .inr (by
  rcases q9 s hs with w | w
  ·have := hpr2 s w; omega
  ·have := e08.next; omega)
 have np9 : ∀ x ∈ pr9, x ≠ B60 := fun x hx => by
  rcases q9 x hx with w | w
  ·have := lt2 x w; omega
  ·omega
 have gb10 := e10.getS (b := B60) (by omega) (fun hm => np9 _ hm rfl) gb81
 have gb91 := e1091.get0 (by omega) gb10
 have pac := JX (XX (XX [] (Yu zs)) (Yu xs)) (Yu [])
 obtain ⟨pn1, pn2⟩ := used_puts (texts := []) (by simp) (fun s hs => nomatch hs)
 simp only [Xjh] at pn1 pn2
 have lt10 := s10.lt
 refine Xj (Xi rfl (XcO H (m + 62) (by omega) _ q gb2 db2 lb2 4000 (XX (XX [] (Yu zs)) (Yu xs)) pr10 (s10.ext e1091) (by decide) [] (by simp) (fun s hs => nomatch hs) (by omega) (by omega) none 0 (.empty _ _) (fun a ha => nomatch ha))) ?_
 rintro v h11 ⟨rfl, pr11, s11, e11, q11⟩
 have l11 := e11.next
 have n91 := e1091.next
 have hrn : (YC ([] : List (List UInt8))).length = 32 := root32 [] (by simp) (fun s hs => nomatch hs)
 have hrnv : (Xa (YC ([] : List (List UInt8)))).length = 32 := by rw [Xc, hrn]
 have np10 : ∀ x ∈ pr10, x ≠ B60 /\ x ≠ B90 := fun x hx => by
  rcases q10 x hx with w | w
  ·have := np9 x w; have := b9 x w; omega
  ·have := lt10 x hx; omega
 have gb11 := e11.getS (b := B60) (by omega) (fun hm => (np10 _ hm).1 rfl) gb91
 have gc11 := e11.getS (b := B90) (by omega) (fun hm => (np10 _ hm).2 rfl) g91
 refine R ?_
 refine Xt fun H100 B100 E100 L100 G100 N100 Q100 => ?_
 refine Xm rfl (by conv => lhs; whnf) rfl G100 (by assumption) (XhH rfl) fun H101 E101 L101 G101 => ?_
 refine R ?_
 have n100 := E100.next
 have g101 : H101.get B100 = some (.cells true (Xa (YC ([] : List (List UInt8))))) := G101.trans (congrArg (fun z => some (AObj.cells true z)) (Yq hrnv))
 have e1101 : Ext [] h11 H101 := E100.trans1 E101 (by omega)
 have ge : ∀ {pr : List Nat} {a : Heap}, (∀ x ∈ pr10, h.next <= x) -> h.next <= a.next -> (∀ x ∈ pr, x ∈ pr10 \/ a.next <= x) -> ∀ x ∈ pr, h.next <= x := fun h1 h2 h3 x hx => (h3 x hx).elim (h1 x) (Xh4 h2)
 have n08 := e08.next
 have hp9 : ∀ x ∈ pr9, h.next <= x := fun x hx => by
  rcases q9 x hx with w | w
  ·have := hpr2 x w; omega
  ·omega
 have hp10 : ∀ x ∈ pr10, h.next <= x := fun x hx => by
  rcases q10 x hx with w | w
  ·exact hp9 x w
  ·omega
 have n010 := e010.next
 have hp11 : ∀ x ∈ pr11, h.next <= x := fun x hx => by
  rcases q11 x hx with w | w
  ·exact hp10 x w
  ·omega
 have np11 : ∀ x ∈ pr11, x ≠ B60 /\ x ≠ B90 /\ x < h11.next := fun x hx => by
  have h1 := s11.lt x hx
  rcases q11 x hx with w | w
  ·have := np10 x w; omega
  ·omega
 have e011 : Ext [] h h11 := (e010.trans0 e1091).trans e11 fun s hs => .inr (hp10 s hs)
 have n011 := e011.next
 have tidx := KM 32 (YC xs) (YC xs) hrx hrx
 have trx : XU 32 (XY 0 (Xa (YC xs))) = some (Xa (YC xs)) := XK hrxv
 obtain ⟨L0, hL0⟩ : ∃ L0, L0 = XX (XX (XX [] (Yu zs)) (Yu xs)) (Yu []) := ⟨_, rfl⟩
 rw [<- hL0] at s11 pac
 have sub0 : ∀ b ∈ L0, b ∈ XgG xs ys k := fun b hb => by
  rw [hL0] at hb
  rcases XaH hb with w | w
  ·rcases XaH w with w | w
   ·exact subz b w
   ·exact subx' b w
  ·exact subx 0 (XhO _) b w
 have in0 : ∀ b ∈ Yu ([] : List (List UInt8)), b ∈ L0 := by
  rw [hL0]
  exact putAll_mem fun a ha c hc => noc.2 a (by
   rcases XhV.1 ha with w | w
   ·rcases XaH w with w | w
    ·exact subz a w
    ·exact subx' a w
   ·exact subx 0 (XhO _) a w) c (by
   rcases XhV.1 hc with w | w
   ·rcases XaH w with w | w
    ·exact subz c w
    ·exact subx' c w
   ·exact subx 0 (XhO _) c w)
 refine Yl xs.length 0 (fun i t x hk => ∃ L pr, (g0 t = (.slice xo xs.length xc) /\ g7 t = (.bool true) /\ g11 t = (.pointer (some ⟨q, 0, none⟩)) /\ g12 t = (.pointer (some ⟨B60, 0, none⟩)) /\ g13 t = (.int .i64 (XhA 0)) /\ g15 t = (.int .i64 (XhA 0)) /\ g16 t = (.pointer (some ⟨B90, 0, none⟩)) /\ g17 t = (.int .i64 (XhA 0)) /\ g18 t = (.pointer (some ⟨B100, 0, none⟩)) /\ g19 t = (.int .i64 (XhA 0)) /\ g20 t = (.int .i64 (XhA i))) /\ x = ⟨[], none, none⟩ /\ Ext [] h hk /\ H101.next <= hk.next /\ StQ hk q gb2 db2 lb2 4000 L pr /\ (∀ b ∈ L, b ∈ XgG xs ys k) /\ (∀ b ∈ Yu (xs.take i), b ∈ L) /\ Yt L <= 1314 + 44 * i /\ L.length <= 400 + 7 * i /\ (∀ x ∈ pr, x ≠ B60 /\ x ≠ B90 /\ x ≠ B100 /\ h.next <= x) /\ hk.get B60 = some (.cells true (Xa (YC xs))) /\ hk.get B90 = some (.cells true (Xa (YC xs))) /\ hk.get B100 = some (.cells true (Xa (YC (xs.take i)))))
  ⟨L0, pr11, ⟨rfl, rfl, rfl, rfl, rfl, rfl, rfl, rfl, rfl, rfl, rfl⟩, rfl, e011.trans0 e1101, XhE _, s11.ext e1101, sub0, in0, by omega, by omega, fun x hx => ⟨(np11 x hx).1, (np11 x hx).2.1, by have := (np11 x hx).2.2; omega, hp11 x hx⟩, e1101.get0 (by omega) gb11, e1101.get0 (by omega) gc11, g101⟩ (XhO _) (XG (by omega)) ?_
 rintro i t x hk' hi ⟨L, pr, ⟨r0, r7, r11, r12, r13, r15, r16, r17, r18, r19, r20⟩, rfl, ek, nk, sk, subL, inL, uL, lL, hpk, gA, gB, gC⟩
 obtain ⟨t0, rfl⟩ : ∃ t0, t = p0 (.slice xo xs.length xc) (p7 (.bool true) (p11 (.pointer (some ⟨q, 0, none⟩)) (p12 (.pointer (some ⟨B60, 0, none⟩)) (p13 (.int .i64 (XhA 0)) (p15 (.int .i64 (XhA 0)) (p16 (.pointer (some ⟨B90, 0, none⟩)) (p17 (.int .i64 (XhA 0)) (p18 (.pointer (some ⟨B100, 0, none⟩)) (p19 (.int .i64 (XhA 0)) (p20 (.int .i64 (XhA i)) t0)))))))))) := ⟨t, (show t = p0 (g0 t) (p7 (g7 t) (p11 (g11 t) (p12 (g12 t) (p13 (g13 t) (p15 (g15 t) (p16 (g16 t) (p17 (g17 t) (p18 (g18 t) (p19 (g19 t) (p20 (g20 t) t)))))))))) from rfl).trans (by rw [r0, r7, r11, r12, r13, r15, r16, r17, r18, r19, r20])⟩
 clear r0 r7 r11 r12 r13 r15 r16 r17 r18 r19 r20
 have ltk := sk.lt
 by_cases hlt : i < xs.length
 ·have hri : (YC (xs.take i)).length = 32 := root32 _ (by rw [Xie]; omega) fun s hs => hx8 s (Xiu hs)
  have hriv : (Xa (YC (xs.take i))).length = 32 := by rw [Xc, hri]
  have tri : XU 32 (XY 0 (Xa (YC (xs.take i)))) = some (Xa (YC (xs.take i))) := XK hriv
  refine R2 ?_
  refine wp_dSub (l := i) (r := i + 1) (sx.ext ek) rfl rfl rfl (Xil _) hlt rfl fun ao5 ca5 lg5 sl5 hb5 => ?_
  obtain ⟨x1, hx1⟩ : ∃ x1, xs[i]? = some x1 := ⟨_, XhL hlt⟩
  have hone : (xs.drop i).take (i + 1 - i) = [x1] := by
   rw [Nat.add_sub_cancel_left, XiX hlt, (Xig.1 hx1).2]; rfl
  have hsucc : xs.take (i + 1) = xs.take i ++ [x1] := by rw [Xh6, hx1]; rfl
  rw [sub_fl (Xil i) hlt, hone] at sl5
  rw [show i + 1 - i = [x1].length by simp] at sl5 ⊢
  have lti : (xs.take i).length = i := by rw [Xie]; omega
  have lts : (xs.take (i + 1)).length = i + 1 := by rw [Xie]; omega
  obtain ⟨um1, um2⟩ := used_more (l := xs.take i) (x := x1) (L := L) (by omega) (by rw [<- hsucc]; exact fun s hs => hx100 s (Xiu hs)) inL
  rw [<- hsucc] at um1 um2
  have hrs : (YC (xs.take (i + 1))).length = 32 := root32 _ (by omega) fun s hs => hx8 s (Xiu hs)
  have hrsv : (Xa (YC (xs.take (i + 1)))).length = 32 := by rw [Xc, hrs]
  refine YL (Xi rfl (seg_Splice_ok H m hm _ q gb2 db2 lb2 4000 L (fun a ha b hb => noc.2 a (subL a ha) b (subL b hb)) pr sk (by decide) (xs.take i) [x1] (xs.take (i + 1)) i 0 (by omega) (fun s hs => hx8 s (Xiu hs)) inL (by omega) (by
   have h1 : (xs.take i).drop (i + 0) = [] := Xjq (by omega)
   have h2 : (xs.take i).take i = xs.take i := Xi6 (by omega)
   rw [h1, h2, Xij, hsucc]) (by omega) (fun s hs => hx8 s (Xiu hs)) (by omega) (by omega) ao5 ca5 sl5)) (fun _ _ _ => rfl) ?_
  rintro v h6 ⟨rfl, pr6, s6, e6, q6⟩
  have l6 := e6.next
  have gA6 := e6.getS (b := B60) (by omega) (fun hm => (hpk _ hm).1 rfl) gA
  have gB6 := e6.getS (b := B90) (by omega) (fun hm => (hpk _ hm).2.1 rfl) gB
  have gC6 := e6.getS (b := B100) (by omega) (fun hm => (hpk _ hm).2.2.1 rfl) gC
  have nek := ek.next
  have hp6 : ∀ x ∈ pr6, x ≠ B60 /\ x ≠ B90 /\ x ≠ B100 /\ h.next <= x := fun x hx => by
   rcases q6 x hx with w | w
   ·exact hpk x w
   ·omega
  refine R ?_
  refine Yw rfl (by conv => lhs; whnf) rfl gC6 (by assumption) (by omega) (fun _ => rfl) fun H140 E140 L140 G140 => ?_
  refine R ?_
  have hpw : XZ (Xa (YC (xs.take (i + 1)))) 0 (Xa (YC (xs.take i))) = Xa (YC (xs.take (i + 1))) := Yq (by rw [hrsv, hriv])
  refine ⟨hlt, _, pr6, ⟨rfl, rfl, rfl, rfl, rfl, rfl, rfl, rfl, rfl, rfl, rfl⟩, rfl, (ek.trans e6 fun s hs => .inr (hpk s hs).2.2.2).trans E140 fun s hs => .inr (by have := XhB.1 hs; omega), by omega, s6.extS E140 fun x hx hm => (hp6 x hx).2.2.1 (XhB.1 hm), fun b hb => ?_, putAll_mem fun a ha c hc => noc.2 a ?_ c ?_, by omega, by omega, hp6, E140.get1 (by omega) (by omega) gA6, E140.get1 (by omega) (by omega) gB6, G140.trans (congrArg (fun z => some (AObj.cells true z)) hpw)⟩
  ·rcases XaH hb with w | w
   ·exact subL b w
   ·exact subx _ hlt b w
  ·rcases XhV.1 ha with w | w
   ·exact subL a w
   ·exact subx _ hlt a w
  ·rcases XhV.1 hc with w | w
   ·exact subL c w
   ·exact subx _ hlt c w
 ·have hin : i = xs.length := by omega
  subst hin
  rw [Xh7] at *
  refine R2 ?_
  refine Xd (l_eqFlat rfl rfl tidx) ?_
  rw [show decide (YC xs = YC xs) = true from decide_eq_true rfl]
  refine R2 ?_
  refine Xd (l_eqFlat rfl rfl tidx) ?_
  rw [show decide (YC xs = YC xs) = true from decide_eq_true rfl]
  refine R ?_
  exact ⟨rfl, _, Xb (Xw rfl) Xg, rfl⟩
end
open Go Go.Eng Go.RowKit Go.WideShapes
def StrsIn (w : World) (v : Value) : Prop := v = .slice none 0 0 \/ ∃ (b o len cap : Nat) (l : List (List UInt8)), v = .slice (some ⟨b, o, none⟩) len cap /\ len <= cap /\ l.length = len /\ ∀ i x, (fl YU l)[i]? = some x -> w.cell? ⟨b, o + i, none⟩ = some x
theorem strs_open {H : Type} {enc : TypeId × Value -> H} {P : Program} {w : World} {base : Nat} {spare : Nat -> Bool} {held : Bool} {r : Reach} {b0 : Nat} {t k : TypeId} (hs : P.underlying t = some (.slice k)) (ht : P.underlying k = some .string) (hc : P.cellsOf k = 1) {v : Value} {d : DataW H} {ps : List MemPlace}
  (hval : Value.okWide P w r b0 t v) (hd : DataW.Trod enc P w base spare held t v d ps) : StrsIn w v := by
 obtain ⟨a0, len, cap, rfl⟩ := okWide_slice hs hval
 obtain ⟨fuel, hf⟩ := hd
 rcases Go.ChangeShapes.open_strings hs ht hc hf with ⟨h, _⟩ | ⟨a, len', cap', ss, h, _, hl, hm, hlen, _, hcell, _⟩
 ·simp [Value.cells] at h
  obtain ⟨rfl, rfl, rfl⟩ := h
  exact .inl rfl
 ·simp [Value.cells] at h
  obtain ⟨rfl, rfl, rfl⟩ := h
  have hspot : a.spot = none := by
   have hv : Value.okWide P w r b0 t (.slice (some a) len cap) := hval
   simp only [Value.okWide, hs, Cell.okWide, Cell.ok] at hv
   exact hv.2.2.2.1
  obtain ⟨b, o, sp⟩ := a
  simp only at hspot
  subst hspot
  have hge : len <= ss.length := by rw [hlen]; split <;> omega
  refine .inr ⟨b, o, len, cap, (ss.take len).map bytes, rfl, hl, by rw [XhP, Xie]; omega, fun i x hx => ?_⟩
  rw [Uu, Xic, Xic] at hx
  have hi : i < len := by
   cases e : (ss.take len)[i]? with
   | none => rw [e] at hx; cases hx
   | some y => have := (Xig.1 e).1; rw [Xie] at this; omega
  rw [List.getElem?_take_of_lt hi, XhL (by omega)] at hx
  have h1 := hcell i (by omega)
  have ea : (⟨b, o, none⟩ : Addr).add i = ⟨b, o + i, none⟩ := by unfold Addr.add; split <;> simp_all
  rw [ea, Xih, XhL (by omega)] at h1
  rw [h1]
  simp only [Option.map_some, XhU.injEq] at hx
  rw [<- hx]
  simp [sv, Go.Eng.bytes]
structure Sims (P : Program) (w : World) (ι : Inj) (H : Heap) : Prop where
 s : Sim P w.heap.size ι H w
 ro : ∀ b o, H.get b = some o -> ∃ cs, o = .cells false cs
theorem Sims.empty (P : Program) (w : World) : Sims P w (fun _ => none) ⟨0, .nil⟩ := ⟨sim_empty w, fun b o h => by cases h⟩
theorem Sims.push_ro {P : Program} {w : World} {ι : Inj} {H : Heap} (S : Sims P w ι H) (cs : List Value) : ∀ b o, (H.push (.cells false cs)).get b = some o -> ∃ cs, o = .cells false cs := by
 intro b o h
 by_cases e : b = H.next
 ·subst e; rw [Heap.get_new] at h; cases h; exact ⟨_, rfl⟩
 ·rw [Heap.get_push_ne e] at h; exact S.ro b o h
theorem Sims.idle {P : Program} {w : World} {ι : Inj} {H : Heap} (S : Sims P w ι H) (cs : List Value) : Sims P w ι (H.push (.cells false cs)) := by
 have hn := S.s.next_none
 have ne : ∀ c q, ι c = some q -> c ≠ H.next := fun c q h e => by rw [e, hn] at h; cases h
 refine ⟨⟨fun c q o hc hg => ?_, fun c c' q q' o o' hne h1 h2 g1 g2 => ?_, fun c q hc => Nat.lt_succ_of_lt (S.s.bound c q hc), S.s.lt, fun c hc => ?_, S.s.base⟩, S.push_ro cs⟩
 ·rw [Heap.get_push_ne (ne c q hc)] at hg
  obtain ⟨xs, rfl⟩ := S.ro c o hg
  exact S.s.obj c q _ hc hg
 ·rw [Heap.get_push_ne (ne c q h1)] at g1
  rw [Heap.get_push_ne (ne c' q' h2)] at g2
  exact S.s.apart c c' q q' o o' hne h1 h2 g1 g2
 ·replace hc : H.next + 1 <= c := hc
  rw [Heap.get_push_ne (by omega)]
  exact S.s.blank c (by omega)
theorem Sims.strs {P : Program} {w : World} {ι : Inj} {H : Heap} (S : Sims P w ι H) {v : Value} (hv : StrsIn w v) : ∃ ι' H' ao ca l, Sims P w ι' H' /\ ι.le ι' /\ Ext [] H H' /\ VRel ι' (.slice ao l.length ca) v /\ Slc H' 1 ao l.length ca (fl YU l) := by
 rcases hv with rfl | ⟨b, o, len, cap, l, rfl, hl, hlen, hc⟩
 ·exact ⟨ι, H, none, 0, [], S, ι.le_refl, .refl H, .snil 0 0, .empty H 1⟩
 ·by_cases h0 : len = 0
  ·subst h0
   have : l = [] := Xjs.1 hlen
   subst this
   refine ⟨ι, H.push (.cells false []), some ⟨H.next, 0, some 1⟩, 0, [], S.idle [], ι.le_refl, .push _ _, .sempty (fun h => by cases h), ?_⟩
   exact ⟨rfl, XhE _, (fun h => nomatch h), (fun a e => Or.inl rfl), fun a e => by cases e; exact ⟨_, _, Heap.get_new _ _, Xh0 _, rfl⟩⟩
  ·have hlt : b < w.heap.size := by
    cases l with
    | nil => exact absurd hlen.symm h0
    | cons s l =>
     have := hc 0 _ rfl
     exact (cell_lt this).2
   have hn := S.s.next_none
   have hfl : (fl YU l).length = l.length := Zg l
   refine ⟨ι.with H.next ⟨b, o, len⟩, H.push (.cells false (fl YU l)), some ⟨H.next, 0, none⟩, cap, l, ⟨S.s.more (p := ⟨b, o, len⟩) hlt ?_ ?_, S.push_ro _⟩, Inj.with_le hn _, .push _ _, ?_, ?_⟩
   ·intro b1 p1 o1 h1 h2
    obtain ⟨cs, rfl⟩ := S.ro b1 o1 h2
    exact ⟨fun _ => ⟨false, _, false, _, rfl, rfl, .inl ⟨rfl, rfl⟩⟩, fun _ => ⟨false, _, false, _, rfl, rfl, .inl ⟨rfl, rfl⟩⟩⟩
   ·refine ⟨by rw [hfl, hlen]; exact XhE _, fun i hi => ?_, fun i x hx => ⟨x, hc i x hx, ?_⟩, fun h => by cases h⟩
    ·have hi' : i < (fl YU l).length := by rw [hfl, hlen]; exact hi
     have h1 := hc i _ (XhL hi')
     refine ⟨_, h1, ?_⟩
     have hs : ∀ x ∈ fl YU l, Y8 x := fun x hx => by
      rw [Uu] at hx
      obtain ⟨u, _, rfl⟩ := XhW.1 hx
      trivial
     exact hs _ (List.getElem_mem hi')
    ·rw [Uu, Xic] at hx
     cases e : l[i]? with
     | none => rw [e] at hx; cases hx
     | some u => rw [e] at hx; cases hx; exact ⟨.string _, trivial⟩
   ·rw [hlen]
    exact .slice (a := ⟨H.next, 0, none⟩) (p := ⟨b, o, len⟩) (Inj.with_same ι H.next _) (fun _ => rfl) (XhE _) hl (fun z h => by cases h)
   ·exact Slc.of_part (Heap.get_new _ _) (Xh0 _) (by rw [hfl, XhI]) (by omega) (XK (by rw [hfl, XhI]))
end Sp
end
