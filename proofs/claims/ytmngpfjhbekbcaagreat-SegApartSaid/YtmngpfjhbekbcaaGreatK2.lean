/-
  The functions of the program, of the document's answer and of the library, each gone through once: what it answers. Conditions: those that each lemma states.
-/
import Derived.Test.YtmngpfjhbekbcaaGreatK1
set_option linter.unusedVariables false
set_option linter.unusedSimpArgs false
set_option linter.unusedSectionVars false
open Nat renaming lt_of_lt_of_le -> XiQ, zero_le -> XiB, mul_one -> Xir, le_trans -> XiM, lt_succ_self -> XiG, le_of_ble_eq_true -> Xiq, le_refl -> Xim
open List renaming length_append -> Xil, mem_append -> XiD, getD_eq_getElem?_getD -> XiY, getElem?_eq_getElem -> Xit, drop_eq_getElem_cons -> XjG, mem_of_mem_drop -> Xkj, mem_of_mem_take -> Xj4, mem_singleton -> Xij, drop_eq_nil_iff -> Xkq, take_add_one -> XiN, getElem?_drop -> XjE, map_append -> XiT, isEmpty_iff -> XjA, length_singleton -> XjL, length_eq_zero_iff -> XjH, map_map -> Xja, mem_of_getElem? -> XiH, length_map -> Xix, getElem?_map -> XiF, mem_map -> XiR, mem_append_right -> Xjj, mem_cons_self -> XiV, mem_cons_of_mem -> Xi9, mem_append_left -> Xjo, length_take -> Xjc
open Int renaming ofNat -> Xii
open Bool renaming and_eq_true -> Xiu, not_eq_true -> XjY
open Option renaming some -> Xiz
set_option maxRecDepth 100000
namespace Sp
open Go Go.Eng
structure RowV (h : Heap) (base : Nat) (oo : Option Addr) (oc : Nat) (io : Option Addr) (ic : Nat) (vs is : List Value) (bs : List (List UInt8)) (fp : List Nat) : Prop where
 o : Own h 1 oo vs.length oc vs
 i : Own h 1 io is.length ic is
 b : Bss h fp vs bs
 ob : ∀ x ∈ XB oo, base <= x
 ib : ∀ x ∈ XB io, base <= x
 fb : ∀ x ∈ fp, base <= x /\ x < h.next /\ x ∉ XB oo /\ x ∉ XB io
 oi : ∀ x ∈ XB oo, x ∉ XB io
theorem RowV.ext {h h' : Heap} {base : Nat} {oo : Option Addr} {oc : Nat} {io : Option Addr} {ic : Nat} {vs is : List Value} {bs : List (List UInt8)} {fp : List Nat} (r : RowV h base oo oc io ic vs is bs fp) (e : Ext [] h h') : RowV h' base oo oc io ic vs is bs fp :=
 ⟨r.o.ext e, r.i.ext e, r.b.ext e, r.ob, r.ib, fun x hx => ⟨(r.fb x hx).1, XiQ (r.fb x hx).2.1 e.next, (r.fb x hx).2.2⟩, r.oi⟩
theorem RowV.nil (h : Heap) (base : Nat) : RowV h base none 0 none 0 [] [] [] [] :=
 ⟨.empty h 1, .empty h 1, .nil, (fun _ h => nomatch h), (fun _ h => nomatch h), (fun _ h => nomatch h), fun _ h => nomatch h⟩
theorem RowV.app1 {h h3 : Heap} {base : Nat} {oo oo2 : Option Addr} {oc oc2 : Nat} {io : Option Addr} {ic : Nat} {vs is : List Value} {bs : List (List UInt8)} {fp : List Nat} (r : RowV h base oo oc io ic vs is bs fp) {b : List UInt8} {lo : Option Addr} {lc : Nat} (sl : Slc h 1 lo b.length lc (Xa b)) (hb : ∀ x ∈ XB lo, base <= x /\ x ∉ XB oo /\ x ∉ XB io)
  (o5 : Own h3 1 oo2 (vs.length + 1) oc2 (vs ++ [.slice lo b.length lc])) (e5 : Ext (XB oo) h h3) (f5 : ∀ a, oo2 = some a -> a.block ∈ XB oo \/ (h.next <= a.block /\ a.block < h3.next)) (hbase : base <= h.next) : RowV h3 base oo2 oc2 io ic (vs ++ [.slice lo b.length lc]) is (bs ++ [b]) (XB lo ++ fp) := by
 have en := e5.next
 have hll : ∀ x ∈ XB lo, x < h.next := fun x hx => by obtain ⟨a, h1, h2⟩ := Xu hx; rw [<- h2]; exact sl.lt a h1
 have hil : ∀ x ∈ XB io, x < h.next := fun x hx => by obtain ⟨a, h1, h2⟩ := Xu hx; rw [<- h2]; exact r.i.toSlc.lt a h1
 have h2 : ∀ x ∈ XB oo2, x ∈ XB oo \/ h.next <= x := fun x hx => by
  obtain ⟨a, h1, h2⟩ := Xu hx
  rcases f5 a h1 with k | k
  ·rw [<- h2]; exact .inl k
  ·rw [<- h2]; exact .inr k.1
 refine ⟨by rw [Xil]; exact o5, r.i.extS e5 fun a ha hm => r.oi _ hm (VI ha), ?_, fun x hx => ?_, r.ib, fun x hx => ?_, fun x hx hi => ?_⟩
 ·refine All2.append ((r.b.extS e5 fun x hx => (r.fb x hx).2.2.1).mono fun x hx => XiD.2 (.inr hx)) (.cons ⟨lo, lc, rfl, sl.extS e5 (fun a ha => (hb _ (VI ha)).2.1), fun a ha => XiD.2 (.inl (VI ha))⟩ .nil)
 ·rcases h2 x hx with k | k
  ·exact r.ob x k
  ·omega
 ·rcases XiD.1 hx with k | k
  ·have k1 := hb x k
   have k2 := hll x k
   exact ⟨k1.1, by omega, fun hq => (h2 x hq).elim k1.2.1 (fun k3 => by omega), k1.2.2⟩
  ·have k1 := r.fb x k
   exact ⟨k1.1, by omega, fun hq => (h2 x hq).elim k1.2.2.1 (fun k3 => by omega), k1.2.2.2⟩
 ·rcases h2 x hx with k | k
  ·exact r.oi x k hi
  ·have := hil x hi; omega
theorem RowV.app2 {h h3 : Heap} {base : Nat} {oo : Option Addr} {oc : Nat} {io io2 : Option Addr} {ic ic2 : Nat} {vs is : List Value} {bs : List (List UInt8)} {fp : List Nat} (r : RowV h base oo oc io ic vs is bs fp) {v : Value}
  (o5 : Own h3 1 io2 (is.length + 1) ic2 (is ++ [v])) (e5 : Ext (XB io) h h3) (f5 : ∀ a, io2 = some a -> a.block ∈ XB io \/ (h.next <= a.block /\ a.block < h3.next)) (hbase : base <= h.next) : RowV h3 base oo oc io2 ic2 vs (is ++ [v]) bs fp := by
 have en := e5.next
 have hol : ∀ x ∈ XB oo, x < h.next := fun x hx => by obtain ⟨a, h1, h2⟩ := Xu hx; rw [<- h2]; exact r.o.toSlc.lt a h1
 have h2 : ∀ x ∈ XB io2, x ∈ XB io \/ h.next <= x := fun x hx => by
  obtain ⟨a, h1, h2⟩ := Xu hx
  rcases f5 a h1 with k | k
  ·rw [<- h2]; exact .inl k
  ·rw [<- h2]; exact .inr k.1
 refine ⟨r.o.extS e5 fun a ha hm => r.oi _ (VI ha) hm, by rw [Xil]; exact o5, r.b.extS e5 fun x hx => (r.fb x hx).2.2.2, r.ob, fun x hx => ?_, fun x hx => ?_, fun x hx hi => ?_⟩
 ·rcases h2 x hx with k | k
  ·exact r.ib x k
  ·omega
 ·have k1 := r.fb x hx
  exact ⟨k1.1, by omega, k1.2.2.1, fun hq => (h2 x hq).elim k1.2.2.2 (fun k3 => by omega)⟩
 ·rcases h2 x hi with k | k
  ·exact r.oi x hx k
  ·have := hol x hx; omega
structure RowS (h : Heap) (base : Nat) (oo : Option Addr) (oc : Nat) (io : Option Addr) (ic : Nat) (vs is : List Value) (bs : List (List UInt8)) (fp : List Nat) : Prop where
 o : Slc h 1 oo vs.length oc vs
 i : Slc h 1 io is.length ic is
 b : Bss h fp vs bs
 ob : ∀ x ∈ XB oo, base <= x
 ib : ∀ x ∈ XB io, base <= x
 fb : ∀ x ∈ fp, base <= x /\ x < h.next
theorem RowV.toS {h : Heap} {base : Nat} {oo : Option Addr} {oc : Nat} {io : Option Addr} {ic : Nat} {vs is : List Value} {bs : List (List UInt8)} {fp : List Nat} (r : RowV h base oo oc io ic vs is bs fp) : RowS h base oo oc io ic vs is bs fp :=
 ⟨r.o.toSlc, r.i.toSlc, r.b, r.ob, r.ib, fun x hx => ⟨(r.fb x hx).1, (r.fb x hx).2.1⟩⟩
theorem RowS.extS {h h' : Heap} {base : Nat} {oo : Option Addr} {oc : Nat} {io : Option Addr} {ic : Nat} {vs is : List Value} {bs : List (List UInt8)} {fp : List Nat} (r : RowS h base oo oc io ic vs is bs fp) {S : List Nat} (e : Ext S h h') (q : ∀ x ∈ S, x < base \/ h.next <= x) : RowS h' base oo oc io ic vs is bs fp :=
 ⟨r.o.extS e (fun a ha hm => by have := r.ob _ (VI ha); have := r.o.lt a ha; have := q _ hm; omega), r.i.extS e (fun a ha hm => by have := r.ib _ (VI ha); have := r.i.lt a ha; have := q _ hm; omega), r.b.extS e (fun x hx hm => by have := r.fb x hx; have := q _ hm; omega), r.ob, r.ib, fun x hx => ⟨(r.fb x hx).1, XiQ (r.fb x hx).2 e.next⟩⟩
theorem RowS.ext {h h' : Heap} {base : Nat} {oo : Option Addr} {oc : Nat} {io : Option Addr} {ic : Nat} {vs is : List Value} {bs : List (List UInt8)} {fp : List Nat} (r : RowS h base oo oc io ic vs is bs fp) (e : Ext [] h h') : RowS h' base oo oc io ic vs is bs fp := r.extS e fun _ hx => nomatch hx
def XdE (n : Nat) : Value := .int .i64 (Xii n)
section
variable {E : Env} {sg : Bool} (H : Has E)
include H
theorem ref21_ends_ok (m : Nat) (h : Heap) (b : UInt8) (n : Nat) : (enter E (ctx E m) XdZ [byteVal b, .int .i64 (Xii n)] h).Wp sg fun v h' => v = .bool (decide (b.toNat % 8 = 0) || decide (n = 8)) /\ h' = h := by
 refine H.run (k := VW) rfl rfl rfl ?_
 dsimp only [VW]
 refine R ?_
 refine Xf (l_remK (a := b.toNat) rfl rfl (by decide)) ?_
 by_cases hr : b.toNat % 8 = 0
 ·refine R ?_
  exact ⟨rfl, _, Xb (Xw rfl) Xe, by rw [decide_eq_true hr]; rfl, rfl⟩
 ·by_cases h8 : n = 8
  ·refine R ?_
   exact ⟨rfl, _, Xb (Xw rfl) Xe, by rw [decide_eq_true h8, decide_eq_false hr]; rfl, rfl⟩
  ·refine R ?_
   exact ⟨rfl, _, Xb (Xw rfl) Xe, by rw [decide_eq_false h8, decide_eq_false hr]; rfl, rfl⟩
set_option maxHeartbeats 2000000 in
theorem ref21_Leaves_ok (m : Nat) (hm : 100000000 <= m) (h : Heap) (texts : List (List UInt8)) (ao : Option Addr) (ca n : Nat) (hn : texts.length = n) (sl : Slc h 1 ao n ca (fl ZQ texts)) (ht : n <= 100) (hs : ∀ s ∈ texts, s.length <= 8000) :
  (enter E (ctx E (m + 7)) XbE [.slice ao n ca] h).Wp sg fun v h' => ∃ oo oc io ic vs is fp, v = .tuple ⟨[.slice oo vs.length oc, .slice io is.length ic]⟩ /\ RowS h' h.next oo oc io ic vs is ((leaves texts).map (Nd.bytes 0)) fp /\ is = (leaves texts).map (fun n => XdE n.many) /\ Ext [] h h' := by
 refine H.run (k := WX) rfl rfl rfl ?_
 dsimp only [WX]
 refine R ?_
 refine Yr n 0 (fun i t x hk => ∃ oo oc io ic vs is fp cs cur, (g0 t = (.slice ao n ca) /\ g4 t = (.slice oo vs.length oc) /\ g5 t = (.slice io is.length ic) /\ g6 t = (.int .i64 (Xii (i - cur.length))) /\ g7 t = (.int .i64 (Xii i))) /\ x = ⟨[], none, none⟩ /\ Ext [] h hk /\ cur.length <= i /\ vs.length <= i /\ is.length <= i /\ (texts.drop (i - cur.length)).take cur.length = cur /\ X9 eS [] texts = cs ++ X9 eS cur (texts.drop i) /\ RowV hk h.next oo oc io ic vs is (cs.map fun c => X4 0 c []) fp /\ is = cs.map fun c => XdE c.length) ⟨none, 0, none, 0, [], [], [], [], [], ⟨rfl, rfl, rfl, rfl, rfl⟩, rfl, .refl h, by simp, by simp, by simp, by simp, by simp, .nil h _, rfl⟩ (XiB _) (XH (by omega)) ?_
 rintro i t x hk hi ⟨oo, oc, io, ic, vs, is, fp, cs, cur, ⟨r0, r4, r5, r6, r7⟩, rfl, ek, hcl, hvl, hil, hcur, hcut, row, his⟩
 obtain ⟨t0, rfl⟩ : ∃ t0, t = p0 (.slice ao n ca) (p4 (.slice oo vs.length oc) (p5 (.slice io is.length ic) (p6 (.int .i64 (Xii (i - cur.length))) (p7 (.int .i64 (Xii i)) t0)))) := ⟨t, (show t = p0 (g0 t) (p4 (g4 t) (p5 (g5 t) (p6 (g6 t) (p7 (g7 t) t)))) from rfl).trans (by rw [r0, r4, r5, r6, r7])⟩
 clear r0 r4 r5 r6 r7
 have lk := ek.next
 by_cases hlt : i < n
 ·obtain ⟨a, wa, xa, hao, ga, na, ta⟩ := (sl.ext ek).nonempty (by omega)
  subst hao
  have hload : nth (a.off + i * 1) xa = some (sv (texts.getD i [])) := by
   rw [Xir, X3 ta (by omega), XeR (by omega)]
  have hsi : (texts.getD i []).length <= 8000 := hs _ (by
   rw [XiY, Xit (by omega)]; simp)
  have hdrop : texts.drop i = texts.getD i [] :: texts.drop (i + 1) := by
   rw [XjG (by omega), XiY, Xit (by omega)]; rfl
  have hall : ∀ x ∈ cur ++ [texts.getD i []], x.length <= 8000 := by
   intro x hx
   rcases XiD.1 hx with hx | hx
   ·rw [<- hcur] at hx; exact hs x (Xkj (Xj4 hx))
   ·rw [Xij.1 hx]; exact hsi
  generalize texts.getD i [] = s at hload hsi hdrop hall
  have hrest : texts.drop (i + 1) = [] ↔ i = n - 1 := by
   rw [Xkq]; omega
  have hcurS : (texts.drop (i - cur.length)).take (cur.length + 1) = cur ++ [s] := by
   rw [XiN, hcur, XjE, show i - cur.length + cur.length = i by omega]
   have : texts[i]? = some s := by
    have := congrArg (·[0]?) hdrop
    simpa using this
   rw [this]; rfl
  by_cases hl : i = n - 1
  ·have hstep : X9 eS cur (texts.drop i) = (cur ++ [s]) :: X9 eS [] (texts.drop (i + 1)) := by
    rw [hdrop, X9, hrest.2 hl]; simp
   refine R ?_
   refine Xf (Xbc rfl rfl (by omega) (by omega)) ?_
   refine R ?_
   refine wp_say (b := false) rfl (by simp only [decide_eq_false_iff_not, Bool.not_eq_false', decide_eq_true_eq, Bool.and_eq_false_iff, Bool.or_eq_false_iff]; omega) ?_
   refine R ?_
   refine Xe3 (l := i - cur.length) (r := i + 1) (sl.ext ek) rfl rfl rfl (by omega) (by omega) fun ao' ca' sl' hbl => ?_
   rw [show i + 1 - (i - cur.length) = cur.length + 1 by omega] at sl' ⊢
   rw [Xir, Xir] at sl'
   have hsl' : ((fl ZQ texts).drop (i - cur.length)).take (cur.length + 1) = fl ZQ (cur ++ [s]) := by
    have := Xhi (enc := ZQ) (z := 1) (l := texts) (fun _ _ => rfl) (i - cur.length) (cur.length + 1)
    rw [Xir, Xir] at this
    rw [this, hcurS]
   rw [hsl'] at sl'
   have hcl1 : (cur ++ [s]).length = cur.length + 1 := by simp
   rw [<- hcl1] at sl' ⊢
   refine Xj (Xi rfl (Xe7 H (m + 2) (by omega) _ (cur ++ [s]) ao' ca' sl' (by omega) hall)) ?_
   rintro v h6 ⟨lo, lc, rfl, ol, fl6, e6⟩
   have hmany : XdE (cur ++ [s]).length = .int .i64 (Xii (i + 1 - (i - cur.length))) := by unfold XdE; rw [show i + 1 - (i - cur.length) = (cur ++ [s]).length by omega]
   obtain ⟨nb, hnb⟩ : ∃ nb, nb = X4 0 (cur ++ [s]) [] := ⟨_, rfl⟩
   rw [<- hnb] at ol ⊢
   have l6 := e6.next
   have rowq := row
   have eqq : Ext [] h _ := ek
   have lqq := eqq.next
   refine XJ (Xg (by conv => lhs; whnf) rfl rfl rfl XC) fun H40 B40 E40 L40 G40 N40 Q40 => ?_
   have row1 := (rowq.ext e6).ext E40
   refine XW row1.o rfl rfl rfl (Slc.of_get (z := 1) G40 N40 rfl).elemsAll rfl (by omega) fun oo2 oc2 h7 o7 e7 l7 f7 => ?_
   have row2 := row1.app1 (ol.toSlc.ext E40) (fun x hx => by
    obtain ⟨q, h1, h2⟩ := Xu hx
    have h3 := fl6 q h1
    refine ⟨by omega, fun hm => ?_, fun hm => ?_⟩
    ·obtain ⟨q2, k1, k2⟩ := Xu hm
     have := rowq.o.toSlc.lt q2 k1; omega
    ·obtain ⟨q2, k1, k2⟩ := Xu hm
     have := rowq.i.toSlc.lt q2 k1; omega) o7 e7 f7 (by omega)
   refine R ?_
   refine Xf (Ze rfl rfl (by omega) (by omega)) ?_
   refine XJ (Xg (by conv => lhs; whnf) rfl rfl rfl XC) fun H50 B50 E50 L50 G50 N50 Q50 => ?_
   refine XW (row2.i.ext E50) rfl rfl rfl (Slc.of_get (z := 1) G50 N50 rfl).elemsAll rfl (by omega) fun io2 ic2 h8 o8 e8 l8 f8 => ?_
   have row3 := (row2.ext E50).app2 o8 e8 f8 (by omega)
   refine R ?_
   have eF := ((eqq.trans0 e6).trans0 E40).trans e7 (fun x hx => .inr (rowq.ob x hx))
   have eG := (eF.trans0 E50).trans e8 (fun x hx => .inr (rowq.ib x hx))
   have hlen1 : (vs ++ [Value.slice lo nb.length lc]).length = vs.length + 1 := by simp
   have hlen2 : (is ++ [XdE (cur ++ [s]).length]).length = is.length + 1 := by simp
   rw [<- hmany] at row3
   refine ⟨hlt, oo2, oc2, io2, ic2, vs ++ [.slice lo nb.length lc], is ++ [XdE (cur ++ [s]).length], XB lo ++ fp, cs ++ [cur ++ [s]], [], ?_, rfl, eG, by simp, by omega, by omega, by simp, by rw [hcut, hstep]; simp, ?_, by rw [his]; simp⟩
   ·rw [hlen1, hlen2]; exact ⟨rfl, rfl, rfl, rfl, rfl⟩
   ·rw [XiT]
    have hn1 : [cur ++ [s]].map (fun c => X4 0 c []) = [nb] := by rw [hnb]; rfl
    rw [hn1]
    exact row3
  ·refine R ?_
   refine Xf (Xbc rfl rfl (by omega) (by omega)) ?_
   refine R ?_
   refine wp_say (b := true) rfl (by simp only [decide_eq_true_eq, Bool.not_eq_true', decide_eq_false_iff_not, Xiu, Bool.or_eq_true]; omega) ?_
   refine R2 ?_
   refine wp_toBytesE rfl (fun H2 b2 E2 L2 s2 N2 Q2 => ?_)
   refine XgV rfl ?_
   refine Xj (Xi rfl (Xhn H m hm _ s _ _ _ rfl s2 (by omega))) ?_
   rintro v h3 ⟨rfl, e3⟩
   have l3 := e3.next
   have hd0 : nth 0 (Xa (Sha s)) = some (byteVal ((Sha s).getD 0 0)) := by
    rw [Xe0]; exact Xdr (by rw [X2]; omega)
   have hE : (decide (((Sha s).getD 0 0).toNat % 8 = 0) || decide (cur.length + 1 = 8)) = eS (cur.length + 1) s := by
    unfold eS XeQ; simp [Bool.or_comm]
   generalize hb0 : (Sha s).getD 0 0 = c0 at hd0 hE
   refine XgV rfl ?_
   refine Xf (l_ixVal1 rfl rfl (by omega) (by assumption)) ?_
   refine R ?_
   refine Xf (Ze rfl rfl (by omega) (by omega)) ?_
   refine XgV rfl ?_
   rw [show i + 1 - (i - cur.length) = cur.length + 1 by omega]
   refine Xj (Xi rfl (ref21_ends_ok H _ _ c0 (cur.length + 1))) ?_
   rintro v h4 ⟨rfl, rfl⟩
   rw [hE]
   have eq2 : Ext [] hk h4 := E2.trans0 e3
   cases he : eS (cur.length + 1) s with
   | true =>
    have hstep : X9 eS cur (texts.drop i) = (cur ++ [s]) :: X9 eS [] (texts.drop (i + 1)) := by
     rw [hdrop, X9, he]; rfl
    refine R ?_
    refine Xe3 (l := i - cur.length) (r := i + 1) (sl.ext (ek.trans0 eq2)) rfl rfl rfl (by omega) (by omega) fun ao' ca' sl' hbl => ?_
    rw [show i + 1 - (i - cur.length) = cur.length + 1 by omega] at sl' ⊢
    rw [Xir, Xir] at sl'
    have hsl' : ((fl ZQ texts).drop (i - cur.length)).take (cur.length + 1) = fl ZQ (cur ++ [s]) := by
     have := Xhi (enc := ZQ) (z := 1) (l := texts) (fun _ _ => rfl) (i - cur.length) (cur.length + 1)
     rw [Xir, Xir] at this
     rw [this, hcurS]
    rw [hsl'] at sl'
    have hcl1 : (cur ++ [s]).length = cur.length + 1 := by simp
    rw [<- hcl1] at sl' ⊢
    refine Xj (Xi rfl (Xe7 H (m + 2) (by omega) _ (cur ++ [s]) ao' ca' sl' (by omega) hall)) ?_
    rintro v h6 ⟨lo, lc, rfl, ol, fl6, e6⟩
    have hmany : XdE (cur ++ [s]).length = .int .i64 (Xii (i + 1 - (i - cur.length))) := by unfold XdE; rw [show i + 1 - (i - cur.length) = (cur ++ [s]).length by omega]
    obtain ⟨nb, hnb⟩ : ∃ nb, nb = X4 0 (cur ++ [s]) [] := ⟨_, rfl⟩
    rw [<- hnb] at ol ⊢
    have l6 := e6.next
    have rowq := row.ext eq2
    have eqq : Ext [] h _ := ek.trans0 eq2
    have lqq := eqq.next
    refine XJ (Xg (by conv => lhs; whnf) rfl rfl rfl XC) fun H70 B70 E70 L70 G70 N70 Q70 => ?_
    have row1 := (rowq.ext e6).ext E70
    refine XW row1.o rfl rfl rfl (Slc.of_get (z := 1) G70 N70 rfl).elemsAll rfl (by omega) fun oo2 oc2 h7 o7 e7 l7 f7 => ?_
    have row2 := row1.app1 (ol.toSlc.ext E70) (fun x hx => by
     obtain ⟨q, h1, h2⟩ := Xu hx
     have h3 := fl6 q h1
     refine ⟨by omega, fun hm => ?_, fun hm => ?_⟩
     ·obtain ⟨q2, k1, k2⟩ := Xu hm
      have := rowq.o.toSlc.lt q2 k1; omega
     ·obtain ⟨q2, k1, k2⟩ := Xu hm
      have := rowq.i.toSlc.lt q2 k1; omega) o7 e7 f7 (by omega)
    refine R ?_
    refine Xf (Ze rfl rfl (by omega) (by omega)) ?_
    refine XJ (Xg (by conv => lhs; whnf) rfl rfl rfl XC) fun H80 B80 E80 L80 G80 N80 Q80 => ?_
    refine XW (row2.i.ext E80) rfl rfl rfl (Slc.of_get (z := 1) G80 N80 rfl).elemsAll rfl (by omega) fun io2 ic2 h8 o8 e8 l8 f8 => ?_
    have row3 := (row2.ext E80).app2 o8 e8 f8 (by omega)
    refine R ?_
    have eF := ((eqq.trans0 e6).trans0 E70).trans e7 (fun x hx => .inr (rowq.ob x hx))
    have eG := (eF.trans0 E80).trans e8 (fun x hx => .inr (rowq.ib x hx))
    have hlen1 : (vs ++ [Value.slice lo nb.length lc]).length = vs.length + 1 := by simp
    have hlen2 : (is ++ [XdE (cur ++ [s]).length]).length = is.length + 1 := by simp
    rw [<- hmany] at row3
    refine ⟨hlt, oo2, oc2, io2, ic2, vs ++ [.slice lo nb.length lc], is ++ [XdE (cur ++ [s]).length], XB lo ++ fp, cs ++ [cur ++ [s]], [], ?_, rfl, eG, by simp, by omega, by omega, by simp, by rw [hcut, hstep]; simp, ?_, by rw [his]; simp⟩
    ·rw [hlen1, hlen2]; exact ⟨rfl, rfl, rfl, rfl, rfl⟩
    ·rw [XiT]
     have hn1 : [cur ++ [s]].map (fun c => X4 0 c []) = [nb] := by rw [hnb]; rfl
     rw [hn1]
     exact row3
   | false =>
    have hstep : X9 eS cur (texts.drop i) = X9 eS (cur ++ [s]) (texts.drop (i + 1)) := by
     have hne : (texts.drop (i + 1)).isEmpty = false := by
      rw [<- XjY, XjA]; exact fun e => hl (hrest.1 e)
     rw [hdrop, X9, he, hne]; rfl
    refine R ?_
    refine ⟨hlt, oo, oc, io, ic, vs, is, fp, cs, cur ++ [s], ⟨rfl, rfl, rfl, ?_, rfl⟩, rfl, ek.trans0 eq2, by simp; omega, by omega, by omega, ?_, by rw [hcut, hstep], row.ext eq2, his⟩
    ·rw [Xil, XjL, show i + 1 - (cur.length + 1) = i - cur.length by omega]; rfl
    ·rw [Xil, XjL, show i + 1 - (cur.length + 1) = i - cur.length by omega, hcurS]
 ·by_cases h0 : n = 0
  ·refine R ?_
   have ht0 : texts = [] := XjH.1 (by omega)
   refine Xj (Xi rfl (Xe7 H (m + 2) (by omega) _ [] none 0 (.empty _ _) (by simp) (by simp))) ?_
   rintro v h6 ⟨lo, lc, rfl, ol, fl6, e6⟩
   obtain ⟨nb, hnb⟩ : ∃ nb, nb = X4 0 [] [] := ⟨_, rfl⟩
   rw [<- hnb] at ol ⊢
   have l6 := e6.next
   refine XJ (Xg (by conv => lhs; whnf) rfl rfl rfl XC) fun H310 B310 E310 L310 G310 N310 Q310 => ?_
   refine XJ (Xg (by conv => lhs; whnf) rfl rfl rfl XC) fun H311 B311 E311 L311 G311 N311 Q311 => ?_
   refine R ?_
   have hlv : leaves texts = [⟨[], []⟩] := by rw [ht0]; rfl
   refine ⟨rfl, _, Xb (Xw rfl) (Xb (Xw rfl) Xe), some ⟨B310, 0, none⟩, 1, some ⟨B311, 0, none⟩, 1, [.slice lo nb.length lc], [XdE 0], XB lo, rfl, ⟨Slc.of_get (z := 1) (E311.get0 N310 G310) (by omega) rfl, Slc.of_get (z := 1) G311 N311 rfl, ?_, ?_, ?_, ?_⟩, by rw [hlv]; rfl, ((ek.trans0 e6).trans0 E310).trans0 E311⟩
   ·rw [hlv]
    refine All2.cons ⟨lo, lc, ?_, ?_, fun a ha => VI ha⟩ .nil
    ·rw [hnb]; rfl
    ·have := (ol.toSlc.ext E310).ext E311
     rw [hnb] at this; exact this
   ·intro x hx; have : x = B310 := Xij.1 hx; omega
   ·intro x hx; have : x = B311 := Xij.1 hx; omega
   ·intro x hx
    obtain ⟨q, h1, h2⟩ := Xu hx
    have := fl6 q h1
    have := ol.toSlc.lt q h1
    omega
  ·have hin : i = n := by omega
   have hcs : X9 eS [] texts = cs := by rw [hcut, hin, <- hn, List.drop_length]; simp [X9]
   refine R ?_
   refine ⟨rfl, _, Xb (Xw rfl) (Xb (Xw rfl) Xe), oo, oc, io, ic, vs, is, fp, rfl, ?_, ?_, ek⟩
   ·have : (leaves texts).map (Nd.bytes 0) = cs.map fun c => X4 0 c [] := by
     unfold leaves
     rw [if_neg (by rw [XjA, <- XjH]; omega), hcs, Xja]; rfl
    rw [this]; exact row.toS
   ·unfold leaves
    rw [if_neg (by rw [XjA, <- XjH]; omega), hcs, Xja, his]; rfl
end
section
variable {E : Env} {sg : Bool} (H : Has E)
include H
set_option maxHeartbeats 2000000 in
theorem ref21_Inners_ok (m : Nat) (hm : 100000000 <= m) (h : Heap) (lev : Nat) (hlev : lev <= 1000) (hlev1 : 1 <= lev) (ls : List Lk) (ao : Option Addr) (ca n : Nat) (hn : ls.length = n) (sl : Slc h 33 ao n ca (fl Yj ls)) (ht : n <= 100) (hs : ∀ y ∈ ls, LkOK y) :
  (enter E (ctx E (m + 7)) XbF [.int .i64 (Xii lev), .slice ao n ca] h).Wp sg fun v h' => ∃ oo oc io ic vs is fp, v = .tuple ⟨[.slice oo vs.length oc, .slice io is.length ic]⟩ /\ RowV h' h.next oo oc io ic vs is ((X9 (eL lev) [] ls).map fun c => X4 lev [] c) fp /\ is = (X9 (eL lev) [] ls).map (fun c => XdE (Y1 c)) /\ Ext [] h h' := by
 refine H.run (k := WY) rfl rfl rfl ?_
 dsimp only [WY]
 refine R ?_
 refine Yr n 0 (fun i t x hk => ∃ oo oc io ic vs is fp cs cur, (g0 t = (.int .i64 (Xii lev)) /\ g1 t = (.slice ao n ca) /\ g6 t = (.slice oo vs.length oc) /\ g7 t = (.slice io is.length ic) /\ g8 t = (.int .i64 (Xii (i - cur.length))) /\ g9 t = (.int .i64 (Xii (Y1 cur))) /\ g10 t = (.int .i64 (Xii i))) /\ x = ⟨[], none, none⟩ /\ Ext [] h hk /\ cur.length <= i /\ vs.length <= i /\ is.length <= i /\ (ls.drop (i - cur.length)).take cur.length = cur /\ X9 (eL lev) [] ls = cs ++ X9 (eL lev) cur (ls.drop i) /\ RowV hk h.next oo oc io ic vs is (cs.map fun c => X4 lev [] c) fp /\ is = cs.map fun c => XdE (Y1 c)) ⟨none, 0, none, 0, [], [], [], [], [], ⟨rfl, rfl, rfl, rfl, rfl, rfl, rfl⟩, rfl, .refl h, by simp, by simp, by simp, by simp, by simp, .nil h _, rfl⟩ (XiB _) (XH (by omega)) ?_
 rintro i t x hk hi ⟨oo, oc, io, ic, vs, is, fp, cs, cur, ⟨r0, r1, r6, r7, r8, r9, r10⟩, rfl, ek, hcl, hvl, hil, hcur, hcut, row, his⟩
 obtain ⟨t0, rfl⟩ : ∃ t0, t = p0 (.int .i64 (Xii lev)) (p1 (.slice ao n ca) (p6 (.slice oo vs.length oc) (p7 (.slice io is.length ic) (p8 (.int .i64 (Xii (i - cur.length))) (p9 (.int .i64 (Xii (Y1 cur))) (p10 (.int .i64 (Xii i)) t0)))))) := ⟨t, (show t = p0 (g0 t) (p1 (g1 t) (p6 (g6 t) (p7 (g7 t) (p8 (g8 t) (p9 (g9 t) (p10 (g10 t) t)))))) from rfl).trans (by rw [r0, r1, r6, r7, r8, r9, r10])⟩
 clear r0 r1 r6 r7 r8 r9 r10
 have lk := ek.next
 by_cases hlt : i < n
 ·obtain ⟨a, wa, xa, hao, ga, na, ta⟩ := (sl.ext ek).nonempty (by omega)
  subst hao
  obtain ⟨y, hy⟩ : ∃ y, ls[i]? = some y := ⟨_, Xit (by omega)⟩
  have hyo := hs y (XiH hy)
  have hdrop : ls.drop i = y :: ls.drop (i + 1) := by
   have h1 : ls[i] = y := Xiz.inj ((Xit (by omega)).symm.trans hy)
   rw [XjG (by omega), h1]
  have ht33 : XV 33 (XZ (a.off + i * 33) xa) = some (Yj y) := by
   rw [take_take (i := i * 33) (k := 33) ta (by omega), XdD (fun x hx => YQ (hs x hx)) hy]
  have hcurm : ∀ x ∈ cur, x ∈ ls := fun x hx => by rw [<- hcur] at hx; exact Xkj (Xj4 hx)
  have hall : ∀ x ∈ cur ++ [y], LkOK x := by
   intro x hx
   rcases XiD.1 hx with hx | hx
   ·exact hs x (hcurm x hx)
   ·rw [Xij.1 hx]; exact hyo
  have hsum := sumN_le (l := cur) fun x hx => hs x (hcurm x hx)
  have hy2 := hyo.2
  have hsumS : Y1 cur + y.2 = Y1 (cur ++ [y]) := by rw [Xcy]; rfl
  have hrest : ls.drop (i + 1) = [] ↔ i = n - 1 := by
   rw [Xkq]; omega
  have hcurS : (ls.drop (i - cur.length)).take (cur.length + 1) = cur ++ [y] := by
   rw [XiN, hcur, XjE, show i - cur.length + cur.length = i by omega, hy]; rfl
  have hn32 : nth (a.off + i * 33 + 32) xa = some (.int .i64 (Xii y.2)) := by
   rw [X3 ht33 (by omega)]
   unfold Yj
   rw [List.getElem?_append_right (by rw [Xc, hyo.1]; omega), Xc, hyo.1]; rfl
  have hn0 : nth (a.off + i * 33 + 0 + 0 * 1) xa = some (byteVal (y.1.getD 0 0)) := by
   rw [show a.off + i * 33 + 0 + 0 * 1 = a.off + i * 33 + 0 by omega, X3 ht33 (by omega)]
   unfold Yj
   rw [List.getElem?_append_left (by rw [Xc, hyo.1]; omega), Xdr (by rw [hyo.1]; omega)]
  have hE : (!decide (cur.length = 0) && (decide ((y.1.getD 0 0).toNat % 8 = 0) || decide (cur.length + 1 = 8))) = eL lev (cur.length + 1) y := by
   unfold eL XeQ
   have q1 : decide (lev = 0) = false := decide_eq_false (by omega)
   rw [q1]
   by_cases z1 : cur.length = 0
   ·simp [z1]
   ·by_cases z2 : cur.length = 7
    ·simp [z2]
    ·simp [z1, z2]; omega
  by_cases hl : i < n - 1
  ·by_cases hc0 : i = i - cur.length
   ·have hf : eL lev (cur.length + 1) y = false := by rw [<- hE, decide_eq_true (show cur.length = 0 by omega)]; rfl
    have hstep : X9 (eL lev) cur (ls.drop i) = X9 (eL lev) (cur ++ [y]) (ls.drop (i + 1)) := by
     have hne : (ls.drop (i + 1)).isEmpty = false := by
      rw [<- XjY, XjA]; exact fun e => by have := hrest.1 e; omega
     rw [hdrop, X9, hf, hne]; rfl
    refine R2 ?_
    refine Xf (Wa rfl rfl (by omega)) ?_
    refine R ?_
    refine Xf (Xbc rfl rfl (by omega) (by omega)) ?_
    refine R ?_
    refine ⟨hlt, oo, oc, io, ic, vs, is, fp, cs, cur ++ [y], ⟨rfl, rfl, rfl, rfl, ?_, ?_, rfl⟩, rfl, ek, by simp; omega, by omega, by omega, ?_, by rw [hcut, hstep], row, his⟩
    ·rw [Xil, XjL, show i + 1 - (cur.length + 1) = i - cur.length by omega]; rfl
    ·rw [<- hsumS]; rfl
    ·rw [Xil, XjL, show i + 1 - (cur.length + 1) = i - cur.length by omega, hcurS]
   ·rw [decide_eq_false (show ¬ cur.length = 0 by omega)] at hE
    refine R2 ?_
    refine Xf (Wa rfl rfl (by omega)) ?_
    refine R ?_
    refine Xf (Xbc rfl rfl (by omega) (by omega)) ?_
    refine R2 ?_
    refine Xf (Ze rfl rfl (by omega) (by omega)) ?_
    refine XgV rfl ?_
    rw [show i + 1 - (i - cur.length) = cur.length + 1 by omega]
    refine Xj (Xi rfl (ref21_ends_ok H _ _ (y.1.getD 0 0) (cur.length + 1))) ?_
    rintro v h4 ⟨rfl, rfl⟩
    rw [show (decide ((y.1.getD 0 0).toNat % 8 = 0) || decide (cur.length + 1 = 8)) = eL lev (cur.length + 1) y from hE]
    cases he : eL lev (cur.length + 1) y with
    | true =>
     have hstep : X9 (eL lev) cur (ls.drop i) = (cur ++ [y]) :: X9 (eL lev) [] (ls.drop (i + 1)) := by
      rw [hdrop, X9, he]; rfl
     refine R ?_
     refine Xe3 (l := i - cur.length) (r := i + 1) (sl.ext ek) rfl rfl rfl (by omega) (by omega) fun ao' ca' sl' hbl => ?_
     rw [show i + 1 - (i - cur.length) = cur.length + 1 by omega] at sl' ⊢
     have hsl' : ((fl Yj ls).drop ((i - cur.length) * 33)).take ((cur.length + 1) * 33) = fl Yj (cur ++ [y]) := by
      have := Xhi (enc := Yj) (z := 33) (l := ls) (fun x hx => YQ (hs x hx)) (i - cur.length) (cur.length + 1)
      rw [this, hcurS]
     rw [hsl'] at sl'
     have hcl1 : (cur ++ [y]).length = cur.length + 1 := by simp
     rw [<- hcl1] at sl' ⊢
     refine Xj (Xi rfl (ref21_inner_ok H (m + 2) (by omega) _ lev hlev (cur ++ [y]) ao' ca' sl' (by omega) hall)) ?_
     rintro v h6 ⟨lo, lc, rfl, ol, fl6, e6⟩
     have hmany : XdE (Y1 (cur ++ [y])) = .int .i64 (Xii (Y1 cur + y.2)) := by unfold XdE; rw [hsumS]
     obtain ⟨nb, hnb⟩ : ∃ nb, nb = X4 lev [] (cur ++ [y]) := ⟨_, rfl⟩
     rw [<- hnb] at ol ⊢
     have l6 := e6.next
     have rowq := row
     have eqq : Ext [] h _ := ek
     have lqq := eqq.next
     refine XJ (Xg (by conv => lhs; whnf) rfl rfl rfl XC) fun H70 B70 E70 L70 G70 N70 Q70 => ?_
     have row1 := (rowq.ext e6).ext E70
     refine XW row1.o rfl rfl rfl (Slc.of_get (z := 1) G70 N70 rfl).elemsAll rfl (by omega) fun oo2 oc2 h7 o7 e7 l7 f7 => ?_
     have row2 := row1.app1 (ol.toSlc.ext E70) (fun x hx => by
      obtain ⟨q, h1, h2⟩ := Xu hx
      have h3 := fl6 q h1
      refine ⟨by omega, fun hm => ?_, fun hm => ?_⟩
      ·obtain ⟨q2, k1, k2⟩ := Xu hm
       have := rowq.o.toSlc.lt q2 k1; omega
      ·obtain ⟨q2, k1, k2⟩ := Xu hm
       have := rowq.i.toSlc.lt q2 k1; omega) o7 e7 f7 (by omega)
     refine R ?_
     refine XJ (Xg (by conv => lhs; whnf) rfl rfl rfl XC) fun H80 B80 E80 L80 G80 N80 Q80 => ?_
     refine XW (row2.i.ext E80) rfl rfl rfl (Slc.of_get (z := 1) G80 N80 rfl).elemsAll rfl (by omega) fun io2 ic2 h8 o8 e8 l8 f8 => ?_
     have row3 := (row2.ext E80).app2 o8 e8 f8 (by omega)
     refine R ?_
     have eF := ((eqq.trans0 e6).trans0 E70).trans e7 (fun x hx => .inr (rowq.ob x hx))
     have eG := (eF.trans0 E80).trans e8 (fun x hx => .inr (rowq.ib x hx))
     have hlen1 : (vs ++ [Value.slice lo nb.length lc]).length = vs.length + 1 := by simp
     have hlen2 : (is ++ [XdE (Y1 (cur ++ [y]))]).length = is.length + 1 := by simp
     rw [<- hmany] at row3
     refine ⟨hlt, oo2, oc2, io2, ic2, vs ++ [.slice lo nb.length lc], is ++ [XdE (Y1 (cur ++ [y]))], XB lo ++ fp, cs ++ [cur ++ [y]], [], ?_, rfl, eG, by simp, by omega, by omega, by simp, by rw [hcut, hstep]; simp, ?_, by rw [his]; simp⟩
     ·rw [hlen1, hlen2]; exact ⟨rfl, rfl, rfl, rfl, rfl, rfl, rfl⟩
     ·rw [XiT]
      have hn1 : [cur ++ [y]].map (fun c => X4 lev [] c) = [nb] := by rw [hnb]; rfl
      rw [hn1]
      exact row3
    | false =>
     have hstep : X9 (eL lev) cur (ls.drop i) = X9 (eL lev) (cur ++ [y]) (ls.drop (i + 1)) := by
      have hne : (ls.drop (i + 1)).isEmpty = false := by
       rw [<- XjY, XjA]; exact fun e => by have := hrest.1 e; omega
      rw [hdrop, X9, he, hne]; rfl
     refine R ?_
     refine ⟨hlt, oo, oc, io, ic, vs, is, fp, cs, cur ++ [y], ⟨rfl, rfl, rfl, rfl, ?_, ?_, rfl⟩, rfl, ek, by simp; omega, by omega, by omega, ?_, by rw [hcut, hstep], row, his⟩
     ·rw [Xil, XjL, show i + 1 - (cur.length + 1) = i - cur.length by omega]; rfl
     ·rw [<- hsumS]; rfl
     ·rw [Xil, XjL, show i + 1 - (cur.length + 1) = i - cur.length by omega, hcurS]
  ·have hstep : X9 (eL lev) cur (ls.drop i) = (cur ++ [y]) :: X9 (eL lev) [] (ls.drop (i + 1)) := by
    rw [hdrop, X9, hrest.2 (by omega)]; simp
   refine R2 ?_
   refine Xf (Wa rfl rfl (by omega)) ?_
   refine R ?_
   refine Xf (Xbc rfl rfl (by omega) (by omega)) ?_
   refine R ?_
   refine Xe3 (l := i - cur.length) (r := i + 1) (sl.ext ek) rfl rfl rfl (by omega) (by omega) fun ao' ca' sl' hbl => ?_
   rw [show i + 1 - (i - cur.length) = cur.length + 1 by omega] at sl' ⊢
   have hsl' : ((fl Yj ls).drop ((i - cur.length) * 33)).take ((cur.length + 1) * 33) = fl Yj (cur ++ [y]) := by
    have := Xhi (enc := Yj) (z := 33) (l := ls) (fun x hx => YQ (hs x hx)) (i - cur.length) (cur.length + 1)
    rw [this, hcurS]
   rw [hsl'] at sl'
   have hcl1 : (cur ++ [y]).length = cur.length + 1 := by simp
   rw [<- hcl1] at sl' ⊢
   refine Xj (Xi rfl (ref21_inner_ok H (m + 2) (by omega) _ lev hlev (cur ++ [y]) ao' ca' sl' (by omega) hall)) ?_
   rintro v h6 ⟨lo, lc, rfl, ol, fl6, e6⟩
   have hmany : XdE (Y1 (cur ++ [y])) = .int .i64 (Xii (Y1 cur + y.2)) := by unfold XdE; rw [hsumS]
   obtain ⟨nb, hnb⟩ : ∃ nb, nb = X4 lev [] (cur ++ [y]) := ⟨_, rfl⟩
   rw [<- hnb] at ol ⊢
   have l6 := e6.next
   have rowq := row
   have eqq : Ext [] h _ := ek
   have lqq := eqq.next
   refine XJ (Xg (by conv => lhs; whnf) rfl rfl rfl XC) fun H40 B40 E40 L40 G40 N40 Q40 => ?_
   have row1 := (rowq.ext e6).ext E40
   refine XW row1.o rfl rfl rfl (Slc.of_get (z := 1) G40 N40 rfl).elemsAll rfl (by omega) fun oo2 oc2 h7 o7 e7 l7 f7 => ?_
   have row2 := row1.app1 (ol.toSlc.ext E40) (fun x hx => by
    obtain ⟨q, h1, h2⟩ := Xu hx
    have h3 := fl6 q h1
    refine ⟨by omega, fun hm => ?_, fun hm => ?_⟩
    ·obtain ⟨q2, k1, k2⟩ := Xu hm
     have := rowq.o.toSlc.lt q2 k1; omega
    ·obtain ⟨q2, k1, k2⟩ := Xu hm
     have := rowq.i.toSlc.lt q2 k1; omega) o7 e7 f7 (by omega)
   refine R ?_
   refine XJ (Xg (by conv => lhs; whnf) rfl rfl rfl XC) fun H50 B50 E50 L50 G50 N50 Q50 => ?_
   refine XW (row2.i.ext E50) rfl rfl rfl (Slc.of_get (z := 1) G50 N50 rfl).elemsAll rfl (by omega) fun io2 ic2 h8 o8 e8 l8 f8 => ?_
   have row3 := (row2.ext E50).app2 o8 e8 f8 (by omega)
   refine R ?_
   have eF := ((eqq.trans0 e6).trans0 E40).trans e7 (fun x hx => .inr (rowq.ob x hx))
   have eG := (eF.trans0 E50).trans e8 (fun x hx => .inr (rowq.ib x hx))
   have hlen1 : (vs ++ [Value.slice lo nb.length lc]).length = vs.length + 1 := by simp
   have hlen2 : (is ++ [XdE (Y1 (cur ++ [y]))]).length = is.length + 1 := by simp
   rw [<- hmany] at row3
   refine ⟨hlt, oo2, oc2, io2, ic2, vs ++ [.slice lo nb.length lc], is ++ [XdE (Y1 (cur ++ [y]))], XB lo ++ fp, cs ++ [cur ++ [y]], [], ?_, rfl, eG, by simp, by omega, by omega, by simp, by rw [hcut, hstep]; simp, ?_, by rw [his]; simp⟩
   ·rw [hlen1, hlen2]; exact ⟨rfl, rfl, rfl, rfl, rfl, rfl, rfl⟩
   ·rw [XiT]
    have hn1 : [cur ++ [y]].map (fun c => X4 lev [] c) = [nb] := by rw [hnb]; rfl
    rw [hn1]
    exact row3
 ·have hin : i = n := by omega
  have hcs : X9 (eL lev) [] ls = cs := by rw [hcut, hin, <- hn, List.drop_length]; simp [X9]
  refine R ?_
  exact ⟨rfl, _, Xb (Xw rfl) (Xb (Xw rfl) Xe), oo, oc, io, ic, vs, is, fp, rfl, by rw [hcs]; exact row, by rw [hcs]; exact his, ek⟩
end
theorem RowV.appM {h h3 : Heap} {base : Nat} {oo oo2 : Option Addr} {oc oc2 : Nat} {vs vs2 : List Value} {bs bs2 : List (List UInt8)} {fp fp2 : List Nat} (r : RowV h base oo oc none 0 vs [] bs fp) (b2 : Bss h fp2 vs2 bs2) (hb : ∀ x ∈ fp2, base <= x /\ x < h.next /\ x ∉ XB oo)
  (o5 : Own h3 1 oo2 (vs.length + vs2.length) oc2 (vs ++ vs2)) (e5 : Ext (XB oo) h h3) (f5 : ∀ a, oo2 = some a -> a.block ∈ XB oo \/ (h.next <= a.block /\ a.block < h3.next)) (hbase : base <= h.next) : RowV h3 base oo2 oc2 none 0 (vs ++ vs2) [] (bs ++ bs2) (fp2 ++ fp) := by
 have en := e5.next
 have h2 : ∀ x ∈ XB oo2, x ∈ XB oo \/ h.next <= x := fun x hx => by
  obtain ⟨a, h1, h2⟩ := Xu hx
  rcases f5 a h1 with k | k
  ·rw [<- h2]; exact .inl k
  ·rw [<- h2]; exact .inr k.1
 refine ⟨by rw [Xil]; exact o5, .empty _ _, ?_, fun x hx => ?_, (fun x hx => nomatch hx), fun x hx => ?_, fun x hx hi => nomatch hi⟩
 ·exact All2.append ((r.b.extS e5 fun x hx => (r.fb x hx).2.2.1).mono fun x hx => XiD.2 (.inr hx)) ((b2.extS e5 fun x hx => (hb x hx).2.2).mono fun x hx => XiD.2 (.inl hx))
 ·rcases h2 x hx with k | k
  ·exact r.ob x k
  ·omega
 ·rcases XiD.1 hx with k | k
  ·have k1 := hb x k
   exact ⟨k1.1, by omega, fun hq => (h2 x hq).elim k1.2.2 (fun k3 => by omega), fun hq => nomatch hq⟩
  ·have k1 := r.fb x k
   exact ⟨k1.1, by omega, fun hq => (h2 x hq).elim k1.2.2.1 (fun k3 => by omega), fun hq => nomatch hq⟩
theorem RowS.base {h : Heap} {base base' : Nat} {oo : Option Addr} {oc : Nat} {io : Option Addr} {ic : Nat} {vs is : List Value} {bs : List (List UInt8)} {fp : List Nat} (r : RowS h base oo oc io ic vs is bs fp) (q : base' <= base) : RowS h base' oo oc io ic vs is bs fp :=
 ⟨r.o, r.i, r.b, fun x hx => XiM q (r.ob x hx), fun x hx => XiM q (r.ib x hx), fun x hx => ⟨XiM q (r.fb x hx).1, (r.fb x hx).2⟩⟩
theorem putsR_one {f lev : Nat} {nds : List Nd} (h : nds.length <= 1) : Z2 (YD f lev nds) = nds.map (Nd.bytes lev) := by
 cases f with
 | zero => simp [YD, Z2]
 | succ f => rw [YD, if_pos h]; simp [Z2]
theorem putsR_more {f lev : Nat} {nds : List Nd} (h : 1 < nds.length) : Z2 (YD (f + 1) lev nds) = nds.map (Nd.bytes lev) ++ Z2 (YD f (lev + 1) (Zp lev nds)) := by
 rw [YD, if_neg (by omega)]
 simp [Z2]
section
variable {E : Env} {sg : Bool} (H : Has E)
include H
attribute [local irreducible] Sha
set_option maxHeartbeats 4000000 in
theorem ref21_Puts_ok (m : Nat) (hm : 100000000 <= m) (h : Heap) (texts : List (List UInt8)) (ao : Option Addr) (ca n : Nat) (hn : texts.length = n) (sl : Slc h 1 ao n ca (fl ZQ texts)) (ht : n <= 100) (hs : ∀ s ∈ texts, s.length <= 8000) :
  (enter E (ctx E (m + 8)) XdW [.slice ao n ca] h).Wp sg fun v h' => ∃ oo oc vs fp, v = .slice oo vs.length oc /\ RowV h' h.next oo oc none 0 vs [] (YU texts) fp /\ Ext [] h h' := by
 refine H.run (k := VS) rfl rfl rfl ?_
 dsimp only [VS]
 obtain ⟨lok, lsum, lpos, l100⟩ := XgK (texts := texts) (by omega) hs
 refine R ?_
 refine Xj (Xi rfl (ref21_Leaves_ok H m (by omega) _ texts ao ca n hn sl ht hs)) ?_
 rintro v h2 ⟨oo, oc, io, ic, vs, is, fp, rfl, row, his, e2⟩
 have l2 := e2.next
 have hvl : vs.length = (leaves texts).length := by rw [All2.length row.b, Xix]
 refine R ?_
 refine XJ XC fun H10 B10 E10 L10 G10 N10 Q10 => ?_
 refine R ?_
 have row1 := row.ext E10
 have nil1 : RowV H10 h.next (some ⟨B10, 0, none⟩) 0 none 0 [] [] [] [] := ⟨Own.lit G10 N10, .empty _ _, .nil, (fun x hx => by have : x = B10 := Xij.1 hx; omega), (fun _ h => nomatch h), (fun _ h => nomatch h), fun _ _ h => nomatch h⟩
 refine XW nil1.o rfl rfl rfl row1.o.elemsAll (by rw [Xir]) (by simp; omega) fun xo xc h3 o3 e3 l3 f3 => ?_
 have all1 := nil1.appM row1.b (fun x hx => ⟨(row1.fb x hx).1, (row1.fb x hx).2, fun hm => by have e1 : x = B10 := Xij.1 hm; have := (row.fb x hx).2; omega⟩) o3 e3 f3 (by omega)
 have e23 : Ext [] h2 h3 := E10.trans e3 (fun s hs => .inr (by have e1 : s = B10 := Xij.1 hs; omega))
 have row3 := row.ext e23
 refine R ?_
 refine Yr 101 1 (fun i t x hk => ∃ oo oc io ic vs is fp xo xc xs xfp nds f acc, (g3 t = (.slice oo vs.length oc) /\ g4 t = (.slice io is.length ic) /\ g5 t = (.slice xo xs.length xc) /\ g6 t = (.int .i64 (Xii i))) /\ x = ⟨[], none, none⟩ /\ Ext [] h hk /\ RowS hk h.next oo oc io ic vs is (nds.map (Nd.bytes (i - 1))) fp /\ is = nds.map (fun n => XdE n.many) /\ RowV hk h.next xo xc none 0 xs [] (acc ++ nds.map (Nd.bytes (i - 1))) xfp /\ YU texts = acc ++ Z2 (YD f (i - 1) nds) /\ f = 101 - i /\ 1 <= i /\ (∀ n ∈ nds, n.OK) /\ sumM nds <= 2000 /\ 0 < nds.length /\ nds.length + i <= 101 /\ acc.length <= 100 * i) ?_ (by omega) (XH (by omega)) ?_
 ·refine ⟨oo, oc, io, ic, vs, is, fp, xo, xc, [] ++ vs, fp ++ [], leaves texts, 100, [], ⟨rfl, rfl, ?_, rfl⟩, rfl, e2.trans0 e23, row3, his, all1, by rfl, rfl, by omega, lok, lsum, lpos, by omega, by simp⟩
  show Value.slice xo ([].length + vs.length) xc = Value.slice xo ([] ++ vs).length xc
  simp
 rintro i t x hk hi ⟨oo, oc, io, ic, vs, is, fp, xo, xc, xs, xfp, nds, f, acc, ⟨r3, r4, r5, r6⟩, rfl, ek, row, his, all, hput, hf, hi1, nok, nsum, npos, nlen, hacc⟩
 obtain ⟨t0, rfl⟩ : ∃ t0, t = p3 (.slice oo vs.length oc) (p4 (.slice io is.length ic) (p5 (.slice xo xs.length xc) (p6 (.int .i64 (Xii i)) t0))) := ⟨t, (show t = p3 (g3 t) (p4 (g4 t) (p5 (g5 t) (p6 (g6 t) t))) from rfl).trans (by rw [r3, r4, r5, r6])⟩
 clear r3 r4 r5 r6
 have hvl : vs.length = nds.length := by rw [All2.length row.b, Xix]
 have lk := ek.next
 by_cases hgt : 1 < vs.length
 ·refine R ?_
  refine Yr nds.length 0 (fun j t x hj => ∃ ro rc, (g3 t = (.slice oo vs.length oc) /\ g4 t = (.slice io is.length ic) /\ g5 t = (.slice xo xs.length xc) /\ g6 t = (.int .i64 (Xii i)) /\ g7 t = (.slice ro j rc) /\ g8 t = (.int .i64 (Xii j))) /\ x = ⟨[], none, none⟩ /\ Ext [] hk hj /\ Own hj 33 ro j rc (fl Yj ((links (i - 1) nds).take j)) /\ ∀ x ∈ XB ro, hk.next <= x) ⟨none, 0, ⟨rfl, rfl, rfl, rfl, rfl, rfl⟩, rfl, .refl hk, by rw [List.take_zero]; exact .empty _ _, fun x hx => nomatch hx⟩ (XiB _) (XH (by omega)) ?_
  rintro j t x hj hjn ⟨ro, rc, ⟨r3, r4, r5, r6, r7, r8⟩, rfl, ej, own, fr⟩
  obtain ⟨t0, rfl⟩ : ∃ t0, t = p3 (.slice oo vs.length oc) (p4 (.slice io is.length ic) (p5 (.slice xo xs.length xc) (p6 (.int .i64 (Xii i)) (p7 (.slice ro j rc) (p8 (.int .i64 (Xii j)) t0))))) := ⟨t, (show t = p3 (g3 t) (p4 (g4 t) (p5 (g5 t) (p6 (g6 t) (p7 (g7 t) (p8 (g8 t) t))))) from rfl).trans (by rw [r3, r4, r5, r6, r7, r8])⟩
  clear r3 r4 r5 r6 r7 r8
  have lj := ej.next
  by_cases hlj : j < nds.length
  ·obtain ⟨nd, hnd⟩ : ∃ nd, nds[j]? = some nd := ⟨_, Xit hlj⟩
   have hnd' : nds[j] = nd := Xiz.inj ((Xit hlj).symm.trans hnd)
   have rowj := row.ext ej
   obtain ⟨bo, bc, hv, sb, fb⟩ := rowj.b.get j (by omega) (by rw [Xix]; exact hlj)
   rw [List.getElem_map, hnd'] at hv sb
   have hndo := nok nd (XiH hnd)
   obtain ⟨a, wa, xa, hao, ga, na, ta⟩ := rowj.o.nonempty (by omega)
   subst hao
   have hisl : is.length = nds.length := by rw [his, Xix]
   obtain ⟨ia, wi, xi, hio, gi, ni, ti⟩ := rowj.i.nonempty (by omega)
   subst hio
   have hload : nth (a.off + j * 1) xa = some (.slice bo (nd.bytes (i - 1)).length bc) := by
    rw [Xir, X3 ta (by omega), Xit (by omega), hv]
   have hloadi : nth (ia.off + j * 1) xi = some (.int .i64 (Xii nd.many)) := by
    rw [Xir, X3 ti (by omega), his, XiF, hnd]; rfl
   obtain ⟨nb, hnb⟩ : ∃ nb, nb = nd.bytes (i - 1) := ⟨_, rfl⟩
   rw [<- hnb] at hload sb
   have hnbl : nb.length < 90000000 := by have := hndo.bytes_le (lev := i - 1) (by omega); rw [hnb]; omega
   refine R2 ?_
   refine Y2 (Xi rfl (Xhn H (m + 1) (by omega) _ nb bo nb.length bc rfl sb hnbl)) (fun _ _ _ => rfl) ?_
   rintro v h5 ⟨rfl, e5⟩
   have l5 := e5.next
   have gi5 := e5.get0 ni gi
   have hd32 : (Xa (Sha nb)).length = 32 := by rw [Xc, X2]
   refine R ?_
   refine Xk (XO rfl gi5 (by assumption)) (YH rfl (XF (XO rfl gi (by assumption)) rfl) rfl) ?_
   have hp1 : X1 (Xa (Sha nb)) 0 q_5ccab404 = Xa (Sha nb) ++ ([Value.int .i64 (Xii 0)] ++ []) := Yp (k := 0) (a := []) (b := Xa zeros32) (c := [.int .i64 (Xii 0)]) rfl (by rw [hd32]; rfl)
   have hp2 : X1 [Value.int .i64 (Xii nd.many)] 32 (X1 (Xa (Sha nb)) 0 q_5ccab404) = Yj (Sha nb, nd.many) := by
    rw [hp1]; exact Yp hd32 rfl
   have hel : (Yj (Sha nb, nd.many)).length = 33 := YQ (hnb ▸ hndo.link (i - 1))
   have hq33 : q_5ccab404.length = 33 := rfl
   refine Xk (Yo (cs := Yj (Sha nb, nd.many)) (Xg rfl rfl hd32 rfl (Xg rfl rfl rfl (by rw [hp1, Xil, hd32] <;> rfl) (congrArg some hp2)))) rfl ?_
   refine XdS (cs := Yj (Sha nb, nd.many)) (Xg rfl rfl hel rfl (congrArg some (YO (by rw [hel, hq33])))) (fun h' => rfl) (fun H7 B7 E7 L7 G7 N7 Q7 => ?_)
   refine Vb ((own.ext e5).ext E7) rfl rfl rfl (Slc.of_get (z := 33) G7 N7 hel).elemsAll hel (by omega) (fun h' => rfl) fun ro2 rc2 h8 o8 e8 l8 f8 => ?_
   refine R ?_
   refine ⟨hlj, ro2, rc2, ⟨rfl, rfl, rfl, rfl, rfl, rfl⟩, rfl, ((ej.trans0 e5).trans0 E7).trans e8 (fun x hx => .inr (fr x hx)), ?_, fun x hx => ?_⟩
   ·have hlj2 : (links (i - 1) nds)[j]? = some (Sha nb, nd.many) := by
     unfold links; rw [XiF, hnd, hnb]; rfl
    rw [XiN, hlj2, XdF]
    have : fl Yj (some (Sha nb, nd.many)).toList = Yj (Sha nb, nd.many) := by simp [fl]
    rw [this]; exact o8
   ·obtain ⟨q, k2, k3⟩ := Xu hx
    rcases f8 q k2 with k4 | k4
    ·rw [<- k3]; exact fr _ k4
    ·omega
  ·have hje : j = nds.length := by omega
   rw [List.take_of_length_le (by unfold links; rw [Xix]; omega)] at own
   have hlk : (links (i - 1) nds).length = j := by unfold links; rw [Xix, hje]
   refine R ?_
   refine Xj (Xi rfl (ref21_Inners_ok H m hm _ i (by omega) hi1 (links (i - 1) nds) ro rc j hlk own.toSlc (by omega) (fun y hy => by obtain ⟨n, hn, rfl⟩ := XiR.1 hy; exact (nok n hn).link (i - 1)))) ?_
   rintro v h6 ⟨oo2, oc2, io2, ic2, vs2, is2, fp2, rfl, row6, his2, e6⟩
   have l6 := e6.next
   refine R ?_
   have allj := (all.ext ej).ext e6
   have hb2 : vs2.length <= j := by
    rw [All2.length row6.b, Xix]
    have := cutG_half (fun k x => eL_two hi1 k x) [] (links (i - 1) nds)
    simp at this; omega
   have hxs : xs.length = acc.length + nds.length := by rw [All2.length all.b, Xil, Xix]
   refine XW allj.o rfl rfl rfl row6.o.toSlc.elemsAll (by rw [Xir]) (by omega) fun xo3 xc3 h9 o9 e9 l9 f9 => ?_
   have all9 := allj.appM row6.b (fun x hx => by
    have k1 := row6.fb x hx
    refine ⟨by omega, k1.2.1, fun hm => ?_⟩
    obtain ⟨q, k2, k3⟩ := Xu hm
    have := all.o.toSlc.lt q k2; omega) o9 e9 f9 (by omega)
   have row9 := (row6.toS.extS e9 (fun x hx => by obtain ⟨q, k2, k3⟩ := Xu hx; have := all.o.toSlc.lt q k2; omega)).base (base' := h.next) (by omega)
   refine R ?_
   have hii : i - 1 + 1 = i := by omega
   have hab : Zp (i - 1) nds = (X9 (eL i) [] (links (i - 1) nds)).map fun c => ⟨[], c⟩ := by unfold Zp; rw [hii]
   have hbm : (Zp (i - 1) nds).map (Nd.bytes i) = (X9 (eL i) [] (links (i - 1) nds)).map fun c => X4 i [] c := by rw [hab, Xja]; rfl
   have h2n : 2 <= nds.length := by omega
   have hal := Xhj (lev := i - 1) h2n
   rw [<- hbm] at all9 row9
   have hf1 : f = (101 - (i + 1)) + 1 := by omega
   rw [hf1, putsR_more (by omega), hii, <- List.append_assoc] at hput
   refine ⟨by omega, oo2, oc2, io2, ic2, vs2, is2, fp2, xo3, xc3, xs ++ vs2, fp2 ++ xfp, Zp (i - 1) nds, 101 - (i + 1), acc ++ nds.map (Nd.bytes (i - 1)), ⟨rfl, rfl, ?_, rfl⟩, rfl, ?_, row9, ?_, all9, hput, rfl, by omega, above_OK nok nsum, by rw [Xeh]; exact nsum, hal.1, by omega, by rw [Xil, Xix]; omega⟩
   ·rw [Xil]; rfl
   ·exact ((ek.trans0 ej).trans0 e6).trans e9 (fun x hx => .inr (all.ob x hx))
   ·rw [his2, hab, Xja]
    refine List.map_congr_left fun c _ => ?_
    show XdE (Y1 c) = XdE (0 + Y1 c)
    rw [Nat.zero_add]
 ·have hone : nds.length <= 1 := by omega
  rw [putsR_one hone] at hput
  refine R ?_
  exact ⟨rfl, _, Xb (Xw rfl) Xe, xo, xc, xs, xfp, rfl, by rw [hput]; exact all, ek⟩
end
theorem Bss.bytes {h : Heap} {fp : List Nat} {vs : List Value} {ls : List (List UInt8)} (c : Bss h fp vs ls) : ls.length = vs.length := (All2.length c).symm
section
variable {E : Env} {sg : Bool} (H : Has E)
include H
attribute [local irreducible] Sha
set_option maxHeartbeats 4000000 in
theorem law21_clash_ok (m : Nat) (hm : 100000000 <= m) (h : Heap) (xs ys : List (List UInt8)) (xo yo : Option Addr) (xc yc : Nat) (sx : Slc h 1 xo xs.length xc (fl ZQ xs)) (sy : Slc h 1 yo ys.length yc (fl ZQ ys)) (hx : xs.length <= 100) (hy : ys.length <= 100) (hxs : ∀ s ∈ xs, s.length <= 8000) (hys : ∀ s ∈ ys, s.length <= 8000)
  (hpx : (YU xs).length <= 100000) (hpy : (YU ys).length <= 100000) (hpb : ∀ b ∈ YU xs ++ YU ys, b.length < 90000000) :
  (enter E (ctx E (m + 9)) XcH [.slice xo xs.length xc, .slice yo ys.length yc] h).Wp sg fun v h' => ∃ b, v = .bool b /\ (b = false -> NoC (YU xs ++ YU ys)) /\ Ext [] h h' := by
 refine H.run (k := Vj) rfl rfl rfl ?_
 dsimp only [Vj]
 refine R ?_
 refine Xj (Xi rfl (ref21_Puts_ok H m (by omega) _ xs xo xc _ rfl sx hx hxs)) ?_
 rintro v h1 ⟨oo, oc, vs, fp, rfl, row, e1⟩
 have l1 := e1.next
 refine R ?_
 refine Xj (Xi rfl (ref21_Puts_ok H m (by omega) _ ys yo yc _ rfl (sy.ext e1) hy hys)) ?_
 rintro v h2 ⟨oo2, oc2, vs2, fp2, rfl, row2, e2⟩
 have l2 := e2.next
 have row1 := row.ext e2
 have k1 := row.b.bytes
 have k2 := row2.b.bytes
 refine XW row1.o rfl rfl rfl row2.o.toSlc.elemsAll (by rw [Xir]) (by omega) fun xo3 xc3 h3 o3 e3 l3 f3 => ?_
 have row3 := row1.appM row2.b (fun x hx => by
  have q1 := row2.fb x hx
  refine ⟨by omega, q1.2.1, fun hm => ?_⟩
  obtain ⟨q, k2, k3⟩ := Xu hm
  have := row.o.toSlc.lt q k2; omega) o3 e3 f3 (by omega)
 have eF : Ext [] h h3 := (e1.trans0 e2).trans e3 (fun x hx => .inr (row.ob x hx))
 rw [show vs.length + vs2.length = (vs ++ vs2).length by simp] at *
 refine Xj (Xi rfl (ref02_Clash_ok H (m + 1) (by omega) _ (vs ++ vs2) (YU xs ++ YU ys) xo3 xc3 _ rfl row3.o.toSlc (fp2 ++ fp) (fun b hb => (row3.fb b hb).2.1) row3.b hpb (by rw [Xil]; omega))) ?_
 rintro v h4 ⟨b, rfl, hb, e4⟩
 refine R ?_
 exact ⟨rfl, _, Xb (Xw rfl) Xe, b, rfl, hb, eF.trans0 e4⟩
end
def dskCells (many mb : Nat) : List Value := [.int .i64 0, .int .i64 (-1), .bool false, .bool true, .int .i64 (Xii many), .map (some mb), .slice none 0 0]
structure FreshD (h : Heap) (db mb many : Nat) : Prop where
 d : h.get db = some (.cells true (dskCells many mb))
 m : h.get mb = some (.map (.one (.int .i64)) 0 [])
 lt : db < h.next /\ mb < h.next
theorem FreshD.ext {h h' : Heap} {db mb many : Nat} (f : FreshD h db mb many) (e : Ext [] h h') : FreshD h' db mb many :=
 ⟨e.get0 f.lt.1 f.d, e.get0 f.lt.2 f.m, XiQ f.lt.1 e.next, XiQ f.lt.2 e.next⟩
def zeros64 : List UInt8 := List.replicate 64 0
theorem l_lookupI0 {t : Tm} {h : Heap} {x i : Xd} {zero : Value} {ok : Bool} {r gv : Nat} {k : Int} (hx : x t = .map (some r)) (hi : i t = .int .i64 k) (g : h.get r = some (.map (.one (.int .i64)) gv [])) : VB (.one (.int .i64)) zero ok x i t h = some (KZ zero ok none) := by
 unfold VB
 rw [hi, hx]
 have e : Wy (.one (.int .i64)) (.int .i64 k) = true := rfl
 rw [e]
 show (match h.get r with
  | some (.map sh' _ es) => bif !(XdI (.one (.int .i64)) sh') then none else Yu none (fun v => some (KZ zero ok v)) (KK (.one (.int .i64)) (.int .i64 k) es)
  | _ => none) = _
 rw [g]
 rfl
theorem wp_mkSliceE {sg : Bool} {N : Tm -> Aux -> Heap -> Prop} {X : Nat -> Tm -> Aux -> Heap -> Prop} {R : Tm -> Aux -> Heap -> Prop} {c : Ctx} {t : Tm} {x : Aux} {h : Heap} {g g' : Xd} {p : Value -> Tm -> Tm} {rest : KB} {z : List Value} {l k : Nat} (hg : g t = .int .i64 (Xii l)) (hg' : g' t = .int .i64 (Xii k)) (hl : l <= k) (hk : k < 1000000)
  (K : ∀ h' b, Ext [] h h' -> h.next <= h'.next -> h'.get b = some (.cells true (rep z k)) -> b < h'.next -> b = h.next -> (rest c (p (.slice (some ⟨b, 0, none⟩) l k) t) x h').Wp sg N X R) : (YR (Yl (Xa4 z g g')) p rest c t x h).Wp sg N X R := by
 refine K8 (l := Xa4 z g g') (v := .slice (some ⟨h.next, 0, none⟩) l k) (h' := h.push (.cells true (rep z k))) ?_ (K _ _ (.push _ _) (Nat.le_succ _) (Heap.get_new _ _) (XiG _) rfl)
 unfold Xa4
 rw [hg, hg']
 show (bif Nat.ble l k && Nat.blt k 1000000 then _ else _) = _
 have h1 : (Nat.ble l k && Nat.blt k 1000000) = true := by rw [Xiu, ble_iff, blt_iff]; exact ⟨hl, hk⟩
 rw [h1]; rfl
section
variable {E : Env} {sg : Bool} (H : Has E)
include H
theorem disk_New_ok (m : Nat) (h : Heap) (many : Nat) (hm : many <= 65536) : (enter E (ctx E m) f_disk_New [.int .i64 (Xii many)] h).Wp sg fun v h' => ∃ db mb, v = .tuple ⟨[.pointer (some ⟨db, 0, none⟩), .int .i64 (Xii 0)]⟩ /\ FreshD h' db mb many /\ h.next <= db /\ Ext [] h h' := by
 refine H.run (k := Xg0) rfl rfl rfl ?_
 dsimp only [Xg0]
 refine R ?_
 refine Xf (Yo (Xg (by conv => lhs; whnf) rfl rfl rfl XC)) ?_
 refine R ?_
 refine wp_mapE fun H1 B1 E1 L1 G1 N1 Q1 => ?_
 refine Xf (Yo (Xg (by conv => lhs; whnf) rfl rfl rfl (Xg (by conv => lhs; whnf) rfl rfl rfl (Xg (by conv => lhs; whnf) rfl rfl rfl (Xg (by conv => lhs; whnf) rfl rfl rfl XC))))) ?_
 refine X0 (by conv => lhs; whnf) rfl fun H2 B2 E2 L2 G2 N2 Q2 => ?_
 refine R ?_
 exact ⟨rfl, _, Xb (Xw rfl) (Xb (Xw rfl) Xe), B2, B1, rfl, ⟨G2, E2.get0 N1 G1, N2, by omega⟩, by omega, E1.trans0 E2⟩
theorem disk_ready_ok (m : Nat) (h : Heap) (db mb many n : Nat) (f : FreshD h db mb many) (hn : n < many) : (enter E (ctx E (m + 1)) Xex [.pointer (some ⟨db, 0, none⟩), .int .i64 (Xii n)] h).Wp sg fun v h' => v = .int .i64 (Xii 0) /\ h' = h := by
 refine H.run (k := Ut) rfl rfl rfl ?_
 dsimp only [Ut]
 have g := f.d
 refine R ?_
 refine X6 (Xi rfl (disk_none_ok H _ _ _ _ _ f.d rfl)) ?_
 refine R2 ?_
 refine Xf (l_geqN rfl rfl rfl) ?_
 refine R ?_
 exact ⟨rfl, _, Xb (Xw rfl) Xe, rfl, rfl⟩
set_option maxHeartbeats 1000000 in
theorem Xho (m : Nat) (hm : 10000 <= m) (h : Heap) (db mb many n : Nat) (f : FreshD h db mb many) (hn : n < many) : (enter E (ctx E (m + 2)) Xfs [.pointer (some ⟨db, 0, none⟩), .int .i64 (Xii n)] h).Wp sg fun v h' => ∃ b, v = .tuple ⟨[.slice (some ⟨b, 0, none⟩) 64 64, .int .i64 (Xii 0)]⟩ /\ h'.get b = some (.cells true (Xa zeros64)) /\ h.next <= b /\ b < h'.next /\ Ext [] h h' := by
 refine H.run (k := Jv) rfl rfl rfl ?_
 dsimp only [Jv]
 have g := f.d
 have gm := f.m
 refine R ?_
 refine X6 (Xi rfl (disk_ready_ok H _ _ _ _ _ _ f hn)) ?_
 refine R2 ?_
 refine Xf (l_lookupI0 rfl rfl gm) ?_
 refine Xt fun H3 B3 E3 L3 G3 N3 Q3 => ?_
 refine Xm rfl (by conv => lhs; whnf) rfl G3 rfl (Xiq rfl) fun H4 E4 L4 G4 => ?_
 refine R ?_
 have gd4 := E4.get1 (by have := f.lt; omega) (by have := f.lt; omega) (E3.get0 f.lt.1 g)
 refine R2 ?_
 refine Yr 0 0 (fun i t x hh => (g27 t = (.int .i64 (Xii 0)) /\ g26 t = (.int .i64 (Xii 0)) /\ g7 t = (.pointer (some ⟨B3, 0, none⟩))) /\ x = ⟨[], none, none⟩ /\ hh = H4) ⟨⟨rfl, rfl, rfl⟩, rfl, rfl⟩ (by decide) (XH (by omega)) ?_
 rintro i t x hh hi ⟨⟨r27, r26, r7⟩, rfl, rfl⟩
 obtain ⟨t0, rfl⟩ : ∃ t0, t = p27 (.int .i64 (Xii 0)) (p26 (.int .i64 (Xii 0)) (p7 (.pointer (some ⟨B3, 0, none⟩)) t0)) := ⟨t, (show t = p27 (g27 t) (p26 (g26 t) (p7 (g7 t) t)) from rfl).trans (by rw [r27, r26, r7])⟩
 clear r27 r26 r7
 refine R ?_
 refine Xf (Kv rfl rfl rfl (by omega) (by omega) (by omega)) ?_
 refine R ?_
 exact ⟨rfl, _, Xb (Xw rfl) (Xb (Xw rfl) Xe), B3, rfl, G4.trans (by rfl), by omega, by omega, E3.trans1 E4 (by omega)⟩
theorem bytes_Equal_ok (m : Nat) (h : Heap) (xs ys : List UInt8) (xo yo : Option Addr) (xn yn xc yc : Nat) (sx : Slc h 1 xo xn xc (Xa xs)) (sy : Slc h 1 yo yn yc (Xa ys)) : (enter E (ctx E m) f_bytes_Equal [.slice xo xn xc, .slice yo yn yc] h).Wp sg fun v h' => v = .bool (decide (xs = ys)) /\ h' = h := by
 refine H.run (k := Xbo) rfl rfl rfl ?_
 dsimp only [Xbo]
 refine R ?_
 refine Xf (XgF sx rfl) ?_
 refine R ?_
 refine Xf (XgF sy rfl) ?_
 have e : Z4 (bytes (⟨⟨xs⟩⟩ : ByteArray)) (bytes (⟨⟨ys⟩⟩ : ByteArray)) = decide (xs = ys) := (VN xs ys).trans (by rw [Bool.eq_iff_iff]; simp)
 refine Xf (l_eqS rfl rfl) ?_
 rw [e]
 refine R ?_
 exact ⟨rfl, _, Xb (Xw rfl) Xe, rfl, rfl⟩
set_option maxHeartbeats 1000000 in
theorem super_Unpack_0 (m : Nat) (h : Heap) (b : Nat) (g : h.get b = some (.cells true (Xa zeros64))) (hb : b < h.next) : (enter E (ctx E m) f_super_Unpack [.slice (some ⟨b, 0, none⟩) 64 64] h).Wp sg fun v h' => (∃ cs : List Value, cs.length = 35 /\ v = .tuple ⟨[.agg ⟨cs⟩, .bool false]⟩) /\ Ext [] h h' := by
 refine H.run (k := Xax) rfl rfl rfl ?_
 dsimp only [Xax]
 have n0 : nth (0 + 0 * 1) (Xa zeros64) = some (.int .u8 (Xii 0)) := rfl
 refine X7 ?_
 refine Xt fun H1 B1 E1 L1 G1 N1 Q1 => ?_
 refine R ?_
 have T2 := E1.get0 (by omega) g
 refine R2 ?_
 refine Xf (Yo XC) ?_
 refine Xm rfl (by conv => lhs; whnf) rfl G1 rfl (Xiq rfl) fun H3 E3 L3 G3 => ?_
 refine R ?_
 exact ⟨rfl, _, Xb (Y3 (cs := Y0) rfl G3 rfl) (Xb (Xw rfl) Xe), ⟨Y0, rfl, rfl⟩, E1.trans1 E3 (by omega)⟩
theorem super_greatest_0 (m : Nat) (hm : 10000 <= m) (h : Heap) (ao : Option Addr) (ca : Nat) (sl : Slc h 1 ao 2 ca [.pointer none, .pointer none]) : (enter E (ctx E m) Xfu [.slice ao 2 ca] h).Wp sg fun v h' => v = .int .i64 (-1) /\ Ext [] h h' := by
 refine H.run (k := Jy) rfl rfl rfl ?_
 dsimp only [Jy]
 obtain ⟨a, wa, xa, rfl, ga, na, ta⟩ := sl.nonempty (by decide)
 refine R ?_
 refine Yr 2 0 (fun i t x hh => (g3 t = (.int .i64 (-1)) /\ g6 t = (.slice (some a) 2 ca) /\ g7 t = (.int .i64 (Xii 2)) /\ g8 t = (.int .i64 (Xii i))) /\ x = ⟨[], none, none⟩ /\ hh = h) ⟨⟨rfl, rfl, rfl, rfl⟩, rfl, rfl⟩ (by decide) (XH (by omega)) ?_
 rintro i t x hh hi ⟨⟨r3, r6, r7, r8⟩, rfl, rfl⟩
 obtain ⟨t0, rfl⟩ : ∃ t0, t = p3 (.int .i64 (-1)) (p6 (.slice (some a) 2 ca) (p7 (.int .i64 (Xii 2)) (p8 (.int .i64 (Xii i)) t0))) := ⟨t, (show t = p3 (g3 t) (p6 (g6 t) (p7 (g7 t) (p8 (g8 t) t))) from rfl).trans (by rw [r3, r6, r7, r8])⟩
 clear r3 r6 r7 r8
 by_cases hlt : i < 2
 ·have hn : nth (a.off + i * 1) xa = some (.pointer none) := by
   rw [Xir, X3 ta (by omega)]
   have : i = 0 \/ i = 1 := by omega
   rcases this with rfl | rfl <;> rfl
  refine R2 ?_
  refine Xk rfl rfl ?_
  refine R ?_
  exact ⟨hlt, ⟨rfl, rfl, rfl, rfl⟩, rfl, rfl⟩
 ·refine R ?_
  exact ⟨rfl, _, Xb (Xw rfl) Xe, rfl, .refl _⟩
set_option maxHeartbeats 2000000 in
theorem super_slots_0 (m : Nat) (hm : 10000 <= m) (h : Heap) (db mb many : Nat) (f : FreshD h db mb many) (h2 : 2 <= many) : (enter E (ctx E (m + 3)) f_super_slots [.pointer (some ⟨db, 0, none⟩)] h).Wp sg fun v h' => ∃ ao ca, v = .tuple ⟨[.slice ao 2 ca, .bool true, .int .i64 (Xii 0)]⟩ /\ Slc h' 1 ao 2 ca [.pointer none, .pointer none] /\ Ext [] h h' := by
 refine H.run (k := Xbn) rfl rfl rfl ?_
 dsimp only [Xbn]
 refine R ?_
 refine Xj (Xi rfl (Xho H m hm _ db mb many 0 f (by omega))) ?_
 rintro v h1 ⟨b1, rfl, gb1, lb1, lb1', e1⟩
 have f1 := f.ext e1
 refine R ?_
 refine X6 (Xi rfl (disk_Len_ok H (m + 1) _ db many true _ f1.d rfl rfl)) ?_
 refine R ?_
 refine Yr 2 0 (fun i t x hk => ∃ oo oc, (g0 t = (.pointer (some ⟨db, 0, none⟩)) /\ g7 t = (.bool (decide (0 < i))) /\ g8 t = (.slice oo i oc) /\ g25 t = (.int .i64 (Xii i))) /\ x = ⟨[], none, none⟩ /\ Ext [] h hk /\ Own hk 1 oo i oc (List.replicate i (.pointer none)) /\ ∀ x ∈ XB oo, h.next <= x) ⟨none, 0, ⟨rfl, rfl, rfl, rfl⟩, rfl, e1, .empty _ _, fun x hx => nomatch hx⟩ (by decide) (XH (by omega)) ?_
 rintro i t x hk hi ⟨oo, oc, ⟨r0, r7, r8, r25⟩, rfl, ek, own, fr⟩
 obtain ⟨t0, rfl⟩ : ∃ t0, t = p0 (.pointer (some ⟨db, 0, none⟩)) (p7 (.bool (decide (0 < i))) (p8 (.slice oo i oc) (p25 (.int .i64 (Xii i)) t0))) := ⟨t, (show t = p0 (g0 t) (p7 (g7 t) (p8 (g8 t) (p25 (g25 t) t))) from rfl).trans (by rw [r0, r7, r8, r25])⟩
 clear r0 r7 r8 r25
 have lk := ek.next
 have fk := f.ext ek
 by_cases hlt : i < 2
 ·refine R ?_
  refine Xj (Xi rfl (Xho H m hm _ db mb many i fk (by omega))) ?_
  rintro v h3 ⟨b3, rfl, gb3, lb3, lb3', e3⟩
  have l3 := e3.next
  have sb3 : Slc h3 1 (some ⟨b3, 0, none⟩) 64 64 (Xa zeros64) := Slc.of_get gb3 lb3' rfl
  by_cases hi0 : i = 0
  ·subst hi0
   refine R ?_
   refine wp_mkSliceE rfl rfl (by decide) (by decide) fun H4 B4 E4 L4 G4 N4 Q4 => ?_
   refine XgV rfl ?_
   refine Xj (Xi rfl (bytes_Equal_ok H _ _ zeros64 zeros64 _ _ _ _ _ _ (sb3.ext E4) (Slc.of_get G4 N4 rfl))) ?_
   rintro v h4 ⟨rfl, rfl⟩
   refine R ?_
   refine Xj (Xi rfl (super_Unpack_0 H _ _ b3 (E4.get0 lb3' gb3) (by omega))) ?_
   rintro v h5 ⟨⟨cs, hcs, rfl⟩, e5⟩
   have l5 := e5.next
   refine R ?_
   refine Xt fun H60 B60 E60 L60 G60 N60 Q60 => ?_
   refine Xm rfl (by conv => lhs; whnf) rfl G60 (by assumption) (Xiq rfl) fun H61 E61 L61 G61 => ?_
   refine R ?_
   refine XJ (Xg (by conv => lhs; whnf) rfl rfl rfl XC) fun H62 B62 E62 L62 G62 N62 Q62 => ?_
   have e6f : Ext [] hk _ := ((e3.trans0 E4).trans0 e5)
   have eU : Ext [] hk H62 := ((e6f.trans0 E60).trans1 E61 (by omega)).trans0 E62
   have lU := eU.next
   refine XW (own.ext eU) rfl rfl rfl (Slc.of_get (z := 1) G62 N62 rfl).elemsAll rfl (by omega) fun oo2 oc2 h7 o7 e7 l7 f7 => ?_
   refine R ?_
   refine ⟨hlt, oo2, oc2, ⟨rfl, rfl, rfl, rfl⟩, rfl, (ek.trans0 eU).trans e7 (fun x hx => .inr (fr x hx)), o7, fun x hx => ?_⟩
   obtain ⟨q, k2, k3⟩ := Xu hx
   rcases f7 q k2 with k4 | k4
   ·rw [<- k3]; exact fr _ k4
   ·omega
  ·have hi1 : i = 1 := by omega
   subst hi1
   refine R ?_
   refine Xj (Xi rfl (super_Unpack_0 H _ _ b3 (gb3) (by omega))) ?_
   rintro v h5 ⟨⟨cs, hcs, rfl⟩, e5⟩
   have l5 := e5.next
   refine R ?_
   refine Xt fun H60 B60 E60 L60 G60 N60 Q60 => ?_
   refine Xm rfl (by conv => lhs; whnf) rfl G60 (by assumption) (Xiq rfl) fun H61 E61 L61 G61 => ?_
   refine R ?_
   refine XJ (Xg (by conv => lhs; whnf) rfl rfl rfl XC) fun H62 B62 E62 L62 G62 N62 Q62 => ?_
   have e6f : Ext [] hk _ := (e3.trans0 e5)
   have eU : Ext [] hk H62 := ((e6f.trans0 E60).trans1 E61 (by omega)).trans0 E62
   have lU := eU.next
   refine XW (own.ext eU) rfl rfl rfl (Slc.of_get (z := 1) G62 N62 rfl).elemsAll rfl (by omega) fun oo2 oc2 h7 o7 e7 l7 f7 => ?_
   refine R ?_
   refine ⟨hlt, oo2, oc2, ⟨rfl, rfl, rfl, rfl⟩, rfl, (ek.trans0 eU).trans e7 (fun x hx => .inr (fr x hx)), o7, fun x hx => ?_⟩
   obtain ⟨q, k2, k3⟩ := Xu hx
   rcases f7 q k2 with k4 | k4
   ·rw [<- k3]; exact fr _ k4
   ·omega
 ·have hi2 : i = 2 := by omega
  subst hi2
  refine R ?_
  exact ⟨rfl, _, Xb (Xw rfl) (Xb (Xw rfl) (Xb (Xw rfl) Xe)), oo, oc, rfl, own.toSlc, ek⟩
set_option maxHeartbeats 2000000 in
theorem super_Load_0 (m : Nat) (hm : 10000 <= m) (h : Heap) (db mb many : Nat) (f : FreshD h db mb many) (h2 : 2 <= many) : (enter E (ctx E (m + 4)) f_super_Load [.pointer (some ⟨db, 0, none⟩)] h).Wp sg fun v h' => (∃ cs : List Value, cs.length = 35 /\ v = .tuple ⟨[.agg ⟨cs⟩, .int .i64 (Xii 0), .int .i64 (Xii 6)]⟩) /\ Ext [] h h' := by
 refine H.run (k := Xdx) rfl rfl rfl ?_
 dsimp only [Xdx]
 refine X7 ?_
 refine Xt fun H1 B1 E1 L1 G1 N1 Q1 => ?_
 refine R ?_
 refine Xj (Xi rfl (super_slots_0 H m hm _ db mb many (f.ext E1) h2)) ?_
 rintro v h2 ⟨ao, ca, rfl, sl, e2⟩
 have l2 := e2.next
 refine R ?_
 refine Xj (Xi rfl (super_greatest_0 H _ (by omega) _ ao ca sl)) ?_
 rintro v h3 ⟨rfl, e3⟩
 have l3 := e3.next
 have g3 := e3.get0 (by omega) (e2.get0 N1 G1)
 refine R ?_
 refine Xf (l_geqI rfl rfl rfl) ?_
 refine R ?_
 refine Xf (Yo XC) ?_
 refine Xm rfl (by conv => lhs; whnf) rfl g3 rfl (Xiq rfl) fun H20 E20 L20 G20 => ?_
 refine R ?_
 exact ⟨rfl, _, Xb (Y3 (cs := Y0) rfl G20 rfl) (Xb (Xw rfl) (Xb (Xw rfl) Xe)), ⟨Y0, rfl, rfl⟩, ((E1.trans0 e2).trans0 e3).trans1 E20 (by omega)⟩
set_option maxHeartbeats 2000000 in
theorem store_fresh_ok (m : Nat) (h : Heap) : (enter E (ctx E m) f_store_fresh [] h).Wp sg fun v h' => ∃ gb, v = .agg ⟨[.slice none 0 0, .map (some gb)]⟩ /\ h'.get gb = some (.map (.many 32 .u8) 0 []) /\ h.next <= gb /\ gb < h'.next /\ Ext [] h h' := by
 refine H.run (k := Xbm) rfl rfl rfl ?_
 dsimp only [Xbm]
 refine X7 ?_
 refine Xt fun H1 B1 E1 L1 G1 N1 Q1 => ?_
 refine R ?_
 refine wp_mapE fun H2 B2 E2 L2 G2 N2 Q2 => ?_
 refine Xf (Yo (Xg (by conv => lhs; whnf) rfl rfl rfl XC)) ?_
 have T3 := E2.get0 (by omega) G1
 refine Xm rfl (by conv => lhs; whnf) rfl T3 rfl (Xiq rfl) fun H4 E4 L4 G4 => ?_
 refine R ?_
 exact ⟨rfl, _, Xb (Y3 (cs := [.slice none 0 0, .map (some B2)]) rfl G4 rfl) Xe, B2, rfl, E4.get1 N2 (by omega) G2, by omega, by omega, (E1.trans0 E2).trans1 E4 (by omega)⟩
set_option maxHeartbeats 2000000 in
theorem store_Open_0 (m : Nat) (hm : 10000 <= m) (h : Heap) (db mb many : Nat) (f : FreshD h db mb many) (h2 : 4 <= many) (base : Nat) (hb : base <= db) (hb2 : base <= h.next) : (enter E (ctx E (m + 5)) f_store_Open [.pointer (some ⟨db, 0, none⟩)] h).Wp sg fun v h' => ∃ p gb lb priv, v = .tuple ⟨[.pointer (some ⟨p, 0, none⟩), .int .i64 (Xii 0)]⟩ /\ StQ h' p gb db lb many [] priv /\ (∀ x ∈ priv, base <= x) /\ Ext [] h h' := by
 refine H.run (k := Xdu) rfl rfl rfl ?_
 dsimp only [Xdu]
 refine R ?_
 refine Xj (Xi rfl (Xho H (m + 2) (by omega) _ db mb many 0 f (by omega))) ?_
 rintro v h1 ⟨b1, rfl, gb1, lb1, lb1', e1⟩
 have f1 := f.ext e1
 have l1 := e1.next
 refine R ?_
 refine X6 (Xi rfl (disk_Len_ok H (m + 3) _ db many true _ f1.d rfl rfl)) ?_
 refine R ?_
 refine Xj (Xi rfl (store_fresh_ok H _ _)) ?_
 rintro v h2 ⟨gb, rfl, ggb, lgb, lgb', e2⟩
 have l2 := e2.next
 have f2 := f1.ext e2
 refine R ?_
 refine wp_mapE fun H30 B30 E30 L30 G30 N30 Q30 => ?_
 refine Xf (Yo (Xg (by conv => lhs; whnf) rfl rfl rfl (Xg (by conv => lhs; whnf) rfl rfl rfl (Xg (by conv => lhs; whnf) rfl rfl rfl XC)))) ?_
 refine X0 (by conv => lhs; whnf) rfl fun H31 B31 E31 L31 G31 N31 Q31 => ?_
 refine R ?_
 have gst : H31.get B31 = some (.cells true (stCells none 0 0 gb db B30)) := G31
 refine Xj (Xi rfl (super_Load_0 H m hm _ db mb many ((f2.ext E30).ext E31) (by omega))) ?_
 rintro v h4 ⟨⟨cs, hcs, rfl⟩, e4⟩
 have l4 := e4.next
 have hc0 : cs.length = 35 := hcs
 have gst4 := e4.get0 N31 gst
 have gl4 := e4.get0 (by omega) (E31.get0 N30 G30)
 have gg4 := e4.get0 (by omega) (E31.get0 (by omega) (E30.get0 lgb' ggb))
 have f4 := ((f2.ext E30).ext E31).ext e4
 refine R ?_
 refine Xt fun H40 B40 E40 L40 G40 N40 Q40 => ?_
 refine Xm rfl (by conv => lhs; whnf) rfl G40 (by assumption) (Xiq rfl) fun H41 E41 L41 G41 => ?_
 refine R ?_
 have eF : Ext [] h H41 := (((((e1.trans0 e2).trans0 E30).trans0 E31).trans0 e4).trans0 E40).trans1 E41 (by omega)
 have s1 : StQ h4 B31 gb db B30 many [] (stBlk B31 gb db B30 none []) := by
  have d1 := f4.lt.1
  have d2 := f1.lt.1
  refine ⟨none, 0, 0, [], ⟨gst4, .empty _ _, gg4, gl4, ⟨true, _, f4.d, rfl, rfl⟩, ⟨by omega, by omega, by omega, by omega⟩, ⟨by omega, by omega, by omega, by omega, by omega⟩, (fun a ha => nomatch ha), (fun y hy => nomatch hy), trivial⟩, rfl, rfl⟩
 refine ⟨rfl, _, Xb (Xw rfl) (Xb (Xw rfl) Xe), B31, gb, B30, _, rfl, s1.ext (E40.trans1 E41 (by omega)), fun x hx => ?_, eF⟩
 rcases mem_stBlk.1 hx with rfl | rfl | rfl | rfl | hx | ⟨y, hy, hx⟩
 ·omega
 ·omega
 ·exact hb
 ·omega
 ·exact nomatch hx
 ·exact nomatch hy
theorem law21_made_ok (m : Nat) (hm : 10000 <= m) (h : Heap) : (enter E (ctx E (m + 6)) XdV [] h).Wp sg fun v h' => ∃ p gb db lb priv, v = .tuple ⟨[.pointer (some ⟨db, 0, none⟩), .pointer (some ⟨p, 0, none⟩)]⟩ /\ StQ h' p gb db lb 4000 [] priv /\ (∀ x ∈ priv, h.next <= x) /\ Ext [] h h' := by
 refine H.run (k := VR) rfl rfl rfl ?_
 dsimp only [VR]
 refine R ?_
 refine Xj (Xi rfl (disk_New_ok H _ _ 4000 (by decide))) ?_
 rintro v h1 ⟨db, mb, rfl, f1, hdb, e1⟩
 have l1 := e1.next
 refine R ?_
 refine Xf rfl ?_
 refine R ?_
 refine Xj (Xi rfl (store_Open_0 H m hm _ db mb 4000 f1 (by decide) h.next hdb l1)) ?_
 rintro v h2 ⟨p, gb, lb, priv, rfl, s2, hpr, e2⟩
 refine R ?_
 exact ⟨rfl, _, Xb (Xw rfl) (Xb (Xw rfl) Xe), p, gb, db, lb, priv, rfl, s2, hpr, e1.trans0 e2⟩
end
theorem stPut_mem {L : List (List UInt8)} {b : List UInt8} (h : ∀ a ∈ L, Sha a = Sha b -> a = b) : b ∈ Ji L b := by
 unfold Ji
 split
 ·rename_i hm
  obtain ⟨a, ha, e⟩ := XiR.1 hm
  rw [<- h a ha e]; exact ha
 ·exact Xjj _ (Xij.2 rfl)
theorem putAll_sub {bs : List (List UInt8)} : ∀ {L : List (List UInt8)} {x : List UInt8}, x ∈ YT L bs -> x ∈ L \/ x ∈ bs := by
 induction bs with
 | nil => intro L x h; exact .inl h
 | cons b bs ih =>
  intro L x h
  rcases ih (L := Ji L b) h with k | k
  ·rcases stPut_sub x k with k | rfl
   ·exact .inl k
   ·exact .inr XiV
  ·exact .inr (Xi9 _ k)
theorem XeU {bs : List (List UInt8)} : ∀ {L : List (List UInt8)} {x : List UInt8}, x ∈ L -> x ∈ YT L bs := by
 induction bs with
 | nil => intro L x h; exact h
 | cons b bs ih => intro L x h; exact ih (stPut_mono x h)
theorem putAll_mem {bs : List (List UInt8)} : ∀ {L : List (List UInt8)}, (∀ a ∈ L ++ bs, ∀ b ∈ L ++ bs, Sha a = Sha b -> a = b) -> ∀ x ∈ bs, x ∈ YT L bs := by
 induction bs with
 | nil => intro L _ x h; exact nomatch h
 | cons b bs ih =>
  intro L noc x h
  have hb : b ∈ Ji L b := stPut_mem fun a ha e => noc a (Xjo _ ha) b (Xjj _ XiV) e
  rcases List.mem_cons.1 h with rfl | h
  ·show x ∈ YT (Ji L x) bs
   exact XeU hb
  ·refine ih (L := Ji L b) (fun a ha c hc e => ?_) x h
   have q : ∀ y ∈ Ji L b ++ bs, y ∈ L ++ b :: bs := fun y hy => by
    rcases XiD.1 hy with k | k
    ·rcases stPut_sub y k with k | rfl
     ·exact Xjo _ k
     ·exact Xjj _ XiV
    ·exact Xjj _ (Xi9 _ k)
   exact noc a (q a ha) c (q c hc) e
structure Nd.Small (nd : Nd) : Prop extends nd.OK where
 t100 : ∀ s ∈ nd.texts, s.length <= 100
 tl : nd.texts = [] \/ nd.links = []
theorem Nd.Small.bytes_le {nd : Nd} (h : nd.Small) {lev : Nat} (hl : lev <= 1000) : (nd.bytes lev).length <= 820 := by
 have ct := cat_le (f := X5) (l := nd.texts) (k := 101) fun x hx => by
  have := h.t100 x hx
  unfold X5; rw [Xil, ZK (by omega)]; simp; omega
 have cl := cat_le (f := Y5) (l := nd.links) (k := 36) fun x hx => encLk_le (h.ls x hx)
 have i1 := Zs (k := lev) (by omega)
 have h1 := h.t8
 have h2 := h.l8
 have i2 := Zs (k := nd.texts.length + nd.links.length) (by omega)
 have h3 : nd.texts.length = 0 \/ nd.links.length = 0 := h.tl.imp (fun e => by rw [e]; rfl) (fun e => by rw [e]; rfl)
 unfold Nd.bytes X4
 rw [Xil, Xil, Xil]
 omega
theorem above_Small {lev : Nat} {nds : List Nd} (h : ∀ n ∈ nds, n.Small) (hs : sumM nds <= 2000) : ∀ n ∈ Zp lev nds, n.Small := by
 intro n hn
 have hok := above_OK (fun n hn => (h n hn).toOK) hs n hn
 unfold Zp at hn
 obtain ⟨c, hc, rfl⟩ := XiR.1 hn
 exact ⟨hok, (fun s hs => nomatch hs), .inl rfl⟩
theorem rows_small (f : Nat) : ∀ (lev : Nat) (nds : List Nd), (∀ n ∈ nds, n.Small) -> sumM nds <= 2000 -> lev + f <= 1000 -> ∀ b ∈ Z2 (YD f lev nds), b.length <= 820 := by
 have one : ∀ (lev : Nat) (nds : List Nd), (∀ n ∈ nds, n.Small) -> lev <= 1000 -> ∀ b ∈ nds.map (Nd.bytes lev), b.length <= 820 := by
  intro lev nds h hl b hb
  obtain ⟨n, hn, rfl⟩ := XiR.1 hb
  exact (h n hn).bytes_le hl
 induction f with
 | zero =>
  intro lev nds h hs hl b hb
  rw [show Z2 (YD 0 lev nds) = nds.map (Nd.bytes lev) by simp [YD, Z2]] at hb
  exact one lev nds h (by omega) b hb
 | succ f ih =>
  intro lev nds h hs hl b hb
  by_cases h1 : nds.length <= 1
  ·rw [putsR_one h1] at hb; exact one lev nds h (by omega) b hb
  ·rw [putsR_more (by omega)] at hb
   rcases XiD.1 hb with hb | hb
   ·exact one lev nds h (by omega) b hb
   ·exact ih (lev + 1) (Zp lev nds) (above_Small h hs) (by rw [Xeh]; exact hs) (by omega) b hb
theorem above_half (lev : Nat) (nds : List Nd) : (Zp lev nds).length * 2 <= nds.length + 1 := by
 unfold Zp
 rw [Xix]
 have h1 := cutG_half (fun k x => eL_two (Nat.succ_pos lev) k x) [] (links lev nds)
 have h2 : (links lev nds).length = nds.length := by unfold links; rw [Xix]
 rw [h2] at h1
 simpa using h1
theorem rows_count (k : Nat) : ∀ (f lev : Nat) (nds : List Nd), nds.length <= 2 ^ k -> (Z2 (YD f lev nds)).length <= 2 * nds.length + k := by
 induction k with
 | zero =>
  intro f lev nds h
  rw [putsR_one (by simpa using h), Xix]; omega
 | succ k ih =>
  intro f lev nds h
  by_cases h1 : nds.length <= 1
  ·rw [putsR_one h1, Xix]; omega
  ·cases f with
   | zero =>
    rw [show Z2 (YD 0 lev nds) = nds.map (Nd.bytes lev) by simp [YD, Z2], Xix]; omega
   | succ f =>
    have h2 := above_half lev nds
    rw [Nat.pow_succ] at h
    have h3 := ih f (lev + 1) (Zp lev nds) (by omega)
    rw [putsR_more (by omega), Xil, Xix]
    omega
theorem cutG_count {α : Type} (e : Nat -> α -> Bool) (l : List α) : ∀ cur : List α, (X9 e cur l).length <= l.length := by
 induction l with
 | nil => intro cur; simp [X9]
 | cons x l ih =>
  intro cur
  rw [X9]
  split
  ·have := ih []; simp; omega
  ·have := ih (cur ++ [x]); simp; omega
theorem leaves_count (texts : List (List UInt8)) : (leaves texts).length <= texts.length + 1 := by
 unfold leaves
 split
 ·simp
 ·rw [Xix]
  have := cutG_count eS texts []
  omega
theorem usedL_le {L : List (List UInt8)} {n : Nat} (h : ∀ b ∈ L, b.length <= 820) : Zo L <= 14 * L.length := by
 induction L with
 | nil => simp [Zo]
 | cons b L ih =>
  have h1 := h b XiV
  have h2 := ih fun x hx => h x (Xi9 _ hx)
  show Ye b.length + Zo L <= 14 * (L.length + 1)
  have : Ye b.length <= 14 := by unfold Ye; omega
  omega
theorem puts_small {texts : List (List UInt8)} (ht : texts.length <= 60) (hs : ∀ s ∈ texts, s.length <= 100) : (YU texts).length <= 128 /\ (∀ b ∈ YU texts, b.length <= 820) /\ Zo (YU texts) <= 1792 := by
 obtain ⟨lok, lsum, lpos, l100⟩ := XgK (texts := texts) (by omega) (fun s h => by have := hs s h; omega)
 have lc := leaves_count texts
 have hc := rows_count 6 100 0 (leaves texts) (by omega)
 have hsm : ∀ n ∈ leaves texts, n.Small := by
  intro n hn
  have h1 := lok n hn
  unfold leaves at hn
  split at hn
  ·rw [Xij.1 hn] at h1 ⊢
   exact ⟨h1, (fun s hs => nomatch hs), .inl rfl⟩
  ·obtain ⟨c, hc, rfl⟩ := XiR.1 hn
   refine ⟨h1, fun s hs' => hs s ?_, .inr rfl⟩
   rw [<- Vd eS texts]
   exact List.mem_flatten.2 ⟨c, hc, hs'⟩
 have hb := rows_small 100 0 (leaves texts) hsm lsum (by omega)
 have hu := usedL_le (L := YU texts) (n := 0) hb
 have hc' : (YU texts).length <= 128 := by unfold YU rowsT; omega
 exact ⟨hc', hb, by omega⟩
theorem Wp_both {r : Er} {Q Q' : Value -> Heap -> Prop} (h : r.Wp true Q) (h' : r.Wp true Q') : ∃ v hh, Q v hh /\ Q' v hh := by
 obtain ⟨v, hh, e, q⟩ := h.one
 rw [e] at h'
 exact ⟨v, hh, q, h'⟩
theorem fl_encS_inj {xs ys : List (List UInt8)} (h : fl ZQ xs = fl ZQ ys) : xs = ys := by
 rw [W8, W8] at h
 induction xs generalizing ys with
 | nil => cases ys with
  | nil => rfl
  | cons y ys => exact nomatch h
 | cons x xs ih => cases ys with
  | nil => exact nomatch h
  | cons y ys =>
   rw [List.map_cons, List.map_cons, List.cons.injEq] at h
   obtain ⟨h1, h2⟩ := h
   have : x = y := by
    have e : sv x = sv y := h1
    unfold sv at e
    injection e with e
    injection e with e
    injection e
   rw [this, ih h2]
section
variable {E : Env} {sg : Bool} (H : Has E)
include H
attribute [local irreducible] Sha
theorem root_inj {h : Heap} {p gb db lb many : Nat} {L : List (List UInt8)} (hL : L.length <= 1000000) (noc : ∀ a ∈ L, ∀ b ∈ L, Sha a = Sha b -> a = b) {priv : List Nat} (s : StQ h p gb db lb many L priv) {xs ys : List (List UInt8)} (hx1 : xs.length <= 100) (hx2 : ∀ s ∈ xs, s.length <= 8000) (hx3 : ∀ b ∈ YU xs, b ∈ L) (hy1 : ys.length <= 100) (hy2 : ∀ s ∈ ys, s.length <= 8000) (hy3 : ∀ b ∈ YU ys, b ∈ L) (e : Wg xs = Wg ys) : xs = ys := by
 have h1 := Xhk (sg := true) H 100000000 (Xim _) h p gb db lb many L hL noc priv s xs hx1 hx2 hx3
 have h2 := Xhk (sg := true) H 100000000 (Xim _) h p gb db lb many L hL noc priv s ys hy1 hy2 hy3
 rw [e] at h1
 obtain ⟨v, hh, ⟨ao, ca, rfl, o1, _⟩, bo, cb, e2, o2, _⟩ := Wp_both h1 h2
 have e3 : Value.slice ao xs.length ca = Value.slice bo ys.length cb := by
  injection e2 with e2
  injection e2 with e2
  injection e2 with e2
 injection e3 with q1 q2 q3
 subst q1
 cases ao with
 | none =>
  have z1 := o1.toSlc.nil rfl
  have z2 := o2.toSlc.nil rfl
  have c1 := o1.toSlc.cap
  have c2 := o2.toSlc.cap
  rw [XjH.1 (show xs.length = 0 by omega), XjH.1 (show ys.length = 0 by omega)]
 | some a =>
  obtain ⟨w1, x1, g1, _, t1⟩ := o1.toSlc.rd a rfl
  obtain ⟨w2, x2, g2, _, t2⟩ := o2.toSlc.rd a rfl
  rw [g1] at g2
  cases g2
  rw [q2, t2] at t1
  exact (fl_encS_inj (Xiz.inj t1)).symm
set_option maxHeartbeats 4000000 in
theorem law21_SegApart_ok (m : Nat) (hm : 100000000 <= m) (h : Heap) (xs ys : List (List UInt8)) (xo yo : Option Addr) (xc yc : Nat) (sx : Slc h 1 xo xs.length xc (fl ZQ xs)) (sy : Slc h 1 yo ys.length yc (fl ZQ ys)) :
  (enter E (ctx E (m + 1109)) f_retconlaw21_SegApart [.slice xo xs.length xc, .slice yo ys.length yc] h).Wp sg fun v h' => v = .bool true := by
 refine H.run (k := k_retconlaw21_SegApart) rfl rfl rfl ?_
 dsimp only [k_retconlaw21_SegApart]
 refine R ?_
 refine X6 (Xi rfl (H.true rfl)) ?_
 refine R ?_
 refine Xj (Xi rfl (law21_made_ok H (m + 1102) (by omega) _)) ?_
 rintro v h1 ⟨p, gb, db, lb, priv, rfl, s1, hpr, e1⟩
 have l1 := e1.next
 refine R ?_
 refine Xf rfl ?_
 refine R ?_
 refine Xj (Xi rfl (law21_big_ok H _ (by omega) _ xs xo xc (sx.ext e1))) ?_
 rintro v h2 ⟨r, rfl, hr, rfl⟩
 cases r with
 | true =>
  refine R ?_
  exact ⟨rfl, _, Xb (Xw rfl) Xe, rfl⟩
 | false =>
 obtain ⟨hx60, hx100⟩ := hr rfl
 refine R ?_
 refine Xj (Xi rfl (law21_big_ok H _ (by omega) _ ys yo yc (sy.ext e1))) ?_
 rintro v h2 ⟨r, rfl, hr, rfl⟩
 cases r with
 | true =>
  refine R ?_
  exact ⟨rfl, _, Xb (Xw rfl) Xe, rfl⟩
 | false =>
 obtain ⟨hy60, hy100⟩ := hr rfl
 obtain ⟨px1, px2, px3⟩ := puts_small hx60 hx100
 obtain ⟨py1, py2, py3⟩ := puts_small hy60 hy100
 refine R ?_
 refine Xj (Xi rfl (law21_clash_ok H (m + 1099) (by omega) _ xs ys xo yo xc yc (sx.ext e1) (sy.ext e1) (by omega) (by omega) (fun s hs => by have := hx100 s hs; omega) (fun s hs => by have := hy100 s hs; omega) (by omega) (by omega) (fun b hb => by rcases XiD.1 hb with k | k; have := px2 b k; omega; have := py2 b k; omega))) ?_
 rintro v h3 ⟨r, rfl, hr, e3⟩
 have l3 := e3.next
 cases r with
 | true =>
  refine R ?_
  exact ⟨rfl, _, Xb (Xw rfl) Xe, rfl⟩
 | false =>
 have noc := hr rfl
 refine R ?_
 have hxl := sx.lt
 have hyl := sy.lt
 refine Xj (Xi rfl (seg_Build_ok H m hm _ p gb db lb 4000 [] priv (s1.ext e3) (by decide) xs (by omega) (fun s hs => by have := hx100 s hs; omega) (by simp; omega) (by simp [Zo]; omega) xo xc (sx.ext (e1.trans0 e3)) (fun a ha hm => by have := hpr _ hm; have := hxl a ha; omega))) ?_
 rintro v h4 ⟨rfl, pr4, s4, e4, q4⟩
 have l4 := e4.next
 have hrx : (Wg xs).length = 32 := root32 xs (by omega) (fun s hs => by have := hx100 s hs; omega)
 have hrxv : (Xa (Wg xs)).length = 32 := by rw [Xc, hrx]
 have lt4 := s4.lt
 refine R ?_
 refine Xt fun H50 B50 E50 L50 G50 N50 Q50 => ?_
 refine Xm rfl (by conv => lhs; whnf) rfl G50 (by assumption) (Xiq rfl) fun H51 E51 L51 G51 => ?_
 refine R ?_
 have g51 : H51.get B50 = some (.cells true (Xa (Wg xs))) := G51.trans (congrArg (fun z => some (AObj.cells true z)) (YO hrxv))
 have e5 : Ext [] h4 H51 := E50.trans1 E51 (by omega)
 have hpn : ∀ x ∈ priv, x ∉ ([] : List Nat) := fun x hx hm => nomatch hm
 have eh4 : ∀ b, b < h.next -> b ∉ priv := fun b hb hm => by have := hpr b hm; omega
 have sx4 := (((sx.ext e1).ext e3).extS e4 (fun a ha => eh4 _ (hxl a ha))).ext e5
 have sy4 := (((sy.ext e1).ext e3).extS e4 (fun a ha => eh4 _ (hyl a ha))).ext e5
 have eq4 : ∀ b, b < h.next -> b ∉ pr4 := fun b hb hm => by
  rcases q4 b hm with k | k
  ·exact eh4 b hb k
  ·omega
 have pa := XeT [] (YU xs)
 refine Xj (Xi rfl (seg_Build_ok H m hm _ p gb db lb 4000 (YT [] (YU xs)) pr4 (s4.ext e5) (by decide) ys (by omega) (fun s hs => by have := hy100 s hs; omega) (by simp at pa; omega) (by simp [Zo] at pa; omega) yo yc sy4 (fun a ha => eq4 _ (hyl a ha)))) ?_
 rintro v h6 ⟨rfl, pr6, s6, e6, q6⟩
 have l6 := e6.next
 have hry : (Wg ys).length = 32 := root32 ys (by omega) (fun s hs => by have := hy100 s hs; omega)
 have hryv : (Xa (Wg ys)).length = 32 := by rw [Xc, hry]
 have g6 := e6.getS (b := B50) (by omega) (fun hm => by have := lt4 _ hm; omega) g51
 have trx : XV 32 (XZ 0 (Xa (Wg xs))) = some (Xa (Wg xs)) := XK hrxv
 have try' : XV 32 (XZ 0 (Xa (Wg ys))) = some (Xa (Wg ys)) := XK hryv
 refine R ?_
 refine Xt fun H60 B60 E60 L60 G60 N60 Q60 => ?_
 refine Xm rfl (by conv => lhs; whnf) rfl G60 (by assumption) (Xiq rfl) fun H61 E61 L61 G61 => ?_
 refine R ?_
 have T62 := E60.get0 (by omega) g6
 have T63 := E61.get1 (by omega) (by omega) T62
 refine R2 ?_
 have g61 : H61.get B60 = some (.cells true (Xa (Wg ys))) := G61.trans (congrArg (fun z => some (AObj.cells true z)) (YO hryv))
 refine R2 ?_
 have e7 : Ext [] h6 H61 := E60.trans1 E61 (by omega)
 have pb := XeT (YT [] (YU xs)) (YU ys)
 have sub : ∀ x ∈ YT (YT [] (YU xs)) (YU ys), x ∈ YU xs ++ YU ys := fun x hx => by
  rcases putAll_sub hx with k | k
  ·rcases putAll_sub k with k | k
   ·exact nomatch k
   ·exact Xjo _ k
  ·exact Xjj _ k
 have nocL : ∀ a ∈ YT (YT [] (YU xs)) (YU ys), ∀ b ∈ YT (YT [] (YU xs)) (YU ys), Sha a = Sha b -> a = b := fun a ha b hb => noc.2 a (sub a ha) b (sub b hb)
 have inx : ∀ b ∈ YU xs, b ∈ YT (YT [] (YU xs)) (YU ys) := fun b hb => XeU (putAll_mem (fun a ha c hc => noc.2 a (Xjo _ (by simpa using ha)) c (Xjo _ (by simpa using hc))) b hb)
 have iny : ∀ b ∈ YU ys, b ∈ YT (YT [] (YU xs)) (YU ys) := putAll_mem (fun a ha c hc => noc.2 a (by
   rcases XiD.1 ha with k | k
   ·exact sub a (XeU k)
   ·exact Xjj _ k) c (by
   rcases XiD.1 hc with k | k
   ·exact sub c (XeU k)
   ·exact Xjj _ k))
 have hx8 : ∀ s ∈ xs, s.length <= 8000 := fun s hs => by have := hx100 s hs; omega
 have hy8 : ∀ s ∈ ys, s.length <= 8000 := fun s hs => by have := hy100 s hs; omega
 refine Xj (Xi rfl (seg_Common_ok H (m + 1008) (by omega) _ p gb db lb 4000 _ (by simp at pa; omega) nocL pr6 (s6.ext e7) xs ys (by omega) hx8 inx (by omega) hy8 iny)) ?_
 rintro v h8 ⟨rfl, e8⟩
 have l8 := e8.next
 have sx8 := ((sx4.extS e6 (fun a ha => eq4 _ (hxl a ha))).ext e7).ext e8
 have sy8 := ((sy4.extS e6 (fun a ha => eq4 _ (hyl a ha))).ext e7).ext e8
 have gb50 := e8.get0 (by omega) T63
 have gb60 := e8.get0 (by omega) g61
 have hroot : decide (Wg xs = Wg ys) = decide (xs = ys) := decide_eq_decide.2 ⟨fun e => root_inj H (by simp at pa; omega) nocL s6 (by omega) hx8 inx (by omega) hy8 iny e, fun e => by rw [e]⟩
 have cle := common_le xs ys
 have tids := XaD 32 (Wg xs) (Wg ys) hrx hry
 refine R ?_
 refine Yr (ZZ xs ys) 0 (fun k t x hk => (g0 t = (.slice xo xs.length xc) /\ g1 t = (.slice yo ys.length yc) /\ g5 t = (.bool true) /\ g8 t = (.pointer (some ⟨B50, 0, none⟩)) /\ g9 t = (.int .i64 (Xii 0)) /\ g10 t = (.pointer (some ⟨B60, 0, none⟩)) /\ g11 t = (.int .i64 (Xii 0)) /\ g12 t = (.int .i64 (Xii (ZZ xs ys))) /\ g13 t = (.int .i64 (Xii 0)) /\ g14 t = (.int .i64 (Xii k))) /\ x = ⟨[], none, none⟩ /\ hk = h8) ⟨⟨rfl, rfl, rfl, rfl, rfl, rfl, rfl, rfl, rfl, rfl⟩, rfl, rfl⟩ (XiB _) (XH (by omega)) ?_
 rintro k t x hk hkc ⟨⟨r0, r1, r5, r8, r9, r10, r11, r12, r13, r14⟩, rfl, rfl⟩
 obtain ⟨t0, rfl⟩ : ∃ t0, t = p0 (.slice xo xs.length xc) (p1 (.slice yo ys.length yc) (p5 (.bool true) (p8 (.pointer (some ⟨B50, 0, none⟩)) (p9 (.int .i64 (Xii 0)) (p10 (.pointer (some ⟨B60, 0, none⟩)) (p11 (.int .i64 (Xii 0)) (p12 (.int .i64 (Xii (ZZ xs ys))) (p13 (.int .i64 (Xii 0)) (p14 (.int .i64 (Xii k)) t0))))))))) := ⟨t, (show t = p0 (g0 t) (p1 (g1 t) (p5 (g5 t) (p8 (g8 t) (p9 (g9 t) (p10 (g10 t) (p11 (g11 t) (p12 (g12 t) (p13 (g13 t) (p14 (g14 t) t))))))))) from rfl).trans (by rw [r0, r1, r5, r8, r9, r10, r11, r12, r13, r14])⟩
 clear r0 r1 r5 r8 r9 r10 r11 r12 r13 r14
 by_cases hlt : k < ZZ xs ys
 ·obtain ⟨a, wa, xa, hao, ga, na, ta⟩ := sx8.nonempty (by omega)
  subst hao
  obtain ⟨b, wb, xb, hbo, gb', nb, tb⟩ := sy8.nonempty (by omega)
  subst hbo
  obtain ⟨u, hu1, hu2⟩ := common_lt hlt
  have n1 : nth (a.off + k * 1) xa = some (sv u) := by
   rw [Xir, X3 ta (by omega), W8, XiF, hu1]; rfl
  have n2 : nth (b.off + k * 1) xb = some (sv u) := by
   rw [Xir, X3 tb (by omega), W8, XiF, hu2]; rfl
  have euu : Z4 (bytes (⟨⟨u⟩⟩ : ByteArray)) (bytes (⟨⟨u⟩⟩ : ByteArray)) = true := (VN u u).trans (by simp)
  refine R2 ?_
  refine Xk (l_eqS rfl rfl) rfl ?_
  refine R ?_
  refine K9 rfl (by assumption) ?_
  refine R ?_
  rw [euu]
  exact ⟨hlt, ⟨rfl, rfl, rfl, rfl, rfl, rfl, rfl, rfl, rfl, rfl⟩, rfl, rfl⟩
 ·have hkc' : k = ZZ xs ys := by omega
  by_cases hkx : k < xs.length
  ·by_cases hky : k < ys.length
   ·obtain ⟨a, wa, xa, hao, ga, na, ta⟩ := sx8.nonempty (by omega)
    subst hao
    obtain ⟨b, wb, xb, hbo, gb', nb, tb⟩ := sy8.nonempty (by omega)
    subst hbo
    obtain ⟨u, hu1⟩ : ∃ u, xs[k]? = some u := ⟨_, Xit hkx⟩
    obtain ⟨w, hw1⟩ : ∃ u, ys[k]? = some u := ⟨_, Xit hky⟩
    have huw : u ≠ w := fun e => common_at (x := xs) (y := ys) (a := u) (by rw [<- hkc']; exact hu1) (by rw [<- hkc', hw1, e])
    have n1 : nth (a.off + k * 1) xa = some (sv u) := by
     rw [Xir, X3 ta (by omega), W8, XiF, hu1]; rfl
    have n2 : nth (b.off + k * 1) xb = some (sv w) := by
     rw [Xir, X3 tb (by omega), W8, XiF, hw1]; rfl
    have euw : Z4 (bytes (⟨⟨u⟩⟩ : ByteArray)) (bytes (⟨⟨w⟩⟩ : ByteArray)) = false := (VN u w).trans (by simpa using huw)
    refine R2 ?_
    refine Xk (l_eqS rfl rfl) rfl ?_
    refine R ?_
    refine UN rfl (by assumption) ?_
    refine R2 ?_
    rw [euw]
    refine Xk (Xfo rfl rfl tids) rfl ?_
    rw [hroot]
    refine R ?_
    refine Zc (Xi rfl (Xhl H _ (by omega) _ xs ys _ _ xc yc sx8 sy8 (by omega))) (Yf rfl (Jr (Jq rfl gb50 trx) (Wf _)) (Yf rfl (Jr (Jq rfl gb60 try') (Wf _)) rfl)) ?_
    refine R ?_
    refine Xk (l_eqB rfl rfl) rfl ?_
    refine R ?_
    exact ⟨rfl, _, Xb (Xw rfl) Xe, congrArg Value.bool (beq_self_eq_true _)⟩
   ·refine R2 ?_
    refine Xk (Xfo rfl rfl tids) rfl ?_
    rw [hroot]
    refine R ?_
    refine Zc (Xi rfl (Xhl H _ (by omega) _ xs ys _ _ xc yc sx8 sy8 (by omega))) (Yf rfl (Jr (Jq rfl gb50 trx) (Wf _)) (Yf rfl (Jr (Jq rfl gb60 try') (Wf _)) rfl)) ?_
    refine R ?_
    refine Xk (l_eqB rfl rfl) rfl ?_
    refine R ?_
    exact ⟨rfl, _, Xb (Xw rfl) Xe, congrArg Value.bool (beq_self_eq_true _)⟩
  ·refine R2 ?_
   refine Xk (Xfo rfl rfl tids) rfl ?_
   rw [hroot]
   refine R ?_
   refine Zc (Xi rfl (Xhl H _ (by omega) _ xs ys _ _ xc yc sx8 sy8 (by omega))) (Yf rfl (Jr (Jq rfl gb50 trx) (Wf _)) (Yf rfl (Jr (Jq rfl gb60 try') (Wf _)) rfl)) ?_
   refine R ?_
   refine Xk (l_eqB rfl rfl) rfl ?_
   refine R ?_
   exact ⟨rfl, _, Xb (Xw rfl) Xe, congrArg Value.bool (beq_self_eq_true _)⟩
end
open Go Go.Eng Go.RowKit Go.WideShapes
def StrsIn (w : World) (v : Value) : Prop := v = .slice none 0 0 \/ ∃ (b o len cap : Nat) (l : List (List UInt8)), v = .slice (some ⟨b, o, none⟩) len cap /\ len <= cap /\ l.length = len /\ ∀ i x, (fl ZQ l)[i]? = some x -> w.cell? ⟨b, o + i, none⟩ = some x
theorem strs_open {H : Type} {enc : TypeId × Value -> H} {P : Program} {w : World} {base : Nat} {spare : Nat -> Bool} {held : Bool} {r : Reach} {b0 : Nat} {t k : TypeId} (hs : P.underlying t = some (.slice k)) (ht : P.underlying k = some .string) (hc : P.cellsOf k = 1) {v : Value} {d : DataW H} {ps : List MemPlace}
  (hval : Value.okWide P w r b0 t v) (hd : DataW.Trod enc P w base spare held t v d ps) : StrsIn w v := by
 obtain ⟨a0, len, cap, rfl⟩ := okWide_slice hs hval
 obtain ⟨fuel, hf⟩ := hd
 rcases Go.ChangeShapes.open_strings hs ht hc hf with ⟨h, _⟩ | ⟨a, len', cap', ss, h, _, hl, hm, hlen, _, hcell, _⟩
 ·simp [Value.cells] at h
  obtain ⟨rfl, rfl, rfl⟩ := h
  exact .inl rfl
 ·simp [Value.cells] at h
  obtain ⟨rfl, rfl, rfl⟩ := h
  have hspot : a.spot = none := by
   have hv : Value.okWide P w r b0 t (.slice (some a) len cap) := hval
   simp only [Value.okWide, hs, Cell.okWide, Cell.ok] at hv
   exact hv.2.2.2.1
  obtain ⟨b, o, sp⟩ := a
  simp only at hspot
  subst hspot
  have hge : len <= ss.length := by rw [hlen]; split <;> omega
  refine .inr ⟨b, o, len, cap, (ss.take len).map bytes, rfl, hl, by rw [Xix, Xjc]; omega, fun i x hx => ?_⟩
  rw [W8, XiF, XiF] at hx
  have hi : i < len := by
   cases e : (ss.take len)[i]? with
   | none => rw [e] at hx; cases hx
   | some y => have := (List.getElem?_eq_some_iff.1 e).1; rw [Xjc] at this; omega
  rw [List.getElem?_take_of_lt hi, Xit (by omega)] at hx
  have h1 := hcell i (by omega)
  have ea : (⟨b, o, none⟩ : Addr).add i = ⟨b, o + i, none⟩ := by unfold Addr.add; split <;> simp_all
  rw [ea, XiY, Xit (by omega)] at h1
  rw [h1]
  simp only [Option.map_some, Xiz.injEq] at hx
  rw [<- hx]
  simp [sv, Go.Eng.bytes]
structure Sims (P : Program) (w : World) (ι : Inj) (H : Heap) : Prop where
 s : Sim P w.heap.size ι H w
 ro : ∀ b o, H.get b = some o -> ∃ cs, o = .cells false cs
theorem Sims.empty (P : Program) (w : World) : Sims P w (fun _ => none) ⟨0, .nil⟩ := ⟨sim_empty w, fun b o h => by cases h⟩
theorem Sims.push_ro {P : Program} {w : World} {ι : Inj} {H : Heap} (S : Sims P w ι H) (cs : List Value) : ∀ b o, (H.push (.cells false cs)).get b = some o -> ∃ cs, o = .cells false cs := by
 intro b o h
 by_cases e : b = H.next
 ·subst e; rw [Heap.get_new] at h; cases h; exact ⟨_, rfl⟩
 ·rw [Heap.get_push_ne e] at h; exact S.ro b o h
theorem Sims.idle {P : Program} {w : World} {ι : Inj} {H : Heap} (S : Sims P w ι H) (cs : List Value) : Sims P w ι (H.push (.cells false cs)) := by
 have hn := S.s.next_none
 have ne : ∀ c q, ι c = some q -> c ≠ H.next := fun c q h e => by rw [e, hn] at h; cases h
 refine ⟨⟨fun c q o hc hg => ?_, fun c c' q q' o o' hne h1 h2 g1 g2 => ?_, fun c q hc => Nat.lt_succ_of_lt (S.s.bound c q hc), S.s.lt, fun c hc => ?_, S.s.base⟩, S.push_ro cs⟩
 ·rw [Heap.get_push_ne (ne c q hc)] at hg
  obtain ⟨xs, rfl⟩ := S.ro c o hg
  exact S.s.obj c q _ hc hg
 ·rw [Heap.get_push_ne (ne c q h1)] at g1
  rw [Heap.get_push_ne (ne c' q' h2)] at g2
  exact S.s.apart c c' q q' o o' hne h1 h2 g1 g2
 ·replace hc : H.next + 1 <= c := hc
  rw [Heap.get_push_ne (by omega)]
  exact S.s.blank c (by omega)
theorem Sims.strs {P : Program} {w : World} {ι : Inj} {H : Heap} (S : Sims P w ι H) {v : Value} (hv : StrsIn w v) : ∃ ι' H' ao ca l, Sims P w ι' H' /\ ι.le ι' /\ Ext [] H H' /\ VRel ι' (.slice ao l.length ca) v /\ Slc H' 1 ao l.length ca (fl ZQ l) := by
 rcases hv with rfl | ⟨b, o, len, cap, l, rfl, hl, hlen, hc⟩
 ·exact ⟨ι, H, none, 0, [], S, ι.le_refl, .refl H, .snil 0 0, .empty H 1⟩
 ·by_cases h0 : len = 0
  ·subst h0
   have : l = [] := XjH.1 hlen
   subst this
   refine ⟨ι, H.push (.cells false []), some ⟨H.next, 0, some 1⟩, 0, [], S.idle [], ι.le_refl, .push _ _, .sempty (fun h => by cases h), ?_⟩
   exact ⟨rfl, Xim _, (fun h => nomatch h), (fun a e => Or.inl rfl), fun a e => by cases e; exact ⟨_, _, Heap.get_new _ _, XiG _, rfl⟩⟩
  ·have hlt : b < w.heap.size := by
    cases l with
    | nil => exact absurd hlen.symm h0
    | cons s l =>
     have := hc 0 _ rfl
     exact (cell_lt this).2
   have hn := S.s.next_none
   have hfl : (fl ZQ l).length = l.length := fl_encS_length l
   refine ⟨ι.with H.next ⟨b, o, len⟩, H.push (.cells false (fl ZQ l)), some ⟨H.next, 0, none⟩, cap, l, ⟨S.s.more (p := ⟨b, o, len⟩) hlt ?_ ?_, S.push_ro _⟩, Inj.with_le hn _, .push _ _, ?_, ?_⟩
   ·intro b1 p1 o1 h1 h2
    obtain ⟨cs, rfl⟩ := S.ro b1 o1 h2
    exact ⟨fun _ => ⟨false, _, false, _, rfl, rfl, .inl ⟨rfl, rfl⟩⟩, fun _ => ⟨false, _, false, _, rfl, rfl, .inl ⟨rfl, rfl⟩⟩⟩
   ·refine ⟨by rw [hfl, hlen]; exact Xim _, fun i hi => ?_, fun i x hx => ⟨x, hc i x hx, ?_⟩, fun h => by cases h⟩
    ·have hi' : i < (fl ZQ l).length := by rw [hfl, hlen]; exact hi
     have h1 := hc i _ (Xit hi')
     refine ⟨_, h1, ?_⟩
     have hs : ∀ x ∈ fl ZQ l, Y4 x := fun x hx => by
      rw [W8] at hx
      obtain ⟨u, _, rfl⟩ := XiR.1 hx
      trivial
     exact hs _ (List.getElem_mem hi')
    ·rw [W8, XiF] at hx
     cases e : l[i]? with
     | none => rw [e] at hx; cases hx
     | some u => rw [e] at hx; cases hx; exact ⟨.string _, trivial⟩
   ·rw [hlen]
    exact .slice (a := ⟨H.next, 0, none⟩) (p := ⟨b, o, len⟩) (Inj.with_same ι H.next _) (fun _ => rfl) (Xim _) hl (fun z h => by cases h)
   ·exact Slc.of_part (Heap.get_new _ _) (XiG _) (by rw [hfl, Xir]) (by omega) (XK (by rw [hfl, Xir]))
end Sp
