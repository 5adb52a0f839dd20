/-
  The functions of the program, of the document's answer and of the library, each gone through once: what it answers. Conditions: those that each lemma states.
-/
import Derived.Test.YtknhijalfgjfhaaGreatK1
set_option linter.unusedVariables false
set_option linter.unusedSimpArgs false
set_option linter.unusedSectionVars false
open Nat renaming lt_of_lt_of_le -> XiN, zero_le -> Xis, mul_one -> Xim, le_trans -> XiL, lt_succ_self -> XiA, le_of_ble_eq_true -> Xij, succ -> XiF, le_refl -> Xig
open List renaming length_append -> Xif, mem_append -> XiB, getD_eq_getElem?_getD -> XiS, getElem?_eq_getElem -> Xin, drop_eq_getElem_cons -> XjH, mem_of_mem_take -> Xj7, mem_singleton -> Xid, drop_eq_nil_iff -> Xkf, take_add_one -> XiI, getElem?_drop -> XjU, map_append -> XiM, isEmpty_iff -> Xjx, length_singleton -> XjJ, length_eq_zero_iff -> Xkg, map_map -> XiX, mem_of_getElem? -> XiG, length_map -> Xir, getElem?_map -> XiH, take_of_length_le -> XjB, mem_map -> Xix, append_assoc -> XiC, mem_append_right -> Xjm, mem_cons_self -> XiK, mem_cons_of_mem -> XiT, mem_append_left -> Xjf, mem_cons -> Xiq, map_cons -> XiR, nodup_cons -> XjW, length_cons -> XiJ, mem_map_of_mem -> Xjh, map_eq_nil_iff -> Xj3, getElem?_eq_some_iff -> XiP, length_take -> Xjd
open Int renaming ofNat -> Xic
open Bool renaming and_eq_true -> Xip, not_eq_true -> XjP
open Option renaming some -> Xiu, map_eq_some_iff -> Xjt
noncomputable section
set_option maxRecDepth 100000
namespace Sp
open Go Go.Eng
variable {h : Heap} {bs : List (List UInt8)} {vs : List Value} {fp : List Nat} {oo : Option Addr} {oc : Nat}
structure RowV (h : Heap) (base : Nat) (oo : Option Addr) (oc : Nat) (io : Option Addr) (ic : Nat) (vs is : List Value) (bs : List (List UInt8)) (fp : List Nat) : Prop where
 o : Own h 1 oo vs.length oc vs
 i : Own h 1 io is.length ic is
 b : Bss h fp vs bs
 ob : ∀ x ∈ XB oo, base <= x
 ib : ∀ x ∈ XB io, base <= x
 fb : ∀ x ∈ fp, base <= x /\ x < h.next /\ x ∉ XB oo /\ x ∉ XB io
 oi : ∀ x ∈ XB oo, x ∉ XB io
theorem RowV.ext {h' : Heap} {base : Nat} {io : Option Addr} {ic : Nat} {is : List Value} (r : RowV h base oo oc io ic vs is bs fp) (e : Ext [] h h') : RowV h' base oo oc io ic vs is bs fp :=
 ⟨r.o.ext e, r.i.ext e, r.b.ext e, r.ob, r.ib, fun x hx => ⟨(r.fb x hx).1, XiN (r.fb x hx).2.1 e.next, (r.fb x hx).2.2⟩, r.oi⟩
theorem RowV.nil (h : Heap) (base : Nat) : RowV h base none 0 none 0 [] [] [] [] :=
 ⟨.empty h 1, .empty h 1, .nil, (fun _ h => nomatch h), (fun _ h => nomatch h), (fun _ h => nomatch h), fun _ h => nomatch h⟩
theorem RowV.app1 {h3 : Heap} {base : Nat} {oo2 : Option Addr} {oc2 : Nat} {io : Option Addr} {ic : Nat} {is : List Value} (r : RowV h base oo oc io ic vs is bs fp) {b : List UInt8} {lo : Option Addr} {lc : Nat} (sl : Slc h 1 lo b.length lc (Xa b)) (hb : ∀ x ∈ XB lo, base <= x /\ x ∉ XB oo /\ x ∉ XB io)
  (o5 : Own h3 1 oo2 (vs.length + 1) oc2 (vs ++ [.slice lo b.length lc])) (e5 : Ext (XB oo) h h3) (f5 : ∀ a, oo2 = some a -> a.block ∈ XB oo \/ (h.next <= a.block /\ a.block < h3.next)) (hbase : base <= h.next) : RowV h3 base oo2 oc2 io ic (vs ++ [.slice lo b.length lc]) is (bs ++ [b]) (XB lo ++ fp) := by
 have en := e5.next
 have hll : ∀ x ∈ XB lo, x < h.next := fun x hx => by obtain ⟨a, h1, h2⟩ := Xs hx; rw [<- h2]; exact sl.lt a h1
 have hil : ∀ x ∈ XB io, x < h.next := fun x hx => by obtain ⟨a, h1, h2⟩ := Xs hx; rw [<- h2]; exact r.i.toSlc.lt a h1
 have h2 : ∀ x ∈ XB oo2, x ∈ XB oo \/ h.next <= x := fun x hx => by
  obtain ⟨a, h1, h2⟩ := Xs hx
  rcases f5 a h1 with k | k
  ·rw [<- h2]; exact .inl k
  ·rw [<- h2]; exact .inr k.1
 refine ⟨by rw [Xif]; exact o5, r.i.extS e5 fun a ha hm => r.oi _ hm (Wh ha), ?_, fun x hx => ?_, r.ib, fun x hx => ?_, fun x hx hi => ?_⟩
 ·refine All2.append ((r.b.extS e5 fun x hx => (r.fb x hx).2.2.1).mono fun x hx => XiB.2 (.inr hx)) (.cons ⟨lo, lc, rfl, sl.extS e5 (fun a ha => (hb _ (Wh ha)).2.1), fun a ha => XiB.2 (.inl (Wh ha))⟩ .nil)
 ·rcases h2 x hx with k | k
  ·exact r.ob x k
  ·omega
 ·rcases XiB.1 hx with k | k
  ·have k1 := hb x k
   have k2 := hll x k
   exact ⟨k1.1, by omega, fun hq => (h2 x hq).elim k1.2.1 (fun k3 => by omega), k1.2.2⟩
  ·have k1 := r.fb x k
   exact ⟨k1.1, by omega, fun hq => (h2 x hq).elim k1.2.2.1 (fun k3 => by omega), k1.2.2.2⟩
 ·rcases h2 x hx with k | k
  ·exact r.oi x k hi
  ·have := hil x hi; omega
theorem RowV.app2 {h3 : Heap} {base : Nat} {io io2 : Option Addr} {ic ic2 : Nat} {is : List Value} (r : RowV h base oo oc io ic vs is bs fp) {v : Value}
  (o5 : Own h3 1 io2 (is.length + 1) ic2 (is ++ [v])) (e5 : Ext (XB io) h h3) (f5 : ∀ a, io2 = some a -> a.block ∈ XB io \/ (h.next <= a.block /\ a.block < h3.next)) (hbase : base <= h.next) : RowV h3 base oo oc io2 ic2 vs (is ++ [v]) bs fp := by
 have en := e5.next
 have hol : ∀ x ∈ XB oo, x < h.next := fun x hx => by obtain ⟨a, h1, h2⟩ := Xs hx; rw [<- h2]; exact r.o.toSlc.lt a h1
 have h2 : ∀ x ∈ XB io2, x ∈ XB io \/ h.next <= x := fun x hx => by
  obtain ⟨a, h1, h2⟩ := Xs hx
  rcases f5 a h1 with k | k
  ·rw [<- h2]; exact .inl k
  ·rw [<- h2]; exact .inr k.1
 refine ⟨r.o.extS e5 fun a ha hm => r.oi _ (Wh ha) hm, by rw [Xif]; exact o5, r.b.extS e5 fun x hx => (r.fb x hx).2.2.2, r.ob, fun x hx => ?_, fun x hx => ?_, fun x hx hi => ?_⟩
 ·rcases h2 x hx with k | k
  ·exact r.ib x k
  ·omega
 ·have k1 := r.fb x hx
  exact ⟨k1.1, by omega, k1.2.2.1, fun hq => (h2 x hq).elim k1.2.2.2 (fun k3 => by omega)⟩
 ·rcases h2 x hi with k | k
  ·exact r.oi x hx k
  ·have := hol x hx; omega
structure RowS (h : Heap) (base : Nat) (oo : Option Addr) (oc : Nat) (io : Option Addr) (ic : Nat) (vs is : List Value) (bs : List (List UInt8)) (fp : List Nat) : Prop where
 o : Slc h 1 oo vs.length oc vs
 i : Slc h 1 io is.length ic is
 b : Bss h fp vs bs
 ob : ∀ x ∈ XB oo, base <= x
 ib : ∀ x ∈ XB io, base <= x
 fb : ∀ x ∈ fp, base <= x /\ x < h.next
theorem RowV.toS {base : Nat} {io : Option Addr} {ic : Nat} {is : List Value} (r : RowV h base oo oc io ic vs is bs fp) : RowS h base oo oc io ic vs is bs fp :=
 ⟨r.o.toSlc, r.i.toSlc, r.b, r.ob, r.ib, fun x hx => ⟨(r.fb x hx).1, (r.fb x hx).2.1⟩⟩
theorem RowS.extS {h' : Heap} {base : Nat} {io : Option Addr} {ic : Nat} {is : List Value} (r : RowS h base oo oc io ic vs is bs fp) {S : List Nat} (e : Ext S h h') (q : ∀ x ∈ S, x < base \/ h.next <= x) : RowS h' base oo oc io ic vs is bs fp :=
 ⟨r.o.extS e (fun a ha hm => by have := r.ob _ (Wh ha); have := r.o.lt a ha; have := q _ hm; omega), r.i.extS e (fun a ha hm => by have := r.ib _ (Wh ha); have := r.i.lt a ha; have := q _ hm; omega), r.b.extS e (fun x hx hm => by have := r.fb x hx; have := q _ hm; omega), r.ob, r.ib, fun x hx => ⟨(r.fb x hx).1, XiN (r.fb x hx).2 e.next⟩⟩
theorem RowS.ext {h' : Heap} {base : Nat} {io : Option Addr} {ic : Nat} {is : List Value} (r : RowS h base oo oc io ic vs is bs fp) (e : Ext [] h h') : RowS h' base oo oc io ic vs is bs fp := r.extS e fun _ hx => nomatch hx
def Xdl (n : Nat) : Value := .int .i64 (Xic n)
section
variable {E : Env} {sg : Bool} (H : Has E)
include H
theorem ref21_ends_ok (m : Nat) (h : Heap) (b : UInt8) (n : Nat) : (enter E (ctx E m) XdI [byteVal b, .int .i64 (Xic n)] h).Wp sg fun v h' => v = .bool (decide (b.toNat % 8 = 0) || decide (n = 8)) /\ h' = h := by
 refine H.run (k := JU) rfl rfl rfl ?_
 dsimp only [JU]
 refine R ?_
 refine Xh (l_remK (a := b.toNat) rfl rfl (by decide)) ?_
 by_cases hr : b.toNat % 8 = 0
 ·refine R ?_
  exact ⟨rfl, _, Xb (Xv rfl) Xd, by rw [decide_eq_true hr]; rfl, rfl⟩
 ·by_cases h8 : n = 8
  ·refine R ?_
   exact ⟨rfl, _, Xb (Xv rfl) Xd, by rw [decide_eq_true h8, decide_eq_false hr]; rfl, rfl⟩
  ·refine R ?_
   exact ⟨rfl, _, Xb (Xv rfl) Xd, by rw [decide_eq_false h8, decide_eq_false hr]; rfl, rfl⟩
set_option maxHeartbeats 2000000 in
theorem ref21_Leaves_ok (m : Nat) (hm : 100000000 <= m) (h : Heap) (texts : List (List UInt8)) (ao : Option Addr) (ca n : Nat) (hn : texts.length = n) (sl : Slc h 1 ao n ca (fl Wa texts)) (ht : n <= 100) (hs : ∀ s ∈ texts, s.length <= 8000) :
  (enter E (ctx E (m + 7)) Xbn [.slice ao n ca] h).Wp sg fun v h' => ∃ oo oc io ic vs is fp, v = .tuple ⟨[.slice oo vs.length oc, .slice io is.length ic]⟩ /\ RowS h' h.next oo oc io ic vs is ((leaves texts).map (Nd.bytes 0)) fp /\ is = (leaves texts).map (fun n => Xdl n.many) /\ Ext [] h h' := by
 refine H.run (k := Ul) rfl rfl rfl ?_
 dsimp only [Ul]
 refine R ?_
 refine Yq n 0 (fun i t x hk => ∃ oo oc io ic vs is fp cs cur, (g0 t = (.slice ao n ca) /\ g4 t = (.slice oo vs.length oc) /\ g5 t = (.slice io is.length ic) /\ g6 t = (.int .i64 (Xic (i - cur.length))) /\ g7 t = (.int .i64 (Xic i))) /\ x = ⟨[], none, none⟩ /\ Ext [] h hk /\ cur.length <= i /\ vs.length <= i /\ is.length <= i /\ (texts.drop (i - cur.length)).take cur.length = cur /\ Ya eS [] texts = cs ++ Ya eS cur (texts.drop i) /\ RowV hk h.next oo oc io ic vs is (cs.map fun c => X3 0 c []) fp /\ is = cs.map fun c => Xdl c.length) ⟨none, 0, none, 0, [], [], [], [], [], ⟨rfl, rfl, rfl, rfl, rfl⟩, rfl, .refl h, by simp, by simp, by simp, by simp, by simp, .nil h _, rfl⟩ (Xis _) (XF (by omega)) ?_
 rintro i t x hk hi ⟨oo, oc, io, ic, vs, is, fp, cs, cur, ⟨r0, r4, r5, r6, r7⟩, rfl, ek, hcl, hvl, hil, hcur, hcut, row, his⟩
 obtain ⟨t0, rfl⟩ : ∃ t0, t = p0 (.slice ao n ca) (p4 (.slice oo vs.length oc) (p5 (.slice io is.length ic) (p6 (.int .i64 (Xic (i - cur.length))) (p7 (.int .i64 (Xic i)) t0)))) := ⟨t, (show t = p0 (g0 t) (p4 (g4 t) (p5 (g5 t) (p6 (g6 t) (p7 (g7 t) t)))) from rfl).trans (by rw [r0, r4, r5, r6, r7])⟩
 clear r0 r4 r5 r6 r7
 have lk := ek.next
 by_cases hlt : i < n
 ·obtain ⟨a, wa, xa, hao, ga, na, ta⟩ := (sl.ext ek).nonempty (by omega)
  subst hao
  have hload : nth (a.off + i * 1) xa = some (sv (texts.getD i [])) := by
   rw [Xim, Yj ta (by omega), XeD (by omega)]
  have hsi : (texts.getD i []).length <= 8000 := hs _ (by
   rw [XiS, Xin (by omega)]; simp)
  have hdrop : texts.drop i = texts.getD i [] :: texts.drop (i + 1) := by
   rw [XjH (by omega), XiS, Xin (by omega)]; rfl
  have hall : ∀ x ∈ cur ++ [texts.getD i []], x.length <= 8000 := by
   intro x hx
   rcases XiB.1 hx with hx | hx
   ·rw [<- hcur] at hx; exact hs x (List.mem_of_mem_drop (Xj7 hx))
   ·rw [Xid.1 hx]; exact hsi
  generalize texts.getD i [] = s at hload hsi hdrop hall
  have hrest : texts.drop (i + 1) = [] ↔ i = n - 1 := by
   rw [Xkf]; omega
  have hcurS : (texts.drop (i - cur.length)).take (cur.length + 1) = cur ++ [s] := by
   rw [XiI, hcur, XjU, show i - cur.length + cur.length = i by omega]
   have : texts[i]? = some s := by
    have := congrArg (·[0]?) hdrop
    simpa using this
   rw [this]; rfl
  by_cases hl : i = n - 1
  ·have hstep : Ya eS cur (texts.drop i) = (cur ++ [s]) :: Ya eS [] (texts.drop (i + 1)) := by
    rw [hdrop, Ya, hrest.2 hl]; simp
   refine R ?_
   refine Xh (XaF rfl rfl (by omega) (by omega)) ?_
   refine R ?_
   refine wp_say (b := false) rfl (by simp only [decide_eq_false_iff_not, Bool.not_eq_false', decide_eq_true_eq, Bool.and_eq_false_iff, Bool.or_eq_false_iff]; omega) ?_
   refine R ?_
   refine XeK (l := i - cur.length) (r := i + 1) (sl.ext ek) rfl rfl rfl (by omega) (by omega) fun ao' ca' sl' hbl => ?_
   rw [show i + 1 - (i - cur.length) = cur.length + 1 by omega] at sl' ⊢
   rw [Xim, Xim] at sl'
   have hsl' : ((fl Wa texts).drop (i - cur.length)).take (cur.length + 1) = fl Wa (cur ++ [s]) := by
    have := Xhf (enc := Wa) (z := 1) (l := texts) (fun _ _ => rfl) (i - cur.length) (cur.length + 1)
    rw [Xim, Xim] at this
    rw [this, hcurS]
   rw [hsl'] at sl'
   have hcl1 : (cur ++ [s]).length = cur.length + 1 := by simp
   rw [<- hcl1] at sl' ⊢
   refine Xj (Xi rfl (XeU H (m + 2) (by omega) _ (cur ++ [s]) ao' ca' sl' (by omega) hall)) ?_
   rintro v h6 ⟨lo, lc, rfl, ol, fl6, e6⟩
   have hmany : Xdl (cur ++ [s]).length = .int .i64 (Xic (i + 1 - (i - cur.length))) := by unfold Xdl; rw [show i + 1 - (i - cur.length) = (cur ++ [s]).length by omega]
   obtain ⟨nb, hnb⟩ : ∃ nb, nb = X3 0 (cur ++ [s]) [] := ⟨_, rfl⟩
   rw [<- hnb] at ol ⊢
   have l6 := e6.next
   have rowq := row
   have eqq : Ext [] h _ := ek
   have lqq := eqq.next
   refine XK (Xf (by conv => lhs; whnf) rfl rfl rfl XE) fun H40 B40 E40 L40 G40 N40 Q40 => ?_
   have row1 := (rowq.ext e6).ext E40
   refine XX row1.o rfl rfl rfl (Slc.of_get (z := 1) G40 N40 rfl).elemsAll rfl (by omega) fun oo2 oc2 h7 o7 e7 l7 f7 => ?_
   have row2 := row1.app1 (ol.toSlc.ext E40) (fun x hx => by
    obtain ⟨q, h1, h2⟩ := Xs hx
    have h3 := fl6 q h1
    refine ⟨by omega, fun hm => ?_, fun hm => ?_⟩
    ·obtain ⟨q2, k1, k2⟩ := Xs hm
     have := rowq.o.toSlc.lt q2 k1; omega
    ·obtain ⟨q2, k1, k2⟩ := Xs hm
     have := rowq.i.toSlc.lt q2 k1; omega) o7 e7 f7 (by omega)
   refine R ?_
   refine Xh (Zh rfl rfl (by omega) (by omega)) ?_
   refine XK (Xf (by conv => lhs; whnf) rfl rfl rfl XE) fun H50 B50 E50 L50 G50 N50 Q50 => ?_
   refine XX (row2.i.ext E50) rfl rfl rfl (Slc.of_get (z := 1) G50 N50 rfl).elemsAll rfl (by omega) fun io2 ic2 h8 o8 e8 l8 f8 => ?_
   have row3 := (row2.ext E50).app2 o8 e8 f8 (by omega)
   refine R ?_
   have eF := ((eqq.trans0 e6).trans0 E40).trans e7 (fun x hx => .inr (rowq.ob x hx))
   have eG := (eF.trans0 E50).trans e8 (fun x hx => .inr (rowq.ib x hx))
   have hlen1 : (vs ++ [Value.slice lo nb.length lc]).length = vs.length + 1 := by simp
   have hlen2 : (is ++ [Xdl (cur ++ [s]).length]).length = is.length + 1 := by simp
   rw [<- hmany] at row3
   refine ⟨hlt, oo2, oc2, io2, ic2, vs ++ [.slice lo nb.length lc], is ++ [Xdl (cur ++ [s]).length], XB lo ++ fp, cs ++ [cur ++ [s]], [], ?_, rfl, eG, by simp, by omega, by omega, by simp, by rw [hcut, hstep]; simp, ?_, by rw [his]; simp⟩
   ·rw [hlen1, hlen2]; exact ⟨rfl, rfl, rfl, rfl, rfl⟩
   ·rw [XiM]
    have hn1 : [cur ++ [s]].map (fun c => X3 0 c []) = [nb] := by rw [hnb]; rfl
    rw [hn1]
    exact row3
  ·refine R ?_
   refine Xh (XaF rfl rfl (by omega) (by omega)) ?_
   refine R ?_
   refine wp_say (b := true) rfl (by simp only [decide_eq_true_eq, Bool.not_eq_true', decide_eq_false_iff_not, Xip, Bool.or_eq_true]; omega) ?_
   refine R2 ?_
   refine wp_toBytesE rfl (fun H2 b2 E2 L2 s2 N2 Q2 => ?_)
   refine wp_yes rfl ?_
   refine Xj (Xi rfl (Xhj H m hm _ s _ _ _ rfl s2 (by omega))) ?_
   rintro v h3 ⟨rfl, e3⟩
   have l3 := e3.next
   have hd0 : nth 0 (Xa (Sha s)) = some (byteVal ((Sha s).getD 0 0)) := by
    rw [XeI]; exact Xdd (by rw [X1]; omega)
   have hE : (decide (((Sha s).getD 0 0).toNat % 8 = 0) || decide (cur.length + 1 = 8)) = eS (cur.length + 1) s := by
    unfold eS XeC; simp [Bool.or_comm]
   generalize hb0 : (Sha s).getD 0 0 = c0 at hd0 hE
   refine wp_yes rfl ?_
   refine Xh (l_ixVal1 rfl rfl (by omega) (by assumption)) ?_
   refine R ?_
   refine Xh (Zh rfl rfl (by omega) (by omega)) ?_
   refine wp_yes rfl ?_
   rw [show i + 1 - (i - cur.length) = cur.length + 1 by omega]
   refine Xj (Xi rfl (ref21_ends_ok H _ _ c0 (cur.length + 1))) ?_
   rintro v h4 ⟨rfl, rfl⟩
   rw [hE]
   have eq2 : Ext [] hk h4 := E2.trans0 e3
   cases he : eS (cur.length + 1) s with
   | true =>
    have hstep : Ya eS cur (texts.drop i) = (cur ++ [s]) :: Ya eS [] (texts.drop (i + 1)) := by
     rw [hdrop, Ya, he]; rfl
    refine R ?_
    refine XeK (l := i - cur.length) (r := i + 1) (sl.ext (ek.trans0 eq2)) rfl rfl rfl (by omega) (by omega) fun ao' ca' sl' hbl => ?_
    rw [show i + 1 - (i - cur.length) = cur.length + 1 by omega] at sl' ⊢
    rw [Xim, Xim] at sl'
    have hsl' : ((fl Wa texts).drop (i - cur.length)).take (cur.length + 1) = fl Wa (cur ++ [s]) := by
     have := Xhf (enc := Wa) (z := 1) (l := texts) (fun _ _ => rfl) (i - cur.length) (cur.length + 1)
     rw [Xim, Xim] at this
     rw [this, hcurS]
    rw [hsl'] at sl'
    have hcl1 : (cur ++ [s]).length = cur.length + 1 := by simp
    rw [<- hcl1] at sl' ⊢
    refine Xj (Xi rfl (XeU H (m + 2) (by omega) _ (cur ++ [s]) ao' ca' sl' (by omega) hall)) ?_
    rintro v h6 ⟨lo, lc, rfl, ol, fl6, e6⟩
    have hmany : Xdl (cur ++ [s]).length = .int .i64 (Xic (i + 1 - (i - cur.length))) := by unfold Xdl; rw [show i + 1 - (i - cur.length) = (cur ++ [s]).length by omega]
    obtain ⟨nb, hnb⟩ : ∃ nb, nb = X3 0 (cur ++ [s]) [] := ⟨_, rfl⟩
    rw [<- hnb] at ol ⊢
    have l6 := e6.next
    have rowq := row.ext eq2
    have eqq : Ext [] h _ := ek.trans0 eq2
    have lqq := eqq.next
    refine XK (Xf (by conv => lhs; whnf) rfl rfl rfl XE) fun H70 B70 E70 L70 G70 N70 Q70 => ?_
    have row1 := (rowq.ext e6).ext E70
    refine XX row1.o rfl rfl rfl (Slc.of_get (z := 1) G70 N70 rfl).elemsAll rfl (by omega) fun oo2 oc2 h7 o7 e7 l7 f7 => ?_
    have row2 := row1.app1 (ol.toSlc.ext E70) (fun x hx => by
     obtain ⟨q, h1, h2⟩ := Xs hx
     have h3 := fl6 q h1
     refine ⟨by omega, fun hm => ?_, fun hm => ?_⟩
     ·obtain ⟨q2, k1, k2⟩ := Xs hm
      have := rowq.o.toSlc.lt q2 k1; omega
     ·obtain ⟨q2, k1, k2⟩ := Xs hm
      have := rowq.i.toSlc.lt q2 k1; omega) o7 e7 f7 (by omega)
    refine R ?_
    refine Xh (Zh rfl rfl (by omega) (by omega)) ?_
    refine XK (Xf (by conv => lhs; whnf) rfl rfl rfl XE) fun H80 B80 E80 L80 G80 N80 Q80 => ?_
    refine XX (row2.i.ext E80) rfl rfl rfl (Slc.of_get (z := 1) G80 N80 rfl).elemsAll rfl (by omega) fun io2 ic2 h8 o8 e8 l8 f8 => ?_
    have row3 := (row2.ext E80).app2 o8 e8 f8 (by omega)
    refine R ?_
    have eF := ((eqq.trans0 e6).trans0 E70).trans e7 (fun x hx => .inr (rowq.ob x hx))
    have eG := (eF.trans0 E80).trans e8 (fun x hx => .inr (rowq.ib x hx))
    have hlen1 : (vs ++ [Value.slice lo nb.length lc]).length = vs.length + 1 := by simp
    have hlen2 : (is ++ [Xdl (cur ++ [s]).length]).length = is.length + 1 := by simp
    rw [<- hmany] at row3
    refine ⟨hlt, oo2, oc2, io2, ic2, vs ++ [.slice lo nb.length lc], is ++ [Xdl (cur ++ [s]).length], XB lo ++ fp, cs ++ [cur ++ [s]], [], ?_, rfl, eG, by simp, by omega, by omega, by simp, by rw [hcut, hstep]; simp, ?_, by rw [his]; simp⟩
    ·rw [hlen1, hlen2]; exact ⟨rfl, rfl, rfl, rfl, rfl⟩
    ·rw [XiM]
     have hn1 : [cur ++ [s]].map (fun c => X3 0 c []) = [nb] := by rw [hnb]; rfl
     rw [hn1]
     exact row3
   | false =>
    have hstep : Ya eS cur (texts.drop i) = Ya eS (cur ++ [s]) (texts.drop (i + 1)) := by
     have hne : (texts.drop (i + 1)).isEmpty = false := by
      rw [<- XjP, Xjx]; exact fun e => hl (hrest.1 e)
     rw [hdrop, Ya, he, hne]; rfl
    refine R ?_
    refine ⟨hlt, oo, oc, io, ic, vs, is, fp, cs, cur ++ [s], ⟨rfl, rfl, rfl, ?_, rfl⟩, rfl, ek.trans0 eq2, by simp; omega, by omega, by omega, ?_, by rw [hcut, hstep], row.ext eq2, his⟩
    ·rw [Xif, XjJ, show i + 1 - (cur.length + 1) = i - cur.length by omega]; rfl
    ·rw [Xif, XjJ, show i + 1 - (cur.length + 1) = i - cur.length by omega, hcurS]
 ·by_cases h0 : n = 0
  ·refine R ?_
   have ht0 : texts = [] := Xkg.1 (by omega)
   refine Xj (Xi rfl (XeU H (m + 2) (by omega) _ [] none 0 (.empty _ _) (by simp) (by simp))) ?_
   rintro v h6 ⟨lo, lc, rfl, ol, fl6, e6⟩
   obtain ⟨nb, hnb⟩ : ∃ nb, nb = X3 0 [] [] := ⟨_, rfl⟩
   rw [<- hnb] at ol ⊢
   have l6 := e6.next
   refine XK (Xf (by conv => lhs; whnf) rfl rfl rfl XE) fun H310 B310 E310 L310 G310 N310 Q310 => ?_
   refine XK (Xf (by conv => lhs; whnf) rfl rfl rfl XE) fun H311 B311 E311 L311 G311 N311 Q311 => ?_
   refine R ?_
   have hlv : leaves texts = [⟨[], []⟩] := by rw [ht0]; rfl
   refine ⟨rfl, _, Xb (Xv rfl) (Xb (Xv rfl) Xd), some ⟨B310, 0, none⟩, 1, some ⟨B311, 0, none⟩, 1, [.slice lo nb.length lc], [Xdl 0], XB lo, rfl, ⟨Slc.of_get (z := 1) (E311.get0 N310 G310) (by omega) rfl, Slc.of_get (z := 1) G311 N311 rfl, ?_, ?_, ?_, ?_⟩, by rw [hlv]; rfl, ((ek.trans0 e6).trans0 E310).trans0 E311⟩
   ·rw [hlv]
    refine All2.cons ⟨lo, lc, ?_, ?_, fun a ha => Wh ha⟩ .nil
    ·rw [hnb]; rfl
    ·have := (ol.toSlc.ext E310).ext E311
     rw [hnb] at this; exact this
   ·intro x hx; have : x = B310 := Xid.1 hx; omega
   ·intro x hx; have : x = B311 := Xid.1 hx; omega
   ·intro x hx
    obtain ⟨q, h1, h2⟩ := Xs hx
    have := fl6 q h1
    have := ol.toSlc.lt q h1
    omega
  ·have hin : i = n := by omega
   have hcs : Ya eS [] texts = cs := by rw [hcut, hin, <- hn, List.drop_length]; simp [Ya]
   refine R ?_
   refine ⟨rfl, _, Xb (Xv rfl) (Xb (Xv rfl) Xd), oo, oc, io, ic, vs, is, fp, rfl, ?_, ?_, ek⟩
   ·have : (leaves texts).map (Nd.bytes 0) = cs.map fun c => X3 0 c [] := by
     unfold leaves
     rw [if_neg (by rw [Xjx, <- Xkg]; omega), hcs, XiX]; rfl
    rw [this]; exact row.toS
   ·unfold leaves
    rw [if_neg (by rw [Xjx, <- Xkg]; omega), hcs, XiX, his]; rfl
end
section
variable {E : Env} {sg : Bool} (H : Has E)
include H
set_option maxHeartbeats 2000000 in
theorem ref21_Inners_ok (m : Nat) (hm : 100000000 <= m) (h : Heap) (lev : Nat) (hlev : lev <= 1000) (hlev1 : 1 <= lev) (ls : List Lk) (ao : Option Addr) (ca n : Nat) (hn : ls.length = n) (sl : Slc h 33 ao n ca (fl Yl ls)) (ht : n <= 100) (hs : ∀ y ∈ ls, LkOK y) :
  (enter E (ctx E (m + 7)) Xbo [.int .i64 (Xic lev), .slice ao n ca] h).Wp sg fun v h' => ∃ oo oc io ic vs is fp, v = .tuple ⟨[.slice oo vs.length oc, .slice io is.length ic]⟩ /\ RowV h' h.next oo oc io ic vs is ((Ya (eL lev) [] ls).map fun c => X3 lev [] c) fp /\ is = (Ya (eL lev) [] ls).map (fun c => Xdl (Y0 c)) /\ Ext [] h h' := by
 refine H.run (k := Um) rfl rfl rfl ?_
 dsimp only [Um]
 refine R ?_
 refine Yq n 0 (fun i t x hk => ∃ oo oc io ic vs is fp cs cur, (g0 t = (.int .i64 (Xic lev)) /\ g1 t = (.slice ao n ca) /\ g6 t = (.slice oo vs.length oc) /\ g7 t = (.slice io is.length ic) /\ g8 t = (.int .i64 (Xic (i - cur.length))) /\ g9 t = (.int .i64 (Xic (Y0 cur))) /\ g10 t = (.int .i64 (Xic i))) /\ x = ⟨[], none, none⟩ /\ Ext [] h hk /\ cur.length <= i /\ vs.length <= i /\ is.length <= i /\ (ls.drop (i - cur.length)).take cur.length = cur /\ Ya (eL lev) [] ls = cs ++ Ya (eL lev) cur (ls.drop i) /\ RowV hk h.next oo oc io ic vs is (cs.map fun c => X3 lev [] c) fp /\ is = cs.map fun c => Xdl (Y0 c)) ⟨none, 0, none, 0, [], [], [], [], [], ⟨rfl, rfl, rfl, rfl, rfl, rfl, rfl⟩, rfl, .refl h, by simp, by simp, by simp, by simp, by simp, .nil h _, rfl⟩ (Xis _) (XF (by omega)) ?_
 rintro i t x hk hi ⟨oo, oc, io, ic, vs, is, fp, cs, cur, ⟨r0, r1, r6, r7, r8, r9, r10⟩, rfl, ek, hcl, hvl, hil, hcur, hcut, row, his⟩
 obtain ⟨t0, rfl⟩ : ∃ t0, t = p0 (.int .i64 (Xic lev)) (p1 (.slice ao n ca) (p6 (.slice oo vs.length oc) (p7 (.slice io is.length ic) (p8 (.int .i64 (Xic (i - cur.length))) (p9 (.int .i64 (Xic (Y0 cur))) (p10 (.int .i64 (Xic i)) t0)))))) := ⟨t, (show t = p0 (g0 t) (p1 (g1 t) (p6 (g6 t) (p7 (g7 t) (p8 (g8 t) (p9 (g9 t) (p10 (g10 t) t)))))) from rfl).trans (by rw [r0, r1, r6, r7, r8, r9, r10])⟩
 clear r0 r1 r6 r7 r8 r9 r10
 have lk := ek.next
 by_cases hlt : i < n
 ·obtain ⟨a, wa, xa, hao, ga, na, ta⟩ := (sl.ext ek).nonempty (by omega)
  subst hao
  obtain ⟨y, hy⟩ : ∃ y, ls[i]? = some y := ⟨_, Xin (by omega)⟩
  have hyo := hs y (XiG hy)
  have hdrop : ls.drop i = y :: ls.drop (i + 1) := by
   have h1 : ls[i] = y := Xiu.inj ((Xin (by omega)).symm.trans hy)
   rw [XjH (by omega), h1]
  have ht33 : XM 33 (XS (a.off + i * 33) xa) = some (Yl y) := by
   rw [take_take (i := i * 33) (k := 33) ta (by omega), Xdk (fun x hx => YR (hs x hx)) hy]
  have hcurm : ∀ x ∈ cur, x ∈ ls := fun x hx => by rw [<- hcur] at hx; exact List.mem_of_mem_drop (Xj7 hx)
  have hall : ∀ x ∈ cur ++ [y], LkOK x := by
   intro x hx
   rcases XiB.1 hx with hx | hx
   ·exact hs x (hcurm x hx)
   ·rw [Xid.1 hx]; exact hyo
  have hsum := sumN_le (l := cur) fun x hx => hs x (hcurm x hx)
  have hy2 := hyo.2
  have hsumS : Y0 cur + y.2 = Y0 (cur ++ [y]) := by rw [Xci]; rfl
  have hrest : ls.drop (i + 1) = [] ↔ i = n - 1 := by
   rw [Xkf]; omega
  have hcurS : (ls.drop (i - cur.length)).take (cur.length + 1) = cur ++ [y] := by
   rw [XiI, hcur, XjU, show i - cur.length + cur.length = i by omega, hy]; rfl
  have hn32 : nth (a.off + i * 33 + 32) xa = some (.int .i64 (Xic y.2)) := by
   rw [Yj ht33 (by omega)]
   unfold Yl
   rw [List.getElem?_append_right (by rw [Xc, hyo.1]; omega), Xc, hyo.1]; rfl
  have hn0 : nth (a.off + i * 33 + 0 + 0 * 1) xa = some (byteVal (y.1.getD 0 0)) := by
   rw [show a.off + i * 33 + 0 + 0 * 1 = a.off + i * 33 + 0 by omega, Yj ht33 (by omega)]
   unfold Yl
   rw [List.getElem?_append_left (by rw [Xc, hyo.1]; omega), Xdd (by rw [hyo.1]; omega)]
  have hE : (!decide (cur.length = 0) && (decide ((y.1.getD 0 0).toNat % 8 = 0) || decide (cur.length + 1 = 8))) = eL lev (cur.length + 1) y := by
   unfold eL XeC
   have q1 : decide (lev = 0) = false := decide_eq_false (by omega)
   rw [q1]
   by_cases z1 : cur.length = 0
   ·simp [z1]
   ·by_cases z2 : cur.length = 7
    ·simp [z2]
    ·simp [z1, z2]; omega
  by_cases hl : i < n - 1
  ·by_cases hc0 : i = i - cur.length
   ·have hf : eL lev (cur.length + 1) y = false := by rw [<- hE, decide_eq_true (show cur.length = 0 by omega)]; rfl
    have hstep : Ya (eL lev) cur (ls.drop i) = Ya (eL lev) (cur ++ [y]) (ls.drop (i + 1)) := by
     have hne : (ls.drop (i + 1)).isEmpty = false := by
      rw [<- XjP, Xjx]; exact fun e => by have := hrest.1 e; omega
     rw [hdrop, Ya, hf, hne]; rfl
    refine R2 ?_
    refine Xh (Z8 rfl rfl (by omega)) ?_
    refine R ?_
    refine Xh (XaF rfl rfl (by omega) (by omega)) ?_
    refine R ?_
    refine ⟨hlt, oo, oc, io, ic, vs, is, fp, cs, cur ++ [y], ⟨rfl, rfl, rfl, rfl, ?_, ?_, rfl⟩, rfl, ek, by simp; omega, by omega, by omega, ?_, by rw [hcut, hstep], row, his⟩
    ·rw [Xif, XjJ, show i + 1 - (cur.length + 1) = i - cur.length by omega]; rfl
    ·rw [<- hsumS]; rfl
    ·rw [Xif, XjJ, show i + 1 - (cur.length + 1) = i - cur.length by omega, hcurS]
   ·rw [decide_eq_false (show ¬ cur.length = 0 by omega)] at hE
    refine R2 ?_
    refine Xh (Z8 rfl rfl (by omega)) ?_
    refine R ?_
    refine Xh (XaF rfl rfl (by omega) (by omega)) ?_
    refine R2 ?_
    refine Xh (Zh rfl rfl (by omega) (by omega)) ?_
    refine wp_yes rfl ?_
    rw [show i + 1 - (i - cur.length) = cur.length + 1 by omega]
    refine Xj (Xi rfl (ref21_ends_ok H _ _ (y.1.getD 0 0) (cur.length + 1))) ?_
    rintro v h4 ⟨rfl, rfl⟩
    rw [show (decide ((y.1.getD 0 0).toNat % 8 = 0) || decide (cur.length + 1 = 8)) = eL lev (cur.length + 1) y from hE]
    cases he : eL lev (cur.length + 1) y with
    | true =>
     have hstep : Ya (eL lev) cur (ls.drop i) = (cur ++ [y]) :: Ya (eL lev) [] (ls.drop (i + 1)) := by
      rw [hdrop, Ya, he]; rfl
     refine R ?_
     refine XeK (l := i - cur.length) (r := i + 1) (sl.ext ek) rfl rfl rfl (by omega) (by omega) fun ao' ca' sl' hbl => ?_
     rw [show i + 1 - (i - cur.length) = cur.length + 1 by omega] at sl' ⊢
     have hsl' : ((fl Yl ls).drop ((i - cur.length) * 33)).take ((cur.length + 1) * 33) = fl Yl (cur ++ [y]) := by
      have := Xhf (enc := Yl) (z := 33) (l := ls) (fun x hx => YR (hs x hx)) (i - cur.length) (cur.length + 1)
      rw [this, hcurS]
     rw [hsl'] at sl'
     have hcl1 : (cur ++ [y]).length = cur.length + 1 := by simp
     rw [<- hcl1] at sl' ⊢
     refine Xj (Xi rfl (ref21_inner_ok H (m + 2) (by omega) _ lev hlev (cur ++ [y]) ao' ca' sl' (by omega) hall)) ?_
     rintro v h6 ⟨lo, lc, rfl, ol, fl6, e6⟩
     have hmany : Xdl (Y0 (cur ++ [y])) = .int .i64 (Xic (Y0 cur + y.2)) := by unfold Xdl; rw [hsumS]
     obtain ⟨nb, hnb⟩ : ∃ nb, nb = X3 lev [] (cur ++ [y]) := ⟨_, rfl⟩
     rw [<- hnb] at ol ⊢
     have l6 := e6.next
     have rowq := row
     have eqq : Ext [] h _ := ek
     have lqq := eqq.next
     refine XK (Xf (by conv => lhs; whnf) rfl rfl rfl XE) fun H70 B70 E70 L70 G70 N70 Q70 => ?_
     have row1 := (rowq.ext e6).ext E70
     refine XX row1.o rfl rfl rfl (Slc.of_get (z := 1) G70 N70 rfl).elemsAll rfl (by omega) fun oo2 oc2 h7 o7 e7 l7 f7 => ?_
     have row2 := row1.app1 (ol.toSlc.ext E70) (fun x hx => by
      obtain ⟨q, h1, h2⟩ := Xs hx
      have h3 := fl6 q h1
      refine ⟨by omega, fun hm => ?_, fun hm => ?_⟩
      ·obtain ⟨q2, k1, k2⟩ := Xs hm
       have := rowq.o.toSlc.lt q2 k1; omega
      ·obtain ⟨q2, k1, k2⟩ := Xs hm
       have := rowq.i.toSlc.lt q2 k1; omega) o7 e7 f7 (by omega)
     refine R ?_
     refine XK (Xf (by conv => lhs; whnf) rfl rfl rfl XE) fun H80 B80 E80 L80 G80 N80 Q80 => ?_
     refine XX (row2.i.ext E80) rfl rfl rfl (Slc.of_get (z := 1) G80 N80 rfl).elemsAll rfl (by omega) fun io2 ic2 h8 o8 e8 l8 f8 => ?_
     have row3 := (row2.ext E80).app2 o8 e8 f8 (by omega)
     refine R ?_
     have eF := ((eqq.trans0 e6).trans0 E70).trans e7 (fun x hx => .inr (rowq.ob x hx))
     have eG := (eF.trans0 E80).trans e8 (fun x hx => .inr (rowq.ib x hx))
     have hlen1 : (vs ++ [Value.slice lo nb.length lc]).length = vs.length + 1 := by simp
     have hlen2 : (is ++ [Xdl (Y0 (cur ++ [y]))]).length = is.length + 1 := by simp
     rw [<- hmany] at row3
     refine ⟨hlt, oo2, oc2, io2, ic2, vs ++ [.slice lo nb.length lc], is ++ [Xdl (Y0 (cur ++ [y]))], XB lo ++ fp, cs ++ [cur ++ [y]], [], ?_, rfl, eG, by simp, by omega, by omega, by simp, by rw [hcut, hstep]; simp, ?_, by rw [his]; simp⟩
     ·rw [hlen1, hlen2]; exact ⟨rfl, rfl, rfl, rfl, rfl, rfl, rfl⟩
     ·rw [XiM]
      have hn1 : [cur ++ [y]].map (fun c => X3 lev [] c) = [nb] := by rw [hnb]; rfl
      rw [hn1]
      exact row3
    | false =>
     have hstep : Ya (eL lev) cur (ls.drop i) = Ya (eL lev) (cur ++ [y]) (ls.drop (i + 1)) := by
      have hne : (ls.drop (i + 1)).isEmpty = false := by
       rw [<- XjP, Xjx]; exact fun e => by have := hrest.1 e; omega
      rw [hdrop, Ya, he, hne]; rfl
     refine R ?_
     refine ⟨hlt, oo, oc, io, ic, vs, is, fp, cs, cur ++ [y], ⟨rfl, rfl, rfl, rfl, ?_, ?_, rfl⟩, rfl, ek, by simp; omega, by omega, by omega, ?_, by rw [hcut, hstep], row, his⟩
     ·rw [Xif, XjJ, show i + 1 - (cur.length + 1) = i - cur.length by omega]; rfl
     ·rw [<- hsumS]; rfl
     ·rw [Xif, XjJ, show i + 1 - (cur.length + 1) = i - cur.length by omega, hcurS]
  ·have hstep : Ya (eL lev) cur (ls.drop i) = (cur ++ [y]) :: Ya (eL lev) [] (ls.drop (i + 1)) := by
    rw [hdrop, Ya, hrest.2 (by omega)]; simp
   refine R2 ?_
   refine Xh (Z8 rfl rfl (by omega)) ?_
   refine R ?_
   refine Xh (XaF rfl rfl (by omega) (by omega)) ?_
   refine R ?_
   refine XeK (l := i - cur.length) (r := i + 1) (sl.ext ek) rfl rfl rfl (by omega) (by omega) fun ao' ca' sl' hbl => ?_
   rw [show i + 1 - (i - cur.length) = cur.length + 1 by omega] at sl' ⊢
   have hsl' : ((fl Yl ls).drop ((i - cur.length) * 33)).take ((cur.length + 1) * 33) = fl Yl (cur ++ [y]) := by
    have := Xhf (enc := Yl) (z := 33) (l := ls) (fun x hx => YR (hs x hx)) (i - cur.length) (cur.length + 1)
    rw [this, hcurS]
   rw [hsl'] at sl'
   have hcl1 : (cur ++ [y]).length = cur.length + 1 := by simp
   rw [<- hcl1] at sl' ⊢
   refine Xj (Xi rfl (ref21_inner_ok H (m + 2) (by omega) _ lev hlev (cur ++ [y]) ao' ca' sl' (by omega) hall)) ?_
   rintro v h6 ⟨lo, lc, rfl, ol, fl6, e6⟩
   have hmany : Xdl (Y0 (cur ++ [y])) = .int .i64 (Xic (Y0 cur + y.2)) := by unfold Xdl; rw [hsumS]
   obtain ⟨nb, hnb⟩ : ∃ nb, nb = X3 lev [] (cur ++ [y]) := ⟨_, rfl⟩
   rw [<- hnb] at ol ⊢
   have l6 := e6.next
   have rowq := row
   have eqq : Ext [] h _ := ek
   have lqq := eqq.next
   refine XK (Xf (by conv => lhs; whnf) rfl rfl rfl XE) fun H40 B40 E40 L40 G40 N40 Q40 => ?_
   have row1 := (rowq.ext e6).ext E40
   refine XX row1.o rfl rfl rfl (Slc.of_get (z := 1) G40 N40 rfl).elemsAll rfl (by omega) fun oo2 oc2 h7 o7 e7 l7 f7 => ?_
   have row2 := row1.app1 (ol.toSlc.ext E40) (fun x hx => by
    obtain ⟨q, h1, h2⟩ := Xs hx
    have h3 := fl6 q h1
    refine ⟨by omega, fun hm => ?_, fun hm => ?_⟩
    ·obtain ⟨q2, k1, k2⟩ := Xs hm
     have := rowq.o.toSlc.lt q2 k1; omega
    ·obtain ⟨q2, k1, k2⟩ := Xs hm
     have := rowq.i.toSlc.lt q2 k1; omega) o7 e7 f7 (by omega)
   refine R ?_
   refine XK (Xf (by conv => lhs; whnf) rfl rfl rfl XE) fun H50 B50 E50 L50 G50 N50 Q50 => ?_
   refine XX (row2.i.ext E50) rfl rfl rfl (Slc.of_get (z := 1) G50 N50 rfl).elemsAll rfl (by omega) fun io2 ic2 h8 o8 e8 l8 f8 => ?_
   have row3 := (row2.ext E50).app2 o8 e8 f8 (by omega)
   refine R ?_
   have eF := ((eqq.trans0 e6).trans0 E40).trans e7 (fun x hx => .inr (rowq.ob x hx))
   have eG := (eF.trans0 E50).trans e8 (fun x hx => .inr (rowq.ib x hx))
   have hlen1 : (vs ++ [Value.slice lo nb.length lc]).length = vs.length + 1 := by simp
   have hlen2 : (is ++ [Xdl (Y0 (cur ++ [y]))]).length = is.length + 1 := by simp
   rw [<- hmany] at row3
   refine ⟨hlt, oo2, oc2, io2, ic2, vs ++ [.slice lo nb.length lc], is ++ [Xdl (Y0 (cur ++ [y]))], XB lo ++ fp, cs ++ [cur ++ [y]], [], ?_, rfl, eG, by simp, by omega, by omega, by simp, by rw [hcut, hstep]; simp, ?_, by rw [his]; simp⟩
   ·rw [hlen1, hlen2]; exact ⟨rfl, rfl, rfl, rfl, rfl, rfl, rfl⟩
   ·rw [XiM]
    have hn1 : [cur ++ [y]].map (fun c => X3 lev [] c) = [nb] := by rw [hnb]; rfl
    rw [hn1]
    exact row3
 ·have hin : i = n := by omega
  have hcs : Ya (eL lev) [] ls = cs := by rw [hcut, hin, <- hn, List.drop_length]; simp [Ya]
  refine R ?_
  exact ⟨rfl, _, Xb (Xv rfl) (Xb (Xv rfl) Xd), oo, oc, io, ic, vs, is, fp, rfl, by rw [hcs]; exact row, by rw [hcs]; exact his, ek⟩
end
theorem RowV.appM {h3 : Heap} {base : Nat} {oo2 : Option Addr} {oc2 : Nat} {vs2 : List Value} {bs2 : List (List UInt8)} {fp2 : List Nat} (r : RowV h base oo oc none 0 vs [] bs fp) (b2 : Bss h fp2 vs2 bs2) (hb : ∀ x ∈ fp2, base <= x /\ x < h.next /\ x ∉ XB oo)
  (o5 : Own h3 1 oo2 (vs.length + vs2.length) oc2 (vs ++ vs2)) (e5 : Ext (XB oo) h h3) (f5 : ∀ a, oo2 = some a -> a.block ∈ XB oo \/ (h.next <= a.block /\ a.block < h3.next)) (hbase : base <= h.next) : RowV h3 base oo2 oc2 none 0 (vs ++ vs2) [] (bs ++ bs2) (fp2 ++ fp) := by
 have en := e5.next
 have h2 : ∀ x ∈ XB oo2, x ∈ XB oo \/ h.next <= x := fun x hx => by
  obtain ⟨a, h1, h2⟩ := Xs hx
  rcases f5 a h1 with k | k
  ·rw [<- h2]; exact .inl k
  ·rw [<- h2]; exact .inr k.1
 refine ⟨by rw [Xif]; exact o5, .empty _ _, ?_, fun x hx => ?_, (fun x hx => nomatch hx), fun x hx => ?_, fun x hx hi => nomatch hi⟩
 ·exact All2.append ((r.b.extS e5 fun x hx => (r.fb x hx).2.2.1).mono fun x hx => XiB.2 (.inr hx)) ((b2.extS e5 fun x hx => (hb x hx).2.2).mono fun x hx => XiB.2 (.inl hx))
 ·rcases h2 x hx with k | k
  ·exact r.ob x k
  ·omega
 ·rcases XiB.1 hx with k | k
  ·have k1 := hb x k
   exact ⟨k1.1, by omega, fun hq => (h2 x hq).elim k1.2.2 (fun k3 => by omega), fun hq => nomatch hq⟩
  ·have k1 := r.fb x k
   exact ⟨k1.1, by omega, fun hq => (h2 x hq).elim k1.2.2.1 (fun k3 => by omega), fun hq => nomatch hq⟩
theorem RowS.base {base base' : Nat} {io : Option Addr} {ic : Nat} {is : List Value} (r : RowS h base oo oc io ic vs is bs fp) (q : base' <= base) : RowS h base' oo oc io ic vs is bs fp :=
 ⟨r.o, r.i, r.b, fun x hx => XiL q (r.ob x hx), fun x hx => XiL q (r.ib x hx), fun x hx => ⟨XiL q (r.fb x hx).1, (r.fb x hx).2⟩⟩
theorem putsR_one {f lev : Nat} {nds : List Nd} (h : nds.length <= 1) : Zg (Yt f lev nds) = nds.map (Nd.bytes lev) := by
 cases f with
 | zero => simp [Yt, Zg]
 | succ f => rw [Yt, if_pos h]; simp [Zg]
theorem putsR_more {f lev : Nat} {nds : List Nd} (h : 1 < nds.length) : Zg (Yt (f + 1) lev nds) = nds.map (Nd.bytes lev) ++ Zg (Yt f (lev + 1) (Zs lev nds)) := by
 rw [Yt, if_neg (by omega)]
 simp [Zg]
section
variable {E : Env} {sg : Bool} (H : Has E)
include H
attribute [local irreducible] Sha
set_option maxHeartbeats 4000000 in
theorem ref21_Puts_ok (m : Nat) (hm : 100000000 <= m) (h : Heap) (texts : List (List UInt8)) (ao : Option Addr) (ca n : Nat) (hn : texts.length = n) (sl : Slc h 1 ao n ca (fl Wa texts)) (ht : n <= 100) (hs : ∀ s ∈ texts, s.length <= 8000) :
  (enter E (ctx E (m + 8)) XdF [.slice ao n ca] h).Wp sg fun v h' => ∃ oo oc vs fp, v = .slice oo vs.length oc /\ RowV h' h.next oo oc none 0 vs [] (Ze texts) fp /\ Ext [] h h' := by
 refine H.run (k := JL) rfl rfl rfl ?_
 dsimp only [JL]
 obtain ⟨lok, lsum, lpos, l100⟩ := Xgt (texts := texts) (by omega) hs
 refine R ?_
 refine Xj (Xi rfl (ref21_Leaves_ok H m (by omega) _ texts ao ca n hn sl ht hs)) ?_
 rintro v h2 ⟨oo, oc, io, ic, vs, is, fp, rfl, row, his, e2⟩
 have l2 := e2.next
 have hvl : vs.length = (leaves texts).length := by rw [All2.length row.b, Xir]
 refine R ?_
 refine XK XE fun H10 B10 E10 L10 G10 N10 Q10 => ?_
 refine R ?_
 have row1 := row.ext E10
 have nil1 : RowV H10 h.next (some ⟨B10, 0, none⟩) 0 none 0 [] [] [] [] := ⟨Own.lit G10 N10, .empty _ _, .nil, (fun x hx => by have : x = B10 := Xid.1 hx; omega), (fun _ h => nomatch h), (fun _ h => nomatch h), fun _ _ h => nomatch h⟩
 refine XX nil1.o rfl rfl rfl row1.o.elemsAll (by rw [Xim]) (by simp; omega) fun xo xc h3 o3 e3 l3 f3 => ?_
 have all1 := nil1.appM row1.b (fun x hx => ⟨(row1.fb x hx).1, (row1.fb x hx).2, fun hm => by have e1 : x = B10 := Xid.1 hm; have := (row.fb x hx).2; omega⟩) o3 e3 f3 (by omega)
 have e23 : Ext [] h2 h3 := E10.trans e3 (fun s hs => .inr (by have e1 : s = B10 := Xid.1 hs; omega))
 have row3 := row.ext e23
 refine R ?_
 refine Yq 101 1 (fun i t x hk => ∃ oo oc io ic vs is fp xo xc xs xfp nds f acc, (g3 t = (.slice oo vs.length oc) /\ g4 t = (.slice io is.length ic) /\ g5 t = (.slice xo xs.length xc) /\ g6 t = (.int .i64 (Xic i))) /\ x = ⟨[], none, none⟩ /\ Ext [] h hk /\ RowS hk h.next oo oc io ic vs is (nds.map (Nd.bytes (i - 1))) fp /\ is = nds.map (fun n => Xdl n.many) /\ RowV hk h.next xo xc none 0 xs [] (acc ++ nds.map (Nd.bytes (i - 1))) xfp /\ Ze texts = acc ++ Zg (Yt f (i - 1) nds) /\ f = 101 - i /\ 1 <= i /\ (∀ n ∈ nds, n.OK) /\ sumM nds <= 2000 /\ 0 < nds.length /\ nds.length + i <= 101 /\ acc.length <= 100 * i) ?_ (by omega) (XF (by omega)) ?_
 ·refine ⟨oo, oc, io, ic, vs, is, fp, xo, xc, [] ++ vs, fp ++ [], leaves texts, 100, [], ⟨rfl, rfl, ?_, rfl⟩, rfl, e2.trans0 e23, row3, his, all1, by rfl, rfl, by omega, lok, lsum, lpos, by omega, by simp⟩
  show Value.slice xo ([].length + vs.length) xc = Value.slice xo ([] ++ vs).length xc
  simp
 rintro i t x hk hi ⟨oo, oc, io, ic, vs, is, fp, xo, xc, xs, xfp, nds, f, acc, ⟨r3, r4, r5, r6⟩, rfl, ek, row, his, all, hput, hf, hi1, nok, nsum, npos, nlen, hacc⟩
 obtain ⟨t0, rfl⟩ : ∃ t0, t = p3 (.slice oo vs.length oc) (p4 (.slice io is.length ic) (p5 (.slice xo xs.length xc) (p6 (.int .i64 (Xic i)) t0))) := ⟨t, (show t = p3 (g3 t) (p4 (g4 t) (p5 (g5 t) (p6 (g6 t) t))) from rfl).trans (by rw [r3, r4, r5, r6])⟩
 clear r3 r4 r5 r6
 have hvl : vs.length = nds.length := by rw [All2.length row.b, Xir]
 have lk := ek.next
 by_cases hgt : 1 < vs.length
 ·refine R ?_
  refine Yq nds.length 0 (fun j t x hj => ∃ ro rc, (g3 t = (.slice oo vs.length oc) /\ g4 t = (.slice io is.length ic) /\ g5 t = (.slice xo xs.length xc) /\ g6 t = (.int .i64 (Xic i)) /\ g7 t = (.slice ro j rc) /\ g8 t = (.int .i64 (Xic j))) /\ x = ⟨[], none, none⟩ /\ Ext [] hk hj /\ Own hj 33 ro j rc (fl Yl ((links (i - 1) nds).take j)) /\ ∀ x ∈ XB ro, hk.next <= x) ⟨none, 0, ⟨rfl, rfl, rfl, rfl, rfl, rfl⟩, rfl, .refl hk, by rw [List.take_zero]; exact .empty _ _, fun x hx => nomatch hx⟩ (Xis _) (XF (by omega)) ?_
  rintro j t x hj hjn ⟨ro, rc, ⟨r3, r4, r5, r6, r7, r8⟩, rfl, ej, own, fr⟩
  obtain ⟨t0, rfl⟩ : ∃ t0, t = p3 (.slice oo vs.length oc) (p4 (.slice io is.length ic) (p5 (.slice xo xs.length xc) (p6 (.int .i64 (Xic i)) (p7 (.slice ro j rc) (p8 (.int .i64 (Xic j)) t0))))) := ⟨t, (show t = p3 (g3 t) (p4 (g4 t) (p5 (g5 t) (p6 (g6 t) (p7 (g7 t) (p8 (g8 t) t))))) from rfl).trans (by rw [r3, r4, r5, r6, r7, r8])⟩
  clear r3 r4 r5 r6 r7 r8
  have lj := ej.next
  by_cases hlj : j < nds.length
  ·obtain ⟨nd, hnd⟩ : ∃ nd, nds[j]? = some nd := ⟨_, Xin hlj⟩
   have hnd' : nds[j] = nd := Xiu.inj ((Xin hlj).symm.trans hnd)
   have rowj := row.ext ej
   obtain ⟨bo, bc, hv, sb, fb⟩ := rowj.b.get j (by omega) (by rw [Xir]; exact hlj)
   rw [List.getElem_map, hnd'] at hv sb
   have hndo := nok nd (XiG hnd)
   obtain ⟨a, wa, xa, hao, ga, na, ta⟩ := rowj.o.nonempty (by omega)
   subst hao
   have hisl : is.length = nds.length := by rw [his, Xir]
   obtain ⟨ia, wi, xi, hio, gi, ni, ti⟩ := rowj.i.nonempty (by omega)
   subst hio
   have hload : nth (a.off + j * 1) xa = some (.slice bo (nd.bytes (i - 1)).length bc) := by
    rw [Xim, Yj ta (by omega), Xin (by omega), hv]
   have hloadi : nth (ia.off + j * 1) xi = some (.int .i64 (Xic nd.many)) := by
    rw [Xim, Yj ti (by omega), his, XiH, hnd]; rfl
   obtain ⟨nb, hnb⟩ : ∃ nb, nb = nd.bytes (i - 1) := ⟨_, rfl⟩
   rw [<- hnb] at hload sb
   have hnbl : nb.length < 90000000 := by have := hndo.bytes_le (lev := i - 1) (by omega); rw [hnb]; omega
   refine R2 ?_
   refine Y2 (Xi rfl (Xhj H (m + 1) (by omega) _ nb bo nb.length bc rfl sb hnbl)) (fun _ _ _ => rfl) ?_
   rintro v h5 ⟨rfl, e5⟩
   have l5 := e5.next
   have gi5 := e5.get0 ni gi
   have hd32 : (Xa (Sha nb)).length = 32 := by rw [Xc, X1]
   refine R ?_
   refine Xk (XR rfl gi5 (by assumption)) (YD rfl (XJ (XR rfl gi (by assumption)) rfl) rfl) ?_
   have hp1 : X0 (Xa (Sha nb)) 0 q_5ccab404 = Xa (Sha nb) ++ ([Value.int .i64 (Xic 0)] ++ []) := X9 (k := 0) (a := []) (b := Xa zeros32) (c := [.int .i64 (Xic 0)]) rfl (by rw [hd32]; rfl)
   have hp2 : X0 [Value.int .i64 (Xic nd.many)] 32 (X0 (Xa (Sha nb)) 0 q_5ccab404) = Yl (Sha nb, nd.many) := by
    rw [hp1]; exact X9 hd32 rfl
   have hel : (Yl (Sha nb, nd.many)).length = 33 := YR (hnb ▸ hndo.link (i - 1))
   have hq33 : q_5ccab404.length = 33 := rfl
   refine Xk (Yp (cs := Yl (Sha nb, nd.many)) (Xf rfl rfl hd32 rfl (Xf rfl rfl rfl (by rw [hp1, Xif, hd32] <;> rfl) (congrArg some hp2)))) rfl ?_
   refine Xdz (cs := Yl (Sha nb, nd.many)) (Xf rfl rfl hel rfl (congrArg some (YW (by rw [hel, hq33])))) (fun h' => rfl) (fun H7 B7 E7 L7 G7 N7 Q7 => ?_)
   refine W0 ((own.ext e5).ext E7) rfl rfl rfl (Slc.of_get (z := 33) G7 N7 hel).elemsAll hel (by omega) (fun h' => rfl) fun ro2 rc2 h8 o8 e8 l8 f8 => ?_
   refine R ?_
   refine ⟨hlj, ro2, rc2, ⟨rfl, rfl, rfl, rfl, rfl, rfl⟩, rfl, ((ej.trans0 e5).trans0 E7).trans e8 (fun x hx => .inr (fr x hx)), ?_, fun x hx => ?_⟩
   ·have hlj2 : (links (i - 1) nds)[j]? = some (Sha nb, nd.many) := by
     unfold links; rw [XiH, hnd, hnb]; rfl
    rw [XiI, hlj2, Xdm]
    have : fl Yl (some (Sha nb, nd.many)).toList = Yl (Sha nb, nd.many) := by simp [fl]
    rw [this]; exact o8
   ·obtain ⟨q, k2, k3⟩ := Xs hx
    rcases f8 q k2 with k4 | k4
    ·rw [<- k3]; exact fr _ k4
    ·omega
  ·have hje : j = nds.length := by omega
   rw [XjB (by unfold links; rw [Xir]; omega)] at own
   have hlk : (links (i - 1) nds).length = j := by unfold links; rw [Xir, hje]
   refine R ?_
   refine Xj (Xi rfl (ref21_Inners_ok H m hm _ i (by omega) hi1 (links (i - 1) nds) ro rc j hlk own.toSlc (by omega) (fun y hy => by obtain ⟨n, hn, rfl⟩ := Xix.1 hy; exact (nok n hn).link (i - 1)))) ?_
   rintro v h6 ⟨oo2, oc2, io2, ic2, vs2, is2, fp2, rfl, row6, his2, e6⟩
   have l6 := e6.next
   refine R ?_
   have allj := (all.ext ej).ext e6
   have hb2 : vs2.length <= j := by
    rw [All2.length row6.b, Xir]
    have := cutG_half (fun k x => eL_two hi1 k x) [] (links (i - 1) nds)
    simp at this; omega
   have hxs : xs.length = acc.length + nds.length := by rw [All2.length all.b, Xif, Xir]
   refine XX allj.o rfl rfl rfl row6.o.toSlc.elemsAll (by rw [Xim]) (by omega) fun xo3 xc3 h9 o9 e9 l9 f9 => ?_
   have all9 := allj.appM row6.b (fun x hx => by
    have k1 := row6.fb x hx
    refine ⟨by omega, k1.2.1, fun hm => ?_⟩
    obtain ⟨q, k2, k3⟩ := Xs hm
    have := all.o.toSlc.lt q k2; omega) o9 e9 f9 (by omega)
   have row9 := (row6.toS.extS e9 (fun x hx => by obtain ⟨q, k2, k3⟩ := Xs hx; have := all.o.toSlc.lt q k2; omega)).base (base' := h.next) (by omega)
   refine R ?_
   have hii : i - 1 + 1 = i := by omega
   have hab : Zs (i - 1) nds = (Ya (eL i) [] (links (i - 1) nds)).map fun c => ⟨[], c⟩ := by unfold Zs; rw [hii]
   have hbm : (Zs (i - 1) nds).map (Nd.bytes i) = (Ya (eL i) [] (links (i - 1) nds)).map fun c => X3 i [] c := by rw [hab, XiX]; rfl
   have h2n : 2 <= nds.length := by omega
   have hal := Xhg (lev := i - 1) h2n
   rw [<- hbm] at all9 row9
   have hf1 : f = (101 - (i + 1)) + 1 := by omega
   rw [hf1, putsR_more (by omega), hii, <- XiC] at hput
   refine ⟨by omega, oo2, oc2, io2, ic2, vs2, is2, fp2, xo3, xc3, xs ++ vs2, fp2 ++ xfp, Zs (i - 1) nds, 101 - (i + 1), acc ++ nds.map (Nd.bytes (i - 1)), ⟨rfl, rfl, ?_, rfl⟩, rfl, ?_, row9, ?_, all9, hput, rfl, by omega, above_OK nok nsum, by rw [Xd5]; exact nsum, hal.1, by omega, by rw [Xif, Xir]; omega⟩
   ·rw [Xif]; rfl
   ·exact ((ek.trans0 ej).trans0 e6).trans e9 (fun x hx => .inr (all.ob x hx))
   ·rw [his2, hab, XiX]
    refine List.map_congr_left fun c _ => ?_
    show Xdl (Y0 c) = Xdl (0 + Y0 c)
    rw [Nat.zero_add]
 ·have hone : nds.length <= 1 := by omega
  rw [putsR_one hone] at hput
  refine R ?_
  exact ⟨rfl, _, Xb (Xv rfl) Xd, xo, xc, xs, xfp, rfl, by rw [hput]; exact all, ek⟩
end
theorem Bss.bytes {ls : List (List UInt8)} (c : Bss h fp vs ls) : ls.length = vs.length := (All2.length c).symm
section
variable {E : Env} {sg : Bool} (H : Has E)
include H
attribute [local irreducible] Sha
set_option maxHeartbeats 4000000 in
theorem law21_clash_ok (m : Nat) (hm : 100000000 <= m) (h : Heap) (xs ys : List (List UInt8)) (xo yo : Option Addr) (xc yc : Nat) (sx : Slc h 1 xo xs.length xc (fl Wa xs)) (sy : Slc h 1 yo ys.length yc (fl Wa ys)) (hx : xs.length <= 100) (hy : ys.length <= 100) (hxs : ∀ s ∈ xs, s.length <= 8000) (hys : ∀ s ∈ ys, s.length <= 8000)
  (hpx : (Ze xs).length <= 100000) (hpy : (Ze ys).length <= 100000) (hpb : ∀ b ∈ Ze xs ++ Ze ys, b.length < 90000000) :
  (enter E (ctx E (m + 9)) Xcy [.slice xo xs.length xc, .slice yo ys.length yc] h).Wp sg fun v h' => ∃ b, v = .bool b /\ (b = false -> NoC (Ze xs ++ Ze ys)) /\ Ext [] h h' := by
 refine H.run (k := U2) rfl rfl rfl ?_
 dsimp only [U2]
 refine R ?_
 refine Xj (Xi rfl (ref21_Puts_ok H m (by omega) _ xs xo xc _ rfl sx hx hxs)) ?_
 rintro v h1 ⟨oo, oc, vs, fp, rfl, row, e1⟩
 have l1 := e1.next
 refine R ?_
 refine Xj (Xi rfl (ref21_Puts_ok H m (by omega) _ ys yo yc _ rfl (sy.ext e1) hy hys)) ?_
 rintro v h2 ⟨oo2, oc2, vs2, fp2, rfl, row2, e2⟩
 have l2 := e2.next
 have row1 := row.ext e2
 have k1 := row.b.bytes
 have k2 := row2.b.bytes
 refine XX row1.o rfl rfl rfl row2.o.toSlc.elemsAll (by rw [Xim]) (by omega) fun xo3 xc3 h3 o3 e3 l3 f3 => ?_
 have row3 := row1.appM row2.b (fun x hx => by
  have q1 := row2.fb x hx
  refine ⟨by omega, q1.2.1, fun hm => ?_⟩
  obtain ⟨q, k2, k3⟩ := Xs hm
  have := row.o.toSlc.lt q k2; omega) o3 e3 f3 (by omega)
 have eF : Ext [] h h3 := (e1.trans0 e2).trans e3 (fun x hx => .inr (row.ob x hx))
 rw [show vs.length + vs2.length = (vs ++ vs2).length by simp] at *
 refine Xj (Xi rfl (ref02_Clash_ok H (m + 1) (by omega) _ (vs ++ vs2) (Ze xs ++ Ze ys) xo3 xc3 _ rfl row3.o.toSlc (fp2 ++ fp) (fun b hb => (row3.fb b hb).2.1) row3.b hpb (by rw [Xif]; omega))) ?_
 rintro v h4 ⟨b, rfl, hb, e4⟩
 refine R ?_
 exact ⟨rfl, _, Xb (Xv rfl) Xd, b, rfl, hb, eF.trans0 e4⟩
end
def dskCells (many mb : Nat) : List Value := [.int .i64 0, .int .i64 (-1), .bool false, .bool true, .int .i64 (Xic many), .map (some mb), .slice none 0 0]
structure FreshD (h : Heap) (db mb many : Nat) : Prop where
 d : h.get db = some (.cells true (dskCells many mb))
 m : h.get mb = some (.map (.one (.int .i64)) 0 [])
 lt : db < h.next /\ mb < h.next
theorem FreshD.ext {h' : Heap} {db mb many : Nat} (f : FreshD h db mb many) (e : Ext [] h h') : FreshD h' db mb many :=
 ⟨e.get0 f.lt.1 f.d, e.get0 f.lt.2 f.m, XiN f.lt.1 e.next, XiN f.lt.2 e.next⟩
def zeros64 : List UInt8 := List.replicate 64 0
theorem l_lookupI0 {t : Tm} {x i : Xe} {zero : Value} {ok : Bool} {r gv : Nat} {k : Int} (hx : x t = .map (some r)) (hi : i t = .int .i64 k) (g : h.get r = some (.map (.one (.int .i64)) gv [])) : Ve (.one (.int .i64)) zero ok x i t h = some (Kk zero ok none) := by
 unfold Ve
 rw [hi, hx]
 have e : Wi (.one (.int .i64)) (.int .i64 k) = true := rfl
 rw [e]
 show (match h.get r with
  | some (.map sh' _ es) => bif !(Xcl (.one (.int .i64)) sh') then none else Yr none (fun v => some (Kk zero ok v)) (J5 (.one (.int .i64)) (.int .i64 k) es)
  | _ => none) = _
 rw [g]
 rfl
theorem wp_mkSliceE {sg : Bool} {N : Tm -> Aux -> Heap -> Prop} {X : Nat -> Tm -> Aux -> Heap -> Prop} {R : Tm -> Aux -> Heap -> Prop} {c : Ctx} {t : Tm} {x : Aux} {g g' : Xe} {p : Value -> Tm -> Tm} {rest : KB} {z : List Value} {l k : Nat} (hg : g t = .int .i64 (Xic l)) (hg' : g' t = .int .i64 (Xic k)) (hl : l <= k) (hk : k < 1000000)
  (K : ∀ h' b, Ext [] h h' -> h.next <= h'.next -> h'.get b = some (.cells true (rep z k)) -> b < h'.next -> b = h.next -> (rest c (p (.slice (some ⟨b, 0, none⟩) l k) t) x h').Wp sg N X R) : (Y6 (Yc (Xaz z g g')) p rest c t x h).Wp sg N X R := by
 refine Kv (l := Xaz z g g') (v := .slice (some ⟨h.next, 0, none⟩) l k) (h' := h.push (.cells true (rep z k))) ?_ (K _ _ (.push _ _) (Nat.le_succ _) (Heap.get_new _ _) (XiA _) rfl)
 unfold Xaz
 rw [hg, hg']
 show (bif Nat.ble l k && Nat.blt k 1000000 then _ else _) = _
 have h1 : (Nat.ble l k && Nat.blt k 1000000) = true := by rw [Xip, ble_iff, blt_iff]; exact ⟨hl, hk⟩
 rw [h1]; rfl
section
variable {E : Env} {sg : Bool} (H : Has E)
include H
theorem disk_New_ok (m : Nat) (h : Heap) (many : Nat) (hm : many <= 65536) : (enter E (ctx E m) f_disk_New [.int .i64 (Xic many)] h).Wp sg fun v h' => ∃ db mb, v = .tuple ⟨[.pointer (some ⟨db, 0, none⟩), .int .i64 (Xic 0)]⟩ /\ FreshD h' db mb many /\ h.next <= db /\ Ext [] h h' := by
 refine H.run (k := k_disk_New) rfl rfl rfl ?_
 dsimp only [k_disk_New]
 refine R ?_
 refine Xh (Yp (Xf (by conv => lhs; whnf) rfl rfl rfl XE)) ?_
 refine R ?_
 refine wp_mapE fun H1 B1 E1 L1 G1 N1 Q1 => ?_
 refine Xh (Yp (Xf (by conv => lhs; whnf) rfl rfl rfl (Xf (by conv => lhs; whnf) rfl rfl rfl (Xf (by conv => lhs; whnf) rfl rfl rfl (Xf (by conv => lhs; whnf) rfl rfl rfl XE))))) ?_
 refine XY (by conv => lhs; whnf) rfl fun H2 B2 E2 L2 G2 N2 Q2 => ?_
 refine R ?_
 exact ⟨rfl, _, Xb (Xv rfl) (Xb (Xv rfl) Xd), B2, B1, rfl, ⟨G2, E2.get0 N1 G1, N2, by omega⟩, by omega, E1.trans0 E2⟩
theorem disk_ready_ok (m : Nat) (h : Heap) (db mb many n : Nat) (f : FreshD h db mb many) (hn : n < many) : (enter E (ctx E (m + 1)) Xen [.pointer (some ⟨db, 0, none⟩), .int .i64 (Xic n)] h).Wp sg fun v h' => v = .int .i64 (Xic 0) /\ h' = h := by
 refine H.run (k := KW) rfl rfl rfl ?_
 dsimp only [KW]
 have g := f.d
 refine R ?_
 refine X8 (Xi rfl (disk_none_ok H _ _ _ _ _ f.d rfl)) ?_
 refine R2 ?_
 refine Xh (l_geqN rfl rfl rfl) ?_
 refine R ?_
 exact ⟨rfl, _, Xb (Xv rfl) Xd, rfl, rfl⟩
set_option maxHeartbeats 1000000 in
theorem Xhk (m : Nat) (hm : 10000 <= m) (h : Heap) (db mb many n : Nat) (f : FreshD h db mb many) (hn : n < many) : (enter E (ctx E (m + 2)) Xfb [.pointer (some ⟨db, 0, none⟩), .int .i64 (Xic n)] h).Wp sg fun v h' => ∃ b, v = .tuple ⟨[.slice (some ⟨b, 0, none⟩) 64 64, .int .i64 (Xic 0)]⟩ /\ h'.get b = some (.cells true (Xa zeros64)) /\ h.next <= b /\ b < h'.next /\ Ext [] h h' := by
 refine H.run (k := XaO) rfl rfl rfl ?_
 dsimp only [XaO]
 have g := f.d
 have gm := f.m
 refine R ?_
 refine X8 (Xi rfl (disk_ready_ok H _ _ _ _ _ _ f hn)) ?_
 refine R2 ?_
 refine Xh (l_lookupI0 rfl rfl gm) ?_
 refine Xu fun H3 B3 E3 L3 G3 N3 Q3 => ?_
 refine Xl rfl (by conv => lhs; whnf) rfl G3 rfl (Xij rfl) fun H4 E4 L4 G4 => ?_
 refine R ?_
 have gd4 := E4.get1 (by have := f.lt; omega) (by have := f.lt; omega) (E3.get0 f.lt.1 g)
 refine R2 ?_
 refine Yq 0 0 (fun i t x hh => (g27 t = (.int .i64 (Xic 0)) /\ g26 t = (.int .i64 (Xic 0)) /\ g7 t = (.pointer (some ⟨B3, 0, none⟩))) /\ x = ⟨[], none, none⟩ /\ hh = H4) ⟨⟨rfl, rfl, rfl⟩, rfl, rfl⟩ (by decide) (XF (by omega)) ?_
 rintro i t x hh hi ⟨⟨r27, r26, r7⟩, rfl, rfl⟩
 obtain ⟨t0, rfl⟩ : ∃ t0, t = p27 (.int .i64 (Xic 0)) (p26 (.int .i64 (Xic 0)) (p7 (.pointer (some ⟨B3, 0, none⟩)) t0)) := ⟨t, (show t = p27 (g27 t) (p26 (g26 t) (p7 (g7 t) t)) from rfl).trans (by rw [r27, r26, r7])⟩
 clear r27 r26 r7
 refine R ?_
 refine Xh (VB rfl rfl rfl (by omega) (by omega) (by omega)) ?_
 refine R ?_
 exact ⟨rfl, _, Xb (Xv rfl) (Xb (Xv rfl) Xd), B3, rfl, G4.trans (by rfl), by omega, by omega, E3.trans1 E4 (by omega)⟩
theorem bytes_Equal_ok (m : Nat) (h : Heap) (xs ys : List UInt8) (xo yo : Option Addr) (xn yn xc yc : Nat) (sx : Slc h 1 xo xn xc (Xa xs)) (sy : Slc h 1 yo yn yc (Xa ys)) : (enter E (ctx E m) f_bytes_Equal [.slice xo xn xc, .slice yo yn yc] h).Wp sg fun v h' => v = .bool (decide (xs = ys)) /\ h' = h := by
 refine H.run (k := XeR) rfl rfl rfl ?_
 dsimp only [XeR]
 refine R ?_
 refine Xh (Xgo sx rfl) ?_
 refine R ?_
 refine Xh (Xgo sy rfl) ?_
 have e : Wt (bytes (⟨⟨xs⟩⟩ : ByteArray)) (bytes (⟨⟨ys⟩⟩ : ByteArray)) = decide (xs = ys) := (Ua xs ys).trans (by rw [Bool.eq_iff_iff]; simp)
 refine Xh (l_eqS rfl rfl) ?_
 rw [e]
 refine R ?_
 exact ⟨rfl, _, Xb (Xv rfl) Xd, rfl, rfl⟩
set_option maxHeartbeats 1000000 in
theorem super_Unpack_0 (m : Nat) (h : Heap) (b : Nat) (g : h.get b = some (.cells true (Xa zeros64))) (hb : b < h.next) : (enter E (ctx E m) f_super_Unpack [.slice (some ⟨b, 0, none⟩) 64 64] h).Wp sg fun v h' => (∃ cs : List Value, cs.length = 35 /\ v = .tuple ⟨[.agg ⟨cs⟩, .bool false]⟩) /\ Ext [] h h' := by
 refine H.run (k := XdV) rfl rfl rfl ?_
 dsimp only [XdV]
 have n0 : nth (0 + 0 * 1) (Xa zeros64) = some (.int .u8 (Xic 0)) := rfl
 refine X2 ?_
 refine Xu fun H1 B1 E1 L1 G1 N1 Q1 => ?_
 refine R ?_
 have T2 := E1.get0 (by omega) g
 refine R2 ?_
 refine Xh (Yp XE) ?_
 refine Xl rfl (by conv => lhs; whnf) rfl G1 rfl (Xij rfl) fun H3 E3 L3 G3 => ?_
 refine R ?_
 exact ⟨rfl, _, Xb (Y3 (cs := YZ) rfl G3 rfl) (Xb (Xv rfl) Xd), ⟨YZ, rfl, rfl⟩, E1.trans1 E3 (by omega)⟩
theorem super_greatest_0 (m : Nat) (hm : 10000 <= m) (h : Heap) (ao : Option Addr) (ca : Nat) (sl : Slc h 1 ao 2 ca [.pointer none, .pointer none]) : (enter E (ctx E m) Xfd [.slice ao 2 ca] h).Wp sg fun v h' => v = .int .i64 (-1) /\ Ext [] h h' := by
 refine H.run (k := XaR) rfl rfl rfl ?_
 dsimp only [XaR]
 obtain ⟨a, wa, xa, rfl, ga, na, ta⟩ := sl.nonempty (by decide)
 refine R ?_
 refine Yq 2 0 (fun i t x hh => (g3 t = (.int .i64 (-1)) /\ g6 t = (.slice (some a) 2 ca) /\ g7 t = (.int .i64 (Xic 2)) /\ g8 t = (.int .i64 (Xic i))) /\ x = ⟨[], none, none⟩ /\ hh = h) ⟨⟨rfl, rfl, rfl, rfl⟩, rfl, rfl⟩ (by decide) (XF (by omega)) ?_
 rintro i t x hh hi ⟨⟨r3, r6, r7, r8⟩, rfl, rfl⟩
 obtain ⟨t0, rfl⟩ : ∃ t0, t = p3 (.int .i64 (-1)) (p6 (.slice (some a) 2 ca) (p7 (.int .i64 (Xic 2)) (p8 (.int .i64 (Xic i)) t0))) := ⟨t, (show t = p3 (g3 t) (p6 (g6 t) (p7 (g7 t) (p8 (g8 t) t))) from rfl).trans (by rw [r3, r6, r7, r8])⟩
 clear r3 r6 r7 r8
 by_cases hlt : i < 2
 ·have hn : nth (a.off + i * 1) xa = some (.pointer none) := by
   rw [Xim, Yj ta (by omega)]
   have : i = 0 \/ i = 1 := by omega
   rcases this with rfl | rfl <;> rfl
  refine R2 ?_
  refine Xk rfl rfl ?_
  refine R ?_
  exact ⟨hlt, ⟨rfl, rfl, rfl, rfl⟩, rfl, rfl⟩
 ·refine R ?_
  exact ⟨rfl, _, Xb (Xv rfl) Xd, rfl, .refl _⟩
set_option maxHeartbeats 2000000 in
theorem super_slots_0 (m : Nat) (hm : 10000 <= m) (h : Heap) (db mb many : Nat) (f : FreshD h db mb many) (h2 : 2 <= many) : (enter E (ctx E (m + 3)) f_super_slots [.pointer (some ⟨db, 0, none⟩)] h).Wp sg fun v h' => ∃ ao ca, v = .tuple ⟨[.slice ao 2 ca, .bool true, .int .i64 (Xic 0)]⟩ /\ Slc h' 1 ao 2 ca [.pointer none, .pointer none] /\ Ext [] h h' := by
 refine H.run (k := XeQ) rfl rfl rfl ?_
 dsimp only [XeQ]
 refine R ?_
 refine Xj (Xi rfl (Xhk H m hm _ db mb many 0 f (by omega))) ?_
 rintro v h1 ⟨b1, rfl, gb1, lb1, lb1', e1⟩
 have f1 := f.ext e1
 refine R ?_
 refine X8 (Xi rfl (disk_Len_ok H (m + 1) _ db many true _ f1.d rfl rfl)) ?_
 refine R ?_
 refine Yq 2 0 (fun i t x hk => ∃ oo oc, (g0 t = (.pointer (some ⟨db, 0, none⟩)) /\ g7 t = (.bool (decide (0 < i))) /\ g8 t = (.slice oo i oc) /\ g25 t = (.int .i64 (Xic i))) /\ x = ⟨[], none, none⟩ /\ Ext [] h hk /\ Own hk 1 oo i oc (List.replicate i (.pointer none)) /\ ∀ x ∈ XB oo, h.next <= x) ⟨none, 0, ⟨rfl, rfl, rfl, rfl⟩, rfl, e1, .empty _ _, fun x hx => nomatch hx⟩ (by decide) (XF (by omega)) ?_
 rintro i t x hk hi ⟨oo, oc, ⟨r0, r7, r8, r25⟩, rfl, ek, own, fr⟩
 obtain ⟨t0, rfl⟩ : ∃ t0, t = p0 (.pointer (some ⟨db, 0, none⟩)) (p7 (.bool (decide (0 < i))) (p8 (.slice oo i oc) (p25 (.int .i64 (Xic i)) t0))) := ⟨t, (show t = p0 (g0 t) (p7 (g7 t) (p8 (g8 t) (p25 (g25 t) t))) from rfl).trans (by rw [r0, r7, r8, r25])⟩
 clear r0 r7 r8 r25
 have lk := ek.next
 have fk := f.ext ek
 by_cases hlt : i < 2
 ·refine R ?_
  refine Xj (Xi rfl (Xhk H m hm _ db mb many i fk (by omega))) ?_
  rintro v h3 ⟨b3, rfl, gb3, lb3, lb3', e3⟩
  have l3 := e3.next
  have sb3 : Slc h3 1 (some ⟨b3, 0, none⟩) 64 64 (Xa zeros64) := Slc.of_get gb3 lb3' rfl
  by_cases hi0 : i = 0
  ·subst hi0
   refine R ?_
   refine wp_mkSliceE rfl rfl (by decide) (by decide) fun H4 B4 E4 L4 G4 N4 Q4 => ?_
   refine wp_yes rfl ?_
   refine Xj (Xi rfl (bytes_Equal_ok H _ _ zeros64 zeros64 _ _ _ _ _ _ (sb3.ext E4) (Slc.of_get G4 N4 rfl))) ?_
   rintro v h4 ⟨rfl, rfl⟩
   refine R ?_
   refine Xj (Xi rfl (super_Unpack_0 H _ _ b3 (E4.get0 lb3' gb3) (by omega))) ?_
   rintro v h5 ⟨⟨cs, hcs, rfl⟩, e5⟩
   have l5 := e5.next
   refine R ?_
   refine Xu fun H60 B60 E60 L60 G60 N60 Q60 => ?_
   refine Xl rfl (by conv => lhs; whnf) rfl G60 (by assumption) (Xij rfl) fun H61 E61 L61 G61 => ?_
   refine R ?_
   refine XK (Xf (by conv => lhs; whnf) rfl rfl rfl XE) fun H62 B62 E62 L62 G62 N62 Q62 => ?_
   have e6f : Ext [] hk _ := ((e3.trans0 E4).trans0 e5)
   have eU : Ext [] hk H62 := ((e6f.trans0 E60).trans1 E61 (by omega)).trans0 E62
   have lU := eU.next
   refine XX (own.ext eU) rfl rfl rfl (Slc.of_get (z := 1) G62 N62 rfl).elemsAll rfl (by omega) fun oo2 oc2 h7 o7 e7 l7 f7 => ?_
   refine R ?_
   refine ⟨hlt, oo2, oc2, ⟨rfl, rfl, rfl, rfl⟩, rfl, (ek.trans0 eU).trans e7 (fun x hx => .inr (fr x hx)), o7, fun x hx => ?_⟩
   obtain ⟨q, k2, k3⟩ := Xs hx
   rcases f7 q k2 with k4 | k4
   ·rw [<- k3]; exact fr _ k4
   ·omega
  ·have hi1 : i = 1 := by omega
   subst hi1
   refine R ?_
   refine Xj (Xi rfl (super_Unpack_0 H _ _ b3 (gb3) (by omega))) ?_
   rintro v h5 ⟨⟨cs, hcs, rfl⟩, e5⟩
   have l5 := e5.next
   refine R ?_
   refine Xu fun H60 B60 E60 L60 G60 N60 Q60 => ?_
   refine Xl rfl (by conv => lhs; whnf) rfl G60 (by assumption) (Xij rfl) fun H61 E61 L61 G61 => ?_
   refine R ?_
   refine XK (Xf (by conv => lhs; whnf) rfl rfl rfl XE) fun H62 B62 E62 L62 G62 N62 Q62 => ?_
   have e6f : Ext [] hk _ := (e3.trans0 e5)
   have eU : Ext [] hk H62 := ((e6f.trans0 E60).trans1 E61 (by omega)).trans0 E62
   have lU := eU.next
   refine XX (own.ext eU) rfl rfl rfl (Slc.of_get (z := 1) G62 N62 rfl).elemsAll rfl (by omega) fun oo2 oc2 h7 o7 e7 l7 f7 => ?_
   refine R ?_
   refine ⟨hlt, oo2, oc2, ⟨rfl, rfl, rfl, rfl⟩, rfl, (ek.trans0 eU).trans e7 (fun x hx => .inr (fr x hx)), o7, fun x hx => ?_⟩
   obtain ⟨q, k2, k3⟩ := Xs hx
   rcases f7 q k2 with k4 | k4
   ·rw [<- k3]; exact fr _ k4
   ·omega
 ·have hi2 : i = 2 := by omega
  subst hi2
  refine R ?_
  exact ⟨rfl, _, Xb (Xv rfl) (Xb (Xv rfl) (Xb (Xv rfl) Xd)), oo, oc, rfl, own.toSlc, ek⟩
set_option maxHeartbeats 2000000 in
theorem super_Load_0 (m : Nat) (hm : 10000 <= m) (h : Heap) (db mb many : Nat) (f : FreshD h db mb many) (h2 : 2 <= many) : (enter E (ctx E (m + 4)) f_super_Load [.pointer (some ⟨db, 0, none⟩)] h).Wp sg fun v h' => (∃ cs : List Value, cs.length = 35 /\ v = .tuple ⟨[.agg ⟨cs⟩, .int .i64 (Xic 0), .int .i64 (Xic 6)]⟩) /\ Ext [] h h' := by
 refine H.run (k := Xg0) rfl rfl rfl ?_
 dsimp only [Xg0]
 refine X2 ?_
 refine Xu fun H1 B1 E1 L1 G1 N1 Q1 => ?_
 refine R ?_
 refine Xj (Xi rfl (super_slots_0 H m hm _ db mb many (f.ext E1) h2)) ?_
 rintro v h2 ⟨ao, ca, rfl, sl, e2⟩
 have l2 := e2.next
 refine R ?_
 refine Xj (Xi rfl (super_greatest_0 H _ (by omega) _ ao ca sl)) ?_
 rintro v h3 ⟨rfl, e3⟩
 have l3 := e3.next
 have g3 := e3.get0 (by omega) (e2.get0 N1 G1)
 refine R ?_
 refine Xh (l_geqI rfl rfl rfl) ?_
 refine R ?_
 refine Xh (Yp XE) ?_
 refine Xl rfl (by conv => lhs; whnf) rfl g3 rfl (Xij rfl) fun H20 E20 L20 G20 => ?_
 refine R ?_
 exact ⟨rfl, _, Xb (Y3 (cs := YZ) rfl G20 rfl) (Xb (Xv rfl) (Xb (Xv rfl) Xd)), ⟨YZ, rfl, rfl⟩, ((E1.trans0 e2).trans0 e3).trans1 E20 (by omega)⟩
set_option maxHeartbeats 2000000 in
theorem store_fresh_ok (m : Nat) (h : Heap) : (enter E (ctx E m) f_store_fresh [] h).Wp sg fun v h' => ∃ gb, v = .agg ⟨[.slice none 0 0, .map (some gb)]⟩ /\ h'.get gb = some (.map (.many 32 .u8) 0 []) /\ h.next <= gb /\ gb < h'.next /\ Ext [] h h' := by
 refine H.run (k := XeP) rfl rfl rfl ?_
 dsimp only [XeP]
 refine X2 ?_
 refine Xu fun H1 B1 E1 L1 G1 N1 Q1 => ?_
 refine R ?_
 refine wp_mapE fun H2 B2 E2 L2 G2 N2 Q2 => ?_
 refine Xh (Yp (Xf (by conv => lhs; whnf) rfl rfl rfl XE)) ?_
 have T3 := E2.get0 (by omega) G1
 refine Xl rfl (by conv => lhs; whnf) rfl T3 rfl (Xij rfl) fun H4 E4 L4 G4 => ?_
 refine R ?_
 exact ⟨rfl, _, Xb (Y3 (cs := [.slice none 0 0, .map (some B2)]) rfl G4 rfl) Xd, B2, rfl, E4.get1 N2 (by omega) G2, by omega, by omega, (E1.trans0 E2).trans1 E4 (by omega)⟩
set_option maxHeartbeats 2000000 in
theorem store_Open_0 (m : Nat) (hm : 10000 <= m) (h : Heap) (db mb many : Nat) (f : FreshD h db mb many) (h2 : 4 <= many) (base : Nat) (hb : base <= db) (hb2 : base <= h.next) : (enter E (ctx E (m + 5)) f_store_Open [.pointer (some ⟨db, 0, none⟩)] h).Wp sg fun v h' => ∃ p gb lb priv, v = .tuple ⟨[.pointer (some ⟨p, 0, none⟩), .int .i64 (Xic 0)]⟩ /\ StQ h' p gb db lb many [] priv /\ (∀ x ∈ priv, base <= x) /\ Ext [] h h' := by
 refine H.run (k := XgU) rfl rfl rfl ?_
 dsimp only [XgU]
 refine R ?_
 refine Xj (Xi rfl (Xhk H (m + 2) (by omega) _ db mb many 0 f (by omega))) ?_
 rintro v h1 ⟨b1, rfl, gb1, lb1, lb1', e1⟩
 have f1 := f.ext e1
 have l1 := e1.next
 refine R ?_
 refine X8 (Xi rfl (disk_Len_ok H (m + 3) _ db many true _ f1.d rfl rfl)) ?_
 refine R ?_
 refine Xj (Xi rfl (store_fresh_ok H _ _)) ?_
 rintro v h2 ⟨gb, rfl, ggb, lgb, lgb', e2⟩
 have l2 := e2.next
 have f2 := f1.ext e2
 refine R ?_
 refine wp_mapE fun H30 B30 E30 L30 G30 N30 Q30 => ?_
 refine Xh (Yp (Xf (by conv => lhs; whnf) rfl rfl rfl (Xf (by conv => lhs; whnf) rfl rfl rfl (Xf (by conv => lhs; whnf) rfl rfl rfl XE)))) ?_
 refine XY (by conv => lhs; whnf) rfl fun H31 B31 E31 L31 G31 N31 Q31 => ?_
 refine R ?_
 have gst : H31.get B31 = some (.cells true (stCells none 0 0 gb db B30)) := G31
 refine Xj (Xi rfl (super_Load_0 H m hm _ db mb many ((f2.ext E30).ext E31) (by omega))) ?_
 rintro v h4 ⟨⟨cs, hcs, rfl⟩, e4⟩
 have l4 := e4.next
 have hc0 : cs.length = 35 := hcs
 have gst4 := e4.get0 N31 gst
 have gl4 := e4.get0 (by omega) (E31.get0 N30 G30)
 have gg4 := e4.get0 (by omega) (E31.get0 (by omega) (E30.get0 lgb' ggb))
 have f4 := ((f2.ext E30).ext E31).ext e4
 refine R ?_
 refine Xu fun H40 B40 E40 L40 G40 N40 Q40 => ?_
 refine Xl rfl (by conv => lhs; whnf) rfl G40 (by assumption) (Xij rfl) fun H41 E41 L41 G41 => ?_
 refine R ?_
 have eF : Ext [] h H41 := (((((e1.trans0 e2).trans0 E30).trans0 E31).trans0 e4).trans0 E40).trans1 E41 (by omega)
 have s1 : StQ h4 B31 gb db B30 many [] (stBlk B31 gb db B30 none []) := by
  have d1 := f4.lt.1
  have d2 := f1.lt.1
  refine ⟨none, 0, 0, [], ⟨gst4, .empty _ _, gg4, gl4, ⟨true, _, f4.d, rfl, rfl⟩, ⟨by omega, by omega, by omega, by omega⟩, ⟨by omega, by omega, by omega, by omega, by omega⟩, (fun a ha => nomatch ha), (fun y hy => nomatch hy), trivial⟩, rfl, rfl⟩
 refine ⟨rfl, _, Xb (Xv rfl) (Xb (Xv rfl) Xd), B31, gb, B30, _, rfl, s1.ext (E40.trans1 E41 (by omega)), fun x hx => ?_, eF⟩
 rcases mem_stBlk.1 hx with rfl | rfl | rfl | rfl | hx | ⟨y, hy, hx⟩
 ·omega
 ·omega
 ·exact hb
 ·omega
 ·exact nomatch hx
 ·exact nomatch hy
theorem law21_made_ok (m : Nat) (hm : 10000 <= m) (h : Heap) : (enter E (ctx E (m + 6)) XdE [] h).Wp sg fun v h' => ∃ p gb db lb priv, v = .tuple ⟨[.pointer (some ⟨db, 0, none⟩), .pointer (some ⟨p, 0, none⟩)]⟩ /\ StQ h' p gb db lb 4000 [] priv /\ (∀ x ∈ priv, h.next <= x) /\ Ext [] h h' := by
 refine H.run (k := JI) rfl rfl rfl ?_
 dsimp only [JI]
 refine R ?_
 refine Xj (Xi rfl (disk_New_ok H _ _ 4000 (by decide))) ?_
 rintro v h1 ⟨db, mb, rfl, f1, hdb, e1⟩
 have l1 := e1.next
 refine R ?_
 refine Xh rfl ?_
 refine R ?_
 refine Xj (Xi rfl (store_Open_0 H m hm _ db mb 4000 f1 (by decide) h.next hdb l1)) ?_
 rintro v h2 ⟨p, gb, lb, priv, rfl, s2, hpr, e2⟩
 refine R ?_
 exact ⟨rfl, _, Xb (Xv rfl) (Xb (Xv rfl) Xd), p, gb, db, lb, priv, rfl, s2, hpr, e1.trans0 e2⟩
end
theorem stPut_mem {L : List (List UInt8)} {b : List UInt8} (h : ∀ a ∈ L, Sha a = Sha b -> a = b) : b ∈ UB L b := by
 unfold UB
 split
 ·rename_i hm
  obtain ⟨a, ha, e⟩ := Xix.1 hm
  rw [<- h a ha e]; exact ha
 ·exact Xjm _ (Xid.2 rfl)
theorem putAll_sub : ∀ {L : List (List UInt8)} {x : List UInt8}, x ∈ Zj L bs -> x ∈ L \/ x ∈ bs := by
 induction bs with
 | nil => intro L x h; exact .inl h
 | cons b bs ih =>
  intro L x h
  rcases ih (L := UB L b) h with k | k
  ·rcases stPut_sub x k with k | rfl
   ·exact .inl k
   ·exact .inr XiK
  ·exact .inr (XiT _ k)
theorem putAll_mono : ∀ {L : List (List UInt8)} {x : List UInt8}, x ∈ L -> x ∈ Zj L bs := by
 induction bs with
 | nil => intro L x h; exact h
 | cons b bs ih => intro L x h; exact ih (stPut_mono x h)
theorem putAll_mem : ∀ {L : List (List UInt8)}, (∀ a ∈ L ++ bs, ∀ b ∈ L ++ bs, Sha a = Sha b -> a = b) -> ∀ x ∈ bs, x ∈ Zj L bs := by
 induction bs with
 | nil => intro L _ x h; exact nomatch h
 | cons b bs ih =>
  intro L noc x h
  have hb : b ∈ UB L b := stPut_mem fun a ha e => noc a (Xjf _ ha) b (Xjm _ XiK) e
  rcases Xiq.1 h with rfl | h
  ·show x ∈ Zj (UB L x) bs
   exact putAll_mono hb
  ·refine ih (L := UB L b) (fun a ha c hc e => ?_) x h
   have q : ∀ y ∈ UB L b ++ bs, y ∈ L ++ b :: bs := fun y hy => by
    rcases XiB.1 hy with k | k
    ·rcases stPut_sub y k with k | rfl
     ·exact Xjf _ k
     ·exact Xjm _ XiK
    ·exact Xjm _ (XiT _ k)
   exact noc a (q a ha) c (q c hc) e
structure Nd.Small (nd : Nd) : Prop extends nd.OK where
 t100 : ∀ s ∈ nd.texts, s.length <= 100
 tl : nd.texts = [] \/ nd.links = []
theorem Nd.Small.bytes_le {nd : Nd} (h : nd.Small) {lev : Nat} (hl : lev <= 1000) : (nd.bytes lev).length <= 820 := by
 have ct := cat_le (f := X5) (l := nd.texts) (k := 101) fun x hx => by
  have := h.t100 x hx
  unfold X5; rw [Xif, ZN (by omega)]; simp; omega
 have cl := cat_le (f := Y5) (l := nd.links) (k := 36) fun x hx => encLk_le (h.ls x hx)
 have i1 := Zv (k := lev) (by omega)
 have h1 := h.t8
 have h2 := h.l8
 have i2 := Zv (k := nd.texts.length + nd.links.length) (by omega)
 have h3 : nd.texts.length = 0 \/ nd.links.length = 0 := h.tl.imp (fun e => by rw [e]; rfl) (fun e => by rw [e]; rfl)
 unfold Nd.bytes X3
 rw [Xif, Xif, Xif]
 omega
theorem above_Small {lev : Nat} {nds : List Nd} (h : ∀ n ∈ nds, n.Small) (hs : sumM nds <= 2000) : ∀ n ∈ Zs lev nds, n.Small := by
 intro n hn
 have hok := above_OK (fun n hn => (h n hn).toOK) hs n hn
 unfold Zs at hn
 obtain ⟨c, hc, rfl⟩ := Xix.1 hn
 exact ⟨hok, (fun s hs => nomatch hs), .inl rfl⟩
theorem rows_small (f : Nat) : ∀ (lev : Nat) (nds : List Nd), (∀ n ∈ nds, n.Small) -> sumM nds <= 2000 -> lev + f <= 1000 -> ∀ b ∈ Zg (Yt f lev nds), b.length <= 820 := by
 have one : ∀ (lev : Nat) (nds : List Nd), (∀ n ∈ nds, n.Small) -> lev <= 1000 -> ∀ b ∈ nds.map (Nd.bytes lev), b.length <= 820 := by
  intro lev nds h hl b hb
  obtain ⟨n, hn, rfl⟩ := Xix.1 hb
  exact (h n hn).bytes_le hl
 induction f with
 | zero =>
  intro lev nds h hs hl b hb
  rw [show Zg (Yt 0 lev nds) = nds.map (Nd.bytes lev) by simp [Yt, Zg]] at hb
  exact one lev nds h (by omega) b hb
 | succ f ih =>
  intro lev nds h hs hl b hb
  by_cases h1 : nds.length <= 1
  ·rw [putsR_one h1] at hb; exact one lev nds h (by omega) b hb
  ·rw [putsR_more (by omega)] at hb
   rcases XiB.1 hb with hb | hb
   ·exact one lev nds h (by omega) b hb
   ·exact ih (lev + 1) (Zs lev nds) (above_Small h hs) (by rw [Xd5]; exact hs) (by omega) b hb
theorem above_half (lev : Nat) (nds : List Nd) : (Zs lev nds).length * 2 <= nds.length + 1 := by
 unfold Zs
 rw [Xir]
 have h1 := cutG_half (fun k x => eL_two (Nat.succ_pos lev) k x) [] (links lev nds)
 have h2 : (links lev nds).length = nds.length := by unfold links; rw [Xir]
 rw [h2] at h1
 simpa using h1
theorem rows_count (k : Nat) : ∀ (f lev : Nat) (nds : List Nd), nds.length <= 2 ^ k -> (Zg (Yt f lev nds)).length <= 2 * nds.length + k := by
 induction k with
 | zero =>
  intro f lev nds h
  rw [putsR_one (by simpa using h), Xir]; omega
 | succ k ih =>
  intro f lev nds h
  by_cases h1 : nds.length <= 1
  ·rw [putsR_one h1, Xir]; omega
  ·cases f with
   | zero =>
    rw [show Zg (Yt 0 lev nds) = nds.map (Nd.bytes lev) by simp [Yt, Zg], Xir]; omega
   | succ f =>
    have h2 := above_half lev nds
    rw [Nat.pow_succ] at h
    have h3 := ih f (lev + 1) (Zs lev nds) (by omega)
    rw [putsR_more (by omega), Xif, Xir]
    omega
theorem cutG_count {α : Type} (e : Nat -> α -> Bool) (l : List α) : ∀ cur : List α, (Ya e cur l).length <= l.length := by
 induction l with
 | nil => intro cur; simp [Ya]
 | cons x l ih =>
  intro cur
  rw [Ya]
  split
  ·have := ih []; simp; omega
  ·have := ih (cur ++ [x]); simp; omega
theorem leaves_count (texts : List (List UInt8)) : (leaves texts).length <= texts.length + 1 := by
 unfold leaves
 split
 ·simp
 ·rw [Xir]
  have := cutG_count eS texts []
  omega
theorem usedL_le {L : List (List UInt8)} {n : Nat} (h : ∀ b ∈ L, b.length <= 820) : ZH L <= 14 * L.length := by
 induction L with
 | nil => simp [ZH]
 | cons b L ih =>
  have h1 := h b XiK
  have h2 := ih fun x hx => h x (XiT _ hx)
  show Yi b.length + ZH L <= 14 * (L.length + 1)
  have : Yi b.length <= 14 := by unfold Yi; omega
  omega
theorem puts_small {texts : List (List UInt8)} (ht : texts.length <= 60) (hs : ∀ s ∈ texts, s.length <= 100) : (Ze texts).length <= 128 /\ (∀ b ∈ Ze texts, b.length <= 820) /\ ZH (Ze texts) <= 1792 := by
 obtain ⟨lok, lsum, lpos, l100⟩ := Xgt (texts := texts) (by omega) (fun s h => by have := hs s h; omega)
 have lc := leaves_count texts
 have hc := rows_count 6 100 0 (leaves texts) (by omega)
 have hsm : ∀ n ∈ leaves texts, n.Small := by
  intro n hn
  have h1 := lok n hn
  unfold leaves at hn
  split at hn
  ·rw [Xid.1 hn] at h1 ⊢
   exact ⟨h1, (fun s hs => nomatch hs), .inl rfl⟩
  ·obtain ⟨c, hc, rfl⟩ := Xix.1 hn
   refine ⟨h1, fun s hs' => hs s ?_, .inr rfl⟩
   rw [<- We eS texts]
   exact List.mem_flatten.2 ⟨c, hc, hs'⟩
 have hb := rows_small 100 0 (leaves texts) hsm lsum (by omega)
 have hu := usedL_le (L := Ze texts) (n := 0) hb
 have hc' : (Ze texts).length <= 128 := by unfold Ze rowsT; omega
 exact ⟨hc', hb, by omega⟩
theorem u8sOf_bytes : ∀ l : List UInt8, Xef (Xa l) = some l
 | [] => rfl
 | b :: l => by
  show (match Xef (Xa l) with
   | some l => some ((((b.toNat : Nat) : Int).toNat.toUInt8) :: l)
   | none => none) = _
  rw [u8sOf_bytes l]
  simp
theorem cmpB_lt : ∀ a b : List UInt8, decide (Go.Lib.compareBytes a b < 0) = ZI a b
 | [], [] => rfl
 | [], _ :: _ => rfl
 | _ :: _, [] => rfl
 | x :: xs, y :: ys => by
  have ih := cmpB_lt xs ys
  rw [Go.Lib.compareBytes, ltB_cons]
  by_cases h1 : x < y
  ·rw [if_pos h1, blt_iff.2 (UInt8.lt_iff_toNat_lt.1 h1)]; rfl
  ·rw [if_neg h1, show Nat.blt x.toNat y.toNat = false from eq_false_of_ne_true fun e => h1 (UInt8.lt_iff_toNat_lt.2 (blt_iff.1 e))]
   by_cases h2 : y < x
   ·have h3 := UInt8.lt_iff_toNat_lt.1 h2
    rw [if_pos h2, show Nat.beq x.toNat y.toNat = false from eq_false_of_ne_true fun e => by have := beq_iff.1 e; omega]; rfl
   ·have h3 : x.toNat = y.toNat := by
     have a1 : ¬ x.toNat < y.toNat := fun e => h1 (UInt8.lt_iff_toNat_lt.2 e)
     have a2 : ¬ y.toNat < x.toNat := fun e => h2 (UInt8.lt_iff_toNat_lt.2 e)
     omega
    rw [if_neg h2, h3, Nat.beq_refl]
    exact ih
theorem cmpSum_arr {a b : Nat} {x y : List UInt8} (hx : x.length = 32) (hy : y.length = 32) (ga : h.get a = some (.cells true (Xa x))) (gb : h.get b = some (.cells true (Xa y))) :
  XgK [.slice (some ⟨a, 0, none⟩) 32 32, .slice (some ⟨b, 0, none⟩) 32 32] h = some (.int .i64 (Go.Lib.compareBytes x y), h) := by
 have e : ∀ {a : Nat} {x : List UInt8}, x.length = 32 -> h.get a = some (.cells true (Xa x)) -> XgJ (.slice (some ⟨a, 0, none⟩) 32 32) h = some x := by
  intro a x hx g
  have l := Heap.load_of (off := 0) (n := 32) g (XG (by rw [Xc, hx]))
  show (match h.load a 0 32 with
   | some cs => Xef cs
   | none => none) = _
  rw [l]
  exact u8sOf_bytes x
 unfold XgK
 dsimp only
 rw [e hx ga, e hy gb]
section
variable {E : Env} {sg : Bool} (H : HasC E)
include H
theorem bytes_Compare_ok (m : Nat) (h : Heap) (a b : Nat) (x y : List UInt8) (hx : x.length = 32) (hy : y.length = 32) (ga : h.get a = some (.cells true (Xa x))) (gb : h.get b = some (.cells true (Xa y))) :
  (enter E (ctx E (m + 1)) Xhn [.slice (some ⟨a, 0, none⟩) 32 32, .slice (some ⟨b, 0, none⟩) 32 32] h).Wp sg fun v h' => v = .int .i64 (Go.Lib.compareBytes x y) /\ h' = h := by
 refine H.run (k := Xcr) rfl rfl rfl ?_
 dsimp only [Xcr]
 refine R ?_
 refine Xj (Xi rfl (wp_sum H.cmp (cmpSum_arr hx hy ga gb) (Q := fun v h' => v = .int .i64 (Go.Lib.compareBytes x y) /\ h' = h) ⟨rfl, rfl⟩)) ?_
 rintro v h2 ⟨rfl, rfl⟩
 refine R ?_
 exact ⟨rfl, _, Xb (Xv rfl) Xd, rfl, rfl⟩
theorem seg_Pages_1_body (m : Nat) (h : Heap) (x y : Bid) : (Vx E (ctx E (m + 2)) Wd [.agg ⟨encI x⟩, .agg ⟨encI y⟩] h).Wp sg fun v h' => v = .int .i64 (Go.Lib.compareBytes x.b y.b) /\ Ext [] h h' := by
 unfold Wd
 refine wp_fn (Xij rfl) ?_
 dsimp only
 refine X2 ?_
 refine XY (by conv => lhs; whnf) rfl fun H1 B1 E1 L1 G1 N1 Q1 => ?_
 refine XY (by conv => lhs; whnf) rfl fun H2 B2 E2 L2 G2 N2 Q2 => ?_
 refine R ?_
 refine Xk (VB rfl rfl rfl (by omega) (by omega) (by omega)) rfl ?_
 refine Xk (VB rfl rfl rfl (by omega) (by omega) (by omega)) rfl ?_
 have g1 : H2.get B1 = some (.cells true (Xa x.b)) := E2.get0 N1 G1
 have g2 : H2.get B2 = some (.cells true (Xa y.b)) := G2
 have hc := bytes_Compare_ok H (sg := true) m H2 B1 B2 x.b y.b x.len y.len g1 g2
 refine ZU (Xi rfl hc) rfl ?_
 refine R ?_
 exact ⟨rfl, _, Xb (Xv rfl) Xd, rfl, E1.trans0 E2⟩
end
theorem ids_of : ∀ {l : List (List UInt8)}, (∀ i ∈ l, i.length = 32) -> ∃ o : List Bid, o.map Bid.b = l
 | [], _ => ⟨[], rfl⟩
 | x :: l, h => by
  obtain ⟨o, ho⟩ := ids_of (l := l) fun i hi => h i (by simp [hi])
  exact ⟨⟨x, h x (by simp)⟩ :: o, by rw [XiR, ho]⟩
theorem nodup_len {α : Type} [DecidableEq α] : ∀ {l r : List α}, l.Nodup -> (∀ x ∈ l, x ∈ r) -> l.length <= r.length
 | [], _, _, _ => Xis _
 | x :: l, r, h, hs => by
  rw [XjW] at h
  have hx := hs x (by simp)
  have := nodup_len (l := l) (r := r.erase x) h.2 fun y hy => (List.mem_erase_of_ne (fun e => by rw [e] at hy; exact h.1 hy)).2 (hs y (by simp [hy]))
  rw [List.length_erase_of_mem hx] at this
  have hp := List.length_pos_of_mem hx
  rw [XiJ]
  omega
theorem nodup_of_map {α β : Type} (f : α -> β) : ∀ {l : List α}, (l.map f).Nodup -> l.Nodup
 | [], _ => .nil
 | x :: l, h => by
  rw [XiR, XjW] at h
  exact XjW.2 ⟨fun hx => h.1 (Xjh hx), nodup_of_map f h.2⟩
theorem l_entryP {t : Tm} {g : Xe} {b r ver : Nat} {sh : KSh} {es left : List (Value × Value)} {k v : Value} (hg : g t = .pointer (some ⟨b, 0, none⟩)) (hb : h.get b = some (.miter (some r) ver left (some (k, v)))) (hr : h.get r = some (.map sh ver es)) : Kl g t h = some (.tuple ⟨[k, v]⟩) := l_entry hg hb hr
def idK (x : Bid) : Value × Value := idE x.b
theorem flatI_snoc (o : List Bid) (x : Bid) : YY (o ++ [x]) = YY o ++ encI x := by unfold YY; rw [XiM, List.flatten_append]; simp
section
variable {E : Env} (H : Has E)
include H
set_option maxHeartbeats 1000000 in
theorem seg_Pages_ok (m : Nat) (hm : 100000000 <= m) (h : Heap) (p gb db lb many : Nat) (L : List (List UInt8)) (hL : L.length <= 100000) (noc : ∀ a ∈ L, ∀ b ∈ L, Sha a = Sha b -> a = b) (priv : List Nat) (s : StQ h p gb db lb many L priv) (lev : Nat) (nd : Nd) (ts is : List (List UInt8)) (tp : TreeP L lev nd ts is) (hd : ts.length <= 2000) (hi : ∀ d ∈ is, d ∈ L.map Sha) :
  (enter E (ctx E (m + 90)) f_seg_Pages [.pointer (some ⟨p, 0, none⟩), .agg ⟨Xa (Sha (nd.bytes lev))⟩] h).Wp false fun v h' => ∃ ao ca l, v = .tuple ⟨[.slice ao l.length ca, .int .i64 (Xic 0)]⟩ /\ Own h' 32 ao l.length ca (YY (Zw l)) /\ (∀ a, ao = some a -> h.next <= a.block) /\ (∀ x : Bid, x ∈ l ↔ x.b ∈ is) /\ l.Nodup /\ Ext [] h h' := by
 have hd32 := X1 (nd.bytes lev)
 refine H.run (k := k_seg_Pages) rfl rfl rfl ?_
 dsimp only [k_seg_Pages]
 have t2 : XM 32 (XS 0 (Xa (Sha (nd.bytes lev)))) = some (Xa (Sha (nd.bytes lev))) := XG (by rw [Xc, hd32])
 refine X2 ?_
 refine XY (by conv => lhs; whnf) rfl fun H1 B1 E1 L1 G1 N1 Q1 => ?_
 refine R2 ?_
 refine Xj (Xi rfl (seg_gather_ok H (m + 9) (by omega) _ p gb db lb many L (by omega) noc priv (s.ext E1) lev nd ts is tp hd)) ?_
 rintro v h3 ⟨ao, ca, tb, mb, ver, ids, rfl, o3, f3, tr3, ltb, lmb, hids, hnd, e3⟩
 have g3 := tr3.1
 have g4 := tr3.2.1
 obtain ⟨l0, rfl⟩ := ids_of tr3.2.2.2.2.2
 have hlen : l0.length <= 100000 := by
  have := nodup_len hnd fun x hx => hi x ((hids x).1 hx)
  rw [Xir, Xir] at this
  omega
 rw [XiX] at g4
 refine R2 ?_
 refine Xeg rfl g4 fun H4 B4 E4 L4 G4 N4 Q4 => ?_
 refine R ?_
 refine Ku (fun q t x hk => ∃ (o left : List Bid) (no : Option Addr) (nc : Nat) (last : Option (Value × Value)), q = left.length /\ (g8 t = (.slice no o.length nc) /\ g29 t = (.pointer (some ⟨B4, 0, none⟩))) /\ x = ⟨[], none, none⟩ /\ Ext [B4] H4 hk /\ hk.get B4 = some (.miter (some mb) ver (left.map idK) last) /\ Own hk 32 no o.length nc (YY o) /\ l0.Perm (o ++ left) /\ ∀ a, no = some a -> H4.next <= a.block) l0.length ⟨[], l0, none, 0, none, rfl, ⟨rfl, rfl⟩, rfl, (Ext.refl _).mono (fun _ hh => nomatch hh), G4, .empty _ _, .refl _, fun a e => nomatch e⟩ (XF (by omega)) ?_
 rintro q t x hk ⟨o, left, no, nc, last, rfl, ⟨r8, r29⟩, rfl, ek, gI, on, hp, fr⟩
 obtain ⟨t0, rfl⟩ : ∃ t0, t = p8 (.slice no o.length nc) (p29 (.pointer (some ⟨B4, 0, none⟩)) t0) := ⟨t, (show t = p8 (g8 t) (p29 (g29 t) t) from rfl).trans (by rw [r8, r29])⟩
 clear r8 r29
 have lk := ek.next
 have ltm := tr3.2.2.2.1
 have gm := ek.get1 (b := mb) (by omega) (by omega) (E4.get0 (by omega) g4)
 refine X2 ?_
 refine wp_nextMap rfl gI gm (fun hz => ?_) (fun i e he h5 e5 n5 g5' => ?_)
 ·have hl : left = [] := Xj3.1 hz
  subst hl
  rw [List.append_nil] at hp
  refine R ?_
  obtain ⟨h6, es, o6, e6, n6⟩ := sort_own (f := Wc) on (by have := hp.length_eq; omega)
  refine Xj (Xi rfl (wp_sum H.sorts (show Xbl Wc ZL [.slice no o.length nc, .func (.func Wc) ⟨[]⟩ ⟨[]⟩] hk = some (.tuple ⟨[]⟩, h6) from by unfold Xbl; rw [es]) (Q := fun v h' => v = .tuple ⟨[]⟩ /\ h' = h6) ⟨rfl, rfl⟩)) ?_
  rintro v h7 ⟨rfl, rfl⟩
  refine R ?_
  refine ⟨rfl, _, Xb (Xv rfl) (Xb (Xv rfl) Xd), no, nc, o, rfl, o6, fun a ha => by have := fr a ha; omega, fun x => ?_, ?_, ?_⟩
  ·rw [<- hids, <- hp.mem_iff]
   exact ⟨fun hh => Xjh hh, fun hh => by
    obtain ⟨y, hy, e⟩ := Xix.1 hh
    rw [<- Bid.ext' e]; exact hy⟩
  ·exact hp.nodup (nodup_of_map _ hnd)
  ·refine (((E1.trans0 e3).trans0 E4).trans1 ek (by omega)).trans e6 fun b hb => .inr ?_
   obtain ⟨a, ha, rfl⟩ := Xs hb
   have := fr a ha
   omega
 ·rw [XiH] at he
  obtain ⟨y, hy, rfl⟩ := Xjt.1 he
  rw [XgQ] at g5'
  have ty : XM 32 (XS 0 (Xa y.b)) = some (Xa y.b) := XG (by rw [Xc, y.len])
  have gm5 := e5.get1 (b := mb) (by omega) (by omega) gm
  refine R ?_
  refine Xh (l_entryP (k := .agg ⟨Xa y.b⟩) (v := .agg ⟨[]⟩) rfl g5' gm5) ?_
  have hel : (Xa y.b).length = 32 := by rw [Xc, y.len]
  have hput : X0 (Xa y.b) 0 Xo = Xa y.b := by
   have := X9 (k := 0) (a := []) (b := Xo) (ys := Xa y.b) (c := []) rfl hel
   simpa using this
  refine R ?_
  refine Xu fun H50 B50 E50 L50 G50 N50 Q50 => ?_
  refine Xl rfl (by conv => lhs; whnf) rfl G50 (by assumption) (Xij rfl) fun H51 E51 L51 G51 => ?_
  refine R ?_
  rw [hput] at G51
  refine R2 ?_
  refine XK (Xf (by conv => lhs; whnf) rfl (by first | rfl | assumption) (by first | rfl | assumption) XE) fun H60 B60 E60 L60 G60 N60 Q60 => ?_
  rw [hput] at G60
  have hle := hp.length_eq
  rw [Xif] at hle
  have n50 := E50.next
  have n60 := E60.next
  have e56 : Ext [] h5 H60 := (E50.trans1 E51 (by omega)).trans0 E60
  have gI6 := e56.get0 (by omega) g5'
  refine XX ((on.extS e5 fun a ha hm => by have := fr a ha; have := Xid.1 hm; omega).ext e56) rfl rfl rfl (Slc.of_get (z := 32) (n := 1) G60 N60 hel).elemsAll hel (by omega) fun no2 nc2 h7 o7 e7 l7 f7 => ?_
  have hbk : ∀ b ∈ XB no, H4.next <= b := fun b hb => by
   obtain ⟨a, ha, rfl⟩ := Xs hb
   exact fr a ha
  refine R ?_
  have hpm := XeL hy
  have hln : (o ++ [y]).length = o.length + 1 := by rw [Xif]; rfl
  have hll := hpm.length_eq
  rw [XiJ] at hll
  refine ⟨(ZZ left i).length, by omega, o ++ [y], ZZ left i, no2, nc2, some (idK y), rfl, by rw [hln]; exact ⟨rfl, rfl⟩, rfl, ?_, e7.getS (by omega) (fun hm => by have := hbk _ hm; omega) gI6, ?_, ?_, fun a ha => ?_⟩
  ·refine ((ek.trans e5 fun b hb => .inl hb).trans0 e56).trans e7 fun b hb => .inr (hbk b hb)
  ·rw [hln, flatI_snoc]; exact o7
  ·rw [XiC]
   exact hp.trans (hpm.append_left o)
  ·rcases f7 a ha with h1 | h1
   ·exact hbk _ h1
   ·omega
theorem seg_Pages_T (m : Nat) (hm : 100000000 <= m) (h : Heap) (p gb db lb many : Nat) (L : List (List UInt8)) (hL : L.length <= 100000) (noc : ∀ a ∈ L, ∀ b ∈ L, Sha a = Sha b -> a = b) (priv : List Nat) (s : StQ h p gb db lb many L priv) (texts : List (List UInt8)) (ht : texts.length <= 100) (hs : ∀ s ∈ texts, s.length <= 8000) (hin : ∀ b ∈ Ze texts, b ∈ L) :
  (enter E (ctx E (m + 90)) f_seg_Pages [.pointer (some ⟨p, 0, none⟩), .agg ⟨Xa (VO texts)⟩] h).Wp false fun v h' => ∃ ao ca l, v = .tuple ⟨[.slice ao l.length ca, .int .i64 (Xic 0)]⟩ /\ Own h' 32 ao l.length ca (YY (Zw l)) /\ (∀ a, ao = some a -> h.next <= a.block) /\ (∀ x : Bid, x ∈ l ↔ ∃ b ∈ Ze texts, x.b = Sha b) /\ l.Nodup /\ (∃ b ∈ Ze texts, VO texts = Sha b) /\ Ext [] h h' := by
 obtain ⟨lev, nd, is, e1, e2, e3⟩ := tree_of_texts L texts ht hs hin
 have hr : ∃ b ∈ Ze texts, VO texts = Sha b := by
  obtain ⟨_, _, _, _, _, _, e, _⟩ := e2.gen
  rw [e1]
  exact (e3 _).1 (by rw [e]; exact XiK)
 rw [e1]
 rw [e1] at hr
 refine (seg_Pages_ok H m hm h p gb db lb many L hL noc priv s lev nd texts is e2 (by omega) (fun d hd => ?_)).mono ?_
 ·obtain ⟨b, hb, rfl⟩ := (e3 d).1 hd
  exact Xjh (hin b hb)
 ·rintro v h' ⟨ao, ca, l, rfl, o, f, hm, hn, e⟩
  exact ⟨ao, ca, l, rfl, o, f, fun x => (hm x).trans (e3 _), hn, hr, e⟩
end
instance : DecidableEq Bid := fun a b => decidable_of_iff (a.b = b.b) ⟨Bid.ext', fun h => by rw [h]⟩
def kvE (e : Bid × Value) : Value × Value := (.agg ⟨Xa e.1.b⟩, e.2)
def insKV : List (Bid × Value) -> Bid -> Value -> List (Bid × Value)
 | [], d, v => [(d, v)]
 | e :: es, d, v => if d.b = e.1.b then (d, v) :: es else e :: insKV es d v
theorem insKV_keys (d : Bid) (v : Value) : ∀ es : List (Bid × Value), (insKV es d v).map (·.1) = if d ∈ es.map (·.1) then es.map (·.1) else es.map (·.1) ++ [d]
 | [] => rfl
 | e :: es => by
  have ih := insKV_keys d v es
  unfold insKV
  by_cases h : d.b = e.1.b
  ·have h' : d = e.1 := Bid.ext' h
   rw [if_pos h, if_pos (by rw [XiR, <- h']; exact XiK), XiR, XiR, h']
  ·have h' : d ≠ e.1 := fun k => h (by rw [k])
   rw [if_neg h, XiR, XiR, ih]
   by_cases hm : d ∈ es.map (·.1)
   ·rw [if_pos hm, if_pos (XiT _ hm)]
   ·rw [if_neg hm, if_neg (fun k => (Xiq.1 k).elim h' hm)]; rfl
theorem setEntry_kv (d : Bid) (v : Value) : ∀ es : List (Bid × Value), VM (.agg ⟨Xa d.b⟩) v (Vs (.many 32 .u8)) (es.map kvE) = some ((insKV es d v).map kvE)
 | [] => rfl
 | e :: es => by
  have ih := setEntry_kv d v es
  have hk : Vs (.many 32 .u8) (Value.agg ⟨Xa d.b⟩) (Value.agg ⟨Xa e.1.b⟩) = some (decide (d.b = e.1.b)) := many_bytes d.b e.1.b (by rw [d.len, e.1.len])
  show (match Vs (.many 32 .u8) (Value.agg ⟨Xa d.b⟩) (Value.agg ⟨Xa e.1.b⟩) with
   | some true => some ((Value.agg ⟨Xa d.b⟩, v) :: es.map kvE)
   | some false => match VM (Value.agg ⟨Xa d.b⟩) v (Vs (.many 32 .u8)) (es.map kvE) with
    | some r => some (kvE e :: r)
    | none => none
   | none => none) = _
  rw [hk]
  unfold insKV
  by_cases h : d.b = e.1.b
  ·rw [decide_eq_true h, if_pos h]; rfl
  ·rw [decide_eq_false h, if_neg h, ih]; rfl
theorem tn_mapKV {m k x : Xe} {t : Tm} {d : Bid} {v : Value} {ver mb : Nat} {es : List (Bid × Value)} (hm : m t = .map (some mb)) (hk : k t = .agg ⟨Xa d.b⟩) (hx : x t = v) (gm : h.get mb = some (.map (.many 32 .u8) ver (es.map kvE))) :
  Y1 (.many 32 .u8) m k x t h = some (undef, h.put mb (some (.map (.many 32 .u8) (XiF ver) ((insKV es d v).map kvE)))) := by
 unfold Y1
 rw [hm, hk, hx]
 have a : Wi (.many 32 .u8) (.agg ⟨Xa d.b⟩) = true := by have := Xa9 d.b; rw [d.len] at this; exact this
 rw [a]
 show (match h.get mb with
  | some (.map sh' ver es) => bif !(Xcl (.many 32 .u8) sh') then none else match VM (.agg ⟨Xa d.b⟩) v (Vs (.many 32 .u8)) es with
   | some es' => some (undef, h.put mb (some (.map sh' (XiF ver) es')))
   | none => none
  | _ => none) = _
 rw [gm]
 show (match VM (.agg ⟨Xa d.b⟩) v (Vs (.many 32 .u8)) (es.map kvE) with
   | some es' => some (undef, h.put mb (some (.map (.many 32 .u8) (XiF ver) es')))
   | none => none) = _
 rw [setEntry_kv]
def bidS (b : List UInt8) : Bid := ⟨Sha b, X1 b⟩
section
variable {E : Env} {sg : Bool} (H : Has E)
include H
attribute [local irreducible] Sha
set_option maxHeartbeats 1000000 in
theorem store_all_ok (m : Nat) (hm : 100000000 <= m) (h : Heap) (p gb db lb many : Nat) (L : List (List UInt8)) (hL : L.length <= 1000000) (priv : List Nat) (s : StQ h p gb db lb many L priv) :
  (enter E (ctx E (m + 10)) Xek [.pointer (some ⟨p, 0, none⟩)] h).Wp sg fun v h' => ∃ (mb ver : Nat) (es : List (Bid × Value)), v = .map (some mb) /\ h'.get mb = some (.map (.many 32 .u8) ver (es.map kvE)) /\ h.next <= mb /\ mb < h'.next /\ (es.map (·.1)).Nodup /\ (∀ x : Bid, x ∈ es.map (·.1) ↔ x ∈ L.map bidS) /\ Ext [] h h' := by
 obtain ⟨po, pc, gv, l, s, rfl, rfl⟩ := s
 rw [Xir] at hL
 have gp := s.get
 have gl := s.laid
 obtain ⟨lt1, lt2, lt3, lt4⟩ := s.lt
 refine H.run (k := KR) rfl rfl rfl ?_
 dsimp only [KR]
 refine R ?_
 refine wp_mapE fun H1 B1 E1 L1 G1 N1 Q1 => ?_
 refine R ?_
 have T2 := E1.get0 (by omega) gp
 refine R2 ?_
 refine Xeg rfl (E1.get0 lt4 gl) fun H4 B4 E4 L4 G4 N4 Q4 => ?_
 have e4 := E1.trans0 E4
 have gl4 := e4.get0 lt4 gl
 have gp4 := e4.get0 lt1 gp
 refine R ?_
 refine Ku (fun q t x hk => (g13 t = (.pointer (some ⟨B4, 0, none⟩)) /\ g3 t = (.map (some B1)) /\ g0 t = (.pointer (some ⟨p, 0, none⟩))) /\ x = ⟨[], none, none⟩ /\ hk = H4) 1 ⟨⟨rfl, rfl, rfl⟩, rfl, rfl⟩ (XF (by omega)) ?_
 rintro q t x hk ⟨⟨r13, r3, r0⟩, rfl, rfl⟩
 obtain ⟨t0, rfl⟩ : ∃ t0, t = p13 (.pointer (some ⟨B4, 0, none⟩)) (p3 (.map (some B1)) (p0 (.pointer (some ⟨p, 0, none⟩)) t0)) := ⟨t, (show t = p13 (g13 t) (p3 (g3 t) (p0 (g0 t) t)) from rfl).trans (by rw [r13, r3, r0])⟩
 clear r13 r3 r0
 refine X2 ?_
 refine wp_nextMap0 rfl G4 gl4 ?_
 refine R2 ?_
 refine Yq l.length 0 (fun i t x hq => ∃ (ver : Nat) (es : List (Bid × Value)), (g34 t = (.int .i64 (Xic i)) /\ g33 t = (.int .i64 (Xic l.length)) /\ g32 t = (.slice po l.length pc) /\ g3 t = (.map (some B1))) /\ x = ⟨[], none, none⟩ /\ Ext [] h hq /\ B1 < hq.next /\ hq.get B1 = some (.map (.many 32 .u8) ver (es.map kvE)) /\ (es.map (·.1)).Nodup /\ ∀ x : Bid, x ∈ es.map (·.1) ↔ x ∈ (l.take i).map fun y => bidS y.bs)
  ⟨0, [], ⟨rfl, rfl, rfl, rfl⟩, rfl, e4, by omega, E4.get0 (by omega) G1, .nil, fun x => Iff.rfl⟩ (Xis _) (XF (by omega)) ?_
 rintro i t x hq hi ⟨ver, es, ⟨r34, r33, r32, r3⟩, rfl, eq, nB, gB, nd, mem⟩
 obtain ⟨t0, rfl⟩ : ∃ t0, t = p34 (.int .i64 (Xic i)) (p33 (.int .i64 (Xic l.length)) (p32 (.slice po l.length pc) (p3 (.map (some B1)) t0))) := ⟨t, (show t = p34 (g34 t) (p33 (g33 t) (p32 (g32 t) (p3 (g3 t) t))) from rfl).trans (by rw [r34, r33, r32, r3])⟩
 clear r34 r33 r32 r3
 have lq := eq.next
 by_cases hlt : i < l.length
 ·obtain ⟨y, hy⟩ : ∃ y, l[i]? = some y := ⟨_, Xin hlt⟩
  obtain ⟨a, w', xs, hpo, ga, na, ta⟩ := (s.put.toSlc.ext eq).nonempty (by omega)
  have te : XM 35 (XS (a.off + i * 35) xs) = some y.cells := by
   rw [take_take ta (by omega), ygFlat_at hy]
  have hyl := y.cells_length
  rw [hpo]
  have hput : X0 y.cells 0 XaN = y.cells := by
   have := X9 (k := 0) (a := []) (b := XaN) (ys := y.cells) (c := []) rfl hyl
   simpa using this
  have t32 : XM 32 (XS 2 y.cells) = some (Xa (Sha y.bs)) := by
   show XM 32 (Xa (Sha y.bs) ++ [.slice y.ao y.bs.length y.ca]) = _
   exact XaG (k := 0) (a := []) rfl (by rw [Xc, X1])
  have t2 : XM 2 (XS 0 y.cells) = some [.int .i64 (Xic y.at'), .int .i64 (Xic y.bs.length)] := rfl
  refine R2 ?_
  refine Xu fun H20 B20 E20 L20 G20 N20 Q20 => ?_
  refine Xl rfl (by conv => lhs; whnf) rfl G20 (by assumption) (Xij rfl) fun H21 E21 L21 G21 => ?_
  refine R ?_
  rw [hput] at G21
  refine R2 ?_
  have n20 := E20.next
  have e6 : Ext [] hq H21 := E20.trans1 E21 (by omega)
  have gB6 := e6.get0 nB gB
  obtain ⟨pv, hpv⟩ : ∃ pv, pv = Value.agg ⟨[.int .i64 (Xic y.at'), .int .i64 (Xic y.bs.length)]⟩ := ⟨_, rfl⟩
  refine wp_turnDo (tn_mapKV (d := bidS y.bs) (v := pv) (ver := ver) (es := es) rfl rfl hpv.symm gB6) ?_
  have eP := Ext.put H21 B1 (some (.map (.many 32 .u8) (XiF ver) ((insKV es (bidS y.bs) pv).map kvE)))
  have gP := Heap.get_put_eq H21 B1 (some (.map (.many 32 .u8) (XiF ver) ((insKV es (bidS y.bs) pv).map kvE)))
  have nP : (H21.put B1 (some (.map (.many 32 .u8) (XiF ver) ((insKV es (bidS y.bs) pv).map kvE)))).next = H21.next := rfl
  generalize H21.put B1 (some (.map (.many 32 .u8) (XiF ver) ((insKV es (bidS y.bs) pv).map kvE))) = h7 at eP gP nP ⊢
  refine R ?_
  have hk := insKV_keys (bidS y.bs) pv es
  refine ⟨hlt, XiF ver, _, by rw [<- hpo]; exact ⟨rfl, rfl, rfl, rfl⟩, rfl, (eq.trans0 e6).trans1 eP (by omega), by omega, gP, ?_, fun x => ?_⟩
  ·rw [hk]
   split
   ·exact nd
   ·rename_i hm
    exact List.nodup_append.2 ⟨nd, XjW.2 ⟨by simp, .nil⟩, fun a ha b hb => by rw [Xid.1 hb]; exact fun e => hm (e ▸ ha)⟩
  ·rw [hk, XiI, hy, XiM, XiB, <- mem]
   split
   ·rename_i hm
    refine ⟨.inl, fun hh => hh.elim id fun h1 => ?_⟩
    rw [Xid.1 h1]; exact hm
   ·rw [XiB]; exact Iff.rfl
 ·have hil : i = l.length := by omega
  rw [hil, List.take_length] at mem
  refine R ?_
  refine ⟨rfl, _, Xb (Xv rfl) Xd, B1, ver, es, rfl, gB, by omega, nB, nd, fun x => ?_, eq⟩
  rw [mem, XiX]
  exact Iff.rfl
end
def ka_seq : KB := Y6 (Yc (Xda Xo)) p5 (oDo (Yc (Km 32 g5 g7)) oEnd)
def kb_seq : KB := kBlock 1 (Y6 (Vu (Xa3 g2)) p8 (Y6 (Vu (Xc9 32 g5)) p9 (Y6 (Yc (Xq Xo [(0, 32, g9)] 1)) p10 (Y6 (Yc (XD 32 g8 g10)) p11 (oDo (Yc (Km 1 g2 g11)) oEnd)))))
theorem den_sa : Eng.den Xg6 = ka_seq := rfl
theorem den_sb : Eng.den Xg7 = kb_seq := rfl
def lpS (t : Tm) : ALoop := ⟨.ready, none, t, [7], Xg6, Xg7⟩
theorem setS (t : Tm) (a : Value) : setAll (lpS t).params [a] (lpS t).tmps = some (p7 a t) := rfl
structure YldI (E : Env) (sg : Bool) (fv : Value) (I : List Bid -> List Nat -> Heap -> Prop) : Prop where
 call : ∀ n, 100 <= n -> ∀ (done : List Bid) (s : Bid) S h, done.length <= 1000000 -> I done S h -> ((ctx E n).call fv [.agg ⟨Xa s.b⟩] h).Wp sg fun v h' => v = .bool true /\ ∃ S', I (done ++ [s]) S' h' /\ Ext S h h' /\ ∀ b ∈ S', b ∈ S \/ h.next <= b
 ext : ∀ {done S T h h'}, I done S h -> Ext T h h' -> (∀ b ∈ S, b ∉ T) -> I done S h'
 lt : ∀ {done S h}, I done S h -> ∀ b ∈ S, b < h.next
def AI (l B : Nat) (t0 : Tm) (done : List Bid) (S : List Nat) (h : Heap) : Prop := ∃ to tc, S = l :: B :: XB to /\ h.get l = some (.loop (lpS t0)) /\ h.get B = some (.cells true [.slice to done.length tc]) /\ Own h 32 to done.length tc (YY done) /\ l < h.next /\ B < h.next /\ l ≠ B /\ ∀ a, to = some a -> a.block ≠ l /\ a.block ≠ B
section
variable {E : Env} {sg : Bool}
set_option maxHeartbeats 1000000 in
theorem seq_yld (l B : Nat) (t0 : Tm) (h7 : g2 t0 = .pointer (some ⟨B, 0, none⟩)) : YldI E sg (.func (.yield l) ⟨[]⟩ ⟨[]⟩) (AI l B t0) where
 lt := by
  rintro done S h ⟨to, tc, rfl, _, _, o, hl, hB, _⟩ b hb
  rcases Xiq.1 hb with rfl | hb
  ·exact hl
  rcases Xiq.1 hb with rfl | hb
  ·exact hB
  obtain ⟨a, h1, rfl⟩ := Xs hb
  exact o.toSlc.lt a h1
 ext := by
  rintro done S T h h' ⟨to, tc, rfl, gl, gB, o, hl, hB, ne, f⟩ e q
  have := e.next
  exact ⟨to, tc, rfl, e.getS hl (q _ (by simp)) gl, e.getS hB (q _ (by simp)) gB, o.extS e fun a ha => q _ (by simp [Wh ha]), by omega, by omega, ne, f⟩
 call := by
  rintro n hn done s S h hd ⟨to, tc, rfl, gl, gB, o, hl, hB, ne, f⟩
  obtain ⟨n, rfl⟩ : ∃ k, n = k + 1 := ⟨n - 1, by omega⟩
  refine wp_yield (cap := []) gl (setS _ _) ?_
  rw [show (lpS t0).assign = Xg6 from rfl, show (lpS t0).body = Xg7 from rfl, den_sa, den_sb]
  unfold ka_seq kb_seq
  obtain ⟨t1, rfl⟩ : ∃ t1, t0 = p2 (.pointer (some ⟨B, 0, none⟩)) t1 := ⟨t0, (show t0 = p2 (g2 t0) t0 from rfl).trans (by rw [h7])⟩
  have hel : (Xa s.b).length = 32 := by rw [Xc, s.len]
  have hput : X0 (Xa s.b) 0 Xo = Xa s.b := by
   have := X9 (k := 0) (a := []) (b := Xo) (ys := Xa s.b) (c := []) rfl hel
   simpa using this
  have t32 : XM 32 (XS 0 (Xa s.b)) = some (Xa s.b) := XG hel
  refine Xu fun H1 B1 E1 L1 G1 N1 Q1 => ?_
  refine Xl rfl (by conv => lhs; whnf) rfl G1 (by assumption) (Xij rfl) fun H2 E2 L2 G2 => ?_
  refine Xdy ?_
  rw [hput] at G2
  have e2 : Ext [] h H2 := E1.trans1 E2 (by omega)
  have gl0 := e2.get0 hl gl
  have gB0 := e2.get0 hB gB
  have oo := o.ext e2
  refine ⟨_, gl0, rfl, ?_⟩
  generalize hu : p2 (.pointer (some ⟨B, 0, none⟩)) t1 = u at *
  have eP : Ext [l] H2 (H2.put l (some (.loop ((lpS u).with .busy (lpS u).pending)))) := .put _ _ _
  have gl2 : (H2.put l (some (.loop ((lpS u).with .busy (lpS u).pending)))).get l = _ := Heap.get_put_eq _ _ _
  have nP : (H2.put l (some (.loop ((lpS u).with .busy (lpS u).pending)))).next = H2.next := rfl
  generalize H2.put l (some (.loop ((lpS u).with .busy (lpS u).pending))) = h1 at eP gl2 nP ⊢
  subst hu
  have gB1 := eP.get1 (by omega) (fun e => ne e.symm) gB0
  have g51 := eP.get1 (by omega) (by omega) G2
  have o1 := oo.extS eP fun a ha hm => (f a ha).1 (Xid.1 hm)
  refine R2 ?_
  refine XK (Xf (by conv => lhs; whnf) rfl (by first | rfl | assumption) (by first | rfl | assumption) XE) fun H10 B10 E10 L10 G10 N10 Q10 => ?_
  rw [hput] at G10
  refine XX (o1.ext E10) rfl rfl rfl (Slc.of_get (z := 32) (n := 1) G10 N10 hel).elemsAll hel (by omega) fun to2 tc2 h3 o3 e3 l3 f3 => ?_
  have hto : ∀ b ∈ XB to, b ≠ l /\ b ≠ B := fun b hb => by
   obtain ⟨a, h1, rfl⟩ := Xs hb
   exact f a h1
  have gl3 := e3.getS (b := l) (by omega) (fun hm => (hto _ hm).1 rfl) (E10.get0 (by omega) gl2)
  have gB3 := e3.getS (b := B) (by omega) (fun hm => (hto _ hm).2 rfl) (E10.get0 (by omega) gB1)
  refine Xl rfl (by conv => lhs; whnf) rfl gB3 rfl (Xij rfl) fun H20 E20 L20 G20 => ?_
  refine Xdy ?_
  have n10 := E10.next
  have n20 := E20.next
  have n2 := e2.next
  have gl4 := E20.get1 (b := l) (by omega) ne gl3
  refine ⟨_, gl4, ?_⟩
  have eQ := Ext.put H20 l (some (.loop (((lpS (p2 (.pointer (some ⟨B, 0, none⟩)) t1)).with .busy (lpS (p2 (.pointer (some ⟨B, 0, none⟩)) t1)).pending).with .ready none)))
  have gQ := Heap.get_put_eq H20 l (some (.loop (((lpS (p2 (.pointer (some ⟨B, 0, none⟩)) t1)).with .busy (lpS (p2 (.pointer (some ⟨B, 0, none⟩)) t1)).pending).with .ready none)))
  have nQ : (H20.put l (some (.loop (((lpS (p2 (.pointer (some ⟨B, 0, none⟩)) t1)).with .busy (lpS (p2 (.pointer (some ⟨B, 0, none⟩)) t1)).pending).with .ready none)))).next = H20.next := rfl
  generalize H20.put l (some (.loop (((lpS (p2 (.pointer (some ⟨B, 0, none⟩)) t1)).with .busy (lpS (p2 (.pointer (some ⟨B, 0, none⟩)) t1)).pending).with .ready none))) = h5 at eQ gQ nQ ⊢
  have hf2 : ∀ a, to2 = some a -> a.block ≠ l /\ a.block ≠ B := fun a ha => (f3 a ha).elim (hto _) fun hh => by omega
  have hln : (done ++ [s]).length = done.length + 1 := by rw [Xif]; rfl
  refine ⟨rfl, l :: B :: XB to2, ⟨to2, tc2, rfl, gQ, ?_, ?_, by omega, by omega, ne, hf2⟩, ?_, fun b hb => ?_⟩
  ·rw [hln]; exact eQ.get1 (by omega) (fun e => ne e.symm) G20
  ·rw [hln, flatI_snoc]
   exact (o3.extS E20 fun a ha hm => (hf2 a ha).2 (Xid.1 hm)).extS eQ fun a ha hm => (hf2 a ha).1 (Xid.1 hm)
  ·have x1 : Ext (l :: B :: XB to) h h1 := (e2.mono fun s hs => nomatch hs).trans eP fun s hs => .inl (by rw [Xid.1 hs]; simp)
   have x2 := x1.trans0 E10
   have x3 := x2.trans e3 fun s hs => .inl (by simp [hs])
   have x4 := x3.trans E20 fun s hs => .inl (by rw [Xid.1 hs]; simp)
   exact x4.trans eQ fun s hs => .inl (by rw [Xid.1 hs]; simp)
  ·rcases Xiq.1 hb with rfl | hb
   ·exact .inl (by simp)
   rcases Xiq.1 hb with rfl | hb
   ·exact .inl (by simp)
   obtain ⟨a, h1, rfl⟩ := Xs hb
   exact (f3 a h1).elim (fun hh => .inl (by simp [hh])) fun hh => .inr (by omega)
end
section
variable {E : Env} (H : Has E)
include H
set_option maxHeartbeats 1000000 in
theorem keys_1_ok (fv : Value) (I : List Bid -> List Nat -> Heap -> Prop) (Y : YldI E false fv I) (m : Nat) (hm : 100000000 <= m) (h : Heap) (b1 mb ver : Nat) (es : List (Bid × Value)) (hes : es.length <= 100000) (g1 : h.get b1 = some (.cells true [.map (some mb)])) (gm : h.get mb = some (.map (.many 32 .u8) ver (es.map kvE))) (l1 : b1 < h.next) (l2 : mb < h.next) (S : List Nat) (hI : I [] S h) (h2 : mb ∉ S) :
  (enter E (ctx E m) Xz [fv, .pointer (some ⟨b1, 0, none⟩)] h).Wp false fun v h' => ∃ o S', (es.map (·.1)).Perm o /\ I o S' h' /\ Ext S h h' /\ ∀ b ∈ S', b ∈ S \/ h.next <= b := by
 have hSl := Y.lt hI
 refine H.run (k := X6) rfl rfl rfl ?_
 dsimp only [X6]
 refine R2 ?_
 refine Xeg rfl gm fun H4 B4 E4 L4 G4 N4 Q4 => ?_
 refine R ?_
 refine Ku (fun q t x hk => ∃ (o : List Bid) (left : List (Bid × Value)) (S' : List Nat) (last : Option (Value × Value)), q = left.length /\ (g0 t = fv /\ g5 t = (.pointer (some ⟨B4, 0, none⟩))) /\ x = ⟨[], none, none⟩ /\ Ext (B4 :: S) H4 hk /\ hk.get B4 = some (.miter (some mb) ver (left.map kvE) last) /\ I o S' hk /\ (es.map (·.1)).Perm (o ++ left.map (·.1)) /\ ∀ b ∈ S', b ∈ S \/ H4.next <= b) es.length
  ⟨[], es, S, none, rfl, ⟨rfl, rfl⟩, rfl, (Ext.refl _).mono (fun _ hh => nomatch hh), G4, Y.ext hI E4 (fun _ _ hh => nomatch hh), .refl _, fun b hb => .inl hb⟩ (XF (by omega)) ?_
 rintro q t x hk ⟨o, left, S', last, rfl, ⟨r0, r5⟩, rfl, ek, gI, hI', hp, fr⟩
 obtain ⟨t0, rfl⟩ : ∃ t0, t = p0 fv (p5 (.pointer (some ⟨B4, 0, none⟩)) t0) := ⟨t, (show t = p0 (g0 t) (p5 (g5 t) t) from rfl).trans (by rw [r0, r5])⟩
 clear r0 r5
 have lk := ek.next
 have hle := hp.length_eq
 rw [Xif, Xir, Xir] at hle
 have hB4 : B4 ∉ S' := fun hm => by
  rcases fr _ hm with h1 | h1
  ·have := hSl _ h1; omega
  ·omega
 have hmb : mb ∉ S' := fun hm => by
  rcases fr _ hm with h1 | h1
  ·exact h2 h1
  ·omega
 have gmk := ek.getS (b := mb) (by omega) (fun hm => by
  rcases Xiq.1 hm with h1 | h1
  ·omega
  ·exact h2 h1) (E4.get0 l2 gm)
 refine X2 ?_
 refine wp_nextMap rfl gI gmk (fun hz => ?_) (fun i e he h5 e5 n5 g5' => ?_)
 ·have hl : left = [] := Xj3.1 hz
  subst hl
  rw [List.map_nil, List.append_nil] at hp
  refine R ?_
  refine ⟨rfl, _, Xd, o, S', hp, hI', ?_, fun b hb => (fr b hb).imp id fun hh => by omega⟩
  exact (E4.mono fun s hs => nomatch hs).trans ek fun s hs => by
   rcases Xiq.1 hs with rfl | hs
   ·exact .inr (by omega)
   ·exact .inl hs
 ·rw [XiH] at he
  obtain ⟨y, hy, rfl⟩ := Xjt.1 he
  rw [XgQ] at g5'
  have hel : (Xa y.1.b).length = 32 := by rw [Xc, y.1.len]
  have hput : X0 (Xa y.1.b) 0 Xo = Xa y.1.b := by
   have := X9 (k := 0) (a := []) (b := Xo) (ys := Xa y.1.b) (c := []) rfl hel
   simpa using this
  have t32 : XM 32 (XS 0 (Xa y.1.b)) = some (Xa y.1.b) := XG hel
  have gm5 := e5.get1 (b := mb) (by omega) (by omega) gmk
  have hI5 := Y.ext hI' e5 fun b hb hm => hB4 (Xid.1 hm ▸ hb)
  refine R ?_
  refine Xh (l_entryP (k := .agg ⟨Xa y.1.b⟩) (v := y.2) rfl g5' gm5) ?_
  refine R ?_
  refine Xu fun H50 B50 E50 L50 G50 N50 Q50 => ?_
  refine Xl rfl (by conv => lhs; whnf) rfl G50 (by assumption) (Xij rfl) fun H51 E51 L51 G51 => ?_
  refine R ?_
  rw [hput] at G51
  refine R2 ?_
  have n50 := E50.next
  have e56 : Ext [] h5 H51 := E50.trans1 E51 (by omega)
  have hpm := XeL hy
  have hll := hpm.length_eq
  rw [XiJ] at hll
  refine Xj (Y.call m (by omega) o y.1 S' _ (by omega) (Y.ext hI5 e56 fun _ _ hh => nomatch hh)) ?_
  rintro v h7 ⟨rfl, S7, hI7, e7, f7⟩
  have n7 := e7.next
  refine R ?_
  refine ⟨(ZZ left i).length, by omega, o ++ [y.1], ZZ left i, S7, some (kvE y), rfl, ⟨rfl, rfl⟩, rfl, ?_, e7.getS (by omega) hB4 (e56.get0 (by omega) g5'), hI7, ?_, fun b hb => ?_⟩
  ·refine ((ek.trans e5 fun b hb => .inl (by rw [Xid.1 hb]; exact XiK)).trans0 e56).trans e7 fun b hb => (fr b hb).imp (fun hh => XiT _ hh) id
  ·rw [XiC]
   exact hp.trans ((hpm.map (·.1)).append_left o)
  ·rcases f7 b hb with h1 | h1
   ·exact fr b h1
   ·exact .inr (by omega)
end
section
variable {E : Env} (H : Has E)
include H
set_option maxHeartbeats 1000000 in
theorem appendSeq_ok (m : Nat) (hm : 100000000 <= m) (h : Heap) (b1 mb ver : Nat) (es : List (Bid × Value)) (hes : es.length <= 100000) (g1 : h.get b1 = some (.cells true [.map (some mb)])) (gm : h.get mb = some (.map (.many 32 .u8) ver (es.map kvE))) (l1 : b1 < h.next) (l2 : mb < h.next) :
  (enter E (ctx E (m + 2)) WW [.slice none 0 0, .func (.func Xz) ⟨[]⟩ ⟨[.pointer (some ⟨b1, 0, none⟩)]⟩] h).Wp false fun v h' => ∃ (o : List Bid) (no : Option Addr) (nc : Nat), v = .slice no o.length nc /\ (es.map (·.1)).Perm o /\ Own h' 32 no o.length nc (YY o) /\ (∀ a, no = some a -> h.next <= a.block) /\ Ext [] h h' := by
 refine H.go (k := Zd) rfl rfl ?_
 unfold Zd
 refine wp_fnM (Xij rfl) ?_
 dsimp only
 refine X2 ?_
 refine XY (by conv => lhs; whnf) rfl fun H1 B1 E1 L1 G1 N1 Q1 => ?_
 refine R ?_
 have n1 := E1.next
 refine wp_rangeE rfl ?_
 have eM : ∀ (o : AObj), Ext [] H1 ((H1.push .mark).push o) := fun o => (Ext.push _ _).trans0 (Ext.push _ _)
 have gM : ∀ (o : AObj), ((H1.push .mark).push o).get H1.next = some .mark := fun o => (Ext.push (H1.push .mark) o).get0 (XiA _) (Heap.get_new H1 .mark)
 have gL : ∀ (o : AObj), ((H1.push .mark).push o).get (H1.next + 1) = some o := fun o => Heap.get_new (H1.push .mark) o
 have nM : ∀ (o : AObj), ((H1.push .mark).push o).next = H1.next + 2 := fun o => rfl
 have eM' : ∀ (o : AObj) {S : List Nat} {h' : Heap}, Ext S ((H1.push .mark).push o) h' -> Ext S H1 h' := fun o S h' e => ((eM o).mono fun _ hh => nomatch hh).trans e fun s hs => .inl hs
 have hall := fun (t0 : Tm) (h7 : g2 t0 = .pointer (some ⟨B1, 0, none⟩)) => keys_1_ok H (.func (.yield (H1.next + 1)) ⟨[]⟩ ⟨[]⟩) (AI (H1.next + 1) B1 t0) (seq_yld _ _ _ h7) (m + 1) (by omega) ((H1.push .mark).push (.loop (lpS t0))) b1 mb ver es hes ((eM _).get0 (by omega) (E1.get0 l1 g1)) ((eM _).get0 (by omega) (E1.get0 l2 gm)) (by rw [nM]; omega) (by rw [nM]; omega) [H1.next + 1, B1]
  ⟨none, 0, rfl, gL _, (eM _).get0 N1 G1, .empty _ _, by rw [nM]; omega, by rw [nM]; omega, by omega, fun a e => nomatch e⟩ (by simp; omega)
 refine (Xi rfl (hall _ rfl)).mono ?_
 rintro v h7 ⟨o, S7, hp, ⟨to, tc, rfl, gl7, gB7, o7, ll7, lB7, ne7, f7'⟩, e7, f7⟩
 refine ⟨_, gl7, (fun hh => by cases hh), rfl, fun h8 eP nP => ?_⟩
 have n7 := e7.next
 rw [nM] at n7
 have mk7 : h7.get H1.next = some .mark := e7.getS (by rw [nM]; omega) (by simp; omega) (gM _)
 have mk8 := eP.get1 (by omega) (by omega) mk7
 have gB8 := eP.get1 (b := B1) (by omega) (by omega) gB7
 have o8 := o7.extS eP fun a ha hm => (f7' a ha).1 (Xid.1 hm)
 refine R2 ?_
 have eF := Ext.put h8 H1.next none
 have nF : (h8.put H1.next none).next = h8.next := rfl
 generalize hF : h8.put H1.next none = h9 at eF nF
 have fr7 : ∀ a, to = some a -> a.block = H1.next + 1 \/ a.block = B1 \/ H1.next + 2 <= a.block := fun a ha => by
  rcases f7 a.block (by simp [Wh ha]) with h1 | h1
  ·rcases Xiq.1 h1 with h1 | h1
   ·exact .inl h1
   ·exact .inr (.inl (Xid.1 h1))
  ·exact .inr (.inr h1)
 refine .inr ⟨H1.next, rfl, mk8, _, Xb (Xv rfl) Xd, ?_⟩
 rw [hF]
 refine ⟨o, to, tc, rfl, hp, o8.extS eF fun a ha hm => ?_, fun a ha => ?_, ?_⟩
 ·have h1 := Xid.1 hm
  have h2 := fr7 a ha
  omega
 ·have h2 := fr7 a ha
  omega
 ·refine (((E1.trans (eM' _ e7) fun s hs => .inr ?_).trans1 eP (by omega)).trans1 eF (by omega))
  rcases Xiq.1 hs with rfl | hs
  ·omega
  ·have := Xid.1 hs
   omega
end
section
variable {E : Env} (H : Has E)
include H
set_option maxHeartbeats 1000000 in
theorem sortedFunc_ok (m : Nat) (hm : 100000000 <= m) (h : Heap) (b1 mb ver : Nat) (es : List (Bid × Value)) (hes : es.length <= 100000) (g1 : h.get b1 = some (.cells true [.map (some mb)])) (gm : h.get mb = some (.map (.many 32 .u8) ver (es.map kvE))) (l1 : b1 < h.next) (l2 : mb < h.next) :
  (enter E (ctx E (m + 4)) Ug [.func (.func Xz) ⟨[]⟩ ⟨[.pointer (some ⟨b1, 0, none⟩)]⟩, .func (.func ZL) ⟨[]⟩ ⟨[]⟩] h).Wp false fun v h' => ∃ (o : List Bid) (no : Option Addr) (nc : Nat), v = .slice no o.length nc /\ (es.map (·.1)).Perm o /\ Own h' 32 no o.length nc (YY (Zw o)) /\ (∀ a, no = some a -> h.next <= a.block) /\ Ext [] h h' := by
 refine H.run (k := Wn) rfl rfl rfl ?_
 dsimp only [Wn]
 have hcol : (enter E (ctx E (m + 3)) Kb [.func (.func Xz) ⟨[]⟩ ⟨[.pointer (some ⟨b1, 0, none⟩)]⟩] h).Wp false fun v h' => ∃ (o : List Bid) (no : Option Addr) (nc : Nat), v = .slice no o.length nc /\ (es.map (·.1)).Perm o /\ Own h' 32 no o.length nc (YY o) /\ (∀ a, no = some a -> h.next <= a.block) /\ Ext [] h h' := by
  refine H.go (k := Vl) rfl rfl ?_
  unfold Vl
  refine wp_fn (Xij rfl) ?_
  dsimp only
  refine R ?_
  refine Xj (Xi rfl (appendSeq_ok H m hm h b1 mb ver es hes g1 gm l1 l2)) ?_
  rintro v h2 ⟨o, no, nc, rfl, hp, ow, fr, e2⟩
  refine R ?_
  exact ⟨rfl, _, Xb (Xv rfl) Xd, o, no, nc, rfl, hp, ow, fr, e2⟩
 refine R ?_
 refine Xj (Xi rfl hcol) ?_
 rintro v h2 ⟨o, no, nc, rfl, hp, ow, fr, e2⟩
 refine R ?_
 have hle := hp.length_eq
 rw [Xir] at hle
 obtain ⟨h6, es6, o6, e6, n6⟩ := sort_own (f := ZL) ow (by omega)
 have hz : Jr Wc [.slice no o.length nc, .func (.func ZL) ⟨[]⟩ ⟨[]⟩] h2 = none := by
  unfold Jr
  dsimp only
  rw [show Nat.beq Wc ZL = false from rfl]
  rfl
 refine Xj (Xi rfl (wp_sum H.sorts (show Xbl Wc ZL [.slice no o.length nc, .func (.func ZL) ⟨[]⟩ ⟨[]⟩] h2 = some (.tuple ⟨[]⟩, h6) from by unfold Xbl; rw [hz]; exact es6) (Q := fun v h' => v = .tuple ⟨[]⟩ /\ h' = h6) ⟨rfl, rfl⟩)) ?_
 rintro v h7 ⟨rfl, rfl⟩
 refine R ?_
 refine ⟨rfl, _, Xb (Xv rfl) Xd, o, no, nc, rfl, hp, o6, fr, e2.trans e6 fun b hb => .inr ?_⟩
 obtain ⟨a, ha, rfl⟩ := Xs hb
 exact fr a ha
set_option maxHeartbeats 1000000 in
theorem store_IDs_ok (m : Nat) (hm : 100000000 <= m) (h : Heap) (p gb db lb many : Nat) (L : List (List UInt8)) (hL : L.length <= 100000) (priv : List Nat) (s : StQ h p gb db lb many L priv) :
  (enter E (ctx E (m + 20)) Xej [.pointer (some ⟨p, 0, none⟩)] h).Wp false fun v h' => ∃ (o : List Bid) (no : Option Addr) (nc : Nat), v = .slice no o.length nc /\ o.Nodup /\ (∀ x : Bid, x ∈ o ↔ x ∈ L.map bidS) /\ Own h' 32 no o.length nc (YY (Zw o)) /\ (∀ a, no = some a -> h.next <= a.block) /\ Ext [] h h' := by
 have s0 := s
 obtain ⟨po, pc, gv, l, s1, _, _⟩ := s0
 have gp := s1.get
 refine H.run (k := KE) rfl rfl rfl ?_
 dsimp only [KE]
 refine R ?_
 refine Xj (Xi rfl (Vp H _ _ p _ _ _ _ _ _ gp)) ?_
 rintro v h2 ⟨rfl, rfl⟩
 refine R ?_
 refine Xj (Xi rfl (store_all_ok H (m + 9) (by omega) _ p gb db lb many L (by omega) priv s)) ?_
 rintro v h3 ⟨mb, ver, es, rfl, gm, lm, lm', nd, mem, e3⟩
 have hkeys : (enter E (ctx E (m + 19)) YF [.map (some mb)] h3).Wp false fun v h' => ∃ b1, v = .func (.func Xz) ⟨[]⟩ ⟨[.pointer (some ⟨b1, 0, none⟩)]⟩ /\ h'.get b1 = some (.cells true [.map (some mb)]) /\ b1 < h'.next /\ Ext [] h3 h' := by
  refine H.go (k := Yd) rfl rfl ?_
  unfold Yd
  refine wp_fn (Xij rfl) ?_
  dsimp only
  refine X2 ?_
  refine XY (by conv => lhs; whnf) rfl fun H1 B1 E1 L1 G1 N1 Q1 => ?_
  refine R ?_
  refine Xh rfl ?_
  refine R ?_
  exact ⟨rfl, _, Xb (Xv rfl) Xd, B1, rfl, G1, N1, E1⟩
 refine Xj (Xi rfl hkeys) ?_
 rintro v h4 ⟨b1, rfl, g1, lb1, e4⟩
 have hle : es.length <= 100000 := by
  have := nodup_len nd fun x hx => (mem x).1 hx
  rw [Xir, Xir] at this
  omega
 refine Xj (Xi rfl (sortedFunc_ok H (m + 15) (by omega) h4 b1 mb ver es hle g1 (e4.get0 lm' gm) lb1 (by have := e4.next; omega))) ?_
 rintro v h5 ⟨o, no, nc, rfl, hp, ow, fr, e5⟩
 refine R ?_
 have l3 := e3.next
 have l4 := e4.next
 exact ⟨rfl, _, Xb (Xv rfl) Xd, o, no, nc, rfl, hp.nodup nd, fun x => by rw [<- hp.mem_iff, mem], ow, fun a ha => by have := fr a ha; omega, (e3.trans0 e4).trans0 e5⟩
end
theorem flatI_at {l : List Bid} {i : Nat} {y : Bid} (h : l[i]? = some y) : ((YY l).drop (i * 32)).take 32 = Xa y.b := by
 induction l generalizing i with
 | nil => simp at h
 | cons z l ih =>
  have hc : YY (z :: l) = encI z ++ YY l := rfl
  cases i with
  | zero =>
   cases (Xiu.inj (show some z = some y from h))
   rw [hc, Nat.zero_mul, List.drop_zero, List.take_left' (encI_length y)]; rfl
  | succ i =>
   rw [hc, show (i + 1) * 32 = 32 + i * 32 by omega, <- List.drop_drop, List.drop_left' (encI_length z)]
   exact ih (by simpa using h)
section
variable {E : Env} {sg : Bool} (H : Has E)
include H
theorem seg_Len_ok (m : Nat) (hm : 100000000 <= m) (h : Heap) (p gb db lb many : Nat) (L : List (List UInt8)) (hL : L.length <= 1000000) (noc : ∀ a ∈ L, ∀ b ∈ L, Sha a = Sha b -> a = b) (priv : List Nat) (s : StQ h p gb db lb many L priv) (texts : List (List UInt8)) (ht : texts.length <= 100) (hs : ∀ s ∈ texts, s.length <= 8000) (hin : ∀ b ∈ Ze texts, b ∈ L) :
  (enter E (ctx E (m + 91)) f_seg_Len [.pointer (some ⟨p, 0, none⟩), .agg ⟨Xa (VO texts)⟩] h).Wp sg fun v h' => v = .tuple ⟨[.int .i64 (Xic texts.length), .int .i64 (Xic 0)]⟩ /\ Ext [] h h' := by
 refine H.run (k := k_seg_Len) rfl rfl rfl ?_
 dsimp only [k_seg_Len]
 have hr := root32 texts ht hs
 have t2 : XM 32 (XS 0 (Xa (VO texts))) = some (Xa (VO texts)) := XG (by rw [Xc, hr])
 refine X2 ?_
 refine XY (by conv => lhs; whnf) rfl fun H1 B1 E1 L1 G1 N1 Q1 => ?_
 refine R2 ?_
 refine Xj (Xi rfl (seg_List_T H m hm _ p gb db lb many L hL noc priv (s.ext E1) texts ht hs hin)) ?_
 rintro v h3 ⟨ao, ca, rfl, o3, f3, e3⟩
 refine R ?_
 exact ⟨rfl, _, Xb (Xv rfl) (Xb (Xv rfl) Xd), rfl, E1.trans0 e3⟩
theorem seg_At_ok (m : Nat) (hm : 100000000 <= m) (h : Heap) (p gb db lb many : Nat) (L : List (List UInt8)) (hL : L.length <= 1000000) (noc : ∀ a ∈ L, ∀ b ∈ L, Sha a = Sha b -> a = b) (priv : List Nat) (s : StQ h p gb db lb many L priv) (texts : List (List UInt8)) (ht : texts.length <= 100) (hs : ∀ s ∈ texts, s.length <= 8000) (hin : ∀ b ∈ Ze texts, b ∈ L) (i : Nat) (u : List UInt8) (hi : texts[i]? = some u) :
  (enter E (ctx E (m + 91)) f_seg_At [.pointer (some ⟨p, 0, none⟩), .agg ⟨Xa (VO texts)⟩, .int .i64 (Xic i)] h).Wp sg fun v h' => v = .tuple ⟨[sv u, .int .i64 (Xic 0)]⟩ /\ Ext [] h h' := by
 refine H.run (k := k_seg_At) rfl rfl rfl ?_
 dsimp only [k_seg_At]
 have hr := root32 texts ht hs
 have hlt : i < texts.length := (XiP.1 hi).1
 have t2 : XM 32 (XS 0 (Xa (VO texts))) = some (Xa (VO texts)) := XG (by rw [Xc, hr])
 refine X2 ?_
 refine XY (by conv => lhs; whnf) rfl fun H1 B1 E1 L1 G1 N1 Q1 => ?_
 refine R2 ?_
 refine Xj (Xi rfl (seg_List_T H m hm _ p gb db lb many L hL noc priv (s.ext E1) texts ht hs hin)) ?_
 rintro v h3 ⟨ao, ca, rfl, o3, f3, e3⟩
 obtain ⟨a, wa, xa, hao, ga, na, ta⟩ := o3.toSlc.nonempty (by omega)
 have n1 : nth (a.off + i * 1) xa = some (sv u) := by
  rw [Xim, Yj ta (by omega), K9, XiH, hi]; rfl
 subst hao
 refine R ?_
 refine Xh (l_geqN rfl rfl rfl) ?_
 refine R2 ?_
 exact ⟨rfl, _, Xb (Xv rfl) (Xb (Xv rfl) Xd), rfl, E1.trans0 e3⟩
set_option maxHeartbeats 1000000 in
theorem HasID_ok (m : Nat) (hm : 100000000 <= m) (h : Heap) (l : List Bid) (d : Bid) (hd : d ∈ l) (ao : Option Addr) (ca : Nat) (sl : Slc h 32 ao l.length ca (YY l)) (hl : l.length <= 1000000) :
  (enter E (ctx E m) Xei [.slice ao l.length ca, .agg ⟨Xa d.b⟩] h).Wp sg fun v h' => v = .bool true /\ Ext [] h h' := by
 refine H.run (k := KC) rfl rfl rfl ?_
 dsimp only [KC]
 have td : XM 32 (XS 0 (Xa d.b)) = some (Xa d.b) := XG (by rw [Xc, d.len])
 refine X2 ?_
 refine XY (by conv => lhs; whnf) rfl fun H1 B1 E1 L1 G1 N1 Q1 => ?_
 refine R ?_
 refine Yq l.length 0 (fun i t x hk => (g0 t = (.slice ao l.length ca) /\ g3 t = (.pointer (some ⟨B1, 0, none⟩)) /\ g5 t = (.int .i64 (Xic i))) /\ x = ⟨[], none, none⟩ /\ hk = H1 /\ d ∉ l.take i) ⟨⟨rfl, rfl, rfl⟩, rfl, rfl, by simp⟩ (Xis _) (XF (by omega)) ?_
 rintro i t x hk hi ⟨⟨r0, r3, r5⟩, rfl, rfl, hn⟩
 obtain ⟨t0, rfl⟩ : ∃ t0, t = p0 (.slice ao l.length ca) (p3 (.pointer (some ⟨B1, 0, none⟩)) (p5 (.int .i64 (Xic i)) t0)) := ⟨t, (show t = p0 (g0 t) (p3 (g3 t) (p5 (g5 t) t)) from rfl).trans (by rw [r0, r3, r5])⟩
 clear r0 r3 r5
 by_cases hlt : i < l.length
 ·obtain ⟨y, hy⟩ : ∃ y, l[i]? = some y := ⟨_, Xin hlt⟩
  obtain ⟨a, wa, xa, hao, ga, na, ta⟩ := (sl.ext E1).nonempty (by omega)
  subst hao
  have te : XM 32 (XS (a.off + i * 32) xa) = some (Xa y.b) := by
   rw [take_take ta (by omega), flatI_at hy]
  have tids := UO 32 y.b d.b y.len d.len
  refine R2 ?_
  refine Xk (l_eqFlat rfl rfl tids) rfl ?_
  by_cases hyd : y.b = d.b
  ·rw [decide_eq_true hyd]
   refine R ?_
   exact ⟨rfl, _, Xb (Xv rfl) Xd, rfl, E1⟩
  ·rw [decide_eq_false hyd]
   refine R ?_
   refine ⟨hlt, ⟨rfl, rfl, rfl⟩, rfl, rfl, fun hm => ?_⟩
   rw [XiI, hy] at hm
   rcases XiB.1 hm with k | k
   ·exact hn k
   ·exact hyd (by rw [Xid.1 (show d ∈ [y] from k)])
 ·rw [XjB (by omega)] at hn
  exact absurd hd hn
set_option maxHeartbeats 1000000 in
theorem SameIDs_ok (m : Nat) (hm : 100000000 <= m) (h : Heap) (l : List Bid) (ao bo : Option Addr) (ca cb : Nat) (sl : Slc h 32 ao l.length ca (YY l)) (sb : Slc h 32 bo l.length cb (YY l)) (hl : l.length <= 1000000) :
  (enter E (ctx E m) Xcz [.slice ao l.length ca, .slice bo l.length cb] h).Wp sg fun v h' => v = .bool true /\ h' = h := by
 refine H.run (k := U3) rfl rfl rfl ?_
 dsimp only [U3]
 refine R ?_
 refine Xbk rfl (by show (!decide (l.length = l.length)) = false; rw [decide_eq_true rfl]; rfl) ?_
 refine R ?_
 refine Yq l.length 0 (fun i t x hk => (g0 t = (.slice ao l.length ca) /\ g1 t = (.slice bo l.length cb) /\ g5 t = (.int .i64 (Xic i))) /\ x = ⟨[], none, none⟩ /\ hk = h) ⟨⟨rfl, rfl, rfl⟩, rfl, rfl⟩ (Xis _) (XF (by omega)) ?_
 rintro i t x hk hi ⟨⟨r0, r1, r5⟩, rfl, rfl⟩
 obtain ⟨t0, rfl⟩ : ∃ t0, t = p0 (.slice ao l.length ca) (p1 (.slice bo l.length cb) (p5 (.int .i64 (Xic i)) t0)) := ⟨t, (show t = p0 (g0 t) (p1 (g1 t) (p5 (g5 t) t)) from rfl).trans (by rw [r0, r1, r5])⟩
 clear r0 r1 r5
 by_cases hlt : i < l.length
 ·obtain ⟨y, hy⟩ : ∃ y, l[i]? = some y := ⟨_, Xin hlt⟩
  obtain ⟨a, wa, xa, hao, ga, na, ta⟩ := sl.nonempty (by omega)
  obtain ⟨b, wb, xb, hbo, gb, nb, tb⟩ := sb.nonempty (by omega)
  subst hao
  subst hbo
  have te : XM 32 (XS (a.off + i * 32) xa) = some (Xa y.b) := by
   rw [take_take ta (by omega), flatI_at hy]
  have tf : XM 32 (XS (b.off + i * 32) xb) = some (Xa y.b) := by
   rw [take_take tb (by omega), flatI_at hy]
  have tids := UO 32 y.b y.b y.len y.len
  rw [decide_eq_true rfl] at tids
  refine R2 ?_
  refine Xk (l_neFlat rfl rfl tids) rfl ?_
  refine R ?_
  exact ⟨hlt, ⟨rfl, rfl, rfl⟩, rfl, rfl⟩
 ·refine R ?_
  exact ⟨rfl, _, Xb (Xv rfl) Xd, rfl, rfl⟩
theorem Pick_ok (m : Nat) (h : Heap) (a : Int) (n : Nat) (hn : 0 < n) (hn' : n <= 1000000) :
  (enter E (ctx E m) Xe9 [.int .i64 a, .int .i64 (Xic n)] h).Wp sg fun v h' => ∃ k, k < n /\ v = .int .i64 (Xic k) /\ h' = h := by
 refine H.run (k := XaK) rfl rfl rfl ?_
 dsimp only [XaK]
 refine R ?_
 have h1 : a.tmod n < n := Int.tmod_lt_of_pos a (by omega)
 have h2 : -(n : Int) < a.tmod n := Int.lt_tmod_of_pos a (by omega)
 refine Xh (l_remI rfl rfl (by show (n : Int) ≠ 0; omega)) ?_
 rw [show a.tmod (Xic n) = a.tmod n from rfl]
 generalize a.tmod n = z at h1 h2
 by_cases hz : z < 0
 ·refine R ?_
  refine Xh (l_lssI rfl rfl rfl) ?_
  refine R ?_
  refine Xh (YS rfl rfl rfl) ?_
  refine R ?_
  exact ⟨rfl, _, Xb (Xv rfl) Xd, (z + n).toNat, by omega, congrArg (Value.int .i64) ((wrap64 (a := z + Xic n) (by show _ <= z + (n : Int); omega) (by show z + (n : Int) <= _; omega)).trans (show z + (n : Int) = (((z + n).toNat : Nat) : Int) by omega)), rfl⟩
 ·refine R ?_
  refine Xh (l_lssI rfl rfl rfl) ?_
  refine R ?_
  exact ⟨rfl, _, Xb (Xv rfl) Xd, z.toNat, by omega, congrArg (Value.int .i64) (show z = ((z.toNat : Nat) : Int) by omega), rfl⟩
end
section
variable {E : Env} (H : Has E)
include H
attribute [local irreducible] Sha
set_option maxHeartbeats 4000000 in
theorem law21_SegBack_ok (m : Nat) (hm : 100000000 <= m) (h : Heap) (xs : List (List UInt8)) (a : Int) (xo : Option Addr) (xc : Nat) (sx : Slc h 1 xo xs.length xc (fl Wa xs)) :
  (enter E (ctx E (m + 1109)) f_retconlaw21_SegBack [.slice xo xs.length xc, .int .i64 a] h).Wp false fun v h' => v = .bool true := by
 refine H.run (k := k_retconlaw21_SegBack) rfl rfl rfl ?_
 dsimp only [k_retconlaw21_SegBack]
 refine R ?_
 refine X8 (Xi rfl (H.true rfl)) ?_
 refine R ?_
 refine Xj (Xi rfl (law21_made_ok H (m + 1102) (by omega) _)) ?_
 rintro v h1 ⟨p, gb, db, lb, priv, rfl, s1, hpr, e1⟩
 have l1 := e1.next
 refine R ?_
 refine Xh rfl ?_
 refine R ?_
 refine Xj (Xi rfl (law21_big_ok H _ (by omega) _ xs xo xc (sx.ext e1))) ?_
 rintro v h2 ⟨r, rfl, hr, rfl⟩
 cases r with
 | true =>
  refine R ?_
  exact ⟨rfl, _, Xb (Xv rfl) Xd, rfl⟩
 | false =>
 obtain ⟨hx60, hx100⟩ := hr rfl
 obtain ⟨px1, px2, px3⟩ := puts_small hx60 hx100
 obtain ⟨pn1, pn2, pn3⟩ := puts_small (texts := []) (by decide) (fun _ hh => nomatch hh)
 refine R ?_
 refine Xj (Xi rfl (law21_clash_ok H (m + 1099) (by omega) _ xs [] xo none xc 0 (sx.ext e1) (.empty _ _) (by omega) (by decide) (fun s hs => by have := hx100 s hs; omega) (fun _ hh => nomatch hh) (by omega) (by omega) (fun b hb => by rcases XiB.1 hb with k | k; have := px2 b k; omega; have := pn2 b k; omega))) ?_
 rintro v h3 ⟨r, rfl, hr, e3⟩
 have l3 := e3.next
 cases r with
 | true =>
  refine R ?_
  exact ⟨rfl, _, Xb (Xv rfl) Xd, rfl⟩
 | false =>
 have noc := hr rfl
 have hxl := sx.lt
 have hx8 : ∀ s ∈ xs, s.length <= 8000 := fun s hs => by have := hx100 s hs; omega
 refine R ?_
 refine Xj (Xi rfl (seg_Build_ok H m hm _ p gb db lb 4000 [] priv (s1.ext e3) (by decide) xs (by omega) hx8 (by simp; omega) (by simp [ZH]; omega) xo xc (sx.ext (e1.trans0 e3)) (fun a ha hm => by have := hpr _ hm; have := hxl a ha; omega))) ?_
 rintro v h4 ⟨rfl, pr4, s4, e4, q4⟩
 have l4 := e4.next
 have hrx : (VO xs).length = 32 := root32 xs (by omega) hx8
 have hrxv : (Xa (VO xs)).length = 32 := by rw [Xc, hrx]
 have lt4 := s4.lt
 refine R ?_
 refine Xu fun H50 B50 E50 L50 G50 N50 Q50 => ?_
 refine Xl rfl (by conv => lhs; whnf) rfl G50 (by assumption) (Xij rfl) fun H51 E51 L51 G51 => ?_
 refine R ?_
 have g51 : H51.get B50 = some (.cells true (Xa (VO xs))) := G51.trans (congrArg (fun z => some (AObj.cells true z)) (YW hrxv))
 have e5 : Ext [] h4 H51 := E50.trans1 E51 (by omega)
 have eh4 : ∀ b, b < h.next -> b ∉ priv := fun b hb hm => by have := hpr b hm; omega
 have sx5 := (((sx.ext e1).ext e3).extS e4 (fun a ha => eh4 _ (hxl a ha))).ext e5
 have pa := putAll_used [] (Ze xs)
 have trx : XM 32 (XS 0 (Xa (VO xs))) = some (Xa (VO xs)) := XG hrxv
 have sub : ∀ x ∈ Zj [] (Ze xs), x ∈ Ze xs := fun x hx => by
  rcases putAll_sub hx with k | k
  ·exact nomatch k
  ·exact k
 have nocL : ∀ a ∈ Zj [] (Ze xs), ∀ b ∈ Zj [] (Ze xs), Sha a = Sha b -> a = b := fun a ha b hb => noc.2 a (Xjf _ (sub a ha)) b (Xjf _ (sub b hb))
 have inx : ∀ b ∈ Ze xs, b ∈ Zj [] (Ze xs) := fun b hb => putAll_mem (fun a ha c hc => noc.2 a (Xjf _ (by simpa using ha)) c (Xjf _ (by simpa using hc))) b hb
 have hL : (Zj [] (Ze xs)).length <= 128 := by simp at pa; omega
 have s5 := s4.ext e5
 generalize Zj [] (Ze xs) = L at s5 sub nocL inx hL
 have lt5 := s5.lt
 refine R2 ?_
 refine Xj (Xi rfl (seg_List_T H (m + 1018) (by omega) _ p gb db lb 4000 L (by omega) nocL pr4 s5 xs (by omega) hx8 inx)) ?_
 rintro v h6 ⟨mo, mc, rfl, om, fm, e6⟩
 have l6 := e6.next
 have g6 := e6.get0 (by omega) g51
 refine R2 ?_
 refine Xj (Xi rfl (seg_Len_ok H (m + 1017) (by omega) _ p gb db lb 4000 L (by omega) nocL pr4 (s5.ext e6) xs (by omega) hx8 inx)) ?_
 rintro v h7 ⟨rfl, e7⟩
 have l7 := e7.next
 have g7' := e7.get0 (by omega) g6
 refine R2 ?_
 refine Xj (Xi rfl (seg_Pages_T H (m + 1018) (by omega) _ p gb db lb 4000 L (by omega) nocL pr4 ((s5.ext e6).ext e7) xs (by omega) hx8 inx)) ?_
 rintro v h8 ⟨ho, hc, l, rfl, oh, fh, hml, hnl, ⟨rb, hrb, hre⟩, e8⟩
 have l8 := e8.next
 have g8' := e8.get0 (by omega) g7'
 have sx8 := ((sx5.ext e6).ext e7).ext e8
 have sm8 := (om.toSlc.ext e7).ext e8
 have hle : l.length <= 100000 := by
  have := nodup_len hnl (r := L.map bidS) fun x hx => by
   obtain ⟨b, hb, e⟩ := (hml x).1 hx
   rw [show x = bidS b from Bid.ext' e]
   exact Xjh (inx b hb)
  rw [Xir] at this
  omega
 refine R ?_
 rw [show decide (xs.length = xs.length) = true from decide_eq_true rfl]
 refine R ?_
 refine Xj (Xi rfl (SameTexts_ok H _ (by omega) _ xs xs _ _ mc xc sm8 sx8 (by omega))) ?_
 rintro v h9 ⟨rfl, rfl⟩
 rw [show decide (xs = xs) = true from decide_eq_true rfl]
 refine R2 ?_
 have hsl := Xde l
 have oh' := oh.toSlc
 rw [<- hsl] at oh'
 have hid := HasID_ok (sg := false) H (m + 1108) (by omega) h9 (Zw l) (bidS rb) ((XdC l).mem_iff.2 ((hml _).2 ⟨rb, hrb, rfl⟩)) ho hc oh' (by omega)
 rw [hsl, show (bidS rb).b = VO xs from hre.symm] at hid
 refine Xj (Xi rfl hid) ?_
 rintro v h10 ⟨rfl, e10⟩
 have s10 := (((s5.ext e6).ext e7).ext e8).ext e10
 refine R ?_
 refine Xj (Xi rfl (store_IDs_ok H (m + 1088) (by omega) _ p gb db lb 4000 L (by omega) pr4 s10)) ?_
 rintro v h11 ⟨o, no, nc, rfl, hno, hmo, ow, fno, e11⟩
 have hlo : l.Perm o := (List.perm_ext_iff_of_nodup hnl hno).2 fun x => by
  rw [hml, hmo]
  constructor
  ·rintro ⟨b, hb, e⟩
   rw [show x = bidS b from Bid.ext' e]
   exact Xjh (inx b hb)
  ·intro hx
   obtain ⟨b, hb, rfl⟩ := Xix.1 hx
   exact ⟨b, sub b hb, rfl⟩
 have hso : Zw o = Zw l := XdD (XgO o) (XgO l) (((XdC o).trans hlo.symm).trans (XdC l).symm)
 have ow' := ow.toSlc
 rw [hso] at ow'
 rw [<- hlo.length_eq] at ow' ⊢
 have hsame := SameIDs_ok (sg := false) H (m + 1108) (by omega) h11 (Zw l) ho no hc nc ((oh'.ext e10).ext e11) (by rw [hsl]; exact ow') (by omega)
 rw [hsl] at hsame
 refine wp_yes rfl ?_
 refine Xj (Xi rfl hsame) ?_
 rintro v h12 ⟨rfl, rfl⟩
 have sx12 := (sx8.ext e10).ext e11
 have s12 := s10.ext e11
 have g12 := e11.get0 (by have := e10.next; omega) (e10.get0 (by omega) g8')
 by_cases hz : xs.length = 0
 ·refine R ?_
  exact ⟨rfl, _, Xb (Xv rfl) Xd, rfl⟩
 ·refine R ?_
  refine Xj (Xi rfl (Pick_ok H (m + 1108) _ a xs.length (by omega) (by omega))) ?_
  rintro v h13 ⟨k, hk, rfl, rfl⟩
  obtain ⟨u, hu⟩ : ∃ u, xs[k]? = some u := ⟨_, Xin hk⟩
  refine R2 ?_
  refine Xj (Xi rfl (seg_At_ok H (m + 1017) (by omega) _ p gb db lb 4000 L (by omega) nocL pr4 s12 xs (by omega) hx8 inx k u hu)) ?_
  rintro v h14 ⟨rfl, e14⟩
  obtain ⟨b, wb, xb, hbo, gb', nb, tb⟩ := (sx12.ext e14).nonempty (by omega)
  subst hbo
  have n1 : nth (b.off + k * 1) xb = some (sv u) := by
   rw [Xim, Yj tb (by omega), K9, XiH, hu]; rfl
  have euu : Wt (bytes (⟨⟨u⟩⟩ : ByteArray)) (bytes (⟨⟨u⟩⟩ : ByteArray)) = true := (Ua u u).trans (by simp)
  refine R2 ?_
  refine Xh (l_eqS rfl rfl) ?_
  refine R ?_
  rw [euu]
  exact ⟨rfl, _, Xb (Xv rfl) Xd, rfl⟩
end
open Go Go.Eng Go.RowKit Go.WideShapes
def StrsIn (w : World) (v : Value) : Prop := v = .slice none 0 0 \/ ∃ (b o len cap : Nat) (l : List (List UInt8)), v = .slice (some ⟨b, o, none⟩) len cap /\ len <= cap /\ l.length = len /\ ∀ i x, (fl Wa l)[i]? = some x -> w.cell? ⟨b, o + i, none⟩ = some x
theorem strs_open {H : Type} {enc : TypeId × Value -> H} {P : Program} {w : World} {base : Nat} {spare : Nat -> Bool} {held : Bool} {r : Reach} {b0 : Nat} {t k : TypeId} (hs : P.underlying t = some (.slice k)) (ht : P.underlying k = some .string) (hc : P.cellsOf k = 1) {v : Value} {d : DataW H} {ps : List MemPlace}
  (hval : Value.okWide P w r b0 t v) (hd : DataW.Trod enc P w base spare held t v d ps) : StrsIn w v := by
 obtain ⟨a0, len, cap, rfl⟩ := okWide_slice hs hval
 obtain ⟨fuel, hf⟩ := hd
 rcases Go.ChangeShapes.open_strings hs ht hc hf with ⟨h, _⟩ | ⟨a, len', cap', ss, h, _, hl, hm, hlen, _, hcell, _⟩
 ·simp [Value.cells] at h
  obtain ⟨rfl, rfl, rfl⟩ := h
  exact .inl rfl
 ·simp [Value.cells] at h
  obtain ⟨rfl, rfl, rfl⟩ := h
  have hspot : a.spot = none := by
   have hv : Value.okWide P w r b0 t (.slice (some a) len cap) := hval
   simp only [Value.okWide, hs, Cell.okWide, Cell.ok] at hv
   exact hv.2.2.2.1
  obtain ⟨b, o, sp⟩ := a
  simp only at hspot
  subst hspot
  have hge : len <= ss.length := by rw [hlen]; split <;> omega
  refine .inr ⟨b, o, len, cap, (ss.take len).map bytes, rfl, hl, by rw [Xir, Xjd]; omega, fun i x hx => ?_⟩
  rw [K9, XiH, XiH] at hx
  have hi : i < len := by
   cases e : (ss.take len)[i]? with
   | none => rw [e] at hx; cases hx
   | some y => have := (XiP.1 e).1; rw [Xjd] at this; omega
  rw [List.getElem?_take_of_lt hi, Xin (by omega)] at hx
  have h1 := hcell i (by omega)
  have ea : (⟨b, o, none⟩ : Addr).add i = ⟨b, o + i, none⟩ := by unfold Addr.add; split <;> simp_all
  rw [ea, XiS, Xin (by omega)] at h1
  rw [h1]
  simp only [Option.map_some, Xiu.injEq] at hx
  rw [<- hx]
  simp [sv, Go.Eng.bytes]
structure Sims (P : Program) (w : World) (ι : Inj) (H : Heap) : Prop where
 s : Sim P w.heap.size ι H w
 ro : ∀ b o, H.get b = some o -> ∃ cs, o = .cells false cs
theorem Sims.empty (P : Program) (w : World) : Sims P w (fun _ => none) ⟨0, .nil⟩ := ⟨sim_empty w, fun b o h => by cases h⟩
theorem Sims.push_ro {P : Program} {w : World} {ι : Inj} {H : Heap} (S : Sims P w ι H) (cs : List Value) : ∀ b o, (H.push (.cells false cs)).get b = some o -> ∃ cs, o = .cells false cs := by
 intro b o h
 by_cases e : b = H.next
 ·subst e; rw [Heap.get_new] at h; cases h; exact ⟨_, rfl⟩
 ·rw [Heap.get_push_ne e] at h; exact S.ro b o h
theorem Sims.idle {P : Program} {w : World} {ι : Inj} {H : Heap} (S : Sims P w ι H) (cs : List Value) : Sims P w ι (H.push (.cells false cs)) := by
 have hn := S.s.next_none
 have ne : ∀ c q, ι c = some q -> c ≠ H.next := fun c q h e => by rw [e, hn] at h; cases h
 refine ⟨⟨fun c q o hc hg => ?_, fun c c' q q' o o' hne h1 h2 g1 g2 => ?_, fun c q hc => Nat.lt_succ_of_lt (S.s.bound c q hc), S.s.lt, fun c hc => ?_, S.s.base⟩, S.push_ro cs⟩
 ·rw [Heap.get_push_ne (ne c q hc)] at hg
  obtain ⟨xs, rfl⟩ := S.ro c o hg
  exact S.s.obj c q _ hc hg
 ·rw [Heap.get_push_ne (ne c q h1)] at g1
  rw [Heap.get_push_ne (ne c' q' h2)] at g2
  exact S.s.apart c c' q q' o o' hne h1 h2 g1 g2
 ·replace hc : H.next + 1 <= c := hc
  rw [Heap.get_push_ne (by omega)]
  exact S.s.blank c (by omega)
theorem Sims.strs {P : Program} {w : World} {ι : Inj} {H : Heap} (S : Sims P w ι H) {v : Value} (hv : StrsIn w v) : ∃ ι' H' ao ca l, Sims P w ι' H' /\ ι.le ι' /\ Ext [] H H' /\ VRel ι' (.slice ao l.length ca) v /\ Slc H' 1 ao l.length ca (fl Wa l) := by
 rcases hv with rfl | ⟨b, o, len, cap, l, rfl, hl, hlen, hc⟩
 ·exact ⟨ι, H, none, 0, [], S, ι.le_refl, .refl H, .snil 0 0, .empty H 1⟩
 ·by_cases h0 : len = 0
  ·subst h0
   have : l = [] := Xkg.1 hlen
   subst this
   refine ⟨ι, H.push (.cells false []), some ⟨H.next, 0, some 1⟩, 0, [], S.idle [], ι.le_refl, .push _ _, .sempty (fun h => by cases h), ?_⟩
   exact ⟨rfl, Xig _, (fun h => nomatch h), (fun a e => Or.inl rfl), fun a e => by cases e; exact ⟨_, _, Heap.get_new _ _, XiA _, rfl⟩⟩
  ·have hlt : b < w.heap.size := by
    cases l with
    | nil => exact absurd hlen.symm h0
    | cons s l =>
     have := hc 0 _ rfl
     exact (cell_lt this).2
   have hn := S.s.next_none
   have hfl : (fl Wa l).length = l.length := fl_encS_length l
   refine ⟨ι.with H.next ⟨b, o, len⟩, H.push (.cells false (fl Wa l)), some ⟨H.next, 0, none⟩, cap, l, ⟨S.s.more (p := ⟨b, o, len⟩) hlt ?_ ?_, S.push_ro _⟩, Inj.with_le hn _, .push _ _, ?_, ?_⟩
   ·intro b1 p1 o1 h1 h2
    obtain ⟨cs, rfl⟩ := S.ro b1 o1 h2
    exact ⟨fun _ => ⟨false, _, false, _, rfl, rfl, .inl ⟨rfl, rfl⟩⟩, fun _ => ⟨false, _, false, _, rfl, rfl, .inl ⟨rfl, rfl⟩⟩⟩
   ·refine ⟨by rw [hfl, hlen]; exact Xig _, fun i hi => ?_, fun i x hx => ⟨x, hc i x hx, ?_⟩, fun h => by cases h⟩
    ·have hi' : i < (fl Wa l).length := by rw [hfl, hlen]; exact hi
     have h1 := hc i _ (Xin hi')
     refine ⟨_, h1, ?_⟩
     have hs : ∀ x ∈ fl Wa l, Y4 x := fun x hx => by
      rw [K9] at hx
      obtain ⟨u, _, rfl⟩ := Xix.1 hx
      trivial
     exact hs _ (List.getElem_mem hi')
    ·rw [K9, XiH] at hx
     cases e : l[i]? with
     | none => rw [e] at hx; cases hx
     | some u => rw [e] at hx; cases hx; exact ⟨.string _, trivial⟩
   ·rw [hlen]
    exact .slice (a := ⟨H.next, 0, none⟩) (p := ⟨b, o, len⟩) (Inj.with_same ι H.next _) (fun _ => rfl) (Xig _) hl (fun z h => by cases h)
   ·exact Slc.of_part (Heap.get_new _ _) (XiA _) (by rw [hfl, Xim]) (by omega) (XG (by rw [hfl, Xim]))
end Sp
end
