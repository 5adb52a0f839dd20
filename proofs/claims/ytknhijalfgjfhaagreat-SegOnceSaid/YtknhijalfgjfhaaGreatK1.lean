/-
  The functions of the program, of the document's answer and of the library, each gone through once: what it answers. Conditions: those that each lemma states.
-/
import Derived.Test.YtknhijalfgjfhaaGreatK0
set_option linter.unusedVariables false
set_option linter.unusedSimpArgs false
set_option linter.unusedSectionVars false
open List renaming flatten_cons -> XiD, mem_cons -> XhQ, length_append -> XhC, length_cons -> Xh8, mem_map -> XhW, mem_flatten -> XiK, length_map -> XhP, map_cons -> Xit, getElem?_eq_getElem -> XhL, mem_of_getElem? -> Xh5, take_add_one -> Xh6, map_append -> Xh2, take_append_drop -> Xiw, take_length -> Xh7, drop_zero -> XiN, mem_singleton -> XhB, getElem?_map -> Xic, flatten_append -> XiF, replicate -> XhY, getD_eq_getElem?_getD -> Xih, eq_nil_of_length_eq_zero -> XiB, mem_append -> XhV, getElem?_eq_some_iff -> Xig, drop_left -> XiM, drop_drop -> Xip, length_drop -> Xif, append_nil -> Xij, append_assoc -> Xh1, nil_append -> Xib, length_take -> Xie, mem_cons_of_mem -> Xii, take_of_length_le -> Xi6, map_map -> Xis, mem_map_of_mem -> XiJ, mem_append_right -> XiC, getElem?_append_right -> Xjf, length_range -> Xjr, map_congr_left -> Xjo, set_eq_take_append_cons_drop -> XjK
open Nat renaming succ_pos -> XiT, le_refl -> XhE, zero_le -> XhO, le_of_ble_eq_true -> XhH, mul_one -> XhI, succ -> Xid, zero_add -> XhT, lt_succ_self -> Xh0
open Int renaming ofNat -> XhA, ofNat_eq_natCast -> Xiv
open Option renaming some -> XhU
open BitVec renaming ofInt -> XhZ
noncomputable section
set_option maxRecDepth 100000
namespace Sp
open Go Go.Eng
variable {lev : Nat}
theorem cutG_ne {α : Type} (e : Nat -> α -> Bool) (cur : List α) (x : α) (l : List α) : X0 e cur (x :: l) ≠ [] := by
 induction l generalizing cur x with
 | nil => rw [X0]; simp
 | cons y l ih =>
  rw [X0]
  split
  ·simp
  ·exact ih _ _
theorem cutG_flatten {α : Type} (e : Nat -> α -> Bool) (cur l : List α) (h : l ≠ []) : (X0 e cur l).flatten = cur ++ l := by
 induction l generalizing cur with
 | nil => exact absurd rfl h
 | cons x l ih =>
  rw [X0]
  cases l with
  | nil => simp [X0]
  | cons y l =>
   split
   ·rw [XiD, ih [] (by simp)]; simp
   ·rw [ih _ (by simp)]; simp
theorem Y3 {α : Type} (e : Nat -> α -> Bool) (l : List α) : (X0 e [] l).flatten = l := by
 cases l with
 | nil => rfl
 | cons x l => rw [cutG_flatten e [] _ (by simp)]; rfl
theorem cutG_len {α : Type} {e : Nat -> α -> Bool} (he : ∀ x, e 8 x = true) (cur l : List α) (hc : cur.length < 8) : ∀ c ∈ X0 e cur l, 0 < c.length /\ c.length <= 8 := by
 induction l generalizing cur with
 | nil => intro c hc; cases hc
 | cons x l ih =>
  rw [X0]
  split
  ·intro c hcm
   rcases XhQ.1 hcm with rfl | hcm
   ·rw [XhC]; exact ⟨by simp, by simp; omega⟩
   ·exact ih [] (by simp) c hcm
  ·rename_i hne
   refine ih _ ?_
   rw [XhC]
   have : cur.length + 1 ≠ 8 := fun h => hne (by rw [h, he]; rfl)
   simp; omega
theorem cutG_half {α : Type} {e : Nat -> α -> Bool} (he : ∀ k x, e k x = true -> 2 <= k) (cur l : List α) : (X0 e cur l).length * 2 <= cur.length + l.length + 1 := by
 induction l generalizing cur with
 | nil => simp [X0]
 | cons x l ih =>
  rw [X0]
  split
  ·rename_i h
   rw [Xh8, Xh8]
   rcases Bool.or_eq_true _ _ ▸ h with h | h
   ·have := he _ _ h
    have := ih []
    simp at this
    omega
   ·rw [List.isEmpty_iff] at h
    subst h
    simp [X0]
  ·have := ih (cur ++ [x])
   rw [XhC] at this
   rw [Xh8]
   simp at this
   omega
theorem eL_8 (lev : Nat) (x : Lk) : eL lev 8 x = true := by unfold eL Xd1; simp
theorem eS_8 (x : List UInt8) : eS 8 x = true := by unfold eS Xd1; simp
theorem eL_two (h : 0 < lev) (k : Nat) (x : Lk) (e : eL lev k x = true) : 2 <= k := by
 unfold eL Xd1 at e
 simp only [Bool.or_eq_true, Bool.and_eq_true, decide_eq_true_eq] at e
 rcases e with e | ⟨_, e | e⟩ <;> omega
structure Nd where
 texts : List (List UInt8)
 links : List Lk
def Nd.bytes (lev : Nat) (nd : Nd) : List UInt8 := X3 lev nd.texts nd.links
def Nd.many (nd : Nd) : Nat := nd.texts.length + Y7 nd.links
def Nd.link (lev : Nat) (nd : Nd) : Lk := (Sha (nd.bytes lev), nd.many)
structure Nd.OK (nd : Nd) : Prop where
 t8 : nd.texts.length <= 8
 l8 : nd.links.length <= 8
 ts : ∀ s ∈ nd.texts, s.length <= 8000
 ls : ∀ y ∈ nd.links, LkOK y
 mn : nd.many <= 2000
theorem Nd.OK.link {nd : Nd} (h : nd.OK) (lev : Nat) : LkOK (nd.link lev) := ⟨X5 _, h.mn⟩
def XcM : List Nd -> Nat
 | [] => 0
 | n :: l => n.many + XcM l
def links (lev : Nat) (nds : List Nd) : List Lk := nds.map (Nd.link lev)
theorem sumN_links (lev : Nat) (nds : List Nd) : Y7 (links lev nds) = XcM nds := by
 induction nds with
 | nil => rfl
 | cons n l ih => show n.many + Y7 (links lev l) = n.many + XcM l; rw [ih]
def above (lev : Nat) (nds : List Nd) : List Nd := (X0 (eL (lev + 1)) [] (links lev nds)).map fun c => ⟨[], c⟩
theorem sumM_above_aux (cs : List (List Lk)) : XcM (cs.map fun c => ⟨[], c⟩) = Y7 cs.flatten := by
 induction cs with
 | nil => rfl
 | cons c cs ih =>
  rw [XiD, XbR, <- ih]
  show 0 + Y7 c + _ = _
  omega
theorem JI (lev : Nat) (nds : List Nd) : XcM (above lev nds) = XcM nds := by
 unfold above
 rw [sumM_above_aux, Y3, sumN_links]
theorem many_le_sumM {nds : List Nd} {n : Nd} (h : n ∈ nds) : n.many <= XcM nds := by
 induction nds with
 | nil => cases h
 | cons a l ih =>
  rcases XhQ.1 h with rfl | h
  ·exact Nat.le_add_right _ _
  ·have := ih h
   show _ <= a.many + XcM l
   omega
theorem above_OK {nds : List Nd} (h : ∀ n ∈ nds, n.OK) (hs : XcM nds <= 2000) : ∀ n ∈ above lev nds, n.OK := by
 intro n hn
 have hm := many_le_sumM hn
 rw [JI] at hm
 unfold above at hn
 obtain ⟨c, hc, rfl⟩ := XhW.1 hn
 refine ⟨by simp, (cutG_len (eL_8 (lev + 1)) [] _ (by simp) c hc).2, by simp, fun y hy => ?_, by omega⟩
 have : y ∈ links lev nds := by
  rw [<- Y3 (eL (lev + 1)) (links lev nds)]
  exact XiK.2 ⟨c, hc, hy⟩
 obtain ⟨x, hx, rfl⟩ := XhW.1 this
 exact (h x hx).link lev
theorem XcN {nds : List Nd} (h : 2 <= nds.length) : 0 < (above lev nds).length /\ (above lev nds).length < nds.length := by
 unfold above
 rw [XhP]
 have h1 := cutG_half (fun k x => eL_two (XiT lev) k x) [] (links lev nds)
 have h2 : (links lev nds).length = nds.length := by unfold links; rw [XhP]
 rw [h2] at h1
 simp at h1
 refine ⟨?_, by omega⟩
 match hl : links lev nds, h2 with
 | [], h2 => simp at h2; omega
 | x :: l, _ => exact List.length_pos_iff.2 (cutG_ne _ _ _ _)
def Ya : Nat -> Nat -> List Nd -> List (Nat × List Nd)
 | 0, lev, nds => [(lev, nds)]
 | f + 1, lev, nds => if nds.length <= 1 then [(lev, nds)] else (lev, nds) :: Ya f (lev + 1) (above lev nds)
def YT (r : List (Nat × List Nd)) : List (List UInt8) := (r.map fun q => q.2.map (Nd.bytes q.1)).flatten
def Xd3 : List (Nat × List Nd) -> List UInt8
 | [] => []
 | [(lev, nds)] => match nds with
  | [] => []
  | n :: _ => Sha (n.bytes lev)
 | _ :: r => Xd3 r
theorem rowsF_ne (f lev : Nat) (nds : List Nd) : ∃ q r, Ya f lev nds = q :: r := by
 cases f with
 | zero => exact ⟨_, _, rfl⟩
 | succ f =>
  unfold Ya
  split
  ·exact ⟨_, _, rfl⟩
  ·exact ⟨_, _, rfl⟩
theorem rootR_cons {q : Nat × List Nd} {f : Nat} {nds : List Nd} : Xd3 (q :: Ya f lev nds) = Xd3 (Ya f lev nds) := by
 obtain ⟨q', r, h⟩ := rowsF_ne f lev nds
 rw [h]; rfl
theorem root_len (f : Nat) : ∀ (lev : Nat) (nds : List Nd), 0 < nds.length -> (Xd3 (Ya f lev nds)).length = 32 := by
 have one : ∀ (lev : Nat) (nds : List Nd), 0 < nds.length -> (Xd3 [(lev, nds)]).length = 32 := fun lev nds h => by
  match nds, h with
  | n :: _, _ => exact X5 _
 induction f with
 | zero => exact one
 | succ f ih =>
  intro lev nds h
  unfold Ya
  split
  ·exact one lev nds h
  ·rename_i h2
   rw [rootR_cons]
   exact ih _ _ (XcN (by omega)).1
def XX (L bs : List (List UInt8)) : List (List UInt8) := bs.foldl Y1 L
theorem Z4 (L a b : List (List UInt8)) : XX L (a ++ b) = XX (XX L a) b := by unfold XX; rw [List.foldl_append]
theorem JX (L bs : List (List UInt8)) : Yt (XX L bs) <= Yt L + Yt bs /\ (XX L bs).length <= L.length + bs.length := by
 induction bs generalizing L with
 | nil => exact ⟨XhE _, XhE _⟩
 | cons b bs ih =>
  have h := ih (Y1 L b)
  have k := stPut_used (L := L) (b := b)
  show Yt (XX (Y1 L b) bs) <= Yt L + (X1 b.length + Yt bs) /\ (XX (Y1 L b) bs).length <= L.length + (bs.length + 1)
  omega
theorem stPut_more (L : List (List UInt8)) (b : List UInt8) : Yt L <= Yt (Y1 L b) /\ L.length <= (Y1 L b).length := by
 unfold Y1
 split
 ·exact ⟨XhE _, XhE _⟩
 ·rw [XcL, XhC]; omega
theorem Xd4 (L bs : List (List UInt8)) : Yt L <= Yt (XX L bs) /\ L.length <= (XX L bs).length := by
 induction bs generalizing L with
 | nil => exact ⟨XhE _, XhE _⟩
 | cons b bs ih =>
  have h := ih (Y1 L b)
  have k := stPut_more L b
  show Yt L <= Yt (XX (Y1 L b) bs) /\ L.length <= (XX (Y1 L b) bs).length
  omega
def NdC (h : Heap) (fp : List Nat) (lev : Nat) (nd : Nd) (cs : List Value) : Prop :=
 ∃ tao tca lao lca, cs = [.int .i64 (XhA lev), .slice tao nd.texts.length tca, .slice lao nd.links.length lca] /\ Slc h 1 tao nd.texts.length tca (fl YU nd.texts) /\ Slc h 33 lao nd.links.length lca (fl Yh nd.links) /\ (∀ a, tao = some a -> a.block ∈ fp) /\ ∀ a, lao = some a -> a.block ∈ fp
theorem NdC.extS {h h' : Heap} {fp : List Nat} {nd : Nd} {cs : List Value} (n : NdC h fp lev nd cs) {S : List Nat} (e : Ext S h h') (q : ∀ b ∈ fp, b ∉ S) : NdC h' fp lev nd cs := by
 obtain ⟨tao, tca, lao, lca, h1, h2, h3, h4, h5⟩ := n
 exact ⟨tao, tca, lao, lca, h1, h2.extS e fun a ha => q _ (h4 a ha), h3.extS e fun a ha => q _ (h5 a ha), h4, h5⟩
theorem NdC.length {h : Heap} {fp : List Nat} {nd : Nd} {cs : List Value} (n : NdC h fp lev nd cs) : cs.length = 3 := by
 obtain ⟨tao, tca, lao, lca, rfl, _⟩ := n; rfl
def NdsC (h : Heap) (fp : List Nat) (lev : Nat) (css : List (List Value)) (nds : List Nd) : Prop := All2 (fun cs nd => NdC h fp lev nd cs) css nds
theorem NdsC.extS {h h' : Heap} {fp : List Nat} {css : List (List Value)} {nds : List Nd} (n : NdsC h fp lev css nds) {S : List Nat} (e : Ext S h h') (q : ∀ b ∈ fp, b ∉ S) : NdsC h' fp lev css nds := All2.mono n fun _ _ k => NdC.extS k e q
theorem flat3 {css : List (List Value)} {i : Nat} {cs : List Value} (h : ∀ c ∈ css, c.length = 3) (hi : css[i]? = some cs) : (css.flatten.drop (i * 3)).take 3 = cs := by
 have := XcK (enc := id) (z := 3) (l := css) h hi
 unfold fl at this
 rw [List.map_id] at this
 exact this
section
variable {E : Env} {sg : Bool} (H : Has E)
include H
set_option maxHeartbeats 4000000 in
theorem seg_lay_ok (f : Nat) : ∀ (m : Nat) (hm : 100000000 <= m) (h : Heap) (p gb db lb many : Nat) (L : List (List UInt8)) (priv : List Nat) (s : StQ h p gb db lb many L priv) (hmany : many <= 65536) (lev : Nat) (nds : List Nd) (hf : nds.length <= f + 1) (h0 : 0 < nds.length) (hlev : lev + f <= 130) (hn2 : nds.length <= 2000) (hok : ∀ n ∈ nds, n.OK) (hsum : XcM nds <= 2000)
  (hL : (XX L (YT (Ya (f + 1) lev nds))).length <= 1500) (hu : 2 + Yt (XX L (YT (Ya (f + 1) lev nds))) < many) (nao : Option Addr) (nca : Nat) (css : List (List Value)) (fp : List Nat) (sn : Slc h 3 nao nds.length nca css.flatten) (nc : NdsC h fp lev css nds) (hfp : ∀ b ∈ fp, b ∉ priv /\ b < h.next) (hnp : ∀ a, nao = some a -> a.block ∉ priv),
  (enter E (ctx E (m + f + 1008)) f_seg_lay [.pointer (some ⟨p, 0, none⟩), .slice nao nds.length nca] h).Wp sg fun v h' => v = .tuple ⟨[.agg ⟨Xa (Xd3 (Ya (f + 1) lev nds))⟩, .int .i64 (XhA 0)]⟩ /\ ∃ priv', StQ h' p gb db lb many (XX L (YT (Ya (f + 1) lev nds))) priv' /\ Ext priv h h' /\ ∀ b ∈ priv', b ∈ priv \/ h.next <= b := by
 induction f using Nat.strongRecOn with
 | ind f ih =>
 intro m hm h p gb db lb many L priv s hmany lev nds hf h0 hlev hn2 hok hsum hL hu nao nca css fp sn nc hfp hnp
 refine H.run (k := k_seg_lay) rfl rfl rfl ?_
 dsimp only [k_seg_lay]
 -- what the first row takes
 have hrow : ∃ more, YT (Ya (f + 1) lev nds) = nds.map (Nd.bytes lev) ++ more := by
  unfold Ya YT
  split
  ·exact ⟨[], by simp⟩
  ·exact ⟨_, by rw [Xit, XiD]⟩
 obtain ⟨more, hmore⟩ := hrow
 have hrow2 : (XX L (nds.map (Nd.bytes lev))).length <= 1500 /\ 2 + Yt (XX L (nds.map (Nd.bytes lev))) < many := by
  have := Xd4 (XX L (nds.map (Nd.bytes lev))) more
  rw [hmore, Z4] at hL hu
  omega
 have lt0 := s.lt
 have c3 : ∀ c ∈ css, c.length = 3 := fun c hc => by
  obtain ⟨i, hi, rfl⟩ := List.getElem_of_mem hc
  exact (nc.get i hi (by rw [<- All2.length nc]; exact hi)).length
 have hcl := All2.length nc
 refine X9 ?_
 refine Xt fun H1 B1 E1 L1 G1 N1 Q1 => ?_
 refine R ?_
 have e1p : Ext priv h H1 := E1.mono (fun _ hh => nomatch hh)
 refine Yl nds.length 0 (fun i t x hk => ∃ uo uc pr, (g0 t = (.pointer (some ⟨p, 0, none⟩)) /\ g1 t = (.slice nao nds.length nca) /\ g4 t = (.pointer (some ⟨B1, 0, none⟩)) /\ g5 t = (.int .i64 (XhA 0)) /\ g6 t = (.slice uo i uc) /\ g15 t = (.slice nao nds.length nca) /\ g16 t = (.int .i64 (XhA nds.length)) /\ g17 t = (.int .i64 (XhA i))) /\ x = ⟨[], none, none⟩ /\ Ext priv h hk /\ (∀ x ∈ pr, x ∈ priv \/ h.next <= x) /\ StQ hk p gb db lb many (XX L ((nds.take i).map (Nd.bytes lev))) pr /\ Own hk 33 uo i uc (fl Yh (links lev (nds.take i))) /\ (∀ a, uo = some a -> h.next <= a.block /\ a.block ∉ pr /\ a.block ≠ B1) /\ hk.get B1 = some (.cells true Xr) /\ B1 ∉ pr /\ B1 < hk.next)
  ⟨none, 0, priv, ⟨rfl, rfl, rfl, rfl, rfl, rfl, rfl, rfl⟩, rfl, e1p, fun x hx => .inl hx, s.ext E1, .empty _ _, (fun a e => nomatch e), G1, (fun hm => by have := lt0 _ hm; omega), N1⟩ (XhO _) (XG (by omega)) ?_
 rintro i t x hk hi ⟨uo, uc, pr, ⟨r0, r1, r4, r5, r6, r15, r16, r17⟩, rfl, ek, hpr, sk, ok, hu1, gB, hB, nB⟩
 obtain ⟨t0, rfl⟩ : ∃ t0, t = p0 (.pointer (some ⟨p, 0, none⟩)) (p1 (.slice nao nds.length nca) (p4 (.pointer (some ⟨B1, 0, none⟩)) (p5 (.int .i64 (XhA 0)) (p6 (.slice uo i uc) (p15 (.slice nao nds.length nca) (p16 (.int .i64 (XhA nds.length)) (p17 (.int .i64 (XhA i)) t0))))))) := ⟨t, (show t = p0 (g0 t) (p1 (g1 t) (p4 (g4 t) (p5 (g5 t) (p6 (g6 t) (p15 (g15 t) (p16 (g16 t) (p17 (g17 t) t))))))) from rfl).trans (by rw [r0, r1, r4, r5, r6, r15, r16, r17])⟩
 clear r0 r1 r4 r5 r6 r15 r16 r17
 have lk := ek.next
 have ltk := sk.lt
 by_cases hlt : i < nds.length
 ·obtain ⟨a, wa, xa, hao, ga, na, ta⟩ := (sn.extS ek hnp).nonempty (by omega)
  subst hao
  obtain ⟨nd, hnd⟩ : ∃ nd, nds[i]? = some nd := ⟨_, XhL hlt⟩
  obtain ⟨cs, hcs⟩ : ∃ cs, css[i]? = some cs := ⟨_, XhL (by omega)⟩
  have hndok := hok _ (Xh5 hnd)
  have hNd : NdC h fp lev nd cs := by
   obtain ⟨y, h1, h2⟩ := nc.get? hcs
   rw [hnd] at h1; cases h1; exact h2
  have hc3 := hNd.length
  have hload : XU 3 (XY (a.off + i * 3) xa) = some cs := by
   rw [take_take ta (by omega), flat3 c3 hcs]
  have hput : XZ cs 0 Ys = cs := by
   have := Yk (k := 0) (a := []) (b := Ys) (ys := cs) (c := []) rfl hc3
   simpa using this
  have tcs : XU 3 (XY 0 cs) = some cs := XK hc3
  have hNk := hNd.extS ek fun b hb => (hfp b hb).1
  refine R2 ?_
  refine Xt fun H10 B10 E10 L10 G10 N10 Q10 => ?_
  refine Xm rfl (by conv => lhs; whnf) rfl G10 (by assumption) (XhH rfl) fun H11 E11 L11 G11 => ?_
  refine R ?_
  rw [hput] at G11
  refine R2 ?_
  have e11 : Ext [] hk H11 := E10.trans1 E11 (by omega)
  have l11 := e11.next
  have hfr : ∀ x, x ∈ fp -> x ∉ pr := fun x hx hm => by
   rcases hpr x hm with h1 | h1
   ·exact (hfp x hx).1 h1
   ·have := (hfp x hx).2; omega
  obtain ⟨tao, tca, lao, lca, rfl, slt, sll, hta, hla⟩ := hNk.extS e11 fun _ _ hh => nomatch hh
  have hput2 : XX L ((nds.take (i + 1)).map (Nd.bytes lev)) = Y1 (XX L ((nds.take i).map (Nd.bytes lev))) (X3 lev nd.texts nd.links) := by
   rw [Xh6, hnd, Xh2, Z4]; rfl
  have hroom : (Y1 (XX L ((nds.take i).map (Nd.bytes lev))) (X3 lev nd.texts nd.links)).length <= 1500 /\ 2 + Yt (Y1 (XX L ((nds.take i).map (Nd.bytes lev))) (X3 lev nd.texts nd.links)) < many := by
   have := Xd4 (XX L ((nds.take (i + 1)).map (Nd.bytes lev))) ((nds.drop (i + 1)).map (Nd.bytes lev))
   rw [<- Z4, <- Xh2, Xiw, hput2] at this
   omega
  refine Xj (Xi rfl (seg_node_put_ok H (m + f + 1) (by omega) _ p gb db lb many _ pr (sk.ext e11) hmany lev (by omega) tao lao tca lca nd.texts nd.links hndok.t8 hndok.l8 hndok.ts hndok.ls slt sll (fun a ha => hfr _ (hla a ha)) hroom.1 hroom.2)) ?_
  rintro v h12 ⟨rfl, pr', s12, e12, f12⟩
  have l12 := e12.next
  have hlk : (Sha (X3 lev nd.texts nd.links), nd.texts.length + Y7 nd.links) = nd.link lev := rfl
  rw [hlk]
  have hel : (Yh (nd.link lev)).length = 33 := YS (hndok.link lev)
  have gB12 := e12.getS (by omega) hB (e11.get0 nB gB)
  have hput3 : XZ (Yh (nd.link lev)) 0 q_5ccab404 = Yh (nd.link lev) := by
   have := Yk (k := 0) (a := []) (b := q_5ccab404) (ys := Yh (nd.link lev)) (c := []) rfl hel
   simpa using this
  have tel : XU 33 (XY 0 (Yh (nd.link lev))) = some (Yh (nd.link lev)) := XK hel
  have hlinks : links lev (nds.take (i + 1)) = links lev (nds.take i) ++ [nd.link lev] := by
   unfold links; rw [Xh6, hnd, Xh2]; rfl
  generalize nd.link lev = y at hel hput3 tel hlinks
  refine R ?_
  refine Xt fun H30 B30 E30 L30 G30 N30 Q30 => ?_
  refine Xm rfl (by conv => lhs; whnf) rfl G30 (by assumption) (XhH rfl) fun H31 E31 L31 G31 => ?_
  refine R ?_
  rw [hput3] at G31
  refine R2 ?_
  refine XJ (Xf (by conv => lhs; whnf) rfl (by first | rfl | assumption) (by first | rfl | assumption) XB) fun H40 B40 E40 L40 G40 N40 Q40 => ?_
  rw [hput3] at G40
  have e30 := E30.trans1 E31 (by omega)
  have hpr2 : ∀ x ∈ pr', x < h12.next := s12.lt
  have o40 := (((ok.ext e11).extS e12 fun a ha => (hu1 a ha).2.1).ext e30).ext E40
  refine XP o40 rfl rfl rfl (Slc.of_get (z := 33) G40 N40 hel).elemsAll hel (by omega) fun uo2 uc2 h5 o5 e5 l5 f5 => ?_
  refine R ?_
  have huo' : ∀ a, uo = some a -> a.block ∉ pr' := fun a ha hm => by
   rcases f12 _ hm with h1 | h1
   ·exact (hu1 a ha).2.1 h1
   ·have := ok.toSlc.lt a ha; omega
  have hBp : B1 ∉ pr' := fun hm => by
   rcases f12 _ hm with h1 | h1
   ·exact hB h1
   ·omega
  have hq : ∀ s, s ∈ XD uo -> h.next <= s /\ s ∉ pr' /\ s ≠ B1 := fun s hs => by
   obtain ⟨a, h1, rfl⟩ := Xu hs
   exact ⟨(hu1 a h1).1, huo' a h1, (hu1 a h1).2.2⟩
  have eT : Ext priv h H40 := (((ek.trans0 e11).trans e12 hpr).trans0 e30).trans0 E40
  have l40 := E40.next
  have l30 := e30.next
  refine ⟨hlt, uo2, uc2, pr', ⟨rfl, rfl, rfl, rfl, rfl, rfl, rfl, rfl⟩, rfl, eT.trans e5 fun s hs => .inr (hq s hs).1, fun x hx => ?_, ?_, ?_, fun a ha => ?_, e5.getS (by omega) (fun hm => (hq _ hm).2.2 rfl) (E40.get0 (by omega) (e30.get0 (by omega) gB12)), hBp, by omega⟩
  ·rcases f12 x hx with h1 | h1
   ·exact hpr x h1
   ·exact .inr (by omega)
  ·rw [hput2]
   exact ((s12.ext e30).ext E40).extS e5 fun x hx hm => (hq x hm).2.1 hx
  ·rw [hlinks, Us, show fl Yh [y] = Yh y by simp [fl]]
   exact o5
  ·rcases f5 a ha with h1 | h1
   ·exact hq _ h1
   ·exact ⟨by omega, fun hm => by have := hpr2 _ hm; omega, by omega⟩
 ·have hin : i = nds.length := by omega
  subst hin
  rw [Xh7] at sk ok
  refine R ?_
  by_cases h1 : nds.length = 1
  ·obtain ⟨nd, rfl⟩ := List.length_eq_one_iff.1 h1
   have hroot : Xd3 (Ya (f + 1) lev [nd]) = Sha (nd.bytes lev) := by unfold Ya; rfl
   have hputs : YT (Ya (f + 1) lev [nd]) = [nd].map (Nd.bytes lev) := by unfold Ya YT; simp
   rw [hroot, hputs]
   obtain ⟨a, wa, xa, hao, ga, na, ta⟩ := ok.toSlc.nonempty (by simp)
   have hd := X5 (nd.bytes lev)
   have hcells : fl Yh (links lev [nd]) = Xa (Sha (nd.bytes lev)) ++ [.int .i64 (XhA nd.many)] := by simp [fl, links, Yh, Nd.link]
   rw [hcells] at ta
   generalize Sha (nd.bytes lev) = id at hd ta ⊢
   have t32 : XU 32 (XY (a.off + 0 * 33 + 0) xa) = some (Xa id) := by
    have := take_take (i := 0) (k := 32) ta (by simp)
    rw [this, XiN, <- hd, <- Xc id, List.take_left]
   subst hao
   refine R2 ?_
   refine Xm rfl rfl rfl gB (by rw [Xc, hd]) (by decide) (fun h10 E10 n10 G10 => ?_)
   have hp : XZ (Xa id) 0 Xr = Xa id := by
    have := Yk (k := 0) (a := []) (b := Xr) (ys := Xa id) (c := []) rfl (by rw [Xc, hd]; rfl)
    simpa using this
   rw [hp] at G10
   refine R ?_
   exact ⟨rfl, _, Xb (Y4 rfl G10 (XK (by rw [Xc, hd]))) (Xb (Xw rfl) Xg), rfl, pr, sk.extS E10 fun x hx hm => hB (XhB.1 hm ▸ hx), ek.trans E10 fun s hs => .inr (by rw [XhB.1 hs]; omega), hpr⟩
  ·have h2 : 2 <= nds.length := by omega
   obtain ⟨a, wa, xa, hao, ga, na, ta⟩ := (sn.extS ek hnp).nonempty (by omega)
   subst hao
   obtain ⟨cs0, hcs0⟩ : ∃ cs0, css[0]? = some cs0 := ⟨_, XhL (by omega)⟩
   have hlev0 : nth (a.off + 0 * 3 + 0) xa = some (.int .i64 (XhA lev)) := by
    obtain ⟨y, h1, tao, tca, lao, lca, h3, _⟩ := nc.get? hcs0
    have hl0 := flat3 c3 hcs0
    have := Yf (i := 0) ta (by omega)
    have e0 : css.flatten[0]? = some (Value.int .i64 (XhA lev)) := by
     have h4 : (css.flatten.drop (0 * 3)).take 3 = cs0 := hl0
     rw [h3] at h4
     have := congrArg (·[0]?) h4
     simpa using this
    rw [e0] at this
    exact this
   refine R2 ?_
   have hlk : ∀ y ∈ links lev nds, LkOK y := fun y hy => by
    obtain ⟨n, hn, rfl⟩ := XhW.1 hy
    exact (hok n hn).link lev
   have hll : (links lev nds).length = nds.length := by unfold links; rw [XhP]
   refine Xj (Xi rfl (seg_cut_seg_link_ok H (m + f + 1006) (by omega) _ (lev + 1) (links lev nds) uo uc nds.length hll ok.toSlc hn2 hlk)) ?_
   rintro v hc ⟨co, cc, vs, rfl, oc, chs, ec, hco⟩
   have lc := ec.next
   have hvl : vs.length = (X0 (eL (lev + 1)) [] (links lev nds)).length := All2.length chs
   refine R ?_
   have hnc : (X0 (eL (lev + 1)) [] (links lev nds)).length = (above lev nds).length := by unfold above; rw [XhP]
   have hab := XcN (lev := lev) h2
   refine Yl vs.length 0 (fun i t x hk2 => ∃ ao ac css2, (g0 t = (.pointer (some ⟨p, 0, none⟩)) /\ g4 t = (.pointer (some ⟨B1, 0, none⟩)) /\ g5 t = (.int .i64 (XhA 0)) /\ g11 t = (.int .i64 (XhA (lev + 1))) /\ g12 t = (.slice ao i ac) /\ g50 t = (.slice co vs.length cc) /\ g51 t = (.int .i64 (XhA vs.length)) /\ g52 t = (.int .i64 (XhA i))) /\ x = ⟨[], none, none⟩ /\ Ext [] hc hk2 /\ Own hk2 3 ao i ac css2.flatten /\ NdsC hk2 (XD uo) (lev + 1) css2 ((above lev nds).take i) /\ ∀ a, ao = some a -> hc.next <= a.block)
    ⟨none, 0, [], ⟨rfl, rfl, rfl, rfl, rfl, rfl, rfl, rfl⟩, rfl, .refl _, .empty _ _, .nil, (fun a e => nomatch e)⟩ (XhO _) (XG (by omega)) ?_
   clear ta na ga hlev0
   rintro i t x hk2 hi2 ⟨ao, ac, css2, ⟨r0, r4, r5, r11, r12, r50, r51, r52⟩, rfl, ek2, oa, na2, fr2⟩
   obtain ⟨t0, rfl⟩ : ∃ t0, t = p0 (.pointer (some ⟨p, 0, none⟩)) (p4 (.pointer (some ⟨B1, 0, none⟩)) (p5 (.int .i64 (XhA 0)) (p11 (.int .i64 (XhA (lev + 1))) (p12 (.slice ao i ac) (p50 (.slice co vs.length cc) (p51 (.int .i64 (XhA vs.length)) (p52 (.int .i64 (XhA i)) t0))))))) := ⟨t, (show t = p0 (g0 t) (p4 (g4 t) (p5 (g5 t) (p11 (g11 t) (p12 (g12 t) (p50 (g50 t) (p51 (g51 t) (p52 (g52 t) t))))))) from rfl).trans (by rw [r0, r4, r5, r11, r12, r50, r51, r52])⟩
   clear r0 r4 r5 r11 r12 r50 r51 r52
   have lk2 := ek2.next
   by_cases hlt2 : i < vs.length
   ·obtain ⟨a2, wa2, xa2, hao2, ga2, nb2, ta2⟩ := (oc.toSlc.ext ek2).nonempty (by omega)
    obtain ⟨v, hv⟩ : ∃ v, vs[i]? = some v := ⟨_, XhL hlt2⟩
    obtain ⟨c, hc1, qo, qa, rfl, qs, qb⟩ := All2.get? chs hv
    have hload2 : nth (a2.off + i * 1) xa2 = some (.slice qo c.length qa) := by
     rw [XhI, Yf ta2 (by omega), hv]
    have habv : (above lev nds)[i]? = some ⟨[], c⟩ := by unfold above; rw [Xic, hc1]; rfl
    have htk2 : (above lev nds).take (i + 1) = (above lev nds).take i ++ [⟨[], c⟩] := by rw [Xh6, habv]; rfl
    rw [hao2]
    refine R2 ?_
    refine Xd (Yo (Xf (by conv => lhs; whnf) rfl rfl rfl (Xf (by conv => lhs; whnf) rfl rfl rfl XB))) ?_
    refine XJ (Xf (by conv => lhs; whnf) rfl rfl rfl XB) fun H220 B220 E220 L220 G220 N220 Q220 => ?_
    have G220' : H220.get B220 = some (.cells true [.int .i64 (XhA (lev + 1)), .slice none 0 0, .slice qo c.length qa]) := G220
    refine XP (oa.ext E220) rfl rfl rfl (Slc.of_get (z := 3) G220' N220 rfl).elemsAll rfl (by omega) fun ao3 ac3 h5 o5 e5 l5 f5 => ?_
    refine R ?_
    have l220 := E220.next
    have hq3 : ∀ s, s ∈ XD ao -> hc.next <= s := fun s hs => by
     obtain ⟨a, h1, rfl⟩ := Xu hs
     exact fr2 a h1
    have hul : ∀ b, b ∈ XD uo -> b < hk.next := fun b hb => by
     obtain ⟨a, h1, rfl⟩ := Xu hb
     exact ok.toSlc.lt a h1
    have hno : ∀ b, b ∈ XD uo -> b ∉ XD ao := fun b hb hm => by have := hul b hb; have := hq3 b hm; omega
    have e25 : Ext [] hc h5 := (ek2.trans0 E220).trans e5 fun s hs => .inr (hq3 s hs)
    refine ⟨hlt2, ao3, ac3, css2 ++ [[.int .i64 (XhA (lev + 1)), .slice none 0 0, .slice qo c.length qa]], by rw [<- hao2]; exact ⟨rfl, rfl, rfl, rfl, rfl, rfl, rfl, rfl⟩, rfl, e25, ?_, ?_, fun a ha => ?_⟩
    ·rw [XiF]
     simpa using o5
    ·rw [htk2]
     refine All2.append ((na2.extS E220 fun _ _ hh => nomatch hh).extS e5 hno) (.cons ⟨none, 0, qo, qa, rfl, .empty _ _, ((qs.ext ek2).ext E220).extS e5 (fun a ha => hno _ (qb a ha)), (fun a e => nomatch e), qb⟩ .nil)
    ·rcases f5 a ha with h1 | h1
     ·exact hq3 _ h1
     ·omega
   ·have hin2 : i = (above lev nds).length := by omega
    have hvl2 : vs.length = (above lev nds).length := by omega
    subst hin2
    rw [Xh7] at na2
    have hrows : Ya (f + 1) lev nds = (lev, nds) :: Ya f (lev + 1) (above lev nds) := by
     rw [Ya, if_neg (by omega)]
    refine R ?_
    obtain ⟨f', rfl⟩ : ∃ f', f = f' + 1 := ⟨f - 1, by omega⟩
    have hPU := JX L (nds.map (Nd.bytes lev))
    rw [XhP] at hPU
    have hsplit : YT (Ya (f' + 1 + 1) lev nds) = nds.map (Nd.bytes lev) ++ YT (Ya (f' + 1) (lev + 1) (above lev nds)) := by
     rw [hrows]; unfold YT; rw [Xit, XiD]
    have hL2 := hL
    have hu2 := hu
    rw [hsplit, Z4] at hL2 hu2
    have hup : ∀ b, b ∈ XD uo -> b ∉ pr /\ b < hk2.next := fun b hb => by
     obtain ⟨a, h1, rfl⟩ := Xu hb
     have := ok.toSlc.lt a h1
     exact ⟨(hu1 a h1).2.1, by omega⟩
    refine Xj (Xi rfl (ih f' (by omega) m hm hk2 p gb db lb many (XX L (nds.map (Nd.bytes lev))) pr ((sk.ext ec).ext ek2) hmany (lev + 1) (above lev nds) (by omega) hab.1 (by omega) (by omega) (above_OK hok hsum) (by rw [JI]; exact hsum) hL2 hu2 ao ac css2 (XD uo) oa.toSlc na2 hup (fun a ha hm => by have := ltk _ hm; have := fr2 a ha; omega))) ?_
    rintro v h7 ⟨rfl, pr7, s7, e7, f7⟩
    rw [hrows, rootR_cons]
    have hputs2 : XX L (YT ((lev, nds) :: Ya (f' + 1) (lev + 1) (above lev nds))) = XX (XX L (nds.map (Nd.bytes lev))) (YT (Ya (f' + 1) (lev + 1) (above lev nds))) := by
     rw [<- Z4, <- hsplit, hrows]
    rw [hputs2]
    have hd : (Xd3 (Ya (f' + 1) (lev + 1) (above lev nds))).length = 32 := root_len _ _ _ hab.1
    generalize Xd3 (Ya (f' + 1) (lev + 1) (above lev nds)) = id at hd ⊢
    have gB7 := e7.getS (by omega) hB ((ec.trans0 ek2).get0 nB gB)
    have l7 := e7.next
    refine R ?_
    refine Xm rfl rfl rfl gB7 (by rw [Xc, hd]) (by decide) (fun h10 E10 n10 G10 => ?_)
    have hp : XZ (Xa id) 0 Xr = Xa id := by
     have := Yk (k := 0) (a := []) (b := Xr) (ys := Xa id) (c := []) rfl (by rw [Xc, hd]; rfl)
     simpa using this
    rw [hp] at G10
    have hB7 : B1 ∉ pr7 := fun hm => by
     rcases f7 _ hm with h1 | h1
     ·exact hB h1
     ·omega
    refine R ?_
    refine ⟨rfl, _, Xb (Y4 rfl G10 (XK (by rw [Xc, hd]))) (Xb (Xw rfl) Xg), rfl, pr7, s7.extS E10 fun x hx hm => hB7 (XhB.1 hm ▸ hx), ?_, fun x hx => ?_⟩
    ·exact (((ek.trans0 ec).trans0 ek2).trans e7 hpr).trans E10 fun s hs => .inr (by rw [XhB.1 hs]; omega)
    ·rcases f7 x hx with h1 | h1
     ·exact hpr x h1
     ·exact .inr (by omega)
end
section
variable {E : Env} {sg : Bool} (H : Has E)
include H
theorem store_Get_miss_ok (m : Nat) (hm : 100000000 <= m) (h : Heap) (p : Nat) (po : Option Addr) (pc gb gv db lb many : Nat) (l : List Yg) (s : StoreAt h p po pc gb gv db lb many l) (hl : l.length <= 1000000) (d : List UInt8) (hd : d.length = 32) (hf : XfU l d = -1) : (enter E (ctx E (m + 15)) WF [.pointer (some ⟨p, 0, none⟩), .agg ⟨Xa d⟩] h).Wp sg fun v h' => v = .tuple ⟨[.slice none 0 0, .int .i64 (XhA 6)]⟩ /\ Ext [] h h' := by
 have gp := s.get
 obtain ⟨lt1, lt2, lt3, lt4⟩ := s.lt
 refine H.run (k := WJ) rfl rfl rfl ?_
 dsimp only [WJ]
 have t2 : XU 32 (XY 0 (Xa d)) = some (Xa d) := XK (by rw [Xc, hd])
 refine X9 ?_
 refine X2 (by conv => lhs; whnf) rfl fun H1 B1 E1 L1 G1 N1 Q1 => ?_
 refine R ?_
 have gp1 := E1.get0 (by omega) gp
 refine Xj (Xi rfl (Ug H _ _ p _ _ _ _ _ _ gp1)) ?_
 rintro v h2 ⟨rfl, rfl⟩
 refine R2 ?_
 refine Xj (Xi rfl (store_Has_ok H m hm _ p po pc gb gv db lb many l (s.ext E1) hl d hd)) ?_
 rintro v h3 ⟨rfl, e3⟩
 rw [hf, decide_eq_false (show ¬ (0 : Int) <= -1 by decide)]
 refine R ?_
 exact ⟨rfl, _, Xb (Xw rfl) (Xb (Xw rfl) Xg), rfl, E1.trans0 e3⟩
theorem store_Get_any_ok (m : Nat) (hm : 100000000 <= m) (h : Heap) (p gb db lb many : Nat) (L : List (List UInt8)) (priv : List Nat) (s : StQ h p gb db lb many L priv) (hl : L.length <= 1000000) (d : List UInt8) (hd : d.length = 32) : (enter E (ctx E (m + 15)) WF [.pointer (some ⟨p, 0, none⟩), .agg ⟨Xa d⟩] h).Wp sg fun v h' => ∃ x e, v = .tuple ⟨[x, .int .i64 (XhA e)]⟩ /\ e ≠ 1 /\ Ext [] h h' := by
 obtain ⟨po, pc, gv, l, s, rfl, rfl⟩ := s
 rw [XhP] at hl
 have hf := findY_map l d
 cases hi : (l.map (·.bs)).findIdx? (fun b => decide (Sha b = d)) with
 | none =>
  rw [hi] at hf
  refine (store_Get_miss_ok H m hm h p po pc gb gv db lb many l s hl d hd hf).mono ?_
  rintro v h' ⟨rfl, e'⟩
  exact ⟨_, 6, rfl, by decide, e'⟩
 | some i =>
  rw [hi] at hf
  rw [List.findIdx?_eq_some_iff_getElem] at hi
  obtain ⟨hlt, h1, _⟩ := hi
  rw [XhP] at hlt
  refine (Xdv H m hm h p po pc gb gv db lb many l s hl d hd i l[i] (XhL hlt) hf).mono ?_
  rintro v h' ⟨ao', ca', rfl, _, _, e'⟩
  exact ⟨_, 0, rfl, by decide, e'⟩
theorem seg_none_ok (m : Nat) (hm : 100000000 <= m) (h : Heap) (p gb db lb many : Nat) (L : List (List UInt8)) (priv : List Nat) (s : StQ h p gb db lb many L priv) (hl : L.length <= 1000000) : (enter E (ctx E (m + 16)) f_seg_none [.pointer (some ⟨p, 0, none⟩)] h).Wp sg fun v h' => v = .bool false /\ Ext [] h h' := by
 refine H.run (k := k_seg_none) rfl rfl rfl ?_
 dsimp only [k_seg_none]
 refine R ?_
 refine Xd (Yo XB) ?_
 have hz : Xr = Xa (XhY 32 0) := by rw [Yj]; rfl
 refine Xj (Xi rfl (store_Get_any_ok H m hm _ p gb db lb many L priv s hl (XhY 32 0) (by simp) |> fun k => by rw [<- hz] at k; exact k)) ?_
 rintro v h3 ⟨x, e, rfl, he, e3⟩
 refine R ?_
 exact ⟨rfl, _, Xb (Xw rfl) Xg, by show Value.bool (decide (e = 1)) = _; rw [decide_eq_false he], e3⟩
theorem seg_Build_1_ok (m : Nat) (h : Heap) (s : List UInt8) (hs : s.length <= 8000) : (enter E (ctx E m) Vt [sv s] h).Wp sg fun v h' => v = .bool false /\ Ext [] h h' := by
 refine H.run (k := Xed) rfl rfl rfl ?_
 dsimp only [Xed]
 refine R ?_
 refine Xd (l_lenStr rfl) ?_
 refine R ?_
 refine ⟨rfl, _, Xb (Xw rfl) Xg, ?_, .refl h⟩
 show Value.bool (decide (8000 < s.length)) = _
 rw [decide_eq_false (by omega)]
theorem Xdz (m : Nat) (hm : 100000000 <= m) (h : Heap) (texts : List (List UInt8)) (ao : Option Addr) (ca n : Nat) (hn : texts.length = n) (sl : Slc h 1 ao n ca (fl YU texts)) (hlen : n <= 2000) (hs : ∀ s ∈ texts, s.length <= 8000) :
  (enter E (ctx E (m + 1)) WG [.slice ao n ca, .func (.func Vt) ⟨[]⟩ ⟨[]⟩] h).Wp sg fun v h' => v = .int .i64 (-1) /\ Ext [] h h' := by
 refine H.run (k := Zf) rfl rfl rfl ?_
 dsimp only [Zf]
 refine R ?_
 refine Yl n 0 (fun i t x hk => (g0 t = (.slice ao n ca) /\ g1 t = (.func (.func Vt) ⟨[]⟩ ⟨[]⟩) /\ g7 t = (.int .i64 (XhA n)) /\ g8 t = (.int .i64 (XhA i))) /\ x = ⟨[], none, none⟩ /\ Ext [] h hk) ⟨⟨rfl, rfl, rfl, rfl⟩, rfl, .refl h⟩ (XhO _) (XG (by omega)) ?_
 rintro i t x hk hi ⟨⟨r0, r1, r7, r8⟩, rfl, ek⟩
 obtain ⟨t0, rfl⟩ : ∃ t0, t = p0 (.slice ao n ca) (p1 (.func (.func Vt) ⟨[]⟩ ⟨[]⟩) (p7 (.int .i64 (XhA n)) (p8 (.int .i64 (XhA i)) t0))) := ⟨t, (show t = p0 (g0 t) (p1 (g1 t) (p7 (g7 t) (p8 (g8 t) t))) from rfl).trans (by rw [r0, r1, r7, r8])⟩
 clear r0 r1 r7 r8
 by_cases hlt : i < n
 ·obtain ⟨a, wa, xa, hao, ga, na, ta⟩ := (sl.ext ek).nonempty (by omega)
  subst hao
  have hload : nth (a.off + i * 1) xa = some (sv (texts.getD i [])) := by
   rw [XhI, Yf ta (by omega), Xd2 (by omega)]
  have hsi : (texts.getD i []).length <= 8000 := hs _ (by
   rw [Xih, XhL (by omega)]; simp)
  generalize texts.getD i [] = s at hload hsi
  refine R2 ?_
  refine Xj (Xi rfl (seg_Build_1_ok H m _ s hsi)) ?_
  rintro v h3 ⟨rfl, e3⟩
  refine R ?_
  exact ⟨hlt, ⟨rfl, rfl, rfl, rfl⟩, rfl, ek.trans0 e3⟩
 ·refine R ?_
  exact ⟨rfl, _, Xb (Xw rfl) Xg, rfl, ek⟩
theorem Xb0 (m : Nat) (hm : 100000000 <= m) (h : Heap) (texts : List (List UInt8)) (ao : Option Addr) (ca n : Nat) (hn : texts.length = n) (sl : Slc h 1 ao n ca (fl YU texts)) (hlen : n <= 2000) (hs : ∀ s ∈ texts, s.length <= 8000) :
  (enter E (ctx E (m + 2)) Z2 [.slice ao n ca, .func (.func Vt) ⟨[]⟩ ⟨[]⟩] h).Wp sg fun v h' => v = .bool false /\ Ext [] h h' := by
 refine H.run (k := Y0) rfl rfl rfl ?_
 dsimp only [Y0]
 refine R ?_
 refine Xj (Xi rfl (Xdz H m hm _ texts ao ca n hn sl hlen hs)) ?_
 rintro v h3 ⟨rfl, e3⟩
 refine Xd (l_geqI rfl rfl rfl) ?_
 refine R ?_
 exact ⟨rfl, _, Xb (Xw rfl) Xg, rfl, e3⟩
end
def leaves (texts : List (List UInt8)) : List Nd := if texts.isEmpty then [⟨[], []⟩] else (X0 eS [] texts).map fun c => ⟨c, []⟩
def rowsT (texts : List (List UInt8)) : List (Nat × List Nd) := Ya 130 0 (leaves texts)
def Yu (texts : List (List UInt8)) : List (List UInt8) := YT (rowsT texts)
def YC (texts : List (List UInt8)) : List UInt8 := Xd3 (rowsT texts)
theorem sumM_leaf (cs : List (List (List UInt8))) : XcM (cs.map fun c => ⟨c, []⟩) = cs.flatten.length := by
 induction cs with
 | nil => rfl
 | cons c cs ih =>
  rw [XiD, XhC, <- ih]
  rfl
theorem XcQ {texts : List (List UInt8)} (ht : texts.length <= 130) (hs : ∀ s ∈ texts, s.length <= 8000) : (∀ n ∈ leaves texts, n.OK) /\ XcM (leaves texts) <= 2000 /\ 0 < (leaves texts).length /\ (leaves texts).length <= 130 := by
 unfold leaves
 cases texts with
 | nil =>
  refine ⟨fun n hn => ?_, by decide, by decide, by decide⟩
  rw [XhB.1 hn]
  exact ⟨by simp, by simp, by simp, by simp, by decide⟩
 | cons x l =>
  have e : (List.isEmpty (x :: l)) = false := rfl
  rw [e, if_neg (by decide)]
  have hfl := Y3 eS (x :: l)
  have hsum : XcM ((X0 eS [] (x :: l)).map fun c => ⟨c, []⟩) = (x :: l).length := by rw [sumM_leaf, hfl]
  have hlen := cutG_len eS_8 [] (x :: l) (by simp)
  refine ⟨fun n hn => ?_, by omega, ?_, ?_⟩
  ·have hm := many_le_sumM hn
   obtain ⟨c, hc, rfl⟩ := XhW.1 hn
   refine ⟨(hlen c hc).2, by simp, fun s hs' => hs s ?_, by simp, by omega⟩
   rw [<- hfl]
   exact XiK.2 ⟨c, hc, hs'⟩
  ·rw [XhP]
   exact List.length_pos_iff.2 (cutG_ne _ _ _ _)
  ·rw [XhP]
   have : ∀ cs : List (List (List UInt8)), (∀ c ∈ cs, 0 < c.length) -> cs.length <= cs.flatten.length := by
    intro cs
    induction cs with
    | nil => intro _; simp
    | cons c cs ih =>
     intro h
     have h1 := h c (by simp)
     have h2 := ih fun d hd => h d (by simp [hd])
     rw [XiD, XhC, Xh8]
     omega
   have := this _ fun c hc => (hlen c hc).1
   rw [hfl] at this
   omega
theorem leaves_len (texts : List (List UInt8)) : (X0 eS [] texts).length <= (leaves texts).length := by
 unfold leaves
 cases texts with
 | nil => simp [X0]
 | cons x l =>
  have e : (List.isEmpty (x :: l)) = false := rfl
  rw [e, if_neg (by decide), XhP]; exact XhE _
section
variable {E : Env} {sg : Bool} (H : Has E)
include H
set_option maxHeartbeats 4000000 in
theorem XcO (m : Nat) (hm : 100000000 <= m) (h : Heap) (p gb db lb many : Nat) (L : List (List UInt8)) (priv : List Nat) (s : StQ h p gb db lb many L priv) (hmany : many <= 65536) (texts : List (List UInt8)) (ht : texts.length <= 130) (hs : ∀ s ∈ texts, s.length <= 8000) (hL : (XX L (Yu texts)).length <= 1500) (hu : 2 + Yt (XX L (Yu texts)) < many) (ao : Option Addr) (ca : Nat) (sl : Slc h 1 ao texts.length ca (fl YU texts)) (hap : ∀ a, ao = some a -> a.block ∉ priv) :
  (enter E (ctx E (m + 129 + 1009)) f_seg_Build [.pointer (some ⟨p, 0, none⟩), .slice ao texts.length ca] h).Wp sg fun v h' => v = .tuple ⟨[.agg ⟨Xa (YC texts)⟩, .int .i64 (XhA 0)]⟩ /\ ∃ priv', StQ h' p gb db lb many (XX L (Yu texts)) priv' /\ Ext priv h h' /\ ∀ b ∈ priv', b ∈ priv \/ h.next <= b := by
 refine H.run (k := k_seg_Build) rfl rfl rfl ?_
 dsimp only [k_seg_Build]
 have lt0 := s.lt
 have hcn := leaves_len texts
 have hL1 := (Xd4 L (Yu texts)).2
 obtain ⟨hlok, hlsum, hl0, hl100⟩ := XcQ ht hs
 refine X9 ?_
 refine Xt fun H1 B1 E1 L1 G1 N1 Q1 => ?_
 refine R ?_
 refine Xj (Xi rfl (seg_none_ok H (m + 1121) (by omega) _ p gb db lb many L priv (s.ext E1) (by omega))) ?_
 rintro v h2 ⟨rfl, e2⟩
 refine R ?_
 refine Xj (Xi rfl (Xb0 H (m + 1135) (by omega) _ texts ao ca texts.length rfl (sl.ext (E1.trans0 e2)) (by omega) hs)) ?_
 rintro v h3 ⟨rfl, e3⟩
 refine R ?_
 refine XJ XB fun H20 B20 E20 L20 G20 N20 Q20 => ?_
 refine R ?_
 have e20 : Ext [] h H20 := ((E1.trans0 e2).trans0 e3).trans0 E20
 have l20 := e20.next
 refine Xj (Xi rfl (seg_cut_string_ok H (m + 131) (by omega) _ texts ao ca texts.length rfl (sl.ext e20) (by omega) (fun s hs' => by have := hs s hs'; omega))) ?_
 rintro v hc ⟨co, cc, vs, rfl, oc, chs, ec, hco⟩
 have lc := ec.next
 have hvl : vs.length = (X0 eS [] texts).length := All2.length chs
 have gB : hc.get B1 = some (.cells true Xr) := ec.get0 (by have := E20.next; have := e3.next; have := e2.next; omega) (E20.get0 (by have := e3.next; have := e2.next; omega) (e3.get0 (by have := e2.next; omega) (e2.get0 N1 G1)))
 have gN : hc.get B20 = some (.cells true []) := ec.get0 N20 G20
 have hB12 : B1 < B20 := by have := e3.next; have := e2.next; omega
 have hal : ∀ b, b ∈ XD ao -> b < h.next := fun b hb => by
  obtain ⟨a, h1, rfl⟩ := Xu hb
  exact sl.lt a h1
 have hcb : ∀ a, co = some a -> H20.next <= a.block /\ a.block < hc.next := fun a ha => ⟨hco a ha, oc.toSlc.lt a ha⟩
 refine R ?_
 refine Yl vs.length 0 (fun i t x hk => ∃ no nc css2, (g0 t = (.pointer (some ⟨p, 0, none⟩)) /\ g4 t = (.pointer (some ⟨B1, 0, none⟩)) /\ g5 t = (.int .i64 (XhA 0)) /\ g6 t = (.slice no i nc) /\ g22 t = (.slice co vs.length cc) /\ g23 t = (.int .i64 (XhA vs.length)) /\ g24 t = (.int .i64 (XhA i))) /\ x = ⟨[], none, none⟩ /\ Ext [] h hk /\ Ext [B20] hc hk /\ Own hk 3 no i nc css2.flatten /\ NdsC hk (XD ao) 0 css2 (((X0 eS [] texts).map fun c => ⟨c, []⟩).take i) /\ ∀ a, no = some a -> a.block = B20 \/ hc.next <= a.block)
  ⟨some ⟨B20, 0, none⟩, 0, [], ⟨rfl, rfl, rfl, rfl, rfl, rfl, rfl⟩, rfl, e20.trans0 ec, (Ext.refl _).mono (fun _ hh => nomatch hh), .lit gN (by omega), .nil, fun a e => by cases e; exact .inl rfl⟩ (XhO _) (XG (by omega)) ?_
 rintro i t x hk hi ⟨no, nc, css2, ⟨r0, r4, r5, r6, r22, r23, r24⟩, rfl, eh, ek, on, nds2, fr⟩
 obtain ⟨t0, rfl⟩ : ∃ t0, t = p0 (.pointer (some ⟨p, 0, none⟩)) (p4 (.pointer (some ⟨B1, 0, none⟩)) (p5 (.int .i64 (XhA 0)) (p6 (.slice no i nc) (p22 (.slice co vs.length cc) (p23 (.int .i64 (XhA vs.length)) (p24 (.int .i64 (XhA i)) t0)))))) := ⟨t, (show t = p0 (g0 t) (p4 (g4 t) (p5 (g5 t) (p6 (g6 t) (p22 (g22 t) (p23 (g23 t) (p24 (g24 t) t)))))) from rfl).trans (by rw [r0, r4, r5, r6, r22, r23, r24])⟩
 clear r0 r4 r5 r6 r22 r23 r24
 have lk := ek.next
 have lh := eh.next
 by_cases hlt : i < vs.length
 ·obtain ⟨a2, wa2, xa2, hao2, ga2, nb2, ta2⟩ := (oc.toSlc.extS ek fun a ha hm => by have := hcb a ha; have := XhB.1 hm; omega).nonempty (by omega)
  obtain ⟨v, hv⟩ : ∃ v, vs[i]? = some v := ⟨_, XhL hlt⟩
  obtain ⟨c, hc1, qo, qa, rfl, qs, qb⟩ := All2.get? chs hv
  have hload2 : nth (a2.off + i * 1) xa2 = some (.slice qo c.length qa) := by
   rw [XhI, Yf ta2 (by omega), hv]
  have habv : ((X0 eS [] texts).map fun c => (⟨c, []⟩ : Nd))[i]? = some ⟨c, []⟩ := by rw [Xic, hc1]; rfl
  have htk2 : ((X0 eS [] texts).map fun c => (⟨c, []⟩ : Nd)).take (i + 1) = ((X0 eS [] texts).map fun c => (⟨c, []⟩ : Nd)).take i ++ [⟨c, []⟩] := by rw [Xh6, habv]; rfl
  rw [hao2]
  refine R2 ?_
  refine Xd (Yo (Xf (by conv => lhs; whnf) rfl rfl rfl XB)) ?_
  refine XJ (Xf (by conv => lhs; whnf) rfl rfl rfl XB) fun H40 B40 E40 L40 G40 N40 Q40 => ?_
  have G40' : H40.get B40 = some (.cells true [.int .i64 (XhA 0), .slice qo c.length qa, .slice none 0 0]) := G40
  refine XP (on.ext E40) rfl rfl rfl (Slc.of_get (z := 3) G40' N40 rfl).elemsAll rfl (by omega) fun no2 nc2 h5 o5 e5 l5 f5 => ?_
  refine R ?_
  have l40 := E40.next
  have hq3 : ∀ s, s ∈ XD no -> s = B20 \/ hc.next <= s := fun s hs => by
   obtain ⟨a, h1, rfl⟩ := Xu hs
   exact fr a h1
  have hno : ∀ b, b ∈ XD ao -> b ∉ XD no := fun b hb hm => by
   have := hal b hb
   rcases hq3 b hm with h1 | h1 <;> omega
  refine ⟨hlt, no2, nc2, css2 ++ [[.int .i64 (XhA 0), .slice qo c.length qa, .slice none 0 0]], by rw [<- hao2]; exact ⟨rfl, rfl, rfl, rfl, rfl, rfl, rfl⟩, rfl, (eh.trans0 E40).trans e5 (fun s hs => .inr (by rcases hq3 s hs with h1 | h1 <;> omega)), (ek.trans0 E40).trans e5 (fun s hs => by rcases hq3 s hs with h1 | h1; exact .inl (XhB.2 h1); exact .inr h1), ?_, ?_, fun a ha => ?_⟩
  ·rw [XiF]
   simpa using o5
  ·rw [htk2]
   refine All2.append ((nds2.extS E40 fun _ _ hh => nomatch hh).extS e5 hno) (.cons ⟨qo, qa, none, 0, rfl, ((qs.extS ek fun a ha hm => by have := hal _ (qb a ha); have := XhB.1 hm; omega).ext E40).extS e5 (fun a ha => hno _ (qb a ha)), .empty _ _, qb, fun a e => nomatch e⟩ .nil)
  ·rcases f5 a ha with h1 | h1
   ·exact hq3 _ h1
   ·exact .inr (by omega)
 ·have hin : i = vs.length := by omega
  have hmap : ((X0 eS [] texts).map fun c => (⟨c, []⟩ : Nd)).length = vs.length := by rw [XhP, hvl]
  rw [hin, <- hmap, Xh7] at nds2
  subst hin
  refine R ?_
  cases texts with
  | nil =>
   have hv0 : vs.length = 0 := hvl
   have hvs : vs = [] := XiB hv0
   subst hvs
   have hc0 : css2 = [] := XiB (All2.length nds2)
   subst hc0
   have hB20 : hk.get B1 = some (.cells true Xr) := ek.get1 (by omega) (by omega) gB
   refine R ?_
   refine Xd (Yo XB) ?_
   refine XJ (Xf (by conv => lhs; whnf) rfl rfl rfl XB) fun H110 B110 E110 L110 G110 N110 Q110 => ?_
   have hno0 : ∀ s, s ∈ XD no -> s = B20 \/ hc.next <= s := fun s hs => by
    obtain ⟨a, h1, rfl⟩ := Xu hs
    exact fr a h1
   replace on : Own hk 3 no 0 nc ([] : List (List Value)).flatten := on
   have G110' : H110.get B110 = some (.cells true Ys) := G110
   refine XP (on.ext E110) rfl rfl rfl (Slc.of_get (z := 3) G110' N110 rfl).elemsAll rfl (by omega) fun no2 nc2 h5 o5 e5 l5 f5 => ?_
   have l110 := E110.next
   have eh2 : Ext [] h h5 := (eh.trans0 E110).trans e5 (fun s hs => .inr (by rcases hno0 s hs with h1 | h1 <;> omega))
   have hB21 : h5.get B1 = some (.cells true Xr) := e5.getS (by omega) (fun hm => by rcases hno0 _ hm with h1 | h1 <;> omega) (E110.get0 (by omega) hB20)
   have on2 : Slc h5 3 no2 (leaves []).length nc2 [Ys].flatten := by
    have := o5.toSlc
    simpa [leaves] using this
   have nds3 : NdsC h5 (XD ao) 0 [Ys] (leaves []) := .cons ⟨none, 0, none, 0, rfl, .empty _ _, .empty _ _, (fun a e => nomatch e), fun a e => nomatch e⟩ .nil
   have fr3 : ∀ a, no2 = some a -> a.block = B20 \/ hc.next <= a.block := fun a ha => by
    rcases f5 a ha with h1 | h1
    ·exact hno0 _ h1
    ·exact .inr (by omega)
   refine R ?_
   refine Xj (Xi rfl (seg_lay_ok H 129 m hm _ p gb db lb many L priv (s.ext eh2) hmany 0 (leaves ([])) (by omega) hl0 (by omega) (by omega) hlok hlsum hL hu no2 nc2 [Ys] (XD ao) on2 nds3 (fun b hb => ⟨by obtain ⟨a, h1, rfl⟩ := Xu hb; exact hap a h1, by have := hal b hb; omega⟩) (fun a ha hm => by have := lt0 _ hm; rcases fr3 a ha with h1 | h1 <;> omega))) ?_
   rintro v h7 ⟨rfl, pr7, s7, e7, f7⟩
   have l7 := e7.next
   have hd : (YC ([])).length = 32 := root_len _ _ _ hl0
   have hroot : Xd3 (Ya (129 + 1) 0 (leaves ([]))) = YC ([]) := rfl
   have hputs : YT (Ya (129 + 1) 0 (leaves ([]))) = Yu ([]) := rfl
   rw [hroot]
   rw [hputs] at s7
   generalize YC ([]) = id at hd ⊢
   have hB1p : B1 ∉ priv := fun hm => by have := lt0 _ hm; omega
   have gB7 := e7.getS (by omega) hB1p hB21
   refine R ?_
   refine Xm rfl rfl rfl gB7 (by rw [Xc, hd]) (by decide) (fun h10 E10 n10 G10 => ?_)
   have hp : XZ (Xa id) 0 Xr = Xa id := by
    have := Yk (k := 0) (a := []) (b := Xr) (ys := Xa id) (c := []) rfl (by rw [Xc, hd]; rfl)
    simpa using this
   rw [hp] at G10
   have hB7 : B1 ∉ pr7 := fun hm => by
    rcases f7 _ hm with h1 | h1
    ·exact hB1p h1
    ·omega
   refine R ?_
   refine ⟨rfl, _, Xb (Y4 rfl G10 (XK (by rw [Xc, hd]))) (Xb (Xw rfl) Xg), rfl, pr7, s7.extS E10 fun x hx hm => hB7 (XhB.1 hm ▸ hx), ?_, fun x hx => ?_⟩
   ·exact (((eh2).mono (T := priv) fun _ hh => nomatch hh).trans e7 fun s hs => .inl hs).trans E10 fun s hs => .inr (by rw [XhB.1 hs]; omega)
   ·rcases f7 x hx with h1 | h1
    ·exact .inl h1
    ·exact .inr (by omega)
  | cons x0 l0 =>
   have hv0 : vs.length ≠ 0 := by
    rw [hvl]; exact fun e => cutG_ne eS [] x0 l0 (XiB e)
   have hB20 : hk.get B1 = some (.cells true Xr) := ek.get1 (by omega) (by omega) gB
   have hlv : leaves (x0 :: l0) = (X0 eS [] (x0 :: l0)).map fun c => ⟨c, []⟩ := by unfold leaves; rfl
   have hll : vs.length = (leaves (x0 :: l0)).length := by rw [hlv]; exact hmap.symm
   rw [<- hlv] at nds2
   rw [hll] at on ⊢
   refine R ?_
   refine Xj (Xi rfl (seg_lay_ok H 129 m hm _ p gb db lb many L priv (s.ext eh) hmany 0 (leaves (x0 :: l0)) (by omega) hl0 (by omega) (by omega) hlok hlsum hL hu no nc css2 (XD ao) on.toSlc nds2 (fun b hb => ⟨by obtain ⟨a, h1, rfl⟩ := Xu hb; exact hap a h1, by have := hal b hb; omega⟩) (fun a ha hm => by have := lt0 _ hm; rcases fr a ha with h1 | h1 <;> omega))) ?_
   rintro v h7 ⟨rfl, pr7, s7, e7, f7⟩
   have l7 := e7.next
   have hd : (YC (x0 :: l0)).length = 32 := root_len _ _ _ hl0
   have hroot : Xd3 (Ya (129 + 1) 0 (leaves (x0 :: l0))) = YC (x0 :: l0) := rfl
   have hputs : YT (Ya (129 + 1) 0 (leaves (x0 :: l0))) = Yu (x0 :: l0) := rfl
   rw [hroot]
   rw [hputs] at s7
   generalize YC (x0 :: l0) = id at hd ⊢
   have hB1p : B1 ∉ priv := fun hm => by have := lt0 _ hm; omega
   have gB7 := e7.getS (by omega) hB1p hB20
   refine R ?_
   refine Xm rfl rfl rfl gB7 (by rw [Xc, hd]) (by decide) (fun h10 E10 n10 G10 => ?_)
   have hp : XZ (Xa id) 0 Xr = Xa id := by
    have := Yk (k := 0) (a := []) (b := Xr) (ys := Xa id) (c := []) rfl (by rw [Xc, hd]; rfl)
    simpa using this
   rw [hp] at G10
   have hB7 : B1 ∉ pr7 := fun hm => by
    rcases f7 _ hm with h1 | h1
    ·exact hB1p h1
    ·omega
   refine R ?_
   refine ⟨rfl, _, Xb (Y4 rfl G10 (XK (by rw [Xc, hd]))) (Xb (Xw rfl) Xg), rfl, pr7, s7.extS E10 fun x hx hm => hB7 (XhB.1 hm ▸ hx), ?_, fun x hx => ?_⟩
   ·exact (((eh).mono (T := priv) fun _ hh => nomatch hh).trans e7 fun s hs => .inl hs).trans E10 fun s hs => .inr (by rw [XhB.1 hs]; omega)
   ·rcases f7 x hx with h1 | h1
    ·exact .inl h1
    ·exact .inr (by omega)
end
end Sp
namespace Go.Eng
variable {lev : Nat}
section
variable {sg : Bool} {N : Tm -> Aux -> Heap -> Prop} {X : Nat -> Tm -> Aux -> Heap -> Prop} {R : Tm -> Aux -> Heap -> Prop}
theorem wp_toEr {r : Rz} {leave : Tm -> Aux -> Heap -> Er} {panic : Value -> List Nat -> Tm -> Aux -> Heap -> Er} {exit : Nat -> Tm -> Aux -> Heap -> Er} {ret : Tm -> Aux -> Heap -> Er} {Q : Value -> Heap -> Prop} (h : r.Wp sg N X R) (h1 : ∀ t x h, N t x h -> (leave t x h).Wp sg Q) (h2 : ∀ i t x h, X i t x h -> (exit i t x h).Wp sg Q) (h3 : ∀ t x h, R t x h -> (ret t x h).Wp sg Q) : (r.toEr leave panic exit ret).Wp sg Q := by
 induction r with
 | norm => exact h1 _ _ _ h
 | exit => exact h2 _ _ _ _ h
 | ret => exact h3 _ _ _ h
 | panic => exact h.elim
 | got => exact h.elim
 | fail => exact h.elim
 | any n k ih => exact ⟨h.1, fun i hi => ih i (h.2 i hi)⟩
theorem wp_toRz {r : Er} {ret : Value -> Heap -> Rz} {panic : List (Value × Bool) -> Heap -> Rz} {Q : Value -> Heap -> Prop} (h : r.Wp sg Q) (h1 : ∀ v h, Q v h -> (ret v h).Wp sg N X R) : (r.toRz ret panic).Wp sg N X R := by
 induction r with
 | ret => exact h1 _ _ h
 | panic => exact h.elim
 | fail => exact h.elim
 | any n k ih => exact ⟨h.1, fun i hi => ih i (h.2 i hi)⟩
def AfterR (N : Tm -> Aux -> Heap -> Prop) (X : Nat -> Tm -> Aux -> Heap -> Prop) (R : Tm -> Aux -> Heap -> Prop) (t : Tm) (x : Aux) (h : Heap) : Option Jump -> Prop
 | none => N t x h
 | some .ret => R t x h
 | some (.exit id) => X id t x h
theorem wp_range {f : Xe} {params : List Nat} {assign body : CCode} {c : Ctx} {t : Tm} {x : Aux} {h : Heap} (hx : x.round = none)
  (hc : (c.call (f t) [.func (.yield (h.next + 1)) ⟨[]⟩ ⟨[]⟩] ((h.push .mark).push (.loop ⟨.ready, none, t, params, assign, body⟩))).Wp sg fun v h' => ∃ r, h'.get (h.next + 1) = some (.loop r) /\ r.state ≠ .busy /\ AfterR N X R t ⟨.mark h.next :: x.defers, none, x.rc⟩ (h'.put (h.next + 1) (some (.loop (r.with .exhausted r.pending)))) r.pending) :
  (kRange f params assign body c t x h).Wp sg N X R := by
 unfold kRange
 rw [hx]
 show (kRangeAt f params assign body c t ⟨.mark h.next :: x.defers, none, x.rc⟩ (h.push .mark)).Wp sg N X R
 unfold kRangeAt
 refine wp_toRz hc ?_
 rintro v h' ⟨r, h1, h2, h3⟩
 show Rz.Wp (match h'.get (h.next + 1) with
   | some (.loop r) => match r.state with
    | .busy => .fail "range over a function: busy"
    | _ => match r.pending with
     | none => .norm t _ (h'.put (h.next + 1) (some (.loop (r.with .exhausted r.pending))))
     | some .ret => .ret t _ (h'.put (h.next + 1) (some (.loop (r.with .exhausted r.pending))))
     | some (.exit id) => .exit id t _ (h'.put (h.next + 1) (some (.loop (r.with .exhausted r.pending))))
   | _ => .fail "range over a function: no loop") sg N X R
 rw [h1]
 dsimp only
 have fin : ∀ j, AfterR N X R t ⟨.mark h.next :: x.defers, none, x.rc⟩ (h'.put (h.next + 1) (some (.loop (r.with .exhausted j)))) j -> Rz.Wp (match j with
     | none => .norm t ⟨.mark h.next :: x.defers, none, x.rc⟩ (h'.put (h.next + 1) (some (.loop (r.with .exhausted j))))
     | some .ret => .ret t ⟨.mark h.next :: x.defers, none, x.rc⟩ (h'.put (h.next + 1) (some (.loop (r.with .exhausted j))))
     | some (.exit id) => .exit id t ⟨.mark h.next :: x.defers, none, x.rc⟩ (h'.put (h.next + 1) (some (.loop (r.with .exhausted j))))) sg N X R := by
  intro j hj
  cases j with
  | none => exact hj
  | some j => cases j <;> exact hj
 cases hs : r.state with
 | busy => exact absurd hs h2
 | ready => exact fin _ h3
 | done => exact fin _ h3
 | exhausted => exact fin _ h3
theorem wp_yield {E : Env} {n l : Nat} {args : List Value} {h : Heap} {r : ALoop} {t' : Tm} {Q : Value -> Heap -> Prop} {cap : List Value} (hl : h.get l = some (.loop r)) (hp : setAll r.params args r.tmps = some t')
  (ha : (Eng.den r.assign (ctx E n) t' ⟨[], some l, none⟩ h).Wp sg (fun t x h1 => ∃ r1, h1.get l = some (.loop r1) /\ r1.state = .ready /\
   (Eng.den r.body (ctx E n) t x (h1.put l (some (.loop (r1.with .busy r1.pending))))).Wp sg (fun _ _ h2 => ∃ r2, h2.get l = some (.loop r2) /\ Q (.bool true) (h2.put l (some (.loop (r2.with .ready none)))))
    (fun id _ _ h2 => ∃ r2, h2.get l = some (.loop r2) /\ Q (.bool false) (h2.put l (some (.loop (r2.with .done (some (.exit id)))))))
    (fun _ _ h2 => ∃ r2, h2.get l = some (.loop r2) /\ Q (.bool false) (h2.put l (some (.loop (r2.with .done (some .ret))))))) (fun _ _ _ _ => False) (fun _ _ _ => False)) :
  ((ctx E (n + 1)).call (.func (.yield l) ⟨[]⟩ ⟨cap⟩) args h).Wp sg Q := by
 show (yieldTo (ctx E n) l args h).Wp sg Q
 have er : ∀ j h2 r2, h2.get l = some (.loop r2) -> Q (.bool j.isNone) (h2.put l (some (.loop (r2.with (match j with
  | none => .ready
  | some _ => .done) j)))) -> (endRound l j h2).Wp sg Q := by
  intro j h2 r2 hg hq
  unfold endRound
  rw [hg]
  exact hq
 unfold yieldTo
 rw [hl]
 dsimp only
 rw [hp]
 refine wp_toEr ha ?_ (fun _ _ _ _ h => h.elim) (fun _ _ _ h => h.elim)
 rintro t x h1 ⟨r1, g1, g2, hb⟩
 rw [g1]
 dsimp only
 rw [g2]
 refine wp_toEr hb ?_ ?_ ?_
 ·rintro _ _ h2 ⟨r2, k1, k2⟩; exact er none h2 r2 k1 k2
 ·rintro id _ _ h2 ⟨r2, k1, k2⟩; exact er (some (.exit id)) h2 r2 k1 k2
 ·rintro _ _ h2 ⟨r2, k1, k2⟩; exact er (some .ret) h2 r2 k1 k2
theorem wp_fnM {E : Env} {c : Ctx} {fn : XI} {args : List Value} {h : Heap} {Q : Value -> Heap -> Prop} (hl : args.length <= 255)
  (H : (fn.body c (Z8 args 0 Tm.empty) ⟨[], none, none⟩ h).Wp sg (fun t x h => (x.defers = [] /\ ∃ vs, Yx fn.res [] t h = some vs /\ Q (WL vs) h) \/ ∃ l, x.defers = [.mark l] /\ h.get l = some .mark /\ ∃ vs, Yx fn.res [] t (h.put l none) = some vs /\ Q (WL vs) (h.put l none)) (fun _ _ _ _ => False)
   (fun t x h => (x.defers = [] /\ ∃ vs, Yx fn.res [] t h = some vs /\ Q (WL vs) h) \/ ∃ l, x.defers = [.mark l] /\ h.get l = some .mark /\ ∃ vs, Yx fn.res [] t (h.put l none) = some vs /\ Q (WL vs) (h.put l none))) : (J7 E c fn args h).Wp sg Q := by
 unfold J7
 have : Nat.ble (Wy args) 255 = true := by rw [ZD, ble_iff]; exact hl
 rw [this]
 have fin : ∀ t (x : Aux) h, ((x.defers = [] /\ ∃ vs, Yx fn.res [] t h = some vs /\ Q (WL vs) h) \/ ∃ l, x.defers = [.mark l] /\ h.get l = some .mark /\ ∃ vs, Yx fn.res [] t (h.put l none) = some vs /\ Q (WL vs) (h.put l none)) -> (finish E c fn.res [] t x.defers .returning h).Wp sg Q := by
  rintro t x h (⟨h1, vs, h2, h3⟩ | ⟨l, h1, hg, vs, h2, h3⟩)
  ·rw [h1]
   show Er.Wp (match Yx fn.res [] t h with
    | some vs => Er.ret (WL vs) h
    | none => .fail "results") sg Q
   rw [h2]
   exact h3
  ·rw [h1]
   show Er.Wp (match h.get l with
    | some .mark => (match Yx fn.res [] t (h.put l none) with
     | some vs => Er.ret (WL vs) (h.put l none)
     | none => .fail "results")
    | _ => .fail "no mark") sg Q
   rw [hg]
   dsimp only
   rw [h2]
   exact h3
 exact wp_toEr H (fun t x h k => fin t x h k) (fun _ _ _ _ h => h.elim) (fun t x h k => fin t x h k)
end
end Go.Eng
namespace Sp
open Go Go.Eng
variable {lev : Nat}
def idE (id : List UInt8) : Value × Value := (.agg ⟨Xa id⟩, .agg ⟨[]⟩)
theorem many_bytes : ∀ (x d : List UInt8), x.length = d.length -> manyEq (.int .u8) (Xa x) (Xa d) = some (decide (x = d))
 | [], [], _ => rfl
 | a :: x, b :: d, h => by
  have ih := many_bytes x d (by simpa using h)
  show (match Uy (.int .u8) (byteVal a) (byteVal b) with
    | some true => manyEq (.int .u8) (Xa x) (Xa d)
    | some false => some false
    | none => none) = _
  rw [leafEq_byte]
  by_cases e : a = b
  ·subst e
   rw [decide_eq_true rfl]
   dsimp only
   rw [ih]
   congr 1
   exact decide_eq_decide.2 ⟨fun h => by rw [h], fun h => List.tail_eq_of_cons_eq h⟩
  ·rw [decide_eq_false e]
   dsimp only
   rw [decide_eq_false (fun h => e (List.head_eq_of_cons_eq h))]
theorem setEntry_ids (d : List UInt8) (hd : d.length = 32) : ∀ (ids : List (List UInt8)), (∀ i ∈ ids, i.length = 32) -> XaN (.agg ⟨Xa d⟩) (.agg ⟨[]⟩) (JL (.many 32 .u8)) (ids.map idE) = some ((if d ∈ ids then ids else ids ++ [d]).map idE)
 | [], _ => rfl
 | i :: ids, h => by
  have ih := setEntry_ids d hd ids fun j hj => h j (by simp [hj])
  have hk : JL (.many 32 .u8) (Value.agg ⟨Xa d⟩) (Value.agg ⟨Xa i⟩) = some (decide (d = i)) := many_bytes d i (by rw [hd, h i (by simp)])
  show (match JL (.many 32 .u8) (Value.agg ⟨Xa d⟩) (Value.agg ⟨Xa i⟩) with
   | some true => some ((Value.agg ⟨Xa d⟩, Value.agg ⟨[]⟩) :: ids.map idE)
   | some false => match XaN (Value.agg ⟨Xa d⟩) (Value.agg ⟨[]⟩) (JL (.many 32 .u8)) (ids.map idE) with
    | some r => some (idE i :: r)
    | none => none
   | none => none) = _
  rw [hk]
  by_cases e : d = i
  ·subst e
   rw [decide_eq_true rfl, if_pos (by simp)]; rfl
  ·rw [decide_eq_false e, ih]
   dsimp only
   by_cases hm : d ∈ ids
   ·rw [if_pos hm, if_pos (by simp [hm])]; rfl
   ·rw [if_neg hm, if_neg (by simp [e, hm])]; rfl
def insI (ids : List (List UInt8)) (d : List UInt8) : List (List UInt8) := if d ∈ ids then ids else ids ++ [d]
theorem tn_mapIds {m k x : Xe} {t : Tm} {h : Heap} {d : List UInt8} {ver mb : Nat} {ids : List (List UInt8)} (hm : m t = .map (some mb)) (hk : k t = .agg ⟨Xa d⟩) (hx : x t = .agg ⟨[]⟩) (gm : h.get mb = some (.map (.many 32 .u8) ver (ids.map idE))) (hd : d.length = 32) (hid : ∀ i ∈ ids, i.length = 32) :
  Wz (.many 32 .u8) m k x t h = some (undef, h.put mb (some (.map (.many 32 .u8) (Xid ver) ((insI ids d).map idE)))) := by
 unfold Wz
 rw [hm, hk, hx]
 have a : Wg (.many 32 .u8) (.agg ⟨Xa d⟩) = true := by have := Xek d; rw [hd] at this; exact this
 rw [a]
 show (match h.get mb with
  | some (.map sh' ver es) => bif !(XcT (.many 32 .u8) sh') then none else match XaN (.agg ⟨Xa d⟩) (.agg ⟨[]⟩) (JL (.many 32 .u8)) es with
   | some es' => some (undef, h.put mb (some (.map sh' (Xid ver) es')))
   | none => none
  | _ => none) = _
 rw [gm]
 show (match XaN (.agg ⟨Xa d⟩) (.agg ⟨[]⟩) (JL (.many 32 .u8)) (ids.map idE) with
   | some es' => some (undef, h.put mb (some (.map (.many 32 .u8) (Xid ver) es')))
   | none => none) = _
 rw [setEntry_ids d hd ids hid]
 rfl
theorem wp_dMapIds {sg : Bool} {N : Tm -> Aux -> Heap -> Prop} {X : Nat -> Tm -> Aux -> Heap -> Prop} {R : Tm -> Aux -> Heap -> Prop} {c : Ctx} {x : Aux} {idx : Nat} {un pre : List Nat} {w : Bool} {m k y : Xe} {p : Value -> Tm -> Tm} {rest : KD} {log : List (Nat × J4)} {t : Tm} {h : Heap} {d : List UInt8} {ver mb : Nat} {ids : List (List UInt8)} (hm : m t = .map (some mb)) (hk : k t = .agg ⟨Xa d⟩) (hx : y t = .agg ⟨[]⟩) (gm : h.get mb = some (.map (.many 32 .u8) ver (ids.map idE))) (hd : d.length = 32) (hid : ∀ i ∈ ids, i.length = 32) (hu : ∀ h', ZG log h' un = true)
  (H : ∀ h', Ext [mb] h h' -> h'.next = h.next -> h'.get mb = some (.map (.many 32 .u8) (Xid ver) ((insI ids d).map idE)) -> (rest ((idx, .wr h) :: log) none c (p undef t) x h').Wp sg N X R) : (XaP idx un pre w (Yi (Wz (.many 32 .u8) m k y)) p rest log none c t x h).Wp sg N X R :=
 XaW (tn_mapIds hm hk hx gm hd hid) (hu _) (H _ (.put _ _ _) rfl (Heap.get_put_eq _ _ _))
theorem insI_32 {ids : List (List UInt8)} {d : List UInt8} (hd : d.length = 32) (h : ∀ i ∈ ids, i.length = 32) : ∀ i ∈ insI ids d, i.length = 32 := by
 intro i hi
 unfold insI at hi
 split at hi
 ·exact h i hi
 ·rcases XhV.1 hi with h1 | h1
  ·exact h i h1
  ·rw [XhB.1 h1, hd]
def TrC (h : Heap) (tb p mb ver : Nat) (ids : List (List UInt8)) : Prop := h.get tb = some (.cells true [.pointer (some ⟨p, 0, none⟩), .int .i64 (XhA 0), .map (some mb)]) /\ h.get mb = some (.map (.many 32 .u8) ver (ids.map idE)) /\ tb < h.next /\ mb < h.next /\ tb ≠ mb /\ ∀ i ∈ ids, i.length = 32
structure Nd.Valid (lev : Nat) (nd : Nd) : Prop extends nd.OK where
 lv : lev <= 20
 leaf : lev = 0 -> nd.links = []
 inner : 0 < lev -> nd.texts = [] /\ nd.links ≠ []
 one : ∀ y ∈ nd.links, 1 <= y.2
theorem Nd.OK.bytes_le {nd : Nd} (h : nd.OK) (hl : lev <= 200) : (nd.bytes lev).length <= 65536 := by
 have ct := Xel (f := X4) (l := nd.texts) (k := 8004) fun x hx => encText_le (h.ts x hx)
 have cl := Xel (f := Y2) (l := nd.links) (k := 36) fun x hx => encLk_le (h.ls x hx)
 have i1 := Zs (k := lev) (by omega)
 have h1 := h.t8
 have h2 := h.l8
 have i2 := Zs (k := nd.texts.length + nd.links.length) (by omega)
 unfold Nd.bytes X3
 rw [XhC, XhC, XhC]
 omega
theorem cat_drop {α : Type} (f : α -> List UInt8) {l : List α} {i : Nat} {x : α} (hx : l[i]? = some x) : cat f (l.drop i) = f x ++ cat f (l.drop (i + 1)) := by
 have hi := (Xig.1 hx).1
 rw [List.drop_eq_getElem_cons hi, (Xig.1 hx).2]
 simp [cat]
theorem cat_split {α : Type} (f : α -> List UInt8) (l : List α) (i : Nat) : cat f l = cat f (l.take i) ++ cat f (l.drop i) := by
 rw [<- cat_append, Xiw]
section
variable {E : Env} {sg : Bool} (H : Has E)
include H
set_option maxHeartbeats 4000000 in
theorem XfW (m : Nat) (hm : 100000000 <= m) (h : Heap) (p gb db lb many : Nat) (L : List (List UInt8)) (priv : List Nat) (s : StQ h p gb db lb many L priv) (hL : L.length <= 1000000) (tb mb ver : Nat) (ids : List (List UInt8)) (tr : TrC h tb p mb ver ids) (hmb : mb ∉ priv) (lev : Nat) (nd : Nd) (hv : nd.Valid lev) (hin : nd.bytes lev ∈ L) (hone : ∀ b ∈ L, Sha b = Sha (nd.bytes lev) -> b = nd.bytes lev) :
  (enter E (ctx E (m + 17)) XgL [.pointer (some ⟨tb, 0, none⟩), .agg ⟨Xa (Sha (nd.bytes lev))⟩] h).Wp sg fun v h' => ∃ cs fp, v = .agg ⟨cs⟩ /\ NdC h' fp lev nd cs /\ (∀ b ∈ fp, h.next <= b /\ b < h'.next) /\ TrC h' tb p mb (Xid ver) (insI ids (Sha (nd.bytes lev))) /\ Ext [mb] h h' := by
 refine H.run (k := XbY) rfl rfl rfl ?_
 dsimp only [XbY]
 obtain ⟨gt, gm, lt1, lt2, tne, hid⟩ := tr
 have hd := X5 (nd.bytes lev)
 have t2 : XU 32 (XY 0 (Xa (Sha (nd.bytes lev)))) = some (Xa (Sha (nd.bytes lev))) := XK (by rw [Xc, hd])
 refine X9 ?_
 refine X2 (by conv => lhs; whnf) rfl fun H1 B1 E1 L1 G1 N1 Q1 => ?_
 refine Xt fun H2 B2 E2 L2 G2 N2 Q2 => ?_
 refine R ?_
 have T3 := E1.get0 (by omega) gt
 have T4 := E2.get0 (by omega) T3
 refine R2 ?_
 have T5 := E2.get0 (by omega) G1
 refine R2 ?_
 have lt0 := s.lt
 refine YL (Xi rfl (store_Get_ok H (m + 1) (by omega) _ p gb db lb many L priv (s.ext (E1.trans0 E2)) hL (nd.bytes lev) hin hone)) (fun _ _ _ => rfl) ?_
 rintro v h3 ⟨ao, ca, rfl, o3, f3, e3⟩
 have l3 := e3.next
 have hbl := hv.toOK.bytes_le (lev := lev) (by have := hv.lv; omega)
 have hlv := hv.lv
 refine R ?_
 refine Xj (Xi rfl (word_Open_ok H (m + 16) _ (nd.bytes lev) ao _ ca rfl o3.toSlc (by omega))) ?_
 rintro v h4 ⟨b, ao', ca', rfl, r4, hb4, ho4, e4⟩
 have l4 := e4.next
 refine R ?_
 have henc : nd.bytes lev = XA lev ++ (XA (nd.texts.length + nd.links.length) ++ (cat X4 nd.texts ++ cat Y2 nd.links)) := rfl
 refine Xj (Xi rfl (Xdq H (m + 11) (by omega) _ b ao' ca' (nd.bytes lev) _ 0 0 20 lev r4 henc (by omega) hlv (by omega) (by omega))) ?_
 rintro v h5 ⟨rfl, r5, e5⟩
 have l5 := e5.next
 refine Xd (Yo (Xf (by conv => lhs; whnf) rfl rfl rfl XB)) ?_
 refine Xt fun H30 B30 E30 L30 G30 N30 Q30 => ?_
 refine Xm rfl (by conv => lhs; whnf) rfl G30 rfl (XhH rfl) fun H31 E31 L31 G31 => ?_
 refine R ?_
 have hb5 := r5.lt
 have e31 := E30.trans1 E31 (by omega)
 have l31 := e31.next
 have gO5 : H31.get B2 = some (.cells true Ys) := e31.get0 (by omega) (e5.get1 (by omega) (by omega) (e4.get0 (by omega) (e3.get0 (by omega) G2)))
 have gI5 : H31.get B1 = some (.cells true (Xa (Sha (nd.bytes lev)))) := e31.get0 (by omega) (e5.get1 (by omega) (by omega) (e4.get0 (by omega) (e3.get0 (by omega) (E2.get0 (by omega) G1))))
 have hdrop1 : (nd.bytes lev).drop (0 + (XA lev).length) = XA (nd.texts.length + nd.links.length) ++ (cat X4 nd.texts ++ cat Y2 nd.links) := by rw [henc, XhT, XiM]
 have h8 : nd.texts.length + nd.links.length <= 8 := by
  rcases Nat.eq_zero_or_pos lev with h0 | h0
  ·rw [hv.leaf h0]; have := hv.t8; simpa using this
  ·rw [(hv.inner h0).1]; have := hv.l8; simpa using this
 refine Xj (Xi rfl (word_Reader_Count_ok H (m + 11) (by omega) _ b ao' ca' (nd.bytes lev) _ _ 8 _ (r5.ext e31) hdrop1 h8 (by omega) (by omega))) ?_
 rintro v h6 ⟨rfl, r6, e6⟩
 have l6 := e6.next
 have gO6 := e6.get1 (b := B2) (by omega) (by omega) gO5
 have gI6 := e6.get1 (b := B1) (by omega) (by omega) gI5
 have G6 : h6.get B30 = some (.cells true [.int .i64 (XhA lev), .slice none 0 0, .slice none 0 0]) := e6.get1 (by omega) (by have := e5.next; omega) G31
 have hdrop2 : (nd.bytes lev).drop (0 + (XA lev).length + (XA (nd.texts.length + nd.links.length)).length) = cat X4 nd.texts ++ cat Y2 nd.links := by
  rw [<- Xip, hdrop1, XiM]
 generalize 0 + (XA lev).length + (XA (nd.texts.length + nd.links.length)).length = p1 at r6 hdrop2
 have hp1 : p1 + (cat X4 nd.texts ++ cat Y2 nd.links).length = (nd.bytes lev).length := by
  rw [<- hdrop2, Xif]; have := r6.le; omega
 have eA : Ext [] h h6 := (((((E1.trans0 E2).trans0 e3).trans0 e4).trans1 e5 (by have := e3.next; omega)).trans0 e31).trans1 e6 (by have := e3.next; omega)
 refine R ?_
 have hao5 : ∀ a, ao' = some a -> a.block < h4.next := fun a ha => r4.sl.lt a ha
 by_cases h0 : lev = 0
 ·have hlk := hv.leaf h0
  have hk : nd.texts.length + nd.links.length = nd.texts.length := by rw [hlk]; rfl
  rw [hlk, show cat Y2 ([] : List Lk) = [] from rfl, Xij] at hdrop2 hp1
  subst h0
  rw [hk]
  refine Yl nd.texts.length 0 (fun i t x hk => ∃ to tc, (g0 t = (.pointer (some ⟨tb, 0, none⟩)) /\ g3 t = (.pointer (some ⟨B1, 0, none⟩)) /\ g4 t = (.pointer (some ⟨B2, 0, none⟩)) /\ g7 t = (.pointer (some ⟨b, 0, none⟩)) /\ g8 t = (.pointer (some ⟨B30, 0, none⟩)) /\ g30 t = (.int .i64 (XhA nd.texts.length)) /\ g31 t = (.int .i64 (XhA i))) /\ x = ⟨[], none, none⟩ /\ Ext [] h hk /\ Ext [b, B30] h6 hk /\ Own hk 1 to i tc (fl YU (nd.texts.take i)) /\ hk.get B30 = some (.cells true [.int .i64 (XhA 0), .slice to i tc, .slice none 0 0]) /\ (∀ a, to = some a -> h6.next <= a.block) /\ Rd hk b ao' ca' (nd.bytes 0) (p1 + (cat X4 (nd.texts.take i)).length))
   ⟨none, 0, ⟨rfl, rfl, rfl, rfl, rfl, rfl, rfl⟩, rfl, eA, (Ext.refl _).mono (fun _ hh => nomatch hh), .empty _ _, G6, (fun a e => nomatch e), r6⟩ (XhO _) (XG (by omega)) ?_
  rintro i t x hk1 hi ⟨to, tc, ⟨r0, r3, r4, r7, r8, r30, r31⟩, rfl, eh, ek, oo, gB, fr, rd⟩
  obtain ⟨t0, rfl⟩ : ∃ t0, t = p0 (.pointer (some ⟨tb, 0, none⟩)) (p3 (.pointer (some ⟨B1, 0, none⟩)) (p4 (.pointer (some ⟨B2, 0, none⟩)) (p7 (.pointer (some ⟨b, 0, none⟩)) (p8 (.pointer (some ⟨B30, 0, none⟩)) (p30 (.int .i64 (XhA nd.texts.length)) (p31 (.int .i64 (XhA i)) t0)))))) := ⟨t, (show t = p0 (g0 t) (p3 (g3 t) (p4 (g4 t) (p7 (g7 t) (p8 (g8 t) (p30 (g30 t) (p31 (g31 t) t)))))) from rfl).trans (by rw [r0, r3, r4, r7, r8, r30, r31])⟩
  clear r0 r3 r4 r7 r8 r30 r31
  have lk := ek.next
  have lh := eh.next
  by_cases hlt : i < nd.texts.length
  ·obtain ⟨s1, hsg⟩ : ∃ s1, nd.texts[i]? = some s1 := ⟨_, XhL hlt⟩
   have hs1 := hv.ts _ (Xh5 hsg)
   have hrest : (nd.bytes 0).drop (p1 + (cat X4 (nd.texts.take i)).length) = XA s1.length ++ (s1 ++ cat X4 (nd.texts.drop (i + 1))) := by
    rw [<- Xip, hdrop2, cat_split X4 nd.texts i, XiM, cat_drop X4 hsg]
    unfold X4
    rw [Xh1]
   have nB : B30 < hk1.next := by omega
   have hbB : B30 ≠ b := by omega
   refine R2 ?_
   refine YL (Xi rfl (word_Reader_Text_ok H (sg := true) (m + 11) (by omega) _ b ao' ca' (nd.bytes 0) s1 _ _ 8000 rd hrest hs1 (by omega))) (fun v h' ⟨_, _, q⟩ => YI rfl (XH (XQ rfl (q.get1 nB hbB gB) rfl) rfl) rfl) ?_
   rintro v h7 ⟨rfl, r7, e7⟩
   have l7 := e7.next
   have hto : ∀ a, to = some a -> a.block ≠ b /\ a.block ≠ B30 := fun a ha => by have := fr a ha; omega
   have o7 := oo.extS e7 fun a ha hm => (hto a ha).1 (XhB.1 hm)
   have gB7 := e7.get1 nB hbB gB
   refine Xak (Xf (by conv => lhs; whnf) rfl rfl rfl XB) (fun _ => rfl) fun H60 B60 E60 L60 G60 N60 Q60 => ?_
   refine WM (o7.ext E60) rfl rfl rfl (Slc.of_get (z := 1) G60 N60 rfl).elemsAll rfl (by have := hv.t8; omega) (fun _ => rfl) fun to2 tc2 h8 o8 e8 l8 f8 => ?_
   have gB8 := e8.getS (by have := E60.next; omega) (fun hm => by obtain ⟨a, h1, h2⟩ := Xu hm; exact (hto a h1).2 h2) (E60.get0 (by omega) gB7)
   refine R ?_
   refine Yw rfl (by conv => lhs; whnf) rfl gB8 rfl (XhH rfl) (fun _ => rfl) fun H70 E70 L70 G70 => ?_
   refine R ?_
   have l60 := E60.next
   have l8 := e8.next
   have hq3 : ∀ s, s ∈ XD to -> h6.next <= s := fun s hs => by
    obtain ⟨a, h1, rfl⟩ := Xu hs
    exact fr a h1
   have eT0 : Ext [] h H70 := ((((eh.trans1 e7 (by omega)).trans0 E60).trans e8 fun s hs => .inr (by have := hq3 s hs; omega)).trans1 E70 (by omega))
   refine ⟨hlt, to2, tc2, ⟨rfl, rfl, rfl, rfl, rfl, rfl, rfl⟩, rfl, eT0, ?_, ?_, G70, fun a ha => ?_, ?_⟩
   ·exact (((ek.trans (e7.mono (T := [b, B30]) fun s hs => .inl (by rw [XhB.1 hs]; simp)) fun s hs => .inl hs).trans0 E60).trans e8 fun s hs => .inr (hq3 s hs)).trans (E70.mono (T := [b, B30]) fun s hs => .inl (by rw [XhB.1 hs]; simp)) fun s hs => .inl hs
   ·have : fl YU (nd.texts.take (i + 1)) = fl YU (nd.texts.take i) ++ [sv s1] := by rw [Xh6, hsg, Us]; rfl
    rw [this]
    refine o8.extS E70 fun a ha hm => ?_
    have := XhB.1 hm
    rcases f8 a ha with h1 | h1
    ·obtain ⟨a1, h2, h3⟩ := Xu h1
     have := (hto a1 h2).2
     omega
    ·omega
   ·rcases f8 a ha with h1 | h1
    ·exact hq3 _ h1
    ·omega
   ·have hcl : (cat X4 (nd.texts.take (i + 1))).length = (cat X4 (nd.texts.take i)).length + (XA s1.length).length + s1.length := by
     rw [XfV X4 hsg, XhC]; unfold X4; rw [XhC]; omega
    rw [show p1 + (cat X4 (nd.texts.take (i + 1))).length = p1 + (cat X4 (nd.texts.take i)).length + (XA s1.length).length + s1.length by omega]
    refine ((r7.ext E60).extS e8 (fun hm => by have := hq3 _ hm; omega) fun a ha hm => by have := hq3 _ hm; have := hao5 a ha; omega).ext1' E70 (by omega) fun a ha => by have := hao5 a ha; omega
  ·have hin : i = nd.texts.length := by omega
   subst hin
   rw [Xh7] at oo rd
   rw [hp1] at rd
   refine R ?_
   refine Xj (Xi rfl (Xdr H (m + 14) _ b ao' ca' (nd.bytes 0) rd (by omega))) ?_
   rintro v h9 ⟨rfl, e9⟩
   have l9 := e9.next
   have gB9 := e9.get0 (by omega) gB
   refine Xd (l_field1 rfl rfl) ?_
   refine R2 ?_
   have o9 := oo.extS e9 fun _ _ hm => nomatch hm
   have mn := hv.mn
   unfold Nd.many at mn
   rw [hlk] at mn
   have hs0 : Y7 ([] : List Lk) = 0 := rfl
   refine Xj (Xi rfl (Ut H (m + 16) (by omega) _ 0 to none nd.texts.length tc 0 [] (fun _ h => nomatch h) (.empty _ _) (by omega) (by simp))) ?_
   rintro v h10 ⟨rfl, e10⟩
   have gI9 := e10.get0 (by have := e9.next; omega) (e9.get0 (by omega) (ek.getS (b := B1) (by omega) (fun hm => by rcases XhQ.1 hm with h1 | h1; omega; have := XhB.1 h1; omega) gI6))
   have gO9 := e10.get0 (by have := e9.next; omega) (e9.get0 (by omega) (ek.getS (b := B2) (by omega) (fun hm => by rcases XhQ.1 hm with h1 | h1; omega; have := XhB.1 h1; omega) gO6))
   refine R ?_
   have T120 := eA.get0 (by omega) gt
   have T122 := eh.get0 (by omega) gt
   have T123 := e9.get0 (by omega) T122
   have T124 := e10.get0 (by omega) T123
   refine R2 ?_
   refine Xk (Yo XB) rfl ?_
   have l10 := e10.next
   have eh10 := (eh.trans0 e9).trans0 e10
   have gm10 := eh10.get0 lt2 gm
   have gB10 := e10.get0 (by omega) gB9
   have gt10 := eh10.get0 lt1 gt
   refine wp_dMapIds rfl rfl rfl gm10 hd hid (fun _ => rfl) fun h11 e11 n11 g11 => ?_
   have gB11 := e11.get1 (b := B30) (by omega) (by omega) gB10
   have g211 := e11.get1 (by omega) (by omega) gO9
   refine R2 ?_
   refine Xm rfl (by conv => lhs; whnf) rfl g211 rfl (XhH rfl) fun H130 E130 L130 G130 => ?_
   refine R ?_
   have l11 := e11.next
   have l12 := E130.next
   have o11 := (o9.extS e10 fun _ _ hm => nomatch hm).extS e11 fun a ha hm => by have := fr a ha; have := XhB.1 hm; omega
   have o12 := o11.extS E130 fun a ha hm => by have := fr a ha; have := XhB.1 hm; omega
   refine ⟨rfl, _, Xb (Y4 (cs := [.int .i64 (XhA 0), .slice to nd.texts.length tc, .slice none 0 0]) rfl G130 rfl) Xg, [.int .i64 (XhA 0), .slice to nd.texts.length tc, .slice none 0 0], XD to, rfl, ⟨to, tc, none, 0, by rw [hlk]; rfl, o12.toSlc, by rw [hlk]; exact .empty _ _, fun a ha => by rw [ha]; exact XhB.2 rfl, fun a ha => nomatch ha⟩, fun s hs => ?_, ⟨?_, ?_, ?_, ?_, tne, insI_32 hd hid⟩, ?_⟩
   ·obtain ⟨a, h1, rfl⟩ := Xu hs
    have := fr a h1
    have := o12.toSlc.lt a h1
    omega
   ·exact E130.get1 (by omega) (by omega) (e11.get1 (by omega) tne gt10)
   ·exact E130.get1 (by omega) (by omega) g11
   ·omega
   ·omega
   ·exact ((eh10.mono (T := [mb]) (fun s hs => nomatch hs)).trans e11 fun s hs => .inl hs).trans E130 fun s hs => .inr (by have := XhB.1 hs; omega)
 ·obtain ⟨l0, rfl⟩ : ∃ l0, lev = l0 + 1 := ⟨lev - 1, by omega⟩
  obtain ⟨htx, hne⟩ := hv.inner (by omega)
  have hkk : nd.texts.length + nd.links.length = nd.links.length := by rw [htx]; exact XhT _
  rw [htx, show cat X4 ([] : List (List UInt8)) = [] from rfl, Xib] at hdrop2 hp1
  rw [hkk]
  refine Yl nd.links.length 0 (fun i t x hk => ∃ to tc, (g0 t = (.pointer (some ⟨tb, 0, none⟩)) /\ g3 t = (.pointer (some ⟨B1, 0, none⟩)) /\ g4 t = (.pointer (some ⟨B2, 0, none⟩)) /\ g7 t = (.pointer (some ⟨b, 0, none⟩)) /\ g8 t = (.pointer (some ⟨B30, 0, none⟩)) /\ g30 t = (.int .i64 (XhA nd.links.length)) /\ g31 t = (.int .i64 (XhA i))) /\ x = ⟨[], none, none⟩ /\ Ext [] h hk /\ Ext [b, B30] h6 hk /\ Own hk 33 to i tc (fl Yh (nd.links.take i)) /\ hk.get B30 = some (.cells true [.int .i64 (XhA (l0 + 1)), .slice none 0 0, .slice to i tc]) /\ (∀ a, to = some a -> h6.next <= a.block) /\ Rd hk b ao' ca' (nd.bytes (l0 + 1)) (p1 + (cat Y2 (nd.links.take i)).length))
   ⟨none, 0, ⟨rfl, rfl, rfl, rfl, rfl, rfl, rfl⟩, rfl, eA, (Ext.refl _).mono (fun _ hh => nomatch hh), .empty _ _, G6, (fun a e => nomatch e), r6⟩ (XhO _) (XG (by omega)) ?_
  rintro i t x hk1 hi ⟨to, tc, ⟨r0, r3, r4, r7, r8, r30, r31⟩, rfl, eh, ek, oo, gB, fr, rd⟩
  obtain ⟨t0, rfl⟩ : ∃ t0, t = p0 (.pointer (some ⟨tb, 0, none⟩)) (p3 (.pointer (some ⟨B1, 0, none⟩)) (p4 (.pointer (some ⟨B2, 0, none⟩)) (p7 (.pointer (some ⟨b, 0, none⟩)) (p8 (.pointer (some ⟨B30, 0, none⟩)) (p30 (.int .i64 (XhA nd.links.length)) (p31 (.int .i64 (XhA i)) t0)))))) := ⟨t, (show t = p0 (g0 t) (p3 (g3 t) (p4 (g4 t) (p7 (g7 t) (p8 (g8 t) (p30 (g30 t) (p31 (g31 t) t)))))) from rfl).trans (by rw [r0, r3, r4, r7, r8, r30, r31])⟩
  clear r0 r3 r4 r7 r8 r30 r31
  have lk := ek.next
  have lh := eh.next
  by_cases hlt : i < nd.links.length
  ·obtain ⟨s1, hsg⟩ : ∃ s1, nd.links[i]? = some s1 := ⟨_, XhL hlt⟩
   obtain ⟨id1, n1⟩ := s1
   have hs1 := hv.ls _ (Xh5 hsg)
   have ho1 : 1 <= n1 := hv.one _ (Xh5 hsg)
   have hi1 : id1.length = 32 := hs1.1
   have hn1 : n1 <= 2000 := hs1.2
   have hrest : (nd.bytes (l0 + 1)).drop (p1 + (cat Y2 (nd.links.take i)).length) = id1 ++ (XA n1 ++ cat Y2 (nd.links.drop (i + 1))) := by
    rw [<- Xip, hdrop2, cat_split Y2 nd.links i, XiM, cat_drop Y2 hsg]
    unfold Y2
    rw [Xh1]
   have hrest2 : (nd.bytes (l0 + 1)).drop (p1 + (cat Y2 (nd.links.take i)).length + 32) = XA n1 ++ cat Y2 (nd.links.drop (i + 1)) := by
    rw [<- Xip, hrest, <- hi1, XiM]
   have nB : B30 < hk1.next := by omega
   have hbB : B30 ≠ b := by omega
   refine R2 ?_
   refine YL (Xi rfl (word_Reader_ID_ok H (sg := true) (m + 11) _ b ao' ca' (nd.bytes (l0 + 1)) id1 _ _ rd hrest hi1 (by omega))) (fun v h' ⟨_, _, q⟩ => YI rfl (XH (XQ rfl (q.get1 nB hbB gB) rfl) rfl) rfl) ?_
   rintro v h6' ⟨rfl, r6', e6'⟩
   have l6' := e6'.next
   have gB6' := e6'.get1 nB hbB gB
   have nB6 : B30 < h6'.next := by omega
   refine R ?_
   refine YL (Xi rfl (Xdq H (sg := true) (m + 11) (by omega) _ b ao' ca' (nd.bytes (l0 + 1)) _ _ 1 2000 n1 r6' hrest2 ho1 hn1 (by omega) (by omega))) (fun v h' ⟨_, _, q⟩ => YI rfl (XH (XQ rfl (q.get1 nB6 hbB gB6') rfl) rfl) rfl) ?_
   rintro v h7 ⟨rfl, r7, e7'⟩
   have e7 := e6'.trans e7' fun s hs => .inl hs
   have l7 := e7.next
   have hto : ∀ a, to = some a -> a.block ≠ b /\ a.block ≠ B30 := fun a ha => by have := fr a ha; omega
   have o7 := oo.extS e7 fun a ha hm => (hto a ha).1 (XhB.1 hm)
   have gB7 := e7.get1 nB hbB gB
   have e33 : XZ [Value.int .i64 (XhA n1)] 32 (XZ (Xa id1) 0 q_5ccab404) = Yh (id1, n1) := by
    have hb := Xc id1
    have h1 := Yk (k := 0) (a := []) (b := q_5ccab404.take 32) (ys := Xa id1) (c := q_5ccab404.drop 32) rfl (by rw [hb, hi1]; rfl)
    rw [Xiw] at h1
    rw [Xib] at h1
    rw [h1]
    have h2 := Yk (k := 32) (a := Xa id1) (b := q_5ccab404.drop 32) (ys := [Value.int .i64 (XhA n1)]) (c := []) (by rw [hb, hi1]) rfl
    rw [Xij] at h2
    simp only [Xib]
    rw [h2, Xij]; rfl
   have hel : (Yh (id1, n1)).length = 33 := YS hs1
   refine Xk (Yo ((Xf rfl rfl (by rw [Xc, hi1]) (by decide) (Xf rfl rfl rfl (by rw [Uj _ _ _ (by rw [Xc, hi1]; decide)]; rfl) XB)).trans (congrArg some e33))) rfl ?_
   refine Xak (Xf (by conv => lhs; whnf) rfl (by first | rfl | assumption) (by first | rfl | assumption) XB) (fun _ => rfl) fun H60 B60 E60 L60 G60 N60 Q60 => ?_
   have hput : XZ (Yh (id1, n1)) 0 q_5ccab404 = Yh (id1, n1) := by
    have := Yk (k := 0) (a := []) (b := q_5ccab404) (ys := Yh (id1, n1)) (c := []) rfl hel
    simpa using this
   rw [hput] at G60
   refine WM (o7.ext E60) rfl rfl rfl (Slc.of_get (z := 33) (n := 1) G60 N60 hel).elemsAll (by rw [hel]) (by have := hv.l8; omega) (fun _ => rfl) fun to2 tc2 h8 o8 e8 l8 f8 => ?_
   have gB8 := e8.getS (by have := E60.next; omega) (fun hm => by obtain ⟨a, h1, h2⟩ := Xu hm; exact (hto a h1).2 h2) (E60.get0 (by omega) gB7)
   refine R ?_
   refine Yw rfl (by conv => lhs; whnf) rfl gB8 rfl (XhH rfl) (fun _ => rfl) fun H70 E70 L70 G70 => ?_
   refine R ?_
   have l60 := E60.next
   have l8 := e8.next
   have hq3 : ∀ s, s ∈ XD to -> h6.next <= s := fun s hs => by
    obtain ⟨a, h1, rfl⟩ := Xu hs
    exact fr a h1
   have eT0 : Ext [] h H70 := ((((eh.trans1 e7 (by omega)).trans0 E60).trans e8 fun s hs => .inr (by have := hq3 s hs; omega)).trans1 E70 (by omega))
   refine ⟨hlt, to2, tc2, ⟨rfl, rfl, rfl, rfl, rfl, rfl, rfl⟩, rfl, eT0, ?_, ?_, G70, fun a ha => ?_, ?_⟩
   ·exact (((ek.trans (e7.mono (T := [b, B30]) fun s hs => .inl (by rw [XhB.1 hs]; simp)) fun s hs => .inl hs).trans0 E60).trans e8 fun s hs => .inr (hq3 s hs)).trans (E70.mono (T := [b, B30]) fun s hs => .inl (by rw [XhB.1 hs]; simp)) fun s hs => .inl hs
   ·have : fl Yh (nd.links.take (i + 1)) = fl Yh (nd.links.take i) ++ Yh (id1, n1) := by rw [Xh6, hsg, Us]; show _ ++ (Yh (id1, n1) ++ []) = _; rw [Xij]
    rw [this]
    refine o8.extS E70 fun a ha hm => ?_
    have := XhB.1 hm
    rcases f8 a ha with h1 | h1
    ·obtain ⟨a1, h2, h3⟩ := Xu h1
     have := (hto a1 h2).2
     omega
    ·omega
   ·rcases f8 a ha with h1 | h1
    ·exact hq3 _ h1
    ·omega
   ·have hcl : (cat Y2 (nd.links.take (i + 1))).length = (cat Y2 (nd.links.take i)).length + 32 + (XA n1).length := by
     rw [XfV Y2 hsg, XhC]; unfold Y2; rw [XhC]; show _ + (id1.length + (XA n1).length) = _; rw [hi1]; omega
    rw [show p1 + (cat Y2 (nd.links.take (i + 1))).length = p1 + (cat Y2 (nd.links.take i)).length + 32 + (XA n1).length by omega]
    refine ((r7.ext E60).extS e8 (fun hm => by have := hq3 _ hm; omega) fun a ha hm => by have := hq3 _ hm; have := hao5 a ha; omega).ext1' E70 (by omega) fun a ha => by have := hao5 a ha; omega
  ·have hin : i = nd.links.length := by omega
   subst hin
   rw [Xh7] at oo rd
   rw [hp1] at rd
   refine R ?_
   refine Xj (Xi rfl (Xdr H (m + 14) _ b ao' ca' (nd.bytes (l0 + 1)) rd (by omega))) ?_
   rintro v h9 ⟨rfl, e9⟩
   have l9 := e9.next
   have gB9 := e9.get0 (by omega) gB
   obtain ⟨k, hk⟩ : ∃ k, nd.links.length = k + 1 := by
    cases hc : nd.links with
    | nil => exact absurd hc hne
    | cons x l => exact ⟨l.length, rfl⟩
   rw [hk] at gB9
   refine Xd (l_field1 rfl rfl) ?_
   refine R2 ?_
   have o9 := oo.extS e9 fun _ _ hm => nomatch hm
   have mn := hv.mn
   unfold Nd.many at mn
   have hnl : nd.texts.length = 0 := by rw [htx]; rfl
   have nm := Ut (sg := sg) H (m + 16) (by omega) h9 (l0 + 1) none to 0 0 tc nd.links hv.ls o9.toSlc (by omega) (by have := hv.l8; omega)
   rw [hk] at nm
   refine Xj (Xi rfl nm) ?_
   rintro v h10 ⟨rfl, e10⟩
   have gI9 := e10.get0 (by have := e9.next; omega) (e9.get0 (by omega) (ek.getS (b := B1) (by omega) (fun hm => by rcases XhQ.1 hm with h1 | h1; omega; have := XhB.1 h1; omega) gI6))
   have gO9 := e10.get0 (by have := e9.next; omega) (e9.get0 (by omega) (ek.getS (b := B2) (by omega) (fun hm => by rcases XhQ.1 hm with h1 | h1; omega; have := XhB.1 h1; omega) gO6))
   refine R ?_
   have T120 := eA.get0 (by omega) gt
   have T122 := eh.get0 (by omega) gt
   have T123 := e9.get0 (by omega) T122
   have T124 := e10.get0 (by omega) T123
   refine R2 ?_
   refine Xk (Yo XB) rfl ?_
   have l10 := e10.next
   have eh10 := (eh.trans0 e9).trans0 e10
   have gm10 := eh10.get0 lt2 gm
   have gB10 := e10.get0 (by omega) gB9
   have gt10 := eh10.get0 lt1 gt
   refine wp_dMapIds rfl rfl rfl gm10 hd hid (fun _ => rfl) fun h11 e11 n11 g11 => ?_
   have gB11 := e11.get1 (b := B30) (by omega) (by omega) gB10
   have g211 := e11.get1 (by omega) (by omega) gO9
   refine R2 ?_
   refine Xm rfl (by conv => lhs; whnf) rfl g211 rfl (XhH rfl) fun H130 E130 L130 G130 => ?_
   refine R ?_
   have l11 := e11.next
   have l12 := E130.next
   have o11 := (o9.extS e10 fun _ _ hm => nomatch hm).extS e11 fun a ha hm => by have := fr a ha; have := XhB.1 hm; omega
   have o12 := o11.extS E130 fun a ha hm => by have := fr a ha; have := XhB.1 hm; omega
   refine ⟨rfl, _, Xb (Y4 (cs := [.int .i64 (XhA (l0 + 1)), .slice none 0 0, .slice to (k + 1) tc]) rfl G130 rfl) Xg, [.int .i64 (XhA (l0 + 1)), .slice none 0 0, .slice to (k + 1) tc], XD to, rfl, ⟨none, 0, to, tc, by rw [htx, hk]; rfl, by rw [htx]; exact .empty _ _, by have := o12.toSlc; exact this, (fun a ha => nomatch ha), fun a ha => by rw [ha]; exact XhB.2 rfl⟩, fun s hs => ?_, ⟨?_, ?_, ?_, ?_, tne, insI_32 hd hid⟩, ?_⟩
   ·obtain ⟨a, h1, rfl⟩ := Xu hs
    have := fr a h1
    have := o12.toSlc.lt a h1
    omega
   ·exact E130.get1 (by omega) (by omega) (e11.get1 (by omega) tne gt10)
   ·exact E130.get1 (by omega) (by omega) g11
   ·omega
   ·omega
   ·exact ((eh10.mono (T := [mb]) (fun s hs => nomatch hs)).trans e11 fun s hs => .inl hs).trans E130 fun s hs => .inr (by have := XhB.1 hs; omega)
end
def TreeP (L : List (List UInt8)) : Nat -> Nd -> List (List UInt8) -> List (List UInt8) -> Prop
 | 0, nd, ts, is => nd.Valid 0 /\ nd.bytes 0 ∈ L /\ ts = nd.texts /\ is = [Sha (nd.bytes 0)]
 | lev + 1, nd, ts, is => nd.Valid (lev + 1) /\ nd.bytes (lev + 1) ∈ L /\ ∃ kids : List (Nd × List (List UInt8) × List (List UInt8)), nd.links = kids.map (fun k => k.1.link lev) /\ (∀ k ∈ kids, TreeP L lev k.1 k.2.1 k.2.2) /\ ts = (kids.map (·.2.1)).flatten /\ is = Sha (nd.bytes (lev + 1)) :: (kids.map (·.2.2)).flatten
abbrev Kid := Nd × List (List UInt8) × List (List UInt8)
def KS (ks : List Kid) : List (List UInt8) := (ks.map (·.2.1)).flatten
def XfX (ks : List Kid) : List (List UInt8) := (ks.map (·.2.2)).flatten
theorem TreeP.gen {L : List (List UInt8)} {nd : Nd} {ts is : List (List UInt8)} (h : TreeP L lev nd ts is) : nd.Valid lev /\ nd.bytes lev ∈ L /\ ∃ kids : List Kid, nd.links = kids.map (fun k => k.1.link (lev - 1)) /\ (∀ k ∈ kids, 0 < lev /\ TreeP L (lev - 1) k.1 k.2.1 k.2.2) /\ ts = nd.texts ++ KS kids /\ is = Sha (nd.bytes lev) :: XfX kids /\ (kids ≠ [] -> nd.texts = []) := by
 cases lev with
 | zero =>
  obtain ⟨h1, h2, h3, h4⟩ := h
  exact ⟨h1, h2, [], by rw [h1.leaf rfl]; rfl, (fun k hk => nomatch hk), by rw [h3]; simp [KS], by rw [h4]; rfl, fun h => absurd rfl h⟩
 | succ l =>
  obtain ⟨h1, h2, kids, h3, h4, h5, h6⟩ := h
  have ht := (h1.inner (XiT l)).1
  exact ⟨h1, h2, kids, h3, fun k hk => ⟨XiT l, h4 k hk⟩, by rw [h5, ht]; rfl, h6, fun _ => ht⟩
theorem kidT_append (a b : List Kid) : KS (a ++ b) = KS a ++ KS b := by unfold KS; rw [Xh2, XiF]
theorem kidI_append (a b : List Kid) : XfX (a ++ b) = XfX a ++ XfX b := by unfold XfX; rw [Xh2, XiF]
theorem TreeP.many {L : List (List UInt8)} : ∀ {lev : Nat} {nd : Nd} {ts is : List (List UInt8)}, TreeP L lev nd ts is -> nd.many = ts.length
 | 0, nd, ts, is, h => by
  obtain ⟨h1, h2, h3, h4⟩ := h
  unfold Nd.many
  rw [h1.leaf rfl, h3]; rfl
 | lev + 1, nd, ts, is, h => by
  obtain ⟨h1, h2, kids, h3, h4, h5, h6⟩ := h
  unfold Nd.many
  rw [(h1.inner (XiT lev)).1, h3, h5]
  have : ∀ ks : List Kid, (∀ k ∈ ks, TreeP L lev k.1 k.2.1 k.2.2) -> Y7 (ks.map fun k => k.1.link lev) = ((ks.map (·.2.1)).flatten).length := by
   intro ks
   induction ks with
   | nil => intro _; rfl
   | cons k ks ih =>
    intro hk
    have h1 := TreeP.many (hk k (by simp))
    have h2 := ih fun x hx => hk x (by simp [hx])
    show k.1.many + Y7 (ks.map fun k => k.1.link lev) = (k.2.1 ++ (ks.map (·.2.1)).flatten).length
    rw [XhC, h1, h2]
  rw [this kids h4]
  exact XhT _
theorem kidT_len {L : List (List UInt8)} : ∀ ks : List Kid, (∀ k ∈ ks, TreeP L lev k.1 k.2.1 k.2.2) -> Y7 (ks.map fun k => k.1.link lev) = (KS ks).length
 | [], _ => rfl
 | k :: ks, hk => by
  have h1 := TreeP.many (hk k (by simp))
  have h2 := kidT_len ks fun x hx => hk x (by simp [hx])
  show k.1.many + Y7 (ks.map fun k => k.1.link lev) = (k.2.1 ++ KS ks).length
  rw [XhC, h1, h2]
theorem kidT_le (ks : List Kid) (i : Nat) : (KS (ks.take i)).length <= (KS ks).length := by
 have := kidT_append (ks.take i) (ks.drop i)
 rw [Xiw] at this
 rw [this, XhC]
 omega
theorem mem_insI {ids : List (List UInt8)} {d j : List UInt8} : j ∈ insI ids d ↔ j ∈ ids \/ j = d := by
 unfold insI
 by_cases hd : d ∈ ids
 ·rw [if_pos hd]
  exact ⟨.inl, fun h => h.elim id fun e => e ▸ hd⟩
 ·rw [if_neg hd, XhV, XhB]
theorem insI_nodup {ids : List (List UInt8)} {d : List UInt8} (h : ids.Nodup) : (insI ids d).Nodup := by
 unfold insI
 by_cases hd : d ∈ ids
 ·rw [if_pos hd]; exact h
 ·rw [if_neg hd]
  exact List.nodup_append.2 ⟨h, by simp, fun a ha b hb => by rw [XhB.1 hb]; exact fun e => hd (e ▸ ha)⟩
structure Yld (E : Env) (sg : Bool) (fv : Value) (I : List (List UInt8) -> List Nat -> Heap -> Prop) : Prop where
 call : ∀ n, 100000000 <= n -> ∀ done s S h, s.length <= 8000 -> done.length <= 2000 -> I done S h -> ((ctx E n).call fv [.int .i64 (XhA done.length), sv s] h).Wp sg fun v h' => v = .bool true /\ ∃ S', I (done ++ [s]) S' h' /\ Ext S h h' /\ ∀ b ∈ S', b ∈ S \/ h.next <= b
 ext : ∀ {done S T h h'}, I done S h -> Ext T h h' -> (∀ b ∈ S, b ∉ T) -> I done S h'
 lt : ∀ {done S h}, I done S h -> ∀ b ∈ S, b < h.next
theorem TrC.extS {h h' : Heap} {tb p mb ver : Nat} {ids : List (List UInt8)} (t : TrC h tb p mb ver ids) {S : List Nat} (e : Ext S h h') (h1 : tb ∉ S) (h2 : mb ∉ S) : TrC h' tb p mb ver ids := by
 obtain ⟨a, b, c, d, e1, f⟩ := t
 have := e.next
 exact ⟨e.getS c h1 a, e.getS d h2 b, by omega, by omega, e1, f⟩
theorem Uu : ∀ l : List (List UInt8), fl YU l = l.map sv
 | [] => rfl
 | a :: l => by show sv a :: fl YU l = _; rw [Uu l]; rfl
section
variable {E : Env} {sg : Bool} (H : Has E)
include H
set_option maxHeartbeats 4000000 in
theorem seg_tree_below_ok (tb p gb db lb many mb : Nat) (L : List (List UInt8)) (hL : L.length <= 1000000) (noc : ∀ a ∈ L, ∀ b ∈ L, Sha a = Sha b -> a = b) (fv : Value) (I : List (List UInt8) -> List Nat -> Heap -> Prop) (Y : Yld E sg fv I) : ∀ (lev m : Nat) (hm : 100000000 <= m) (h : Heap) (nd : Nd) (ts is : List (List UInt8)) (cs : List Value) (fp priv : List Nat) (ver : Nat) (ids done : List (List UInt8)) (S : List Nat) (s : StQ h p gb db lb many L priv) (tr : TrC h tb p mb ver ids) (tp : TreeP L lev nd ts is) (nc : NdC h fp lev nd cs) (hI : I done S h) (hmp : mb ∉ priv) (htS : tb ∉ S) (hmS : mb ∉ S) (hpS : ∀ b ∈ priv, b ∉ S) (hfm : mb ∉ fp) (hfS : ∀ b ∈ fp, b ∉ S) (hfl : ∀ b ∈ fp, b < h.next) (hd : done.length + ts.length <= 2000),
  (enter E (ctx E (m + lev + 20)) XeM [.pointer (some ⟨tb, 0, none⟩), .agg ⟨cs⟩, .int .i64 (XhA done.length), fv] h).Wp sg fun v h' => v = .bool true /\ ∃ S' ver' ids', I (done ++ ts) S' h' /\ TrC h' tb p mb ver' ids' /\ (∀ i, i ∈ ids' ↔ i ∈ ids \/ i ∈ is.tail) /\ (ids.Nodup -> ids'.Nodup) /\ Ext (mb :: S) h h' /\ ∀ b ∈ S', b ∈ S \/ h.next <= b := by
 intro lev
 induction lev using Nat.strongRecOn with
 | ind lev ih =>
 intro m hm h nd ts is cs fp priv ver ids done S s tr tp nc hI hmp htS hmS hpS hfm hfS hfl hd
 obtain ⟨hv, hin, kids, hlk, hkid, hts, his, hnt⟩ := tp.gen
 obtain ⟨tao, tca, lao, lca, hcs, slt, sll, ft, flk⟩ := nc
 refine H.run (k := XaB) rfl rfl rfl ?_
 dsimp only [XaB]
 subst hcs
 refine X9 ?_
 refine X2 (by conv => lhs; whnf) rfl fun H1 B1 E1 L1 G1 N1 Q1 => ?_
 refine R2 ?_
 have tS : ∀ b ∈ S, b < h.next := Y.lt hI
 have hB1S : B1 ∉ S := fun hm => by have := tS _ hm; omega
 have hS1 : I done S H1 := Y.ext hI E1 fun _ _ hh => nomatch hh
 have ht8 := hv.t8
 have hl8 := hv.l8
 have htsl : ts.length = nd.texts.length + (KS kids).length := by rw [hts, XhC]
 refine Yl nd.texts.length 0 (fun i t x hk => ∃ Si, (g0 t = (.pointer (some ⟨tb, 0, none⟩)) /\ g2 t = (.int .i64 (XhA done.length)) /\ g3 t = fv /\ g5 t = (.pointer (some ⟨B1, 0, none⟩)) /\ g15 t = (.slice tao nd.texts.length tca) /\ g16 t = (.int .i64 (XhA nd.texts.length)) /\ g17 t = (.int .i64 (XhA i))) /\ x = ⟨[], none, none⟩ /\ I (done ++ nd.texts.take i) Si hk /\ Ext S H1 hk /\ ∀ b ∈ Si, b ∈ S \/ H1.next <= b)
   ⟨S, ⟨rfl, rfl, rfl, rfl, rfl, rfl, rfl⟩, rfl, by simpa using hS1, (Ext.refl _).mono (fun _ hh => nomatch hh), fun b hb => .inl hb⟩ (XhO _) (XG (by omega)) ?_
 rintro i t x hk hi ⟨Si, ⟨r0, r2, r3, r5, r15, r16, r17⟩, rfl, hIi, ek, hSi⟩
 obtain ⟨t0, rfl⟩ : ∃ t0, t = p0 (.pointer (some ⟨tb, 0, none⟩)) (p2 (.int .i64 (XhA done.length)) (p3 fv (p5 (.pointer (some ⟨B1, 0, none⟩)) (p15 (.slice tao nd.texts.length tca) (p16 (.int .i64 (XhA nd.texts.length)) (p17 (.int .i64 (XhA i)) t0)))))) := ⟨t, (show t = p0 (g0 t) (p2 (g2 t) (p3 (g3 t) (p5 (g5 t) (p15 (g15 t) (p16 (g16 t) (p17 (g17 t) t)))))) from rfl).trans (by rw [r0, r2, r3, r5, r15, r16, r17])⟩
 clear r0 r2 r3 r5 r15 r16 r17
 have lk := ek.next
 have gB := ek.getS N1 hB1S G1
 by_cases hlt : i < nd.texts.length
 ·obtain ⟨s1, hsg⟩ : ∃ s1, nd.texts[i]? = some s1 := ⟨_, XhL hlt⟩
  have hs1 := hv.ts _ (Xh5 hsg)
  have slk : Slc hk 1 tao nd.texts.length tca (fl YU nd.texts) := (slt.ext E1).extS ek fun a ha => hfS _ (ft a ha)
  obtain ⟨a, wa, xa, hao, ga, na, ta⟩ := slk.nonempty (by omega)
  subst hao
  have hn : nth (a.off + i * 1) xa = some (sv s1) := by
   rw [XhI, Yf ta (by omega), Uu, Xic, hsg]; rfl
  refine R2 ?_
  refine Xd (ZI rfl rfl (by omega)) ?_
  refine R ?_
  have hdl : (done ++ nd.texts.take i).length = done.length + i := by rw [XhC, Xie]; omega
  refine Xj (by have := Y.call (m + lev + 20) (by omega) (done ++ nd.texts.take i) s1 Si _ hs1 (by omega) hIi; rw [hdl] at this; exact this) ?_
  rintro v h7 ⟨rfl, S7, hI7, e7, f7⟩
  refine R ?_
  refine ⟨hlt, S7, ⟨rfl, rfl, rfl, rfl, rfl, rfl, rfl⟩, rfl, ?_, ek.trans e7 hSi, fun b hb => (f7 b hb).elim (hSi b) fun hh => .inr (by omega)⟩
  rw [Xh6, hsg, <- Xh1]
  exact hI7
 ·have hin : i = nd.texts.length := by omega
  subst hin
  rw [Xh7] at hIi
  refine R2 ?_
  have hnx : H1.next <= hk.next := lk
  have hlen : nd.links.length = kids.length := by rw [hlk, XhP]
  have mb1 : mb < h.next := tr.2.2.2.1
  have tb1 : tb < h.next := tr.2.2.1
  have hmany := tp.many
  unfold Nd.many at hmany
  refine Yl nd.links.length 0 (fun i t x hk => ∃ Si veri idsi, (g0 t = (.pointer (some ⟨tb, 0, none⟩)) /\ g2 t = (.int .i64 (XhA (done.length + Y7 (nd.links.take i)))) /\ g3 t = fv /\ g5 t = (.pointer (some ⟨B1, 0, none⟩)) /\ g31 t = (.slice lao nd.links.length lca) /\ g32 t = (.int .i64 (XhA nd.links.length)) /\ g33 t = (.int .i64 (XhA i))) /\ x = ⟨[], none, none⟩ /\ I (done ++ nd.texts ++ KS (kids.take i)) Si hk /\ TrC hk tb p mb veri idsi /\ (∀ j, j ∈ idsi ↔ j ∈ ids \/ j ∈ XfX (kids.take i)) /\ (ids.Nodup -> idsi.Nodup) /\ Ext (mb :: S) H1 hk /\ ∀ b ∈ Si, b ∈ S \/ H1.next <= b)
   ⟨Si, ver, ids, ⟨rfl, rfl, rfl, rfl, rfl, rfl, rfl⟩, rfl, by simpa [KS] using hIi, (tr.extS E1 (by simp) (by simp)).extS ek htS hmS, fun j => by simp [XfX], fun hh => hh, ek.mono (fun b hb => .inl (Xii _ hb)), hSi⟩ (XhO _) (XG (by omega)) ?_
  clear hIi ek hSi lk gB
  rintro i t x hk1 hi ⟨Si, veri, idsi, ⟨r0, r2, r3, r5, r31, r32, r33⟩, rfl, hIi, tri, hids, hnd, ek, hSi⟩
  obtain ⟨t0, rfl⟩ : ∃ t0, t = p0 (.pointer (some ⟨tb, 0, none⟩)) (p2 (.int .i64 (XhA (done.length + Y7 (nd.links.take i)))) (p3 fv (p5 (.pointer (some ⟨B1, 0, none⟩)) (p31 (.slice lao nd.links.length lca) (p32 (.int .i64 (XhA nd.links.length)) (p33 (.int .i64 (XhA i)) t0)))))) := ⟨t, (show t = p0 (g0 t) (p2 (g2 t) (p3 (g3 t) (p5 (g5 t) (p31 (g31 t) (p32 (g32 t) (p33 (g33 t) t)))))) from rfl).trans (by rw [r0, r2, r3, r5, r31, r32, r33])⟩
  clear r0 r2 r3 r5 r31 r32 r33
  have lk := ek.next
  have gB := ek.getS N1 (fun hm => by rcases XhQ.1 hm with h1 | h1; omega; exact hB1S h1) G1
  by_cases hlt : i < nd.links.length
  ·obtain ⟨k, hkg⟩ : ∃ k, kids[i]? = some k := ⟨_, XhL (by omega)⟩
   obtain ⟨hlev, tk⟩ := hkid _ (Xh5 hkg)
   obtain ⟨l, rfl⟩ : ∃ l, lev = l + 1 := ⟨lev - 1, by omega⟩
   rw [Nat.add_sub_cancel] at hlk tk
   obtain ⟨hvk, hink, kk, _, _, _, hisk, _⟩ := tk.gen
   have hsg : nd.links[i]? = some (k.1.link l) := by rw [hlk, Xic, hkg]; rfl
   have hsi : LkOK (k.1.link l) := hv.ls _ (Xh5 hsg)
   have hnil := hnt fun e => by rw [e] at hkg; cases hkg
   have slk : Slc hk1 33 lao nd.links.length lca (fl Yh nd.links) := (sll.ext E1).extS ek fun a ha hm => by
    have h1 := flk a ha
    rcases XhQ.1 hm with h2 | h2
    ·exact hfm (h2 ▸ h1)
    ·exact hfS _ h1 h2
   obtain ⟨a, wa, xa, hao, ga, na, ta⟩ := slk.nonempty (by omega)
   subst hao
   have hz : ∀ x ∈ nd.links, (Yh x).length = 33 := fun x hx => YS (hv.ls x hx)
   have hload : XU 33 (XY (a.off + i * 33) xa) = some (Yh (k.1.link l)) := by
    rw [take_take ta (by omega), XcK hz hsg]
   have hel := YS hsi
   have hput : XZ (Yh (k.1.link l)) 0 q_5ccab404 = Yh (k.1.link l) := by
    have := Yk (k := 0) (a := []) (b := q_5ccab404) (ys := Yh (k.1.link l)) (c := []) rfl hel
    simpa using this
   have hid32 : XU 32 (XY 0 (Yh (k.1.link l))) = some (Xa (Sha (k.1.bytes l))) := by
    have := XeC (n := 32) (k := 0) (a := []) (b := Xa (Sha (k.1.bytes l))) (c := [.int .i64 (XhA k.1.many)]) rfl (by rw [Xc]; exact X5 _)
    exact this
   refine R2 ?_
   refine Xt fun H210 B210 E210 L210 G210 N210 Q210 => ?_
   refine Xm rfl (by conv => lhs; whnf) rfl G210 rfl (XhH rfl) fun H211 E211 L211 G211 => ?_
   refine R2 ?_
   have l211 := E211.next
   have l210 := E210.next
   have e211 := (E210.trans1 E211 (by omega))
   have hT : ∀ b, b < h.next -> b ∉ S -> b ≠ mb -> b ∉ mb :: S := fun b _ h2 h3 hm => (XhQ.1 hm).elim h3 h2
   have ekk := (E1.mono (T := mb :: S) (fun _ hh => nomatch hh)).trans ek fun s hs => .inl hs
   have sk := (s.extS ekk fun b hb hm => (XhQ.1 hm).elim (fun e => hmp (e ▸ hb)) (hpS b hb)).ext e211
   have trk := tri.extS e211 (by simp) (by simp)
   refine Xj (Xi rfl (XfW H (m + (l + 1) + 2) (by omega) _ p gb db lb many L priv sk hL tb mb veri idsi trk hmp l k.1 hvk hink (fun b hb he => noc b hb _ hink he))) ?_
   rintro v h3 ⟨cs3, fp3, rfl, nc3, hf3, tr3, e3⟩
   have nc3' := nc3
   obtain ⟨tao3, tca3, lao3, lca3, rfl, slt3, sll3, ft3, fl3⟩ := nc3'
   obtain ⟨gt3, gm3, lt3, lm3, tne3, hid3⟩ := tr3
   have l3 := e3.next
   have hlv := hv.lv
   have gB3 := e3.get1 (b := B1) (by omega) (by omega) (E211.get1 (by omega) (by omega) (E210.get0 (by omega) gB))
   have hB210 : B210 ≠ mb := by omega
   have g210 := e3.get1 (by omega) hB210 G211
   have hn32 : nth (0 + 32) (Yh (k.1.link l)) = some (.int .i64 (XhA (k.1.texts.length + Y7 k.1.links))) := nth_app (k := 32) (a := Xa (Sha (k.1.bytes l))) (c := []) (by rw [Xc]; exact X5 _)
   rw [hput] at g210
   refine Xt fun H220 B220 E220 L220 G220 N220 Q220 => ?_
   refine Xm rfl (by conv => lhs; whnf) rfl G220 rfl (XhH rfl) fun H221 E221 L221 G221 => ?_
   refine R ?_
   have T222 := E220.get0 (by omega) gt3
   have T223 := E221.get1 (by omega) (by omega) T222
   refine R2 ?_
   have T224 := E220.get0 (by omega) gB3
   have T225 := E221.get1 (by omega) (by omega) T224
   refine R2 ?_
   refine Xk (Xaj rfl rfl (by omega) (by omega)) rfl ?_
   refine R ?_
   refine wp_dKnow (b := false) rfl (by simp only [decide_eq_false_iff_not, Bool.not_eq_false', decide_eq_true_eq, Bool.and_eq_false_iff, Bool.or_eq_false_iff]; omega) rfl ?_
   refine R2 ?_
   have l221 := E221.next
   have l220 := E220.next
   have hok := hvk.toOK
   have sl4 := (sll3.ext E220).extS E221 fun a ha hm => by have := XhB.1 hm; have := sll3.lt a ha; omega
   have ktl := hok.t8
   have kll := hok.l8
   refine YL (Xi rfl (Ut H (sg := true) (m + (l + 1) + 19) (by omega) _ l tao3 lao3 k.1.texts.length tca3 lca3 k.1.links hok.ls sl4 (by omega) (by omega))) (fun _ _ _ => rfl) ?_
   rintro v h4 ⟨rfl, e4⟩
   have l4 := e4.next
   refine R ?_
   have T230 := E220.get0 (by omega) g210
   have T231 := E221.get1 (by omega) (by omega) T230
   have T232 := e4.get0 (by omega) T231
   refine Xk (XQ rfl T232 rfl) (YH rfl (XH (XQ rfl T231 rfl) rfl) rfl) ?_
   refine R ?_
   refine wp_condF rfl (by rw [show (Nd.link l k.1).2 = k.1.texts.length + Y7 k.1.links from rfl, decide_eq_true rfl]; rfl) ?_
   refine R ?_
   have T240 := e4.get0 (by omega) T223
   refine R2 ?_
   have T241 := e4.get0 (by omega) G221
   refine R2 ?_
   have hSl : ∀ b ∈ Si, b < hk1.next := Y.lt hIi
   have mSi : mb ∉ Si := fun hm => (hSi _ hm).elim hmS fun hh => by omega
   have tSi : tb ∉ Si := fun hm => (hSi _ hm).elim htS fun hh => by omega
   have pSi : ∀ b ∈ priv, b ∉ Si := fun b hb hm => (hSi _ hm).elim (hpS b hb) fun hh => by have := s.lt b hb; omega
   have e224 : Ext [] h3 h4 := (E220.trans1 E221 (by omega)).trans0 e4
   have e34 : Ext [mb] hk1 h4 := ((e211.mono (T := [mb]) fun _ hh => nomatch hh).trans e3 fun s hs => .inl hs).trans0 e224
   have l34 := e34.next
   have s4 := (sk.extS e3 fun b hb hm => hmp (XhB.1 hm ▸ hb)).ext e224
   have tr4 : TrC h4 tb p mb (Xid veri) (insI idsi (Sha (k.1.bytes l))) := TrC.extS ⟨gt3, gm3, lt3, lm3, tne3, hid3⟩ e224 (by simp) (by simp)
   have nc4 := nc3.extS e224 fun _ _ hh => nomatch hh
   have hI4 := Y.ext hIi e34 fun b hb hm => mSi (XhB.1 hm ▸ hb)
   have hkT := kidT_len (lev := l) (kids.take i) fun x hx => (hkid x (List.mem_of_mem_take hx)).2
   have hlkt : nd.links.take i = (kids.take i).map fun k => k.1.link l := by rw [hlk, List.map_take]
   have hkg1 : kids.take (i + 1) = kids.take i ++ [k] := by rw [Xh6, hkg]; rfl
   have hle1 := kidT_le kids (i + 1)
   have hT1 : KS (kids.take (i + 1)) = KS (kids.take i) ++ k.2.1 := by rw [hkg1, kidT_append]; congr 1; simp [KS]
   have hI1 : XfX (kids.take (i + 1)) = XfX (kids.take i) ++ k.2.2 := by rw [hkg1, kidI_append]; congr 1; simp [XfX]
   rw [hT1, XhC] at hle1
   have hdn : (done ++ nd.texts ++ KS (kids.take i)).length = done.length + Y7 (nd.links.take i) := by rw [hnil, Xij, XhC, hlkt, hkT]
   have hrec := ih l (by omega) m hm h4 k.1 k.2.1 k.2.2 _ fp3 priv _ _ (done ++ nd.texts ++ KS (kids.take i)) Si s4 tr4 tk nc4 hI4 hmp tSi mSi pSi (fun hm => by have := hf3 _ hm; omega) (fun b hb hm => by have := hf3 _ hb; have := hSl _ hm; omega) (fun b hb => by have := hf3 _ hb; have := e224.next; omega) (by rw [hdn, hlkt, hkT]; omega)
   rw [hdn] at hrec
   refine Xj (Xi rfl hrec) ?_
   rintro v h7 ⟨rfl, S7, ver7, ids7, hI7, tr7, hids7, hnd7, e7, f7⟩
   have l7 := e7.next
   have g217 := e7.getS (b := B210) (by omega) (fun hm => by rcases XhQ.1 hm with h1 | h1; omega; have := hSl _ h1; omega) (e224.get0 (by omega) g210)
   have hbnd : done.length + Y7 (nd.links.take i) + (Nd.link l k.1).2 <= 2000 := by
    have h1 : (Nd.link l k.1).2 = k.2.1.length := tk.many
    rw [h1, hlkt, hkT]; omega
   refine R2 ?_
   refine Xd (ZI rfl rfl (by omega)) ?_
   refine R ?_
   have h2 : Y7 (nd.links.take (i + 1)) = Y7 (nd.links.take i) + (Nd.link l k.1).2 := by
    rw [Xh6, hsg, XbR]; rfl
   refine ⟨hlt, S7, ver7, ids7, by rw [h2, <- Nat.add_assoc]; exact ⟨rfl, rfl, rfl, rfl, rfl, rfl, rfl⟩, rfl, by rw [hT1, <- Xh1]; exact hI7, tr7, fun j => ?_, fun hh => hnd7 (insI_nodup (hnd hh)), ?_, fun b hb => (f7 b hb).elim (hSi b) fun hh => .inr (by omega)⟩
   ·rw [hids7, mem_insI, hids, hI1, XhV, hisk, List.tail_cons, XhQ]
    simp only [or_assoc]
   ·refine (ek.trans e34 fun s hs => .inl (by rw [XhB.1 hs]; simp)).trans e7 fun s hs => ?_
    rcases XhQ.1 hs with h1 | h1
    ·exact .inl (by rw [h1]; simp)
    ·exact (hSi s h1).elim (fun hh => .inl (Xii _ hh)) .inr
  ·have hin : i = nd.links.length := by omega
   refine R ?_
   rw [Xi6 (by omega)] at hIi hids
   rw [Xh1, <- hts] at hIi
   refine ⟨rfl, _, Xb (Xw rfl) Xg, rfl, Si, veri, idsi, hIi, tri, fun j => by rw [hids, his]; rfl, hnd, ?_, fun b hb => (hSi b hb).elim .inl fun hh => .inr (by omega)⟩
   exact (E1.mono (T := mb :: S) (fun _ hh => nomatch hh)).trans ek fun s hs => .inl hs
end
def ka_gather : KB := ZN (xMove g24) p9 oEnd
def kb_gather : KB := kBlock 1 (ZN (VG (XcC g7)) p25 (ZN (xMove g9) p26 (ZN (Yi (Xo [.string ⟨⟨[]⟩⟩] [(0, 1, g26)] 1)) p27 (ZN (Yi (Xz 1 g25 g27)) p28 (oDo (Yi (XcD 1 g7 g28)) oEnd)))))
theorem den_a : Eng.den Xgi = ka_gather := rfl
theorem den_b : Eng.den Xgj = kb_gather := rfl
def lp (t : Tm) : ALoop := ⟨.ready, none, t, [23, 24], Xgi, Xgj⟩
theorem setA (t : Tm) (a b : Value) : setAll (lp t).params [a, b] (lp t).tmps = some (p24 b (p23 a t)) := rfl
def GI (l B : Nat) (t0 : Tm) (done : List (List UInt8)) (S : List Nat) (h : Heap) : Prop := ∃ to tc, S = l :: B :: XD to /\ h.get l = some (.loop (lp t0)) /\ h.get B = some (.cells true [.slice to done.length tc]) /\ Own h 1 to done.length tc (fl YU done) /\ l < h.next /\ B < h.next /\ l ≠ B /\ ∀ a, to = some a -> a.block ≠ l /\ a.block ≠ B
section
variable {E : Env} {sg : Bool}
set_option maxHeartbeats 1000000 in
theorem gather_yld (l B : Nat) (t0 : Tm) (h7 : g7 t0 = .pointer (some ⟨B, 0, none⟩)) : Yld E sg (.func (.yield l) ⟨[]⟩ ⟨[]⟩) (GI l B t0) where
 lt := by
  rintro done S h ⟨to, tc, rfl, _, _, o, hl, hB, _⟩ b hb
  rcases XhQ.1 hb with rfl | hb
  ·exact hl
  rcases XhQ.1 hb with rfl | hb
  ·exact hB
  obtain ⟨a, h1, rfl⟩ := Xu hb
  exact o.toSlc.lt a h1
 ext := by
  rintro done S T h h' ⟨to, tc, rfl, gl, gB, o, hl, hB, ne, f⟩ e q
  have := e.next
  exact ⟨to, tc, rfl, e.getS hl (q _ (by simp)) gl, e.getS hB (q _ (by simp)) gB, o.extS e fun a ha => q _ (by simp [Va ha]), by omega, by omega, ne, f⟩
 call := by
  rintro n hn done s S h hs hd ⟨to, tc, rfl, gl, gB, o, hl, hB, ne, f⟩
  obtain ⟨n, rfl⟩ : ∃ k, n = k + 1 := ⟨n - 1, by omega⟩
  refine wp_yield (cap := []) gl (setA _ _ _) ?_
  rw [show (lp t0).assign = Xgi from rfl, show (lp t0).body = Xgj from rfl, den_a, den_b]
  unfold ka_gather kb_gather
  obtain ⟨t1, rfl⟩ : ∃ t1, t0 = p7 (.pointer (some ⟨B, 0, none⟩)) t1 := ⟨t0, (show t0 = p7 (g7 t0) t0 from rfl).trans (by rw [h7])⟩
  refine R ?_
  refine ⟨_, gl, rfl, ?_⟩
  have eP : Ext [l] h (h.put l (some (.loop ((lp (p7 (.pointer (some ⟨B, 0, none⟩)) t1)).with .busy (lp (p7 (.pointer (some ⟨B, 0, none⟩)) t1)).pending)))) := .put _ _ _
  have gl2 : (h.put l (some (.loop ((lp (p7 (.pointer (some ⟨B, 0, none⟩)) t1)).with .busy (lp (p7 (.pointer (some ⟨B, 0, none⟩)) t1)).pending)))).get l = _ := Heap.get_put_eq _ _ _
  have nP : (h.put l (some (.loop ((lp (p7 (.pointer (some ⟨B, 0, none⟩)) t1)).with .busy (lp (p7 (.pointer (some ⟨B, 0, none⟩)) t1)).pending)))).next = h.next := rfl
  generalize h.put l (some (.loop ((lp (p7 (.pointer (some ⟨B, 0, none⟩)) t1)).with .busy (lp (p7 (.pointer (some ⟨B, 0, none⟩)) t1)).pending))) = h1 at eP gl2 nP ⊢
  have gB1 := eP.get1 hB (fun e => ne e.symm) gB
  have o1 := o.extS eP fun a ha hm => (f a ha).1 (XhB.1 hm)
  refine R2 ?_
  refine XJ (Xf (by conv => lhs; whnf) rfl rfl rfl XB) fun H10 B10 E10 L10 G10 N10 Q10 => ?_
  refine XP (o1.ext E10) rfl rfl rfl (Slc.of_get (z := 1) (n := 1) G10 N10 rfl).elemsAll rfl (by omega) fun to2 tc2 h3 o3 e3 l3 f3 => ?_
  have hto : ∀ b ∈ XD to, b ≠ l /\ b ≠ B := fun b hb => by
   obtain ⟨a, h1, rfl⟩ := Xu hb
   exact f a h1
  have gl3 := e3.getS (b := l) (by omega) (fun hm => (hto _ hm).1 rfl) (E10.get0 (by omega) gl2)
  have gB3 := e3.getS (b := B) (by omega) (fun hm => (hto _ hm).2 rfl) (E10.get0 (by omega) gB1)
  refine Xm rfl (by conv => lhs; whnf) rfl gB3 rfl (XhH rfl) fun H20 E20 L20 G20 => ?_
  refine Xf8 ?_
  have n10 := E10.next
  have n20 := E20.next
  have gl4 := E20.get1 (b := l) (by omega) ne gl3
  refine ⟨_, gl4, ?_⟩
  have eQ := Ext.put H20 l (some (.loop (((lp (p7 (.pointer (some ⟨B, 0, none⟩)) t1)).with .busy (lp (p7 (.pointer (some ⟨B, 0, none⟩)) t1)).pending).with .ready none)))
  have gQ := Heap.get_put_eq H20 l (some (.loop (((lp (p7 (.pointer (some ⟨B, 0, none⟩)) t1)).with .busy (lp (p7 (.pointer (some ⟨B, 0, none⟩)) t1)).pending).with .ready none)))
  have nQ : (H20.put l (some (.loop (((lp (p7 (.pointer (some ⟨B, 0, none⟩)) t1)).with .busy (lp (p7 (.pointer (some ⟨B, 0, none⟩)) t1)).pending).with .ready none)))).next = H20.next := rfl
  generalize H20.put l (some (.loop (((lp (p7 (.pointer (some ⟨B, 0, none⟩)) t1)).with .busy (lp (p7 (.pointer (some ⟨B, 0, none⟩)) t1)).pending).with .ready none))) = h5 at eQ gQ nQ ⊢
  have hf2 : ∀ a, to2 = some a -> a.block ≠ l /\ a.block ≠ B := fun a ha => (f3 a ha).elim (hto _) fun hh => by omega
  have hln : (done ++ [s]).length = done.length + 1 := by rw [XhC]; rfl
  have hfl : fl YU (done ++ [s]) = fl YU done ++ [sv s] := by rw [Us]; rfl
  refine ⟨rfl, l :: B :: XD to2, ⟨to2, tc2, rfl, gQ, ?_, ?_, by omega, by omega, ne, hf2⟩, ?_, fun b hb => ?_⟩
  ·rw [hln]; exact eQ.get1 (by omega) (fun e => ne e.symm) G20
  ·rw [hln, hfl]
   exact (o3.extS E20 fun a ha hm => (hf2 a ha).2 (XhB.1 hm)).extS eQ fun a ha hm => (hf2 a ha).1 (XhB.1 hm)
  ·have x1 : Ext (l :: B :: XD to) h h1 := eP.mono fun s hs => .inl (by rw [XhB.1 hs]; simp)
   have x2 := x1.trans0 E10
   have x3 := x2.trans e3 fun s hs => .inl (by simp [hs])
   have x4 := x3.trans E20 fun s hs => .inl (by rw [XhB.1 hs]; simp)
   exact x4.trans eQ fun s hs => .inl (by rw [XhB.1 hs]; simp)
  ·rcases XhQ.1 hb with rfl | hb
   ·exact .inl (by simp)
   rcases XhQ.1 hb with rfl | hb
   ·exact .inl (by simp)
   obtain ⟨a, h1, rfl⟩ := Xu hb
   exact (f3 a h1).elim (fun hh => .inl (by simp [hh])) fun hh => .inr (by omega)
end
section
variable {E : Env} {sg : Bool} (H : Has E)
include H
set_option maxHeartbeats 1000000 in
theorem seg_tree_all_1_ok (tb p gb db lb many mb : Nat) (L : List (List UInt8)) (hL : L.length <= 1000000) (noc : ∀ a ∈ L, ∀ b ∈ L, Sha a = Sha b -> a = b) (fv : Value) (I : List (List UInt8) -> List Nat -> Heap -> Prop) (Y : Yld E sg fv I) (lev m : Nat) (hm : 100000000 <= m) (h : Heap) (nd : Nd) (ts is : List (List UInt8)) (priv : List Nat) (ver : Nat) (ids : List (List UInt8)) (S : List Nat) (s : StQ h p gb db lb many L priv) (tr : TrC h tb p mb ver ids) (tp : TreeP L lev nd ts is) (hI : I [] S h) (hmp : mb ∉ priv) (htS : tb ∉ S) (hmS : mb ∉ S) (hpS : ∀ b ∈ priv, b ∉ S) (hd : ts.length <= 2000)
  (b1 b2 : Nat) (g1 : h.get b1 = some (.cells true [.pointer (some ⟨tb, 0, none⟩)])) (g2 : h.get b2 = some (.cells true (Xa (Sha (nd.bytes lev))))) (l1 : b1 < h.next) (l2 : b2 < h.next) (n1 : b1 ≠ mb) (n2 : b2 ≠ mb) (h1 : b1 ∉ S) (h2 : b2 ∉ S) :
  (enter E (ctx E (m + 60)) Xan [fv, .pointer (some ⟨b1, 0, none⟩), .pointer (some ⟨b2, 0, none⟩)] h).Wp sg fun v h' => ∃ S' ver' ids', I ts S' h' /\ TrC h' tb p mb ver' ids' /\ (∀ i, i ∈ ids' ↔ i ∈ ids \/ i ∈ is) /\ (ids.Nodup -> ids'.Nodup) /\ Ext (mb :: S) h h' /\ ∀ b ∈ S', b ∈ S \/ h.next <= b := by
 obtain ⟨hv, hin, kids, hlk, hkid, hts, his, hnt⟩ := tp.gen
 refine H.run (k := XaA) rfl rfl rfl ?_
 dsimp only [XaA]
 have hd32 := X5 (nd.bytes lev)
 have t2 : XU 32 (XY 0 (Xa (Sha (nd.bytes lev)))) = some (Xa (Sha (nd.bytes lev))) := XK (by rw [Xc, hd32])
 refine R2 ?_
 refine Xj (Xi rfl (XfW H (m + 42) (by omega) _ p gb db lb many L priv s hL tb mb ver ids tr hmp lev nd hv hin (fun b hb he => noc b hb _ hin he))) ?_
 rintro v h3 ⟨cs3, fp3, rfl, nc3, hf3, tr3, e3⟩
 have l3 := e3.next
 have nc3' := nc3
 obtain ⟨tao3, tca3, lao3, lca3, rfl, slt3, sll3, ft3, fl3⟩ := nc3'
 have tr3' := tr3
 obtain ⟨gt3, gm3, lt3, lm3, tne3, hid3⟩ := tr3'
 have gb13 := e3.get1 l1 n1 g1
 refine Xt fun H10 B10 E10 L10 G10 N10 Q10 => ?_
 refine Xm rfl (by conv => lhs; whnf) rfl G10 rfl (XhH rfl) fun H11 E11 L11 G11 => ?_
 refine R ?_
 have T12 := E10.get0 (by omega) gb13
 have T13 := E11.get1 (by omega) (by omega) T12
 refine R2 ?_
 have T14 := E10.get0 (by omega) gt3
 have T15 := E11.get1 (by omega) (by omega) T14
 refine R2 ?_
 have hlv := hv.lv
 have l10 := E10.next
 have l11 := E11.next
 have e11 := E10.trans1 E11 (by omega)
 have hS : ∀ b ∈ S, b < h.next := Y.lt hI
 have hb := seg_tree_below_ok H (sg := sg) tb p gb db lb many mb L hL noc fv I Y lev (m + (39 - lev)) (by omega) H11 nd ts is _ fp3 priv _ _ [] S ((s.extS e3 fun b hb hm => hmp (XhB.1 hm ▸ hb)).ext e11) (tr3.extS e11 (by simp) (by simp)) tp (nc3.extS e11 fun _ _ hh => nomatch hh) ((Y.ext hI e3 fun b hb hm => hmS (XhB.1 hm ▸ hb)) |> fun k => Y.ext k e11 fun _ _ hh => nomatch hh) hmp htS hmS hpS (fun hm => by have := hf3 _ hm; have := tr.2.2.2.1; omega) (fun b hb hm => by have := hf3 _ hb; have := hS _ hm; omega) (fun b hb => by have := hf3 _ hb; omega) (by simpa using hd)
 rw [show m + (39 - lev) + lev + 20 = m + 59 by omega] at hb
 refine Xj (Xi rfl hb) ?_
 rintro v h7 ⟨rfl, S7, ver7, ids7, hI7, tr7, hids7, hnd7, e7, f7⟩
 refine Xf8 ?_
 refine ⟨rfl, _, Xg, S7, ver7, ids7, by simpa using hI7, tr7, fun j => ?_, fun hh => hnd7 (insI_nodup hh), ?_, fun b hb => (f7 b hb).elim .inl fun hh => .inr (by omega)⟩
 ·rw [hids7, mem_insI, his, List.tail_cons, XhQ]
  simp only [or_assoc]
 ·exact ((e3.mono (T := mb :: S) fun s hs => .inl (by rw [XhB.1 hs]; simp)).trans0 e11).trans e7 fun s hs => .inl hs
end
theorem wp_rangeE {sg : Bool} {N : Tm -> Aux -> Heap -> Prop} {X : Nat -> Tm -> Aux -> Heap -> Prop} {R : Tm -> Aux -> Heap -> Prop} {f : Xe} {params : List Nat} {assign body : CCode} {c : Ctx} {t : Tm} {x : Aux} {h : Heap} (hx : x.round = none)
  (hc : (c.call (f t) [.func (.yield (h.next + 1)) ⟨[]⟩ ⟨[]⟩] ((h.push .mark).push (.loop ⟨.ready, none, t, params, assign, body⟩))).Wp sg fun v h' => ∃ r, h'.get (h.next + 1) = some (.loop r) /\ r.state ≠ .busy /\ r.pending = none /\ ∀ h2, Ext [h.next + 1] h' h2 -> h2.next = h'.next -> N t ⟨.mark h.next :: x.defers, none, x.rc⟩ h2) :
  (kRange f params assign body c t x h).Wp sg N X R :=
 wp_range hx (hc.mono fun v h' ⟨r, h1, h2, h3, h4⟩ => ⟨r, h1, h2, by rw [h3]; exact h4 _ (.put _ _ _) rfl⟩)
section
variable {E : Env} {sg : Bool} (H : Has E)
include H
theorem seg_tree_all_ok (m tb : Nat) (h : Heap) (id : List UInt8) (hid : id.length = 32) : (enter E (ctx E m) f_seg_tree_all [.pointer (some ⟨tb, 0, none⟩), .agg ⟨Xa id⟩] h).Wp sg fun v h' => ∃ b1 b2, v = .func (.func Xan) ⟨[]⟩ ⟨[.pointer (some ⟨b1, 0, none⟩), .pointer (some ⟨b2, 0, none⟩)]⟩ /\ h'.get b1 = some (.cells true [.pointer (some ⟨tb, 0, none⟩)]) /\ h'.get b2 = some (.cells true (Xa id)) /\ h.next <= b1 /\ h.next <= b2 /\ b1 < h'.next /\ b2 < h'.next /\ Ext [] h h' := by
 refine H.run (k := Xdk) rfl rfl rfl ?_
 dsimp only [Xdk]
 refine X9 ?_
 refine X2 (by conv => lhs; whnf) rfl fun H1 B1 E1 L1 G1 N1 Q1 => ?_
 refine X2 (by conv => lhs; whnf) rfl fun H2 B2 E2 L2 G2 N2 Q2 => ?_
 refine R ?_
 refine Xd rfl ?_
 refine R ?_
 exact ⟨rfl, _, Xb (Xw rfl) Xg, B1, B2, rfl, E2.get0 (by omega) G1, G2, by omega, by omega, by omega, by omega, E1.trans0 E2⟩
set_option maxHeartbeats 1000000 in
theorem seg_gather_ok (m : Nat) (hm : 100000000 <= m) (h : Heap) (p gb db lb many : Nat) (L : List (List UInt8)) (hL : L.length <= 1000000) (noc : ∀ a ∈ L, ∀ b ∈ L, Sha a = Sha b -> a = b) (priv : List Nat) (s : StQ h p gb db lb many L priv) (lev : Nat) (nd : Nd) (ts is : List (List UInt8)) (tp : TreeP L lev nd ts is) (hd : ts.length <= 2000) :
  (enter E (ctx E (m + 80)) f_seg_gather [.pointer (some ⟨p, 0, none⟩), .agg ⟨Xa (Sha (nd.bytes lev))⟩] h).Wp sg fun v h' => ∃ ao ca tb mb ver ids, v = .tuple ⟨[.slice ao ts.length ca, .pointer (some ⟨tb, 0, none⟩)]⟩ /\ Own h' 1 ao ts.length ca (fl YU ts) /\ (∀ a, ao = some a -> h.next <= a.block) /\ TrC h' tb p mb ver ids /\ h.next <= tb /\ h.next <= mb /\ (∀ i, i ∈ ids ↔ i ∈ is) /\ ids.Nodup /\ Ext [] h h' := by
 have hd32 := X5 (nd.bytes lev)
 refine H.go (k := Xgk) rfl rfl ?_
 unfold Xgk
 refine wp_fnM (XhH rfl) ?_
 dsimp only
 have t2 : XU 32 (XY 0 (Xa (Sha (nd.bytes lev)))) = some (Xa (Sha (nd.bytes lev))) := XK (by rw [Xc, hd32])
 refine X9 ?_
 refine X2 (by conv => lhs; whnf) rfl fun H1 B1 E1 L1 G1 N1 Q1 => ?_
 refine R ?_
 refine wp_mapE fun H2 B2 E2 L2 G2 N2 Q2 => ?_
 refine Xd (Yo (Xf (by conv => lhs; whnf) rfl rfl rfl (Xf (by conv => lhs; whnf) rfl rfl rfl XB))) ?_
 refine X2 (by conv => lhs; whnf) rfl fun H3 B3 E3 L3 G3 N3 Q3 => ?_
 refine R ?_
 have sa := s.ext ((E1.trans0 E2).trans0 E3)
 refine Xj (Xi rfl (seg_none_ok H (m + 63) (by omega) _ p gb db lb many L priv sa hL)) ?_
 rintro v h4 ⟨rfl, e4⟩
 have l4 := e4.next
 have g34 := e4.get0 N3 G3
 have g14 := e4.get0 (by omega) (E3.get0 (by omega) (E2.get0 N1 G1))
 have g24 := e4.get0 (by omega) (E3.get0 N2 G2)
 refine R ?_
 refine Xt fun H10 B10 E10 L10 G10 N10 Q10 => ?_
 refine R ?_
 have T11 := E10.get0 (by omega) g14
 refine R2 ?_
 refine Xj (Xi rfl (seg_tree_all_ok H (m + 79) B3 _ (Sha (nd.bytes lev)) hd32)) ?_
 rintro v h5 ⟨b1, b2, rfl, gb1, gb2, lb1, lb2, nb1, nb2, e5⟩
 have l5 := e5.next
 have l10 := E10.next
 have g35 := e5.get0 (by omega) (E10.get0 (by omega) g34)
 have g25 := e5.get0 (by omega) (E10.get0 (by omega) g24)
 have gO5 := e5.get0 N10 G10
 refine R ?_
 have l3 := E3.next
 have l2 := E2.next
 have l1 := E1.next
 have lt0 := s.lt
 refine wp_rangeE rfl ?_
 have eM : ∀ (o : AObj), Ext [] h5 ((h5.push .mark).push o) := fun o => (Ext.push _ _).trans0 (Ext.push _ _)
 have gM : ∀ (o : AObj), ((h5.push .mark).push o).get h5.next = some .mark := fun o => (Ext.push (h5.push .mark) o).get0 (Xh0 _) (Heap.get_new h5 .mark)
 have gL : ∀ (o : AObj), ((h5.push .mark).push o).get (h5.next + 1) = some o := fun o => Heap.get_new (h5.push .mark) o
 have nM : ∀ (o : AObj), ((h5.push .mark).push o).next = h5.next + 2 := fun o => rfl
 have eM' : ∀ (o : AObj) {S : List Nat} {h' : Heap}, Ext S ((h5.push .mark).push o) h' -> Ext S h5 h' := fun o S h' e => ((eM o).mono fun _ hh => nomatch hh).trans e fun s hs => .inl hs
 have ea : Ext [] h h5 := ((((E1.trans0 E2).trans0 E3).trans0 e4).trans0 E10).trans0 e5
 have hall := fun (t0 : Tm) (h7 : g7 t0 = .pointer (some ⟨B10, 0, none⟩)) => seg_tree_all_1_ok H (sg := sg) B3 p gb db lb many B2 L hL noc _ (GI (h5.next + 1) B10 t0) (gather_yld _ _ _ h7) lev (m + 19) (by omega) ((h5.push .mark).push (.loop (lp t0))) nd ts is priv 0 [] [h5.next + 1, B10] ((s.ext ea).ext (eM _)) ⟨(eM _).get0 (by omega) g35, (eM _).get0 (by omega) g25, by rw [nM]; omega, by rw [nM]; omega, by omega, fun _ hh => nomatch hh⟩ tp ⟨none, 0, rfl, gL _, (eM _).get0 (by omega) gO5, .empty _ _, by rw [nM]; omega, by rw [nM]; omega, by omega, fun _ hh => nomatch hh⟩ (fun hm => by have := lt0 _ hm; omega) (by simp; omega) (by simp; omega) (fun b hb => by have := lt0 _ hb; simp; omega) hd b1 b2 ((eM _).get0 nb1 gb1) ((eM _).get0 nb2 gb2) (by rw [nM]; omega) (by rw [nM]; omega) (by omega) (by omega) (by simp; omega) (by simp; omega)
 refine (Xi rfl (hall _ rfl)).mono ?_
 rintro v h7 ⟨S7, ver7, ids7, ⟨to, tc, rfl, gl7, gB7, o7, ll7, lB7, ne7, f7'⟩, tr7, hids7, hnd7, e7, f7⟩
 refine ⟨_, gl7, (fun hh => by cases hh), rfl, fun h8 eP nP => ?_⟩
 have n7 := e7.next
 rw [nM] at n7
 have mk7 : h7.get h5.next = some .mark := e7.getS (by rw [nM]; omega) (by simp; omega) (gM _)
 have mk8 := eP.get1 (by omega) (by omega) mk7
 have gB8 := eP.get1 (b := B10) (by omega) (by omega) gB7
 have tr8 := tr7.extS eP (by simp; omega) (by simp; omega)
 have o8 := o7.extS eP fun a ha hm => (f7' a ha).1 (XhB.1 hm)
 have gt8 := tr8.1
 refine R2 ?_
 have eF := Ext.put h8 h5.next none
 have nF : (h8.put h5.next none).next = h8.next := rfl
 generalize hF : h8.put h5.next none = h9 at eF nF
 have fr7 : ∀ a, to = some a -> a.block = h5.next + 1 \/ a.block = B10 \/ h5.next + 2 <= a.block := fun a ha => by
  rcases f7 a.block (by simp [Va ha]) with h1 | h1
  ·rcases XhQ.1 h1 with h1 | h1
   ·exact .inl h1
   ·exact .inr (.inl (XhB.1 h1))
  ·exact .inr (.inr h1)
 refine .inr ⟨h5.next, rfl, mk8, _, Xb (Xw rfl) (Xb (Xw rfl) Xg), ?_⟩
 rw [hF]
 refine ⟨to, tc, B3, B2, ver7, ids7, rfl, o8.extS eF fun a ha hm => ?_, fun a ha => ?_, tr8.extS eF (by simp; omega) (by simp; omega), by omega, by omega, fun j => by rw [hids7]; simp, hnd7 List.nodup_nil, ?_⟩
 ·have h1 := XhB.1 hm
  have h2 := fr7 a ha
  omega
 ·have h2 := fr7 a ha
  omega
 ·refine (((ea.trans (eM' _ e7) fun s hs => .inr ?_).trans1 eP (by omega)).trans1 eF (by omega))
  rcases XhQ.1 hs with rfl | hs
  ·omega
  rcases XhQ.1 hs with rfl | hs
  ·omega
  ·have := XhB.1 hs
   omega
end
section
variable {E : Env} {sg : Bool} (H : Has E)
include H
set_option maxHeartbeats 1000000 in
theorem seg_List_ok (m : Nat) (hm : 100000000 <= m) (h : Heap) (p gb db lb many : Nat) (L : List (List UInt8)) (hL : L.length <= 1000000) (noc : ∀ a ∈ L, ∀ b ∈ L, Sha a = Sha b -> a = b) (priv : List Nat) (s : StQ h p gb db lb many L priv) (lev : Nat) (nd : Nd) (ts is : List (List UInt8)) (tp : TreeP L lev nd ts is) (hd : ts.length <= 2000) :
  (enter E (ctx E (m + 90)) f_seg_List [.pointer (some ⟨p, 0, none⟩), .agg ⟨Xa (Sha (nd.bytes lev))⟩] h).Wp sg fun v h' => ∃ ao ca, v = .tuple ⟨[.slice ao ts.length ca, .int .i64 (XhA 0)]⟩ /\ Own h' 1 ao ts.length ca (fl YU ts) /\ (∀ a, ao = some a -> h.next <= a.block) /\ Ext [] h h' := by
 have hd32 := X5 (nd.bytes lev)
 refine H.run (k := k_seg_List) rfl rfl rfl ?_
 dsimp only [k_seg_List]
 have t2 : XU 32 (XY 0 (Xa (Sha (nd.bytes lev)))) = some (Xa (Sha (nd.bytes lev))) := XK (by rw [Xc, hd32])
 refine X9 ?_
 refine X2 (by conv => lhs; whnf) rfl fun H1 B1 E1 L1 G1 N1 Q1 => ?_
 refine R2 ?_
 refine Xj (Xi rfl (seg_gather_ok H (m + 9) (by omega) _ p gb db lb many L hL noc priv (s.ext E1) lev nd ts is tp hd)) ?_
 rintro v h3 ⟨ao, ca, tb, mb, ver, ids, rfl, o3, f3, tr3, ltb, lmb, _, _, e3⟩
 have g3 := tr3.1
 refine R2 ?_
 exact ⟨rfl, _, Xb (Xw rfl) (Xb (Xw rfl) Xg), ao, ca, rfl, o3, fun a ha => by have := f3 a ha; omega, E1.trans0 e3⟩
end
theorem cutG_map {α β : Type} (f : α -> β) (e : Nat -> β -> Bool) : ∀ (l cur : List α), X0 e (cur.map f) (l.map f) = (X0 (fun k x => e k (f x)) cur l).map (List.map f)
 | [], _ => rfl
 | x :: l, cur => by
  have i1 := cutG_map f e l []
  have i2 := cutG_map f e l (cur ++ [x])
  rw [Xh2] at i2
  show X0 e (cur.map f) (f x :: l.map f) = _
  rw [X0, X0]
  rw [XhP, List.isEmpty_map]
  split
  ·rw [Xit, <- i1, Xh2]; rfl
  ·exact i2
def upKid (lev : Nat) (c : List Kid) : Kid := (⟨[], c.map fun k => k.1.link lev⟩, KS c, Sha (Nd.bytes (lev + 1) ⟨[], c.map fun k => k.1.link lev⟩) :: XfX c)
def Vq (lev : Nat) (ks : List Kid) : List Kid := (X0 (fun k (x : Kid) => eL (lev + 1) k (x.1.link lev)) [] ks).map (upKid lev)
theorem upKids_nd (lev : Nat) (ks : List Kid) : (Vq lev ks).map (·.1) = above lev (ks.map (·.1)) := by
 unfold Vq above links
 rw [Xis, Xis]
 have h := cutG_map (fun k : Kid => k.1.link lev) (eL (lev + 1)) ks []
 have h2 : ks.map (Nd.link lev ∘ fun x => x.1) = ks.map fun k : Kid => k.1.link lev := rfl
 rw [h2]
 rw [show ([] : List Lk) = ([] : List Kid).map (fun k : Kid => k.1.link lev) from rfl, h, Xis]
 rfl
theorem kidT_flat : ∀ cs : List (List Kid), (cs.map KS).flatten = KS cs.flatten
 | [] => rfl
 | c :: cs => by rw [Xit, XiD, XiD, kidT_append, kidT_flat cs]
theorem upKids_T (lev : Nat) (ks : List Kid) : KS (Vq lev ks) = KS ks := by
 have h := kidT_flat (X0 (fun k (x : Kid) => eL (lev + 1) k (x.1.link lev)) [] ks)
 rw [Y3] at h
 rw [<- h]
 unfold Vq
 show ((((X0 _ [] ks).map (upKid lev)).map (·.2.1)).flatten) = _
 rw [Xis]
 rfl
theorem Xgz (f lev : Nat) (nds : List Nd) {n : Nd} (h : n ∈ nds) : n.bytes lev ∈ YT (Ya f lev nds) := by
 have : ∃ r, Ya f lev nds = (lev, nds) :: r := by
  cases f with
  | zero => exact ⟨[], rfl⟩
  | succ f =>
   unfold Ya
   split
   ·exact ⟨_, rfl⟩
   ·exact ⟨_, rfl⟩
 obtain ⟨r, hr⟩ := this
 rw [hr]
 unfold YT
 rw [Xit, XiD]
 exact List.mem_append_left _ (XiJ h)
theorem tree_of_rows (L : List (List UInt8)) : ∀ (k f lev : Nat) (ks : List Kid), k <= f -> lev + k <= 20 -> ks ≠ [] -> ks.length <= 2 ^ k -> (∀ x ∈ ks, TreeP L lev x.1 x.2.1 x.2.2) -> ((∀ x ∈ ks, 1 <= x.1.many) \/ ks.length <= 1) -> (∀ b ∈ YT (Ya f lev (ks.map (·.1))), b ∈ L) -> XcM (ks.map (·.1)) <= 2000 ->
  ∃ lev' nd is, Xd3 (Ya f lev (ks.map (·.1))) = Sha (nd.bytes lev') /\ TreeP L lev' nd (KS ks) is /\ ∀ d, d ∈ is ↔ d ∈ XfX ks \/ ∃ b ∈ YT (Ya f lev (ks.map (·.1))), d = Sha b := by
 have one : ∀ (f lev : Nat) (x : Kid), TreeP L lev x.1 x.2.1 x.2.2 -> ∃ lev' nd is, Xd3 (Ya f lev ([x].map (·.1))) = Sha (nd.bytes lev') /\ TreeP L lev' nd (KS [x]) is /\ ∀ d, d ∈ is ↔ d ∈ XfX [x] \/ ∃ b ∈ YT (Ya f lev ([x].map (·.1))), d = Sha b := by
  intro f lev x hx
  have hr : Ya f lev ([x].map (·.1)) = [(lev, [x.1])] := by cases f <;> rfl
  rw [hr]
  refine ⟨lev, x.1, x.2.2, rfl, by simpa [KS] using hx, fun d => ⟨fun h => .inl (by simpa [XfX] using h), fun h => ?_⟩⟩
  rcases h with h | ⟨b, hb, rfl⟩
  ·simpa [XfX] using h
  ·have : b = x.1.bytes lev := by simpa [YT] using hb
   rw [this]
   obtain ⟨_, _, _, _, _, _, e, _⟩ := hx.gen
   rw [e]
   simp
 intro k
 induction k with
 | zero =>
  intro f lev ks hf hl hne hlen hT hm hL hs
  match ks, hne, hlen with
  | [x], _, _ => exact one f lev x (hT x (by simp))
  | x :: y :: l, _, h => simp at h
 | succ k ih =>
  intro f lev ks hf hl hne hlen hT hm hL hs
  match ks, hne with
  | [x], _ => exact one f lev x (hT x (by simp))
  | x :: y :: l, _ =>
   obtain ⟨f, rfl⟩ : ∃ g, f = g + 1 := ⟨f - 1, by omega⟩
   generalize hks : x :: y :: l = ks at *
   have h2 : 2 <= ks.length := by rw [<- hks]; simp
   have hr : Ya (f + 1) lev (ks.map (·.1)) = (lev, ks.map (·.1)) :: Ya f (lev + 1) ((Vq lev ks).map (·.1)) := by
    rw [upKids_nd]
    show (if (ks.map (·.1)).length <= 1 then _ else _) = _
    rw [if_neg (by rw [XhP]; omega)]
   rw [hr] at hL ⊢
   have hm1 : ∀ x ∈ ks, 1 <= x.1.many := hm.resolve_right (by omega)
   have hnOK : ∀ n ∈ ks.map (·.1), n.OK := fun n hn => by
    obtain ⟨q, hq, rfl⟩ := XhW.1 hn
    exact (hT q hq).gen.1.toOK
   have hup := above_OK (lev := lev) hnOK hs
   rw [<- upKids_nd] at hup
   have hL' : ∀ b ∈ YT (Ya f (lev + 1) ((Vq lev ks).map (·.1))), b ∈ L := fun b hb => hL b (by
    unfold YT at hb ⊢
    rw [Xit, XiD]
    exact XiC _ hb)
   have hcl := cutG_len (e := fun k (x : Kid) => eL (lev + 1) k (x.1.link lev)) (fun x => eL_8 _ _) [] ks (by simp)
   have hhalf := cutG_half (e := fun k (x : Kid) => eL (lev + 1) k (x.1.link lev)) (fun k x => eL_two (XiT lev) k _) [] ks
   have hsub : ∀ c ∈ X0 (fun k (x : Kid) => eL (lev + 1) k (x.1.link lev)) [] ks, ∀ q ∈ c, q ∈ ks := fun c hc q hq => by
    have : q ∈ (X0 (fun k (x : Kid) => eL (lev + 1) k (x.1.link lev)) [] ks).flatten := XiK.2 ⟨c, hc, hq⟩
    rwa [Y3] at this
   have hmany : ∀ c : List Kid, 0 < c.length -> (∀ q ∈ c, 1 <= q.1.many) -> 1 <= Y7 (c.map fun k => k.1.link lev) := by
    intro c hc hq
    match c, hc with
    | q :: c, _ =>
     have := hq q (by simp)
     show 1 <= q.1.many + _
     omega
   have hTu : ∀ u ∈ Vq lev ks, TreeP L (lev + 1) u.1 u.2.1 u.2.2 /\ 1 <= u.1.many := fun u hu => by
    have hok := hup u.1 (XiJ hu)
    have hin := hL' _ (Xgz f (lev + 1) _ (XiJ (f := fun k : Kid => k.1) hu))
    unfold Vq at hu
    obtain ⟨c, hc, rfl⟩ := XhW.1 hu
    have h1 := hcl c hc
    have h3 := hsub c hc
    refine ⟨⟨⟨hok, by omega, fun h => by omega, fun _ => ⟨rfl, ?_⟩, fun y hy => ?_⟩, hin, c, rfl, fun q hq => hT q (h3 q hq), rfl, rfl⟩, ?_⟩
    ·show c.map _ ≠ []
     intro e
     rw [List.map_eq_nil_iff] at e
     rw [e] at h1
     simp at h1
    ·obtain ⟨q, hq, rfl⟩ := XhW.1 hy
     exact hm1 q (h3 q hq)
    ·have := hmany c h1.1 fun q hq => hm1 q (h3 q hq)
     show 1 <= 0 + Y7 (c.map fun k => k.1.link lev)
     omega
   have hlenu : (Vq lev ks).length = (X0 (fun k (x : Kid) => eL (lev + 1) k (x.1.link lev)) [] ks).length := by unfold Vq; rw [XhP]
   have hneu : Vq lev ks ≠ [] := by
    unfold Vq
    rw [<- hks]
    intro e
    rw [List.map_eq_nil_iff] at e
    exact cutG_ne _ _ _ _ e
   have hsu : XcM ((Vq lev ks).map (·.1)) <= 2000 := by rw [upKids_nd, JI]; exact hs
   obtain ⟨lev', nd, is, e1, e2, e3⟩ := ih f (lev + 1) (Vq lev ks) (by omega) (by omega) hneu (by
    rw [hlenu]
    rw [Nat.pow_succ] at hlen
    simp at hhalf
    omega) (fun u hu => (hTu u hu).1) (.inl fun u hu => (hTu u hu).2) hL' hsu
   rw [rootR_cons]
   rw [upKids_T] at e2
   refine ⟨lev', nd, is, e1, e2, fun d => (e3 d).trans ?_⟩
   have hk : ∀ d, d ∈ XfX (Vq lev ks) ↔ d ∈ XfX ks \/ ∃ u ∈ Vq lev ks, d = Sha (u.1.bytes (lev + 1)) := fun d => by
    have hfl : XfX ks = XfX (X0 (fun k (x : Kid) => eL (lev + 1) k (x.1.link lev)) [] ks).flatten := by rw [Y3]
    rw [hfl]
    unfold Vq XfX
    simp only [XiK, XhW, Xis]
    constructor
    ·rintro ⟨l, ⟨c, hc, rfl⟩, hd⟩
     rcases XhQ.1 hd with rfl | hd
     ·exact .inr ⟨_, ⟨c, hc, rfl⟩, rfl⟩
     ·obtain ⟨l, h1, h2⟩ := XiK.1 hd
      obtain ⟨q, h3, rfl⟩ := XhW.1 h1
      exact .inl ⟨_, ⟨q, ⟨c, hc, h3⟩, rfl⟩, h2⟩
    ·rintro (⟨l, ⟨q, ⟨c, hc, h3⟩, rfl⟩, h2⟩ | ⟨u, ⟨c, hc, rfl⟩, rfl⟩)
     ·exact ⟨_, ⟨c, hc, rfl⟩, Xii _ (XiK.2 ⟨_, XiJ h3, h2⟩)⟩
     ·exact ⟨_, ⟨c, hc, rfl⟩, List.mem_cons_self⟩
   have hp : YT ((lev, ks.map (·.1)) :: Ya f (lev + 1) ((Vq lev ks).map (·.1))) = (ks.map (·.1)).map (Nd.bytes lev) ++ YT (Ya f (lev + 1) ((Vq lev ks).map (·.1))) := rfl
   rw [hp, hk d]
   constructor
   ·rintro ((h | ⟨u, hu, rfl⟩) | ⟨b, hb, rfl⟩)
    ·exact .inl h
    ·exact .inr ⟨_, XiC _ (Xgz f (lev + 1) _ (XiJ (f := fun k : Kid => k.1) hu)), rfl⟩
    ·exact .inr ⟨b, XiC _ hb, rfl⟩
   ·rintro (h | ⟨b, hb, rfl⟩)
    ·exact .inl (.inl h)
    ·rcases XhV.1 hb with hb | hb
     ·obtain ⟨n, hn, rfl⟩ := XhW.1 hb
      obtain ⟨q, hq, rfl⟩ := XhW.1 hn
      obtain ⟨_, _, _, _, _, _, e, _⟩ := (hT q hq).gen
      refine .inl (.inl (XiK.2 ⟨_, XiJ (f := fun k : Kid => k.2.2) hq, ?_⟩))
      show Sha (q.1.bytes lev) ∈ q.2.2
      rw [e]
      simp
     ·exact .inr ⟨b, hb, rfl⟩
theorem tree_of_texts (L : List (List UInt8)) (texts : List (List UInt8)) (ht : texts.length <= 130) (hs : ∀ s ∈ texts, s.length <= 8000) (hL : ∀ b ∈ Yu texts, b ∈ L) : ∃ lev nd is, YC texts = Sha (nd.bytes lev) /\ TreeP L lev nd texts is /\ ∀ d, d ∈ is ↔ ∃ b ∈ Yu texts, d = Sha b := by
 obtain ⟨k1, k2, k3, k4⟩ := XcQ ht hs
 have hin : ∀ n ∈ leaves texts, n.bytes 0 ∈ L := fun n hn => hL _ (Xgz 130 0 _ hn)
 have hlk : ∀ n ∈ leaves texts, n.links = [] := fun n hn => by
  unfold leaves at hn
  split at hn
  ·rw [XhB.1 hn]
  ·obtain ⟨c, _, rfl⟩ := XhW.1 hn; rfl
 have hnd : ((leaves texts).map fun n => ((n, n.texts, [Sha (n.bytes 0)]) : Kid)).map (·.1) = leaves texts := by rw [Xis]; exact List.map_id _
 have hT : KS ((leaves texts).map fun n => ((n, n.texts, [Sha (n.bytes 0)]) : Kid)) = texts := by
  unfold KS
  rw [Xis]
  unfold leaves
  cases texts with
  | nil => rfl
  | cons x l =>
   rw [show (List.isEmpty (x :: l)) = false from rfl, if_neg (by decide), Xis]
   have := Y3 eS (x :: l)
   exact (congrArg List.flatten (List.map_id _)).trans this
 have hm : (∀ x ∈ (leaves texts).map fun n => ((n, n.texts, [Sha (n.bytes 0)]) : Kid), 1 <= x.1.many) \/ ((leaves texts).map fun n => ((n, n.texts, [Sha (n.bytes 0)]) : Kid)).length <= 1 := by
  cases texts with
  | nil => exact .inr (by decide)
  | cons x l =>
   refine .inl fun q hq => ?_
   obtain ⟨n, hn, rfl⟩ := XhW.1 hq
   unfold leaves at hn
   rw [show (List.isEmpty (x :: l)) = false from rfl, if_neg (by decide)] at hn
   obtain ⟨c, hc, rfl⟩ := XhW.1 hn
   have := (cutG_len eS_8 [] (x :: l) (by simp) c hc).1
   show 1 <= c.length + 0
   omega
 have := tree_of_rows L 8 130 0 ((leaves texts).map fun n => ((n, n.texts, [Sha (n.bytes 0)]) : Kid)) (by decide) (by decide) (by
  intro e
  rw [List.map_eq_nil_iff] at e
  rw [e] at k3
  simp at k3) (by rw [XhP]; omega) (fun q hq => by
   obtain ⟨n, hn, rfl⟩ := XhW.1 hq
   exact ⟨⟨k1 n hn, by decide, fun _ => hlk n hn, fun h => by omega, fun y hy => by rw [hlk n hn] at hy; cases hy⟩, hin n hn, rfl, rfl⟩) hm (by rw [hnd]; exact hL) (by rw [hnd]; exact k2)
 rw [hnd, hT] at this
 obtain ⟨lev, nd, is, e1, e2, e3⟩ := this
 refine ⟨lev, nd, is, e1, e2, fun d => (e3 d).trans ⟨fun h => ?_, .inr⟩⟩
 rcases h with h | h
 ·obtain ⟨l, h1, h2⟩ := XiK.1 h
  obtain ⟨q, h3, rfl⟩ := XhW.1 h1
  obtain ⟨n, hn, rfl⟩ := XhW.1 h3
  rw [XhB.1 h2]
  exact ⟨_, Xgz 130 0 _ hn, rfl⟩
 ·exact h
theorem root32 (texts : List (List UInt8)) (ht : texts.length <= 130) (hs : ∀ s ∈ texts, s.length <= 8000) : (YC texts).length = 32 := root_len _ _ _ (XcQ ht hs).2.2.1
section
variable {E : Env} {sg : Bool} (H : Has E)
include H
theorem seg_List_T (m : Nat) (hm : 100000000 <= m) (h : Heap) (p gb db lb many : Nat) (L : List (List UInt8)) (hL : L.length <= 1000000) (noc : ∀ a ∈ L, ∀ b ∈ L, Sha a = Sha b -> a = b) (priv : List Nat) (s : StQ h p gb db lb many L priv) (texts : List (List UInt8)) (ht : texts.length <= 130) (hs : ∀ s ∈ texts, s.length <= 8000) (hin : ∀ b ∈ Yu texts, b ∈ L) :
  (enter E (ctx E (m + 90)) f_seg_List [.pointer (some ⟨p, 0, none⟩), .agg ⟨Xa (YC texts)⟩] h).Wp sg fun v h' => ∃ ao ca, v = .tuple ⟨[.slice ao texts.length ca, .int .i64 (XhA 0)]⟩ /\ Own h' 1 ao texts.length ca (fl YU texts) /\ (∀ a, ao = some a -> h.next <= a.block) /\ Ext [] h h' := by
 obtain ⟨lev, nd, is, e1, e2, _⟩ := tree_of_texts L texts ht hs hin
 rw [e1]
 exact seg_List_ok H m hm h p gb db lb many L hL noc priv s lev nd texts is e2 (by omega)
end
section
variable {E : Env} {sg : Bool} (H : Has E)
include H
set_option maxHeartbeats 1000000 in
theorem law21_big_ok (m : Nat) (hm : 100000000 <= m) (h : Heap) (xs : List (List UInt8)) (xo : Option Addr) (xc : Nat) (sx : Slc h 1 xo xs.length xc (fl YU xs)) :
  (enter E (ctx E m) XdK [.slice xo xs.length xc] h).Wp sg fun v h' => ∃ r, v = .bool r /\ (r = false -> xs.length <= 60 /\ ∀ s ∈ xs, s.length <= 100) /\ h' = h := by
 refine H.run (k := Kg) rfl rfl rfl ?_
 dsimp only [Kg]
 refine R ?_
 refine Yl (min xs.length 61) 0 (fun i t x hk => (g0 t = (.slice xo xs.length xc) /\ g3 t = (.int .i64 (XhA i))) /\ x = ⟨[], none, none⟩ /\ hk = h /\ ∀ s ∈ xs.take i, s.length <= 100) ⟨⟨rfl, rfl⟩, rfl, rfl, fun s hs => by simp at hs⟩ (XhO _) (XG (by omega)) ?_
 rintro i t x hk hi ⟨⟨r0, r3⟩, rfl, rfl, htk⟩
 obtain ⟨t0, rfl⟩ : ∃ t0, t = p0 (.slice xo xs.length xc) (p3 (.int .i64 (XhA i)) t0) := ⟨t, (show t = p0 (g0 t) (p3 (g3 t) t) from rfl).trans (by rw [r0, r3])⟩
 clear r0 r3
 by_cases hlx : i < xs.length
 ·by_cases h61 : i < 61
  ·obtain ⟨a, wa, xa, hao, ga, na, ta⟩ := sx.nonempty (by omega)
   subst hao
   obtain ⟨u, hu⟩ : ∃ u, xs[i]? = some u := ⟨_, XhL hlx⟩
   have hn1 : nth (a.off + i * 1) xa = some (sv u) := by
    rw [XhI, Yf ta (by omega), Uu, Xic, hu]; rfl
   by_cases hlu : u.length > 100
   ·refine R2 ?_
    refine Xd (l_lenStr rfl) ?_
    refine R ?_
    refine wp_condT rfl (decide_eq_true (show 100 < u.length from hlu)) ?_
    refine R ?_
    exact ⟨rfl, _, Xb (Xw rfl) Xg, true, rfl, (fun e => by cases e), rfl⟩
   ·refine R2 ?_
    refine Xd (l_lenStr rfl) ?_
    refine R ?_
    refine wp_condF rfl (decide_eq_false (show ¬ 100 < u.length from hlu)) ?_
    refine R ?_
    refine ⟨by omega, ⟨rfl, rfl⟩, rfl, rfl, fun s hs => ?_⟩
    rw [Xh6, hu] at hs
    rcases XhV.1 hs with hs | hs
    ·exact htk s hs
    ·rw [show s = u by simpa using hs]; omega
  ·refine R ?_
   exact ⟨rfl, _, Xb (Xw rfl) Xg, _, rfl, (fun e => by simp at e; omega), rfl⟩
 ·refine R ?_
  refine ⟨rfl, _, Xb (Xw rfl) Xg, _, rfl, (fun e => ⟨by simp at e; omega, fun s hs => htk s ?_⟩), rfl⟩
  rw [Xi6 (by omega)]; exact hs
end
structure Own1 (h : Heap) (ao : Option Addr) (n : Nat) (cs : List Value) : Prop where
 len : cs.length = n
 pos : 0 < n
 at' : ∃ b sp, ao = some ⟨b, 0, sp⟩ /\ (sp = none \/ sp = some 1) /\ h.get b = some (.cells true cs) /\ b < h.next
theorem Own1.append {h : Heap} {ao : Option Addr} {n : Nat} {cs : List Value} (o : Own1 h ao n cs) {k : Nat} {new : List Value} (hnew : new.length = k) (hk : 0 < k) (hb : n + k < 100000000) :
  ∃ ao' h', h.appendL 1 (.slice ao n n) k new = some (.slice ao' (n + k) (n + k), h') /\ Own1 h' ao' (n + k) (cs ++ new) /\ Ext (XD ao) h h' /\ (∀ a, ao' = some a -> h.next <= a.block /\ a.block < h'.next) := by
 obtain ⟨h1, h2, b, sp, rfl, h3, h4, h5⟩ := o
 have hload : h.load b 0 (Nat.mul n 1) = some cs := Heap.load_of h4 (by rw [show Nat.mul n 1 = n from XhI n]; exact XK h1)
 have e1 : Nat.blt (Nat.add n k) 100000000 = true := blt_iff.2 hb
 have e2 : Nat.ble (Nat.add n k) n = false := by
  rw [Bool.eq_false_iff]
  intro hh
  have : n + k <= n := XhH hh
  omega
 rcases h3 with rfl | rfl
 ·refine ⟨some ⟨h.next, 0, WV 1⟩, h.push (.cells true (cs ++ new)), ?_, ⟨by rw [XhC]; omega, by omega, h.next, WV 1, rfl, .inr rfl, Heap.get_new _ _, Xh0 _⟩, (Ext.push _ _).mono (fun _ hh => nomatch hh), fun a ha => by cases ha; exact ⟨XhE _, Xh0 _⟩⟩
  unfold Heap.appendL
  dsimp only
  rw [hload]
  dsimp only
  rw [e1, e2, UB]
  rfl
 ·refine ⟨some ⟨h.next, 0, WV 1⟩, (h.put b none).push (.cells true (cs ++ new)), ?_, ⟨by rw [XhC]; omega, by omega, h.next, WV 1, rfl, .inr rfl, Heap.get_new (h.put b none) _, Xh0 _⟩, (Ext.put h b none).trans0 (.push _ _), fun a ha => by cases ha; exact ⟨XhE _, Xh0 _⟩⟩
  unfold Heap.appendL
  dsimp only
  rw [hload]
  dsimp only
  rw [e1, e2, UB]
  have e3 : (Nat.beq n 0 || !(Nat.beq 1 1)) = false := by
   rw [show Nat.beq n 0 = false from by rw [beqN]; exact decide_eq_false (by omega)]; rfl
  dsimp only [Bool.not_true, cond_false]
  rw [e3, h4]
  rfl
theorem Own1.slc {h : Heap} {ao : Option Addr} {n : Nat} {cs : List Value} (o : Own1 h ao n cs) : Slc h 1 ao n n cs := by
 obtain ⟨h1, h2, b, sp, rfl, h3, h4, h5⟩ := o
 refine ⟨by rw [h1, XhI], XhE _, (fun e => nomatch e), (fun a e => by cases e; exact .inr h3), fun a e => ?_⟩
 cases e
 exact ⟨true, cs, h4, h5, XK (by rw [h1, XhI])⟩
section
variable {sg : Bool} {N : Tm -> Aux -> Heap -> Prop} {X : Nat -> Tm -> Aux -> Heap -> Prop} {R : Tm -> Aux -> Heap -> Prop} {c : Ctx} {t : Tm} {x : Aux} {h : Heap} {g g' : Xe}
theorem wp_append1 {p : Value -> Tm -> Tm} {rest : KB} {ao : Option Addr} {n : Nat} {cs : List Value} (o : Own1 h ao n cs) {v : Value} {k : Nat} {new : List Value} (hg : g t = .slice ao n n) (hv : g' t = v) (hl : lenV v = some k) (he : h.elems 1 k v = some new) (hnew : new.length = k) (hk : 0 < k) (hb : n + k < 100000000)
  (H : ∀ ao' h', Own1 h' ao' (n + k) (cs ++ new) -> Ext (XD ao) h h' -> h.next <= h'.next -> (∀ a, ao' = some a -> h.next <= a.block /\ a.block < h'.next) -> (rest c (p (.slice ao' (n + k) (n + k)) t) x h').Wp sg N X R) : (ZN (Yi (Xz 1 g g')) p rest c t x h).Wp sg N X R := by
 obtain ⟨ao', h', e1, e2, e3, e4⟩ := o.append hnew hk hb
 exact VI (JS hg hv hl he e1) (H ao' h' e2 e3 e3.next e4)
end
section
variable {E : Env} {sg : Bool} (H : Has E)
include H
set_option maxHeartbeats 1000000 in
theorem Xhg (m : Nat) (hm : 100000000 <= m) (h : Heap) (k : Nat) (hk : k < 100000000) : (enter E (ctx E m) Xa6 [.int .i64 (XhA k)] h).Wp sg fun v h' => ∃ ao, v = .slice ao (XA k).length (XA k).length /\ Own1 h' ao (XA k).length (Xa (XA k)) /\ (∀ a, ao = some a -> h.next <= a.block) /\ Ext [] h h' := by
 refine H.run (k := Ub) rfl rfl rfl ?_
 dsimp only [Ub]
 refine R ?_
 refine Xd (Xga rfl rfl (by omega)) ?_
 refine R ?_
 refine XJ (Xf (by conv => lhs; whnf) rfl rfl rfl XB) fun H1 B1 E1 L1 G1 N1 Q1 => ?_
 refine R ?_
 refine Xd (l_divN rfl rfl (by omega) (by omega)) ?_
 refine R ?_
 have hb8 : ∀ a : Nat, a < 128 -> (Value.int .u8 (IntKind.u8.wrap (XhA a))) = byteVal (UInt8.ofNat a) := fun a ha => wrap8N (by omega)
 refine XdH (fun n t x hk => ∃ pre q ao, n = q /\ (g0 t = (.int .i64 (XhA (q / 128))) /\ g3 t = (.slice ao (pre.length + 1) (pre.length + 1))) /\ x = ⟨[], none, none⟩ /\ XA k = pre ++ XA q /\ q <= k /\ Own1 hk ao (pre.length + 1) (Xa (pre ++ [UInt8.ofNat (q % 128)])) /\ (∀ a, ao = some a -> h.next <= a.block) /\ Ext [] h hk) k ⟨[], k, some ⟨B1, 0, none⟩, rfl, ⟨rfl, rfl⟩, rfl, rfl, XhE _, ⟨rfl, by omega, B1, none, rfl, .inl rfl, by rw [G1, hb8 _ (Nat.mod_lt _ (by omega))]; rfl, N1⟩, (fun a ha => by cases ha; show h.next <= B1; omega), E1⟩ (XG (by omega)) ?_
 rintro q t x hk1 ⟨pre, q', ao, rfl, ⟨r0, r3⟩, rfl, henc, hqk, oo, fr, ek⟩
 obtain ⟨t0, rfl⟩ : ∃ t0, t = p0 (.int .i64 (XhA (q / 128))) (p3 (.slice ao (pre.length + 1) (pre.length + 1)) t0) := ⟨t, (show t = p0 (g0 t) (p3 (g3 t) t) from rfl).trans (by rw [r0, r3])⟩
 clear r0 r3
 obtain ⟨o1, o2, b, sp, rfl, o3, o4, o5⟩ := oo
 have lb : h.next <= b := fr _ rfl
 have hpl : pre.length <= 100 := by
  have h1 := congrArg List.length henc
  rw [XhC] at h1
  have h2 := Zs (k := k) (by omega)
  omega
 by_cases hq : q < 128
 ·have hz : q / 128 = 0 := Nat.div_eq_of_lt hq
  rw [YB hq] at henc
  refine R ?_
  have e0 : XA k = pre ++ [UInt8.ofNat (q % 128)] := by rw [henc, Nat.mod_eq_of_lt hq]
  refine ⟨rfl, _, Xb (Xw rfl) Xg, some ⟨b, 0, sp⟩, ?_, ?_, fr, ek⟩
  ·rw [e0, XhC]; rfl
  ·rw [e0, XhC]; exact ⟨o1, o2, b, sp, rfl, o3, o4, o5⟩
 ·have hz : 0 < q / 128 := Nat.div_pos (by omega) (by omega)
  have hn1 : nth (0 + (pre.length + 1 - 1) * 1) (Xa (pre ++ [UInt8.ofNat (q % 128)])) = some (byteVal (UInt8.ofNat (q % 128))) := by
   have e1 : Xa (pre ++ [UInt8.ofNat (q % 128)]) = Xa pre ++ (byteVal (UInt8.ofNat (q % 128)) :: []) := XS _ _
   rw [e1]
   exact nth_app (by rw [Xc]; omega)
  refine R ?_
  refine Xd (Xaj rfl rfl (by omega) (by omega)) ?_
  refine R ?_
  refine Xd (Xaj rfl rfl (by omega) (by omega)) ?_
  refine R2 ?_
  refine Xd (YV rfl rfl rfl) ?_
  refine R ?_
  refine Xm rfl (by conv => lhs; whnf) rfl o4 rfl (by omega) fun H30 E30 L30 G30 => ?_
  refine R ?_
  refine Xd (Xga rfl rfl (by omega)) ?_
  refine R ?_
  refine XJ (Xf (by conv => lhs; whnf) rfl rfl rfl XB) fun H31 B31 E31 L31 G31 N31 Q31 => ?_
  have hv1 : Value.int .u8 (IntKind.u8.wrap (((UInt8.ofNat (q % 128)).toNat : Int) + XhA 128)) = byteVal (UInt8.ofNat (q % 128 + 128)) := by
   rw [show (((UInt8.ofNat (q % 128)).toNat : Int) + XhA 128) = XhA (q % 128 + 128) by
    have : (UInt8.ofNat (q % 128)).toNat = q % 128 := by rw [UInt8.toNat_ofNat']; omega
    rw [this]; rfl]
   exact wrap8N (by omega)
  have hv2 : Value.int .u8 (IntKind.u8.wrap (XhA (q / 128 % 128))) = byteVal (UInt8.ofNat (q / 128 % 128)) := hb8 _ (Nat.mod_lt _ (by omega))
  have hst : ∀ i, i = pre.length -> XZ [byteVal (UInt8.ofNat (q % 128 + 128))] i (Xa (pre ++ [UInt8.ofNat (q % 128)])) = Xa (pre ++ [UInt8.ofNat (q % 128 + 128)]) := fun i hi => by
   have e1 : Xa (pre ++ [UInt8.ofNat (q % 128)]) = Xa pre ++ ([byteVal (UInt8.ofNat (q % 128))] ++ []) := XS _ _
   have e2 : Xa (pre ++ [UInt8.ofNat (q % 128 + 128)]) = Xa pre ++ ([byteVal (UInt8.ofNat (q % 128 + 128))] ++ []) := XS _ _
   rw [e1, e2]
   exact Yk (by rw [Xc, hi]) rfl
  rw [hv1, hst _ (by omega)] at G30
  have l30 := E30.next
  have l31 := E31.next
  have oa : Own1 H31 (some ⟨b, 0, sp⟩) (pre.length + 1) (Xa (pre ++ [UInt8.ofNat (q % 128 + 128)])) := ⟨by rw [Xc, XhC]; rfl, by omega, b, sp, rfl, o3, E31.get0 (by omega) G30, by omega⟩
  have hG31 : H31.get B31 = some (.cells true [byteVal (UInt8.ofNat (q / 128 % 128))]) := by rw [<- hv2]; exact G31
  refine wp_append1 oa rfl rfl rfl (Slc.of_get (z := 1) (n := 1) hG31 N31 rfl).elemsAll rfl (by omega) (by omega) fun ao2 h5 o5' e5 l5 f5 => ?_
  refine R ?_
  refine Xd (l_divN rfl rfl (by omega) (by omega)) ?_
  refine R ?_
  have hpe : (pre ++ [UInt8.ofNat (q % 128 + 128)]).length = pre.length + 1 := by rw [XhC]; rfl
  refine ⟨q / 128, Nat.div_lt_self (by omega) (by omega), pre ++ [UInt8.ofNat (q % 128 + 128)], q / 128, ao2, rfl, by rw [hpe]; exact ⟨rfl, rfl⟩, rfl, by rw [henc, WR hq, Xh1]; rfl, by omega, ?_, fun a ha => by have := f5 a ha; omega, ?_⟩
  ·rw [hpe, XS]; exact o5'
  ·refine (((ek.trans E30 fun s hs => .inr ?_).trans0 E31).trans e5 fun s hs => .inr ?_)
   ·rw [XhB.1 hs]; exact lb
   ·rw [XhB.1 hs]; exact lb
end
def RwP (h : Heap) (b : Nat) (priv : List Nat) (bs : List UInt8) : Prop :=
 ∃ ao ca, Own h 1 ao bs.length ca (Xa bs) /\ h.get b = some (.cells true [.slice ao bs.length ca, .bool false]) /\ b < h.next /\ (∀ a, ao = some a -> a.block ≠ b) /\ priv = b :: XD ao
section
variable {E : Env} {sg : Bool} (H : Has E)
include H
set_option maxHeartbeats 1000000 in
theorem ZU (m : Nat) (hm : 100000000 <= m) (h : Heap) (b : Nat) (priv : List Nat) (bs : List UInt8) (k : Nat) (hk : k < 100000000) (w : RwP h b priv bs) (hbig : bs.length + (XA k).length < 100000000) :
  (enter E (ctx E (m + 2)) U7 [.pointer (some ⟨b, 0, none⟩), .int .i64 (XhA k)] h).Wp sg fun v h' => ∃ priv', RwP h' b priv' (bs ++ XA k) /\ WrTo priv h h' priv' := by
 refine H.run (k := WO) rfl rfl rfl ?_
 dsimp only [WO]
 obtain ⟨ao, ca, o, gb, hlt, hne, rfl⟩ := w
 refine R2 ?_
 refine Xm rfl (by conv => lhs; whnf) rfl gb rfl (XhH rfl) fun H1 E1 L1 G1 => ?_
 refine R2 ?_
 have l1 := E1.next
 have o1 := o.extS E1 fun a ha hm => hne a ha (XhB.1 hm)
 have hb1 : b < H1.next := by omega
 have gb1 : H1.get b = some (.cells true [.slice ao bs.length ca, .bool false]) := G1
 refine YL (Xi rfl (Xhg H (sg := true) (m + 1) (by omega) _ k hk)) (fun v h' ⟨_, _, _, _, q⟩ => YI rfl (XH (XQ rfl (q.get0 hb1 gb1) rfl) rfl) rfl) ?_
 rintro v h3 ⟨so, rfl, os, fs, e3⟩
 have l3 := e3.next
 have gb3 := e3.get0 (by omega) gb1
 refine WM (o1.ext e3) rfl rfl rfl os.slc.elemsAll (by rw [Xc, XhI]) (by omega) (fun _ => rfl) fun ao2 ca2 h4 o4 e4 l4 f4 => ?_
 have gb4 := e4.getS (by omega) (UX hne) gb3
 refine R ?_
 refine Yw rfl (by conv => lhs; whnf) rfl gb4 rfl (XhH rfl) (fun _ => rfl) fun H20 E20 L20 G20 => ?_
 refine XdI ?_
 have hne2 : ∀ a, ao2 = some a -> a.block ≠ b := fun a ha => by
  rcases f4 a ha with hx | hx
  ·exact fun e => UX hne (e ▸ hx)
  ·omega
 refine ⟨rfl, _, Xg, b :: XD ao2, ⟨ao2, ca2, ?_, by rw [XhC]; exact G20, by omega, hne2, rfl⟩, ?_⟩
 ·rw [XS, XhC]
  exact o4.extS E20 fun a ha hm => hne2 a ha (XhB.1 hm)
 ·exact WrTo.trans (q := b :: XD ao) ⟨E1.mono fun s hs => .inl (by rw [XhB.1 hs]; simp), fun x hx => .inl hx⟩ (.step e3 e4 E20 f4)
set_option maxHeartbeats 1000000 in
theorem ref01_Writer_Text_ok (m : Nat) (hm : 100000000 <= m) (h : Heap) (b : Nat) (priv : List Nat) (bs : List UInt8) (s : List UInt8) (hk : s.length < 100000000) (w : RwP h b priv bs) (hbig : bs.length + (XA s.length).length + s.length < 100000000) :
  (enter E (ctx E (m + 2)) Ux [.pointer (some ⟨b, 0, none⟩), sv s] h).Wp sg fun v h' => ∃ priv', RwP h' b priv' (bs ++ X4 s) /\ WrTo priv h h' priv' := by
 refine H.run (k := Ww) rfl rfl rfl ?_
 dsimp only [Ww]
 obtain ⟨ao, ca, o, gb, hlt, hne, rfl⟩ := w
 refine R2 ?_
 refine Xk (l_lenStr rfl) rfl ?_
 refine YL (Xi rfl (Xhg H (sg := true) (m + 1) (by omega) _ s.length hk)) (fun v h' ⟨_, _, _, _, q⟩ => YI rfl (XH (XQ rfl (q.get0 hlt gb) rfl) rfl) rfl) ?_
 rintro v h3 ⟨so, rfl, os, fs, e3⟩
 have l3 := e3.next
 have gb3 := e3.get0 (by omega) gb
 refine WM (o.ext e3) rfl rfl rfl os.slc.elemsAll (by rw [Xc, XhI]) (by omega) (fun _ => rfl) fun ao2 ca2 h4 o4 e4 l4 f4 => ?_
 have gb4 := e4.getS (by omega) (UX hne) gb3
 refine R ?_
 refine WM (k := s.length) (new := Xa s) (o4) rfl rfl rfl (elems_str s) (by rw [Xc, XhI]) (by omega) (fun _ => rfl) fun ao3 ca3 h5 o5 e5 l5 f5 => ?_
 have hne1 : ∀ a, ao2 = some a -> a.block ≠ b := fun a ha => by
  rcases f4 a ha with hx | hx
  ·exact fun e => UX hne (e ▸ hx)
  ·omega
 have gb5 := e5.getS (by omega) (UX hne1) gb4
 refine R ?_
 refine Yw rfl (by conv => lhs; whnf) rfl gb5 rfl (XhH rfl) (fun _ => rfl) fun H20 E20 L20 G20 => ?_
 refine XdI ?_
 have hne2 : ∀ a, ao3 = some a -> a.block ≠ b := fun a ha => by
  rcases f5 a ha with hx | hx
  ·exact fun e => UX hne1 (e ▸ hx)
  ·omega
 have hln : (bs ++ X4 s).length = bs.length + (XA s.length).length + s.length := by
  unfold X4; rw [XhC, XhC]; omega
 refine ⟨rfl, _, Xg, b :: XD ao3, ⟨ao3, ca3, ?_, by rw [hln]; exact G20, by omega, hne2, rfl⟩, ?_⟩
 ·rw [hln]
  unfold X4
  rw [XS, XS, <- Xh1]
  exact o5.extS E20 fun a ha hm => hne2 a ha (XhB.1 hm)
 ·have x1 : WrTo (b :: XD ao) h h4 (b :: XD ao2) := .step e3 e4 ((Ext.refl h4).mono fun _ hh => nomatch hh) f4
  exact x1.trans (.step (Ext.refl h4) e5 E20 f5)
set_option maxHeartbeats 1000000 in
theorem ref01_Writer_ID_ok (m : Nat) (hm : 100000000 <= m) (h : Heap) (b : Nat) (priv : List Nat) (bs : List UInt8) (d : List UInt8) (hd : d.length = 32) (w : RwP h b priv bs) (hbig : bs.length + 32 < 100000000) :
  (enter E (ctx E (m + 2)) JU [.pointer (some ⟨b, 0, none⟩), .agg ⟨Xa d⟩] h).Wp sg fun v h' => ∃ priv', RwP h' b priv' (bs ++ d) /\ WrTo priv h h' priv' := by
 refine H.run (k := W9) rfl rfl rfl ?_
 dsimp only [W9]
 obtain ⟨ao, ca, o, gb, hlt, hne, rfl⟩ := w
 refine X9 ?_
 refine X2 (by conv => lhs; whnf) rfl fun H1 B1 E1 L1 G1 N1 Q1 => ?_
 refine R ?_
 have T2 := E1.get0 (by omega) gb
 refine R2 ?_
 refine Xk (Jk rfl rfl rfl (by omega) (by omega) (by omega)) rfl ?_
 have l1 := E1.next
 refine WM (k := 32) (new := Xa d) (o.ext E1) rfl rfl rfl (Slc.of_get (z := 1) (n := 32) G1 N1 (by rw [Xc, hd])).elemsAll (by rw [Xc, hd]) (by omega) (fun _ => rfl) fun ao2 ca2 h4 o4 e4 l4 f4 => ?_
 have gb4 := e4.getS (by omega) (UX hne) (E1.get0 hlt gb)
 refine R ?_
 refine Yw rfl (by conv => lhs; whnf) rfl gb4 rfl (XhH rfl) (fun _ => rfl) fun H20 E20 L20 G20 => ?_
 refine XdI ?_
 have hne2 : ∀ a, ao2 = some a -> a.block ≠ b := fun a ha => by
  rcases f4 a ha with hx | hx
  ·exact fun e => UX hne (e ▸ hx)
  ·omega
 refine ⟨rfl, _, Xg, b :: XD ao2, ⟨ao2, ca2, ?_, by rw [XhC, hd]; exact G20, by omega, hne2, rfl⟩, .step E1 e4 E20 f4⟩
 rw [XS, XhC, hd]
 exact o4.extS E20 fun a ha hm => hne2 a ha (XhB.1 hm)
set_option maxHeartbeats 1000000 in
theorem XcB (m : Nat) (hm : 100000000 <= m) (h : Heap) (b : Nat) (priv : List Nat) (bs : List UInt8) (w : RwP h b priv bs) (hbig : bs.length < 100000000) :
  (enter E (ctx E (m + 2)) U8 [.pointer (some ⟨b, 0, none⟩)] h).Wp sg fun v h' => ∃ ao ca, v = .tuple ⟨[.slice ao bs.length ca, .int .i64 (XhA 0)]⟩ /\ Own h' 1 ao bs.length ca (Xa bs) /\ (∀ a, ao = some a -> h.next <= a.block) /\ Ext [] h h' := by
 refine H.run (k := WP) rfl rfl rfl ?_
 dsimp only [WP]
 obtain ⟨ao, ca, o, gb, hlt, hne, rfl⟩ := w
 refine R2 ?_
 refine XJ XB fun H1 B1 E1 L1 G1 N1 Q1 => ?_
 refine R ?_
 have T2 := E1.get0 (by omega) gb
 refine R2 ?_
 have l1 := E1.next
 have sl := (o.ext E1).toSlc
 refine XP (k := bs.length) (new := Xa bs) (.lit G1 N1) rfl rfl rfl sl.elemsAll (by rw [Xc, XhI]) (by omega) fun ao2 ca2 h4 o4 e4 l4 f4 => ?_
 refine R ?_
 rw [Xib, XhT] at o4
 refine ⟨rfl, _, Xb (Xw rfl) (Xb (Xw rfl) Xg), ao2, ca2, by rw [XhT]; rfl, o4, fun a ha => ?_, E1.trans e4 fun s hs => .inr ?_⟩
 ·rcases f4 a ha with hx | hx
  ·have : a.block = B1 := XhB.1 hx
   omega
  ·omega
 ·have : s = B1 := XhB.1 hs
  omega
end
theorem encNode_leaf (texts : List (List UInt8)) : X3 0 texts [] = XA 0 ++ XA texts.length ++ cat X4 texts := by
 unfold X3
 show XA 0 ++ (XA (texts.length + 0) ++ (cat X4 texts ++ [])) = _
 rw [Xij, Nat.add_zero, Xh1]
theorem encNode_inner (lev : Nat) (ls : List Lk) : X3 lev [] ls = XA lev ++ XA ls.length ++ cat Y2 ls := by
 unfold X3
 show XA lev ++ (XA (0 + ls.length) ++ ([] ++ cat Y2 ls)) = _
 rw [Xib, XhT, Xh1]
theorem WrTo.fresh {p q : List Nat} {a b c : Heap} (e : Ext [] a b) (k : WrTo p b c q) (hp : ∀ x ∈ p, a.next <= x) : Ext [] a c /\ ∀ x ∈ q, a.next <= x :=
 ⟨e.trans k.1 fun s hs => .inr (hp s hs), fun x hx => (k.2 x hx).elim (hp x) fun h => Nat.le_trans e.next h⟩
section
variable {E : Env} {sg : Bool} (H : Has E)
include H
set_option maxHeartbeats 1000000 in
theorem Xem (m : Nat) (hm : 100000000 <= m) (h : Heap) (texts : List (List UInt8)) (ao : Option Addr) (ca : Nat) (sl : Slc h 1 ao texts.length ca (fl YU texts)) (ht : texts.length <= 130) (hs : ∀ s ∈ texts, s.length <= 8000) :
  (enter E (ctx E (m + 4)) Xda [.slice ao texts.length ca] h).Wp sg fun v h' => ∃ ao' ca', v = .slice ao' (X3 0 texts []).length ca' /\ Own h' 1 ao' (X3 0 texts []).length ca' (Xa (X3 0 texts [])) /\ (∀ a, ao' = some a -> h.next <= a.block) /\ Ext [] h h' := by
 have hct := Xel (f := X4) (l := texts) (k := 8004) fun x hx => encText_le (hs x hx)
 have hi0 := Zs (k := 0) (by omega)
 have hin := Zs (k := texts.length) (by omega)
 refine H.run (k := Jz) rfl rfl rfl ?_
 dsimp only [Jz]
 refine R ?_
 refine Xd (Yo XB) ?_
 refine X2 (by conv => lhs; whnf) rfl fun H1 B1 E1 L1 G1 N1 Q1 => ?_
 refine R ?_
 have w1 : RwP H1 B1 [B1] [] := ⟨none, 0, .empty _ _, G1, N1, (fun a ha => nomatch ha), rfl⟩
 refine Xj (Xi rfl (ZU H (m + 1) (by omega) _ B1 _ [] 0 (by omega) w1 (by simp; omega))) ?_
 rintro v h3 ⟨pr3, w3, t3⟩
 obtain ⟨e3, f3⟩ := WrTo.fresh E1 t3 (fun x hx => by rw [XhB.1 hx]; omega)
 rw [Xib] at w3
 refine R ?_
 refine Xj (Xi rfl (ZU H (m + 1) (by omega) _ B1 _ _ texts.length (by omega) w3 (by omega))) ?_
 rintro v h4 ⟨pr4, w4, t4⟩
 obtain ⟨e4, f4⟩ := WrTo.fresh e3 t4 f3
 refine R ?_
 refine Yl texts.length 0 (fun i t x hk => ∃ pr, (g0 t = (.slice ao texts.length ca) /\ g3 t = (.pointer (some ⟨B1, 0, none⟩)) /\ g4 t = (.int .i64 (XhA i))) /\ x = ⟨[], none, none⟩ /\ RwP hk B1 pr (XA 0 ++ XA texts.length ++ cat X4 (texts.take i)) /\ (∀ x ∈ pr, h.next <= x) /\ Ext [] h hk) ⟨pr4, ⟨rfl, rfl, rfl⟩, rfl, by simpa [cat] using w4, f4, e4⟩ (XhO _) (XG (by omega)) ?_
 rintro i t x hk hi ⟨pr, ⟨r0, r3, r4⟩, rfl, wi, fi, ei⟩
 obtain ⟨t0, rfl⟩ : ∃ t0, t = p0 (.slice ao texts.length ca) (p3 (.pointer (some ⟨B1, 0, none⟩)) (p4 (.int .i64 (XhA i)) t0)) := ⟨t, (show t = p0 (g0 t) (p3 (g3 t) (p4 (g4 t) t)) from rfl).trans (by rw [r0, r3, r4])⟩
 clear r0 r3 r4
 have hci := JW X4 texts i
 by_cases hlt : i < texts.length
 ·obtain ⟨a, wa, xa, hao, ga, na, ta⟩ := (sl.ext ei).nonempty (by omega)
  subst hao
  obtain ⟨u, hu⟩ : ∃ u, texts[i]? = some u := ⟨_, XhL hlt⟩
  have hus := hs _ (Xh5 hu)
  have hn1 : nth (a.off + i * 1) xa = some (sv u) := by
   rw [XhI, Yf ta (by omega), Uu, Xic, hu]; rfl
  have hiu := Zs (k := u.length) (by omega)
  refine R2 ?_
  refine Xj (Xi rfl (ref01_Writer_Text_ok H (m + 1) (by omega) _ B1 _ _ u (by omega) wi (by rw [XhC, XhC]; omega))) ?_
  rintro v h5 ⟨pr5, w5, t5⟩
  obtain ⟨e5, f5⟩ := WrTo.fresh ei t5 fi
  refine R ?_
  exact ⟨hlt, pr5, ⟨rfl, rfl, rfl⟩, rfl, by rw [XfV X4 hu, <- Xh1]; exact w5, f5, e5⟩
 ·have hin' : i = texts.length := by omega
  subst hin'
  rw [Xh7, <- encNode_leaf] at wi
  have hlen : (X3 0 texts []).length <= 4 + 4 + texts.length * 8004 := by rw [encNode_leaf, XhC, XhC]; omega
  refine R ?_
  refine Xj (Xi rfl (XcB H (m + 1) (by omega) _ B1 _ _ wi (by omega))) ?_
  rintro v h6 ⟨oo, oc, rfl, o6, f6, e6⟩
  have l6 := ei.next
  refine R ?_
  exact ⟨rfl, _, Xb (Xw rfl) Xg, oo, oc, rfl, o6, fun a ha => by have := f6 a ha; omega, ei.trans0 e6⟩
set_option maxHeartbeats 1000000 in
theorem ref21_inner_ok (m : Nat) (hm : 100000000 <= m) (h : Heap) (lev : Nat) (hlev : lev <= 1000) (ls : List Lk) (ao : Option Addr) (ca : Nat) (sl : Slc h 33 ao ls.length ca (fl Yh ls)) (ht : ls.length <= 130) (hs : ∀ y ∈ ls, LkOK y) :
  (enter E (ctx E (m + 4)) Xb9 [.int .i64 (XhA lev), .slice ao ls.length ca] h).Wp sg fun v h' => ∃ ao' ca', v = .slice ao' (X3 lev [] ls).length ca' /\ Own h' 1 ao' (X3 lev [] ls).length ca' (Xa (X3 lev [] ls)) /\ (∀ a, ao' = some a -> h.next <= a.block) /\ Ext [] h h' := by
 have hct := Xel (f := Y2) (l := ls) (k := 36) fun x hx => encLk_le (hs x hx)
 have hi0 := Zs (k := lev) (by omega)
 have hin := Zs (k := ls.length) (by omega)
 have hz : ∀ x ∈ ls, (Yh x).length = 33 := fun x hx => YS (hs x hx)
 refine H.run (k := UQ) rfl rfl rfl ?_
 dsimp only [UQ]
 refine R ?_
 refine Xd (Yo XB) ?_
 refine X2 (by conv => lhs; whnf) rfl fun H1 B1 E1 L1 G1 N1 Q1 => ?_
 refine R ?_
 have w1 : RwP H1 B1 [B1] [] := ⟨none, 0, .empty _ _, G1, N1, (fun a ha => nomatch ha), rfl⟩
 refine Xj (Xi rfl (ZU H (m + 1) (by omega) _ B1 _ [] lev (by omega) w1 (by simp; omega))) ?_
 rintro v h3 ⟨pr3, w3, t3⟩
 obtain ⟨e3, f3⟩ := WrTo.fresh E1 t3 (fun x hx => by rw [XhB.1 hx]; omega)
 rw [Xib] at w3
 refine R ?_
 refine Xj (Xi rfl (ZU H (m + 1) (by omega) _ B1 _ _ ls.length (by omega) w3 (by omega))) ?_
 rintro v h4 ⟨pr4, w4, t4⟩
 obtain ⟨e4, f4⟩ := WrTo.fresh e3 t4 f3
 refine R ?_
 refine Yl ls.length 0 (fun i t x hk => ∃ pr, (g1 t = (.slice ao ls.length ca) /\ g5 t = (.pointer (some ⟨B1, 0, none⟩)) /\ g6 t = (.int .i64 (XhA i))) /\ x = ⟨[], none, none⟩ /\ RwP hk B1 pr (XA lev ++ XA ls.length ++ cat Y2 (ls.take i)) /\ (∀ x ∈ pr, h.next <= x) /\ Ext [] h hk) ⟨pr4, ⟨rfl, rfl, rfl⟩, rfl, by simpa [cat] using w4, f4, e4⟩ (XhO _) (XG (by omega)) ?_
 rintro i t x hk hi ⟨pr, ⟨r1, r5, r6⟩, rfl, wi, fi, ei⟩
 obtain ⟨t0, rfl⟩ : ∃ t0, t = p1 (.slice ao ls.length ca) (p5 (.pointer (some ⟨B1, 0, none⟩)) (p6 (.int .i64 (XhA i)) t0)) := ⟨t, (show t = p1 (g1 t) (p5 (g5 t) (p6 (g6 t) t)) from rfl).trans (by rw [r1, r5, r6])⟩
 clear r1 r5 r6
 have hci := JW Y2 ls i
 by_cases hlt : i < ls.length
 ·obtain ⟨a, wa, xa, hao, ga, na, ta⟩ := (sl.ext ei).nonempty (by omega)
  subst hao
  obtain ⟨y, hy⟩ : ∃ u, ls[i]? = some u := ⟨_, XhL hlt⟩
  have hyo := hs _ (Xh5 hy)
  have hload : XU 33 (XY (a.off + i * 33) xa) = some (Yh y) := by
   rw [take_take ta (by omega), XcK hz hy]
  obtain ⟨id, n⟩ := y
  have hid : id.length = 32 := hyo.1
  have hn2 : n <= 2000 := hyo.2
  have hl32 : XU 32 (XY (a.off + i * 33 + 0) xa) = some (Xa id) := by
   have := take_take (i := 0) (k := 32) hload (by omega)
   rw [this]
   unfold Yh
   rw [XiN, List.take_left' (by rw [Xc, hid])]
  have hn33 : nth (a.off + i * 33 + 32) xa = some (.int .i64 (XhA n)) := by
   rw [Yf hload (by omega)]
   show (Xa id ++ [.int .i64 (XhA n)])[32]? = _
   rw [Xjf (Nat.le_of_eq (by rw [Xc, hid]))]
   simp [Xc, hid]
  refine R2 ?_
  have hni := Zs (k := n) (by omega)
  refine Xj (Xi rfl (ref01_Writer_ID_ok H (m + 1) (by omega) _ B1 _ _ id hid wi (by rw [XhC, XhC]; omega))) ?_
  rintro v h5 ⟨pr5, w5, t5⟩
  obtain ⟨e5, f5⟩ := WrTo.fresh ei t5 fi
  obtain ⟨a', wa', xa', hao', ga', na', ta'⟩ := (sl.ext e5).nonempty (by omega)
  obtain rfl : a = a' := XhU.inj hao'
  have hload' : XU 33 (XY (a.off + i * 33) xa') = some (Yh (id, n)) := by
   rw [take_take ta' (by omega), XcK hz hy]
  have hn33' : nth (a.off + i * 33 + 32) xa' = some (.int .i64 (XhA n)) := by
   rw [Yf hload' (by omega)]
   show (Xa id ++ [.int .i64 (XhA n)])[32]? = _
   rw [Xjf (Nat.le_of_eq (by rw [Xc, hid]))]
   simp [Xc, hid]
  refine R2 ?_
  refine Xj (Xi rfl (ZU H (m + 1) (by omega) _ B1 _ _ n (by omega) w5 (by rw [XhC, XhC, XhC]; omega))) ?_
  rintro v h6 ⟨pr6, w6, t6⟩
  obtain ⟨e6, f6⟩ := WrTo.fresh e5 t6 f5
  refine R ?_
  exact ⟨hlt, pr6, ⟨rfl, rfl, rfl⟩, rfl, by rw [XfV Y2 hy]; unfold Y2; rw [<- Xh1, <- Xh1]; exact w6, f6, e6⟩
 ·have hin' : i = ls.length := by omega
  subst hin'
  rw [Xh7, <- encNode_inner] at wi
  have hlen : (X3 lev [] ls).length <= 4 + 4 + ls.length * 36 := by rw [encNode_inner, XhC, XhC]; omega
  refine R ?_
  refine Xj (Xi rfl (XcB H (m + 1) (by omega) _ B1 _ _ wi (by omega))) ?_
  rintro v h6 ⟨oo, oc, rfl, o6, f6, e6⟩
  have l6 := ei.next
  refine R ?_
  exact ⟨rfl, _, Xb (Xw rfl) Xg, oo, oc, rfl, o6, fun a ha => by have := f6 a ha; omega, ei.trans0 e6⟩
end
section
variable {E : Env} {sg : Bool} (H : Has E)
include H
theorem WS (m : Nat) (h : Heap) (x : Int) (n : Nat) (hn : n < 32) (hn0 : 0 < n) : (enter E (ctx E m) XgM [.int .u32 x, .int .i64 (XhA n)] h).Wp sg fun v h' => v = .int .u32 (rotr x n) /\ h' = h := by
 refine H.run (k := XbZ) rfl rfl rfl ?_
 dsimp only [XbZ]
 refine R ?_
 refine Xk (YY rfl rfl (by omega) (by omega)) rfl ?_
 refine Xk (l_shlI rfl rfl) rfl ?_
 refine R ?_
 refine Xk (VW rfl rfl) rfl ?_
 refine Xk (l_orI rfl rfl rfl) rfl ?_
 refine R ?_
 exact ⟨rfl, _, Xb (Xw rfl) Xg, rfl, rfl⟩
theorem ref02_ch_ok (m : Nat) (h : Heap) (x y z : Int) : (enter E (ctx E m) XeO [.int .u32 x, .int .u32 y, .int .u32 z] h).Wp sg fun v h' => v = .int .u32 (chF x y z) /\ h' = h := by
 refine H.run (k := XaD) rfl rfl rfl ?_
 dsimp only [XaD]
 refine R ?_
 refine Xd (Kb rfl rfl rfl) ?_
 refine R ?_
 refine Xd (l_xorU rfl) ?_
 refine R ?_
 refine Xd (Kb rfl rfl rfl) ?_
 refine Xd (Wv rfl rfl rfl) ?_
 refine R ?_
 exact ⟨rfl, _, Xb (Xw rfl) Xg, rfl, rfl⟩
theorem ref02_maj_ok (m : Nat) (h : Heap) (x y z : Int) : (enter E (ctx E m) XdU [.int .u32 x, .int .u32 y, .int .u32 z] h).Wp sg fun v h' => v = .int .u32 (majF x y z) /\ h' = h := by
 refine H.run (k := KI) rfl rfl rfl ?_
 dsimp only [KI]
 refine R ?_
 refine Xd (Kb rfl rfl rfl) ?_
 refine R ?_
 refine Xd (Kb rfl rfl rfl) ?_
 refine Xd (Wv rfl rfl rfl) ?_
 refine R ?_
 refine Xd (Kb rfl rfl rfl) ?_
 refine Xd (Wv rfl rfl rfl) ?_
 refine R ?_
 exact ⟨rfl, _, Xb (Xw rfl) Xg, rfl, rfl⟩
theorem ref02_upperA_ok (m : Nat) (h : Heap) (x : Int) : (enter E (ctx E (m + 1)) Xa4 [.int .u32 x] h).Wp sg fun v h' => v = .int .u32 (upA x) /\ h' = h := by
 refine H.run (k := V9) rfl rfl rfl ?_
 dsimp only [V9]
 refine R ?_
 refine X6 (Xi rfl (WS H _ _ x 2 (by decide) (by decide))) ?_
 refine R ?_
 refine X6 (Xi rfl (WS H _ _ x 13 (by decide) (by decide))) ?_
 refine Xd (Wv rfl rfl rfl) ?_
 refine R ?_
 refine X6 (Xi rfl (WS H _ _ x 22 (by decide) (by decide))) ?_
 refine Xd (Wv rfl rfl rfl) ?_
 refine R ?_
 exact ⟨rfl, _, Xb (Xw rfl) Xg, rfl, rfl⟩
theorem ref02_upperE_ok (m : Nat) (h : Heap) (x : Int) : (enter E (ctx E (m + 1)) Xa3 [.int .u32 x] h).Wp sg fun v h' => v = .int .u32 (upE x) /\ h' = h := by
 refine H.run (k := V8) rfl rfl rfl ?_
 dsimp only [V8]
 refine R ?_
 refine X6 (Xi rfl (WS H _ _ x 6 (by decide) (by decide))) ?_
 refine R ?_
 refine X6 (Xi rfl (WS H _ _ x 11 (by decide) (by decide))) ?_
 refine Xd (Wv rfl rfl rfl) ?_
 refine R ?_
 refine X6 (Xi rfl (WS H _ _ x 25 (by decide) (by decide))) ?_
 refine Xd (Wv rfl rfl rfl) ?_
 refine R ?_
 exact ⟨rfl, _, Xb (Xw rfl) Xg, rfl, rfl⟩
theorem ref02_lowerP_ok (m : Nat) (h : Heap) (x : Int) : (enter E (ctx E (m + 1)) Xa8 [.int .u32 x] h).Wp sg fun v h' => v = .int .u32 (sigP x) /\ h' = h := by
 refine H.run (k := Ud) rfl rfl rfl ?_
 dsimp only [Ud]
 refine R ?_
 refine X6 (Xi rfl (WS H _ _ x 7 (by decide) (by decide))) ?_
 refine R ?_
 refine X6 (Xi rfl (WS H _ _ x 18 (by decide) (by decide))) ?_
 refine Xd (Wv rfl rfl rfl) ?_
 refine R ?_
 refine Xd (VW rfl rfl) ?_
 refine Xd (Wv rfl rfl rfl) ?_
 refine R ?_
 exact ⟨rfl, _, Xb (Xw rfl) Xg, rfl, rfl⟩
theorem ref02_lowerQ_ok (m : Nat) (h : Heap) (x : Int) : (enter E (ctx E (m + 1)) Xa7 [.int .u32 x] h).Wp sg fun v h' => v = .int .u32 (sigQ x) /\ h' = h := by
 refine H.run (k := Uc) rfl rfl rfl ?_
 dsimp only [Uc]
 refine R ?_
 refine X6 (Xi rfl (WS H _ _ x 17 (by decide) (by decide))) ?_
 refine R ?_
 refine X6 (Xi rfl (WS H _ _ x 19 (by decide) (by decide))) ?_
 refine Xd (Wv rfl rfl rfl) ?_
 refine R ?_
 refine Xd (VW rfl rfl) ?_
 refine Xd (Wv rfl rfl rfl) ?_
 refine R ?_
 exact ⟨rfl, _, Xb (Xw rfl) Xg, rfl, rfl⟩
end
theorem rep_one (v : Value) : ∀ k, rep [v] k = XhY k v
 | 0 => rfl
 | k + 1 => by
  show app [v] (rep [v] k) = _
  rw [rep_one v k, UB]; rfl
section
variable {sg : Bool} {N : Tm -> Aux -> Heap -> Prop} {X : Nat -> Tm -> Aux -> Heap -> Prop} {R : Tm -> Aux -> Heap -> Prop} {c : Ctx} {t : Tm} {x : Aux} {h : Heap} {g g' : Xe}
theorem wp_appendZ {p : Value -> Tm -> Tm} {rest : KB} {ao : Option Addr} {n ca k : Nat} {cs : List Value} {v : Value} (o : Own h 1 ao n ca cs) (hg : g t = .slice ao n ca) (hx : g' t = .int .i64 (XhA k)) (hk : k < 1000000) (hb : n + k < 100000000)
  (H : ∀ ao' ca' h', Own h' 1 ao' (n + k) ca' (cs ++ XhY k v) -> Ext (XD ao) h h' -> h.next <= h'.next -> (∀ a, ao' = some a -> a.block ∈ XD ao \/ (h.next <= a.block /\ a.block < h'.next)) -> (rest c (p (.slice ao' (n + k) ca') t) x h').Wp sg N X R) : (ZN (Yi (Vs [v] g g')) p rest c t x h).Wp sg N X R := by
 obtain ⟨ao', ca', h', e1, e2, e3, e4⟩ := o.append (new := XhY k v) (k := k) (by rw [List.length_replicate, XhI]) hb
 refine VI ?_ (H ao' ca' h' e2 e3 e3.next e4)
 unfold Vs
 rw [hg, hx]
 show (match some k with
  | some n' => bif Nat.blt n' 1000000 then h.appendL 1 (.slice ao n ca) n' (rep [v] n') else none
  | none => none) = _
 dsimp only
 rw [blt_iff.2 hk, rep_one]
 exact e1
end
section
variable {E : Env} {sg : Bool} (H : Has E)
include H
theorem ref02_constants_ok (m : Nat) (h : Heap) : (enter E (ctx E m) JT [] h).Wp sg fun v h' => ∃ b, v = .slice (some ⟨b, 0, none⟩) 64 64 /\ h'.get b = some (.cells true Vo) /\ h.next <= b /\ b < h'.next /\ Ext [] h h' := by
 refine H.run (k := W7) rfl rfl rfl ?_
 dsimp only [W7]
 refine R ?_
 refine XJ (Xf (by conv => lhs; whnf) rfl rfl rfl (Xf (by conv => lhs; whnf) rfl rfl rfl (Xf (by conv => lhs; whnf) rfl rfl rfl (Xf (by conv => lhs; whnf) rfl rfl rfl (Xf (by conv => lhs; whnf) rfl rfl rfl (Xf (by conv => lhs; whnf) rfl rfl rfl (Xf (by conv => lhs; whnf) rfl rfl rfl (Xf (by conv => lhs; whnf) rfl rfl rfl (Xf (by conv => lhs; whnf) rfl rfl rfl (Xf (by conv => lhs; whnf) rfl rfl rfl (Xf (by conv => lhs; whnf) rfl rfl rfl (Xf (by conv => lhs; whnf) rfl rfl rfl (Xf (by conv => lhs; whnf) rfl rfl rfl (Xf (by conv => lhs; whnf) rfl rfl rfl (Xf (by conv => lhs; whnf) rfl rfl rfl (Xf (by conv => lhs; whnf) rfl rfl rfl (Xf (by conv => lhs; whnf) rfl rfl rfl (Xf (by conv => lhs; whnf) rfl rfl rfl (Xf (by conv => lhs; whnf) rfl rfl rfl (Xf (by conv => lhs; whnf) rfl rfl rfl (Xf (by conv => lhs; whnf) rfl rfl rfl (Xf (by conv => lhs; whnf) rfl rfl rfl (Xf (by conv => lhs; whnf) rfl rfl rfl (Xf (by conv => lhs; whnf) rfl rfl rfl (Xf (by conv => lhs; whnf) rfl rfl rfl (Xf (by conv => lhs; whnf) rfl rfl rfl (Xf (by conv => lhs; whnf) rfl rfl rfl (Xf (by conv => lhs; whnf) rfl rfl rfl (Xf (by conv => lhs; whnf) rfl rfl rfl (Xf (by conv => lhs; whnf) rfl rfl rfl (Xf (by conv => lhs; whnf) rfl rfl rfl (Xf (by conv => lhs; whnf) rfl rfl rfl (Xf (by conv => lhs; whnf) rfl rfl rfl (Xf (by conv => lhs; whnf) rfl rfl rfl (Xf (by conv => lhs; whnf) rfl rfl rfl (Xf (by conv => lhs; whnf) rfl rfl rfl (Xf (by conv => lhs; whnf) rfl rfl rfl (Xf (by conv => lhs; whnf) rfl rfl rfl (Xf (by conv => lhs; whnf) rfl rfl rfl (Xf (by conv => lhs; whnf) rfl rfl rfl (Xf (by conv => lhs; whnf) rfl rfl rfl (Xf (by conv => lhs; whnf) rfl rfl rfl (Xf (by conv => lhs; whnf) rfl rfl rfl (Xf (by conv => lhs; whnf) rfl rfl rfl (Xf (by conv => lhs; whnf) rfl rfl rfl (Xf (by conv => lhs; whnf) rfl rfl rfl (Xf (by conv => lhs; whnf) rfl rfl rfl (Xf (by conv => lhs; whnf) rfl rfl rfl (Xf (by conv => lhs; whnf) rfl rfl rfl (Xf (by conv => lhs; whnf) rfl rfl rfl (Xf (by conv => lhs; whnf) rfl rfl rfl (Xf (by conv => lhs; whnf) rfl rfl rfl (Xf (by conv => lhs; whnf) rfl rfl rfl (Xf (by conv => lhs; whnf) rfl rfl rfl (Xf (by conv => lhs; whnf) rfl rfl rfl (Xf (by conv => lhs; whnf) rfl rfl rfl (Xf (by conv => lhs; whnf) rfl rfl rfl (Xf (by conv => lhs; whnf) rfl rfl rfl (Xf (by conv => lhs; whnf) rfl rfl rfl (Xf (by conv => lhs; whnf) rfl rfl rfl (Xf (by conv => lhs; whnf) rfl rfl rfl (Xf (by conv => lhs; whnf) rfl rfl rfl (Xf (by conv => lhs; whnf) rfl rfl rfl (Xf (by conv => lhs; whnf) rfl rfl rfl XB)))))))))))))))))))))))))))))))))))))))))))))))))))))))))))))))) fun H1 B1 E1 L1 G1 N1 Q1 => ?_
 refine R ?_
 exact ⟨rfl, _, Xb (Xw rfl) Xg, B1, rfl, by rw [G1]; rfl, by omega, N1, E1⟩
theorem ref02_message_ok (m : Nat) (hm : 100000000 <= m) (h : Heap) (bs : List UInt8) (ao : Option Addr) (ca : Nat) (sl : Slc h 1 ao bs.length ca (Xa bs)) (hbig : bs.length < 90000000) : (enter E (ctx E m) KU [.slice ao bs.length ca] h).Wp sg fun v h' => ∃ ao' ca', v = .slice ao' (bs ++ XbP bs.length).length ca' /\ Own h' 1 ao' (bs ++ XbP bs.length).length ca' (Xa (bs ++ XbP bs.length)) /\ (∀ a, ao' = some a -> h.next <= a.block) /\ Ext [] h h' := by
 refine H.run (k := Vy) rfl rfl rfl ?_
 dsimp only [Vy]
 have h64 : bs.length % 64 <= 63 := by omega
 refine R ?_
 refine Xd (Xga rfl rfl (by omega)) ?_
 refine Xd (YY rfl rfl (by omega) (by omega)) ?_
 refine Xd (Xga rfl rfl (by omega)) ?_
 refine R ?_
 refine XJ XB fun H1 B1 E1 L1 G1 N1 Q1 => ?_
 refine R ?_
 refine XP (k := bs.length) (new := Xa bs) (.lit G1 N1) rfl rfl rfl (sl.ext E1).elemsAll (by rw [Xc, XhI]) (by omega) fun ao2 ca2 h2 o2 e2 l2 f2 => ?_
 refine XJ (Xf (by conv => lhs; whnf) rfl rfl rfl XB) fun H10 B10 E10 L10 G10 N10 Q10 => ?_
 refine XP (k := 1) (new := [byteVal 128]) (o2.ext E10) rfl rfl rfl (Slc.of_get (z := 1) (n := 1) G10 N10 rfl).elemsAll rfl (by omega) fun ao3 ca3 h3 o3 e3 l3 f3 => ?_
 refine R ?_
 have hpz : (119 - bs.length % 64) % 64 = YX bs.length - 1 := by unfold YX; omega
 have hp64 := (XaG bs.length).2
 refine wp_appendZ (k := YX bs.length - 1) o3 rfl (by rw [<- hpz]; rfl) (by omega) (by omega) fun ao4 ca4 h4 o4 e4 l4 f4 => ?_
 refine R ?_
 refine Xd (l_mulI rfl rfl rfl) ?_
 refine R ?_
 refine Xd (VW rfl rfl) ?_
 refine R ?_
 refine Xd (VW rfl rfl) ?_
 refine R ?_
 refine Xd (VW rfl rfl) ?_
 refine R ?_
 refine Xd (VW rfl rfl) ?_
 refine R ?_
 refine Xd (VW rfl rfl) ?_
 refine R ?_
 refine Xd (VW rfl rfl) ?_
 refine R ?_
 refine Xd (VW rfl rfl) ?_
 refine R ?_
 refine XJ (Xf (by conv => lhs; whnf) rfl rfl rfl (Xf (by conv => lhs; whnf) rfl rfl rfl (Xf (by conv => lhs; whnf) rfl rfl rfl (Xf (by conv => lhs; whnf) rfl rfl rfl (Xf (by conv => lhs; whnf) rfl rfl rfl (Xf (by conv => lhs; whnf) rfl rfl rfl (Xf (by conv => lhs; whnf) rfl rfl rfl (Xf (by conv => lhs; whnf) rfl rfl rfl XB)))))))) fun H30 B30 E30 L30 G30 N30 Q30 => ?_
 have h0 : U1 .u64 (IntKind.u64.wrap (IntKind.u64.wrap (bs.length : Int) * 8)) 0 = (IntKind.u64.wrap (IntKind.u64.wrap (bs.length : Int) * 8)) := by
  unfold U1
  rw [show min 0 IntKind.u64.bits = 0 from rfl]
  exact Int.fdiv_one _
 have hbe : H30.get B30 = some (.cells true (Xa (be8 bs.length))) := by
  rw [G30]
  refine congrArg (fun l => some (AObj.cells true l)) ?_
  show [Value.int .u8 (IntKind.u8.wrap (U1 .u64 (IntKind.u64.wrap (IntKind.u64.wrap (bs.length : Int) * 8)) 56)), Value.int .u8 (IntKind.u8.wrap (U1 .u64 (IntKind.u64.wrap (IntKind.u64.wrap (bs.length : Int) * 8)) 48)), Value.int .u8 (IntKind.u8.wrap (U1 .u64 (IntKind.u64.wrap (IntKind.u64.wrap (bs.length : Int) * 8)) 40)), Value.int .u8 (IntKind.u8.wrap (U1 .u64 (IntKind.u64.wrap (IntKind.u64.wrap (bs.length : Int) * 8)) 32)), Value.int .u8 (IntKind.u8.wrap (U1 .u64 (IntKind.u64.wrap (IntKind.u64.wrap (bs.length : Int) * 8)) 24)), Value.int .u8 (IntKind.u8.wrap (U1 .u64 (IntKind.u64.wrap (IntKind.u64.wrap (bs.length : Int) * 8)) 16)), Value.int .u8 (IntKind.u8.wrap (U1 .u64 (IntKind.u64.wrap (IntKind.u64.wrap (bs.length : Int) * 8)) 8)), .int .u8 (IntKind.u8.wrap (IntKind.u64.wrap (IntKind.u64.wrap (bs.length : Int) * 8)))] = [byteVal (W4 (U1 .u64 (IntKind.u64.wrap (IntKind.u64.wrap (bs.length : Int) * 8)) 56)), byteVal (W4 (U1 .u64 (IntKind.u64.wrap (IntKind.u64.wrap (bs.length : Int) * 8)) 48)), byteVal (W4 (U1 .u64 (IntKind.u64.wrap (IntKind.u64.wrap (bs.length : Int) * 8)) 40)), byteVal (W4 (U1 .u64 (IntKind.u64.wrap (IntKind.u64.wrap (bs.length : Int) * 8)) 32)), byteVal (W4 (U1 .u64 (IntKind.u64.wrap (IntKind.u64.wrap (bs.length : Int) * 8)) 24)), byteVal (W4 (U1 .u64 (IntKind.u64.wrap (IntKind.u64.wrap (bs.length : Int) * 8)) 16)), byteVal (W4 (U1 .u64 (IntKind.u64.wrap (IntKind.u64.wrap (bs.length : Int) * 8)) 8)), byteVal (W4 (U1 .u64 (IntKind.u64.wrap (IntKind.u64.wrap (bs.length : Int) * 8)) 0))]
  rw [h0]
  simp only [Xc4]
 have l30 := E30.next
 refine XP (k := 8) (new := Xa (be8 bs.length)) (o4.ext E30) rfl rfl rfl (Slc.of_get (z := 1) (n := 8) hbe N30 (by rw [Xc, be8_length])).elemsAll (by rw [Xc, be8_length]) (by omega) fun ao5 ca5 h5 o5 e5 l5 f5 => ?_
 refine R ?_
 have hpf : XbP bs.length = [128] ++ XhY (YX bs.length - 1) 0 ++ be8 bs.length := rfl
 have hb3 : Xa (bs ++ XbP bs.length) = [] ++ Xa bs ++ [byteVal 128] ++ XhY (YX bs.length - 1) (byteVal 0) ++ Xa (be8 bs.length) := by
  rw [hpf, XS, XS, XS, Xib, <- Xh1, <- Xh1]
  congr 2
  rw [Yj, List.map_replicate]
 have hln : (bs ++ XbP bs.length).length = 0 + bs.length + 1 + (YX bs.length - 1) + 8 := by
  rw [XhC, XdY]; have := (XaG bs.length).1; omega
 refine ⟨rfl, _, Xb (Xw rfl) Xg, ao5, ca5, by rw [hln]; rfl, by rw [hln, hb3]; exact o5, fun a ha => ?_, ?_⟩
 ·have n1 := E1.next
  have n2 := E10.next
  have q2 : ∀ a, ao2 = some a -> h.next <= a.block := fun a ha => (f2 a ha).elim (fun hx => by have : a.block = B1 := XhB.1 hx; omega) fun hx => by omega
  have q3 : ∀ a, ao3 = some a -> h.next <= a.block := fun a ha => (f3 a ha).elim (fun hx => by obtain ⟨b, h1, h2⟩ := Xu hx; rw [<- h2]; exact q2 b h1) fun hx => by omega
  have q4 : ∀ a, ao4 = some a -> h.next <= a.block := fun a ha => (f4 a ha).elim (fun hx => by obtain ⟨b, h1, h2⟩ := Xu hx; rw [<- h2]; exact q3 b h1) fun hx => by omega
  exact (f5 a ha).elim (fun hx => by obtain ⟨b, h1, h2⟩ := Xu hx; rw [<- h2]; exact q4 b h1) fun hx => by omega
 ·have n1 := E1.next
  have n2 := E10.next
  have q2 : ∀ a, ao2 = some a -> h.next <= a.block := fun a ha => (f2 a ha).elim (fun hx => by have : a.block = B1 := XhB.1 hx; omega) fun hx => by omega
  have q3 : ∀ a, ao3 = some a -> h.next <= a.block := fun a ha => (f3 a ha).elim (fun hx => by obtain ⟨b, h1, h2⟩ := Xu hx; rw [<- h2]; exact q2 b h1) fun hx => by omega
  have q4 : ∀ a, ao4 = some a -> h.next <= a.block := fun a ha => (f4 a ha).elim (fun hx => by obtain ⟨b, h1, h2⟩ := Xu hx; rw [<- h2]; exact q3 b h1) fun hx => by omega
  have z : ∀ {ao : Option Addr}, (∀ a, ao = some a -> h.next <= a.block) -> ∀ s ∈ XD ao, s ∈ ([] : List Nat) \/ h.next <= s := fun q s hs => .inr (by obtain ⟨b, h1, h2⟩ := Xu hs; rw [<- h2]; exact q b h1)
  exact ((((((E1.trans e2 fun s hs => .inr (by have : s = B1 := XhB.1 hs; omega)).trans0 E10).trans e3 (z q2)).trans e4 (z q3)).trans0 E30).trans e5 (z q4))
end
theorem wrap32 (z : Int) : IntKind.u32.wrap z = z % 4294967296 := rfl
theorem wrap32N {k : Nat} (hk : k < 4294967296) : IntKind.u32.wrap (XhA k) = XhA k := by
 rw [wrap32, Xiv]; omega
theorem add32_swap (a b c d : Int) : Zh (Zh (Zh a b) c) d = Zh (Zh (Zh d c) b) a := by
 simp only [Zh, wrap32]; omega
theorem bor32 {i a b : Nat} (hb : b < 2 ^ i) (h : 2 ^ i * a + b < 4294967296) : bor .u32 (XhA (2 ^ i * a)) (XhA b) = XhA (2 ^ i * a + b) := by
 show IntKind.u32.wrap (((XhZ 32 ((2 ^ i * a : Nat) : Int) ||| XhZ 32 ((b : Nat) : Int)).toNat : Nat) : Int) = _
 have e : ∀ n : Nat, n < 4294967296 -> (XhZ 32 (n : Int)).toNat = n := fun n hn => by
  rw [BitVec.toNat_ofInt]; omega
 rw [BitVec.toNat_or, e _ (by omega), e _ (by omega), <- Nat.two_pow_add_eq_or_of_lt hb a]
 exact wrap32N h
theorem bshl32 {x n m : Nat} (h : 2 ^ n = m) (hn : n <= 32) (hx : m * x < 4294967296) : bshl .u32 (XhA x) n = XhA (m * x) := by
 show IntKind.u32.wrap (XhA x * 2 ^ (min n 32)) = _
 rw [Nat.min_eq_left hn]
 have : XhA x * 2 ^ n = XhA (m * x) := by
  rw [<- h, Nat.mul_comm]
  show (x : Int) * 2 ^ n = ((x * 2 ^ n : Nat) : Int)
  push_cast; rfl
 rw [this]
 exact wrap32N hx
def hw (b : List UInt8) (i : Nat) : Nat -> Int
 | 0 => 0
 | k + 1 => Zh (IntKind.u32.wrap (hw b i k * 256)) (B8 b (4 * i + k))
theorem hw4 (b : List UInt8) (i : Nat) : hw b i 4 = wordAt b i := by
 have e : ∀ j, ∃ n : Nat, n < 256 /\ B8 b j = XhA n := fun j => by
  have h := (b.getD j 0).toNat_lt
  exact ⟨(b.getD j 0).toNat, by omega, wrap32N (by omega)⟩
 obtain ⟨p, hp, e0⟩ := e (4 * i)
 obtain ⟨q, hq, e1⟩ := e (4 * i + 1)
 obtain ⟨r, hr, e2⟩ := e (4 * i + 2)
 obtain ⟨s, hs, e3⟩ := e (4 * i + 3)
 have l : hw b i 4 = XhA (16777216 * p + 65536 * q + 256 * r + s) := by
  simp only [hw, Nat.add_zero]
  rw [e0, e1, e2, e3]
  simp only [Zh, wrap32, Xiv]
  omega
 rw [l]
 unfold wordAt
 rw [e0, e1, e2, e3, bshl32 (n := 24) (m := 16777216) rfl (by decide) (by omega), bshl32 (n := 16) (m := 65536) rfl (by decide) (by omega), bshl32 (n := 8) (m := 256) rfl (by decide) (by omega)]
 have b1 := bor32 (i := 24) (a := p) (b := 65536 * q) (by omega) (by omega)
 have b2 := bor32 (i := 16) (a := 256 * p + q) (b := 256 * r) (by omega) (by omega)
 have b3 := bor32 (i := 8) (a := 65536 * p + 256 * q + r) (b := s) (by omega) (by omega)
 have p24 : (2 : Nat) ^ 24 = 16777216 := by decide
 have p16 : (2 : Nat) ^ 16 = 65536 := by decide
 have p8 : (2 : Nat) ^ 8 = 256 := by decide
 rw [p24] at b1
 rw [p16] at b2
 rw [p8] at b3
 rw [b1, show 16777216 * p + 65536 * q = 65536 * (256 * p + q) by omega, b2, show 65536 * (256 * p + q) + 256 * r = 256 * (65536 * p + 256 * q + r) by omega, b3, show 256 * (65536 * p + 256 * q + r) + s = 16777216 * p + 65536 * q + 256 * r + s by omega]
theorem nextW_ref (w : List Int) : Zh (Zh (Zh (sigQ (w.getD (w.length - 2) 0)) (w.getD (w.length - 7) 0)) (sigP (w.getD (w.length - 15) 0))) (w.getD (w.length - 16) 0) = nextW w := by
 unfold nextW
 rw [add32_swap]
section
variable {E : Env} {sg : Bool} (H : Has E)
include H
attribute [local irreducible] Yd
set_option maxHeartbeats 800000 in
theorem ref02_schedule_ok (m : Nat) (hm : 100000000 <= m) (h : Heap) (bs : List UInt8) (hbs : bs.length = 64) (ao : Option Addr) (ca : Nat) (sl : Slc h 1 ao 64 ca (Xa bs)) : (enter E (ctx E (m + 3)) Ke [.slice ao 64 ca] h).Wp sg fun v h' => ∃ ao' ca', v = .slice ao' 64 ca' /\ Own h' 1 ao' 64 ca' ((Yd bs 64).map wd) /\ (∀ a, ao' = some a -> h.next <= a.block) /\ Ext [] h h' := by
 refine H.run (k := Vl) rfl rfl rfl ?_
 dsimp only [Vl]
 refine R ?_
 have hs0 : Yd bs 0 = [] := by unfold Yd; rfl
 refine Yl 64 0 (fun i t x hk => ∃ wo wc, (g0 t = (.slice ao 64 ca) /\ g3 t = (.slice wo i wc) /\ g4 t = (.int .i64 (XhA i))) /\ x = ⟨[], none, none⟩ /\ Own hk 1 wo i wc ((Yd bs i).map wd) /\ (∀ a, wo = some a -> h.next <= a.block) /\ Ext [] h hk) ⟨none, 0, ⟨rfl, rfl, rfl⟩, rfl, by rw [hs0]; exact .empty _ _, (fun a ha => nomatch ha), .refl h⟩ (XhO _) (XG (by omega)) ?_
 rintro i t x hk hi ⟨wo, wc, ⟨r0, r3, r4⟩, rfl, ow, fw, ei⟩
 obtain ⟨t0, rfl⟩ : ∃ t0, t = p0 (.slice ao 64 ca) (p3 (.slice wo i wc) (p4 (.int .i64 (XhA i)) t0)) := ⟨t, (show t = p0 (g0 t) (p3 (g3 t) (p4 (g4 t) t)) from rfl).trans (by rw [r0, r3, r4])⟩
 clear r0 r3 r4
 have hwl := XaL bs i
 by_cases h16 : i < 16
 ·refine R ?_
  refine Yl 4 0 (fun k t x hk2 => (g0 t = (.slice ao 64 ca) /\ g3 t = (.slice wo i wc) /\ g4 t = (.int .i64 (XhA i)) /\ g5 t = (wd (hw bs i k)) /\ g6 t = (.int .i64 (XhA k))) /\ x = ⟨[], none, none⟩ /\ hk2 = hk) ⟨⟨rfl, rfl, rfl, rfl, rfl⟩, rfl, rfl⟩ (XhO _) (XG (by omega)) ?_
  rintro k t x hk2 hk4 ⟨⟨r0, r3, r4, r5, r6⟩, rfl, rfl⟩
  obtain ⟨t0, rfl⟩ : ∃ t0, t = p0 (.slice ao 64 ca) (p3 (.slice wo i wc) (p4 (.int .i64 (XhA i)) (p5 (wd (hw bs i k)) (p6 (.int .i64 (XhA k)) t0)))) := ⟨t, (show t = p0 (g0 t) (p3 (g3 t) (p4 (g4 t) (p5 (g5 t) (p6 (g6 t) t)))) from rfl).trans (by rw [r0, r3, r4, r5, r6])⟩
  clear r0 r3 r4 r5 r6
  by_cases hk3 : k < 4
  ·obtain ⟨a, wa, xa, hao, ga, na, ta⟩ := (sl.ext ei).nonempty (by omega)
   subst hao
   obtain ⟨u, hu⟩ : ∃ u, bs[4 * i + k]? = some u := ⟨_, XhL (by omega)⟩
   have hn1 : nth (a.off + (4 * i + k) * 1) xa = some (byteVal u) := by
    rw [XhI, Yf ta (by omega), Yj, Xic, hu]; rfl
   have hB8 : B8 bs (4 * i + k) = IntKind.u32.wrap (u.toNat : Int) := by
    unfold B8; rw [Xih, hu]; rfl
   refine R ?_
   refine Xd (l_mulI rfl rfl rfl) ?_
   refine R ?_
   refine Xd (Xc3 rfl rfl (by omega)) ?_
   refine R ?_
   refine Xd (ZI rfl rfl (by omega)) ?_
   refine R2 ?_
   refine Xd (YV rfl rfl rfl) ?_
   refine R ?_
   refine ⟨hk3, ⟨rfl, rfl, rfl, ?_, rfl⟩, rfl, rfl⟩
   show _ = wd (Zh (IntKind.u32.wrap (hw bs i k * 256)) (B8 bs (4 * i + k)))
   rw [hB8]; rfl
  ·obtain rfl : k = 4 := by omega
   refine R ?_
   refine XJ (Xf (by conv => lhs; whnf) rfl rfl rfl XB) fun H30 B30 E30 L30 G30 N30 Q30 => ?_
   have hG30 : H30.get B30 = some (.cells true [wd (wordAt bs i)]) := by rw [<- hw4]; exact G30
   refine XP (k := 1) (new := [wd (wordAt bs i)]) (ow.ext E30) rfl rfl rfl (Slc.of_get (z := 1) (n := 1) hG30 N30 rfl).elemsAll rfl (by omega) fun ao2 ca2 h2 o2 e2 l2 f2 => ?_
   have l30 := E30.next
   have lei := ei.next
   refine R ?_
   have hsw : Yd bs (i + 1) = Yd bs i ++ [wordAt bs i] := by rw [Yd, if_pos h16]
   refine ⟨by omega, ao2, ca2, ⟨rfl, rfl, rfl⟩, rfl, by rw [hsw, Xh2]; exact o2, fun a ha => ?_, (ei.trans0 E30).trans e2 fun s hs => .inr ?_⟩
   ·exact (f2 a ha).elim (fun hx => by obtain ⟨b, h1, h2⟩ := Xu hx; rw [<- h2]; exact fw b h1) fun hx => by omega
   ·obtain ⟨b, h1, h2⟩ := Xu hs; rw [<- h2]; exact fw b h1
 ·by_cases h64 : i < 64
  ·have hpos : wo = none /\ i = 0 /\ wc = 0 -> False := fun hh => by omega
   rcases ow.own with hh | ⟨b, rfl, rfl, _, gw⟩ | ⟨b, _, hh, _⟩
   ·omega
   ·have q : ∀ j, j < i -> nth (0 + j * 1) ((Yd bs i).map wd) = some (wd ((Yd bs i).getD j 0)) := fun j hj => by
     have := nth_arr (Yd bs i) [] (j := j) (by omega)
     rwa [Xij] at this
    have q2 := q (i - 2) (by omega)
    have q7 := q (i - 7) (by omega)
    have q15 := q (i - 15) (by omega)
    have q16 := q (i - 16) (by omega)
    refine R ?_
    refine Xk (YY rfl rfl (by omega) (by omega)) rfl ?_
    refine R2 ?_
    refine Z7 (Xi rfl (ref02_lowerQ_ok H (sg := true) (m + 1) _ _)) rfl ?_
    refine R ?_
    refine Xk (YY rfl rfl (by omega) (by omega)) rfl ?_
    refine R ?_
    refine Xk (XQ rfl gw (by assumption)) (YH rfl (XH (XQ rfl gw (by assumption)) rfl) rfl) ?_
    refine Xk (YV rfl rfl rfl) rfl ?_
    refine R ?_
    refine Xk (YY rfl rfl (by omega) (by omega)) rfl ?_
    refine R ?_
    refine Xk (XQ rfl gw (by assumption)) (YH rfl (XH (XQ rfl gw (by assumption)) rfl) rfl) ?_
    refine Z7 (Xi rfl (ref02_lowerP_ok H (sg := true) (m + 1) _ _)) (YI rfl (XH (XQ rfl gw q7) rfl) rfl) ?_
    refine Xk (YV rfl rfl rfl) rfl ?_
    refine R ?_
    refine Xk (YY rfl rfl (by omega) (by omega)) rfl ?_
    refine R ?_
    refine Xk (XQ rfl gw (by assumption)) (YH rfl (XH (XQ rfl gw (by assumption)) rfl) (YH rfl (XH (XQ rfl gw (by assumption)) rfl) rfl)) ?_
    refine Xk (YV rfl rfl rfl) rfl ?_
    refine Xak (Xf (by conv => lhs; whnf) rfl rfl rfl XB) (fun _ => rfl) fun H44 B44 E44 L44 G44 N44 Q44 => ?_
    have hsw : Yd bs (i + 1) = Yd bs i ++ [nextW (Yd bs i)] := by rw [Yd, if_neg h16]
    have hnw := nextW_ref (Yd bs i)
    rw [hwl] at hnw
    have hG44 : H44.get B44 = some (.cells true [wd (nextW (Yd bs i))]) := by rw [<- hnw]; exact G44
    have l44 := E44.next
    have lei := ei.next
    refine WM (k := 1) (new := [wd (nextW (Yd bs i))]) (ow.ext E44) rfl rfl rfl (Slc.of_get (z := 1) (n := 1) hG44 N44 rfl).elemsAll rfl (by omega) (fun _ => rfl) fun ao2 ca2 h2 o2 e2 l2 f2 => ?_
    refine R ?_
    refine ⟨h64, ao2, ca2, ⟨rfl, rfl, rfl⟩, rfl, by rw [hsw, Xh2]; exact o2, fun a ha => ?_, (ei.trans0 E44).trans e2 fun s hs => .inr ?_⟩
    ·exact (f2 a ha).elim (fun hx => by obtain ⟨b', h1, h2⟩ := Xu hx; rw [<- h2]; exact fw b' h1) fun hx => by omega
    ·obtain ⟨b', h1, h2⟩ := Xu hs; rw [<- h2]; exact fw b' h1
   ·omega
  ·obtain rfl : i = 64 := by omega
   refine R ?_
   exact ⟨rfl, _, Xb (Xw rfl) Xg, wo, wc, rfl, ow, fw, ei⟩
end
section
variable {E : Env} {sg : Bool} (H : Has E)
include H
attribute [local irreducible] Yd Vn
set_option maxHeartbeats 4000000 in
theorem ref02_block_ok (m : Nat) (hm : 100000000 <= m) (h : Heap) (s : S8) (bs : List UInt8) (hbs : bs.length = 64) (ao : Option Addr) (ca : Nat) (sl : Slc h 1 ao 64 ca (Xa bs)) (kb : Nat) (gk : h.get kb = some (.cells true Vo)) (lk : kb < h.next) : (enter E (ctx E (m + 5)) Xb8 [.agg ⟨s.cells⟩, .slice ao 64 ca, .slice (some ⟨kb, 0, none⟩) 64 64] h).Wp sg fun v h' => v = .agg ⟨(Jd s bs).cells⟩ /\ Ext [] h h' := by
 refine H.run (k := UP) rfl rfl rfl ?_
 dsimp only [UP]
 have hr0 : ∀ w, Vn s w 0 = s := fun w => by unfold Vn; rfl
 have hrs : ∀ w n, Vn s w (n + 1) = (Vn s w n).rnd (constAt n) (w.getD n 0) := fun w n => by rw [Vn]
 refine X9 ?_
 refine X2 (by conv => lhs; whnf) rfl fun H1 B1 E1 L1 G1 N1 Q1 => ?_
 refine Xt fun H2 B2 E2 L2 G2 N2 Q2 => ?_
 refine R ?_
 refine Xj (Xi rfl (ref02_schedule_ok H (m + 1) (by omega) _ bs hbs ao ca (sl.ext (E1.trans0 E2)))) ?_
 rintro v h3 ⟨wo, wc, rfl, ow, fw, e3⟩
 refine R ?_
 have T10 := E2.get0 (by omega) G1
 have T11 := e3.get0 (by omega) T10
 refine R2 ?_
 refine Xt fun H12 B12 E12 L12 G12 N12 Q12 => ?_
 refine Xm rfl (by conv => lhs; whnf) rfl G12 rfl (XhH rfl) fun H13 E13 L13 G13 => ?_
 refine R ?_
 obtain ⟨W, hW⟩ : ∃ W, W = Yd bs 64 := ⟨_, rfl⟩
 have hWl : W.length = 64 := by rw [hW]; exact XaL bs 64
 rw [<- hW] at ow
 obtain ⟨wa, ww, wxs, rfl, gwa, nwa, twa⟩ := ow.toSlc.nonempty (by decide)
 have hwb := fw wa rfl
 have gw13 := E13.get1 (by omega) (by omega) (E12.get0 (by omega) gwa)
 have gk13 := E13.get1 (by omega) (by omega) (E12.get0 (by omega) (e3.get0 (by omega) (E2.get0 (by omega) (E1.get0 (by omega) gk))))
 have g1' := E13.get1 (by omega) (by omega) (E12.get0 (by omega) T11)
 have g2' := E13.get1 (by omega) (by omega) (E12.get0 (by omega) (e3.get0 (by omega) G2))
 have ge := e3.next
 refine Yl 64 0 (fun i t x hk => (g9 t = (.int .i64 (XhA i)) /\ g8 t = (.pointer (some ⟨B12, 0, none⟩)) /\ g7 t = (.slice (some wa) 64 wc) /\ g2 t = (.slice (some ⟨kb, 0, none⟩) 64 64) /\ g3 t = (.pointer (some ⟨B1, 0, none⟩)) /\ g6 t = (.pointer (some ⟨B2, 0, none⟩))) /\ x = ⟨[], none, none⟩ /\ Ext [B12] H13 hk /\ hk.next = H13.next /\ hk.get B12 = some (.cells true (Vn s W i).cells)) ⟨⟨rfl, rfl, rfl, rfl, rfl, rfl⟩, rfl, ⟨XhE _, fun _ _ _ => rfl⟩, rfl, (hr0 W).symm ▸ G13⟩ (by decide) (XG (by omega)) ?_
 rintro i t x hk hi ⟨⟨r9, r8, r7, r2, r3, r6⟩, rfl, ek, lk', gk'⟩
 obtain ⟨t0, rfl⟩ : ∃ t0, t = p9 (.int .i64 (XhA i)) (p8 (.pointer (some ⟨B12, 0, none⟩)) (p7 (.slice (some wa) 64 wc) (p2 (.slice (some ⟨kb, 0, none⟩) 64 64) (p3 (.pointer (some ⟨B1, 0, none⟩)) (p6 (.pointer (some ⟨B2, 0, none⟩)) t0))))) := ⟨t, (show t = p9 (g9 t) (p8 (g8 t) (p7 (g7 t) (p2 (g2 t) (p3 (g3 t) (p6 (g6 t) t))))) from rfl).trans (by rw [r9, r8, r7, r2, r3, r6])⟩
 clear r9 r8 r7 r2 r3 r6
 obtain ⟨X, hX⟩ : ∃ X, X = Vn s W i := ⟨_, rfl⟩
 rw [<- hX] at gk'
 have gw := ek.get1 (by omega) (by omega) gw13
 have gkk := ek.get1 (by omega) (by omega) gk13
 by_cases hlt : i < 64
 ·have hc : nth (0 + i * 1) Vo = some (wd (constAt i)) := by rw [XhT, XhI]; exact const_at hlt
  have w0 : nth (wa.off + i * 1) wxs = some (wd (W.getD i 0)) := by
   rw [Yf twa (by omega), XhI, Xic, XhL (by omega), Xih, XhL (by omega)]; rfl
  refine R2 ?_
  refine Z7 (Xi rfl (ref02_upperE_ok H _ _ _)) (YI rfl (XH (XQ rfl gk' (v := wd X.h) rfl) rfl) rfl) ?_
  refine Xk (YV rfl rfl rfl) rfl ?_
  refine R ?_
  refine Xk (XQ rfl gk' rfl) (YH rfl (XH (XQ rfl gk' rfl) rfl) rfl) ?_
  refine R ?_
  refine Xk (XQ rfl gk' rfl) (YH rfl (XH (XQ rfl gk' rfl) rfl) rfl) ?_
  refine R ?_
  refine Xk (XQ rfl gk' rfl) (YH rfl (XH (XQ rfl gk' rfl) rfl) rfl) ?_
  refine Z7 (Xi rfl (ref02_ch_ok H _ _ _ _ _)) (YI rfl (XH (XQ rfl gk' (v := wd X.h) rfl) rfl) rfl) ?_
  refine Xk (YV rfl rfl rfl) rfl ?_
  refine R ?_
  refine Xk (XQ rfl gkk (by assumption)) (YH rfl (XH (XQ rfl gkk (by assumption)) rfl) (YH rfl (XH (XQ rfl gkk (by assumption)) rfl) rfl)) ?_
  refine Xk (YV rfl rfl rfl) rfl ?_
  refine R ?_
  refine Xk (XQ rfl gw (by assumption)) (YH rfl (XH (XQ rfl gw (by assumption)) rfl) (YH rfl (XH (XQ rfl gw (by assumption)) rfl) rfl)) ?_
  refine Xk (YV rfl rfl rfl) rfl ?_
  refine R2 ?_
  refine Z7 (Xi rfl (ref02_upperA_ok H _ _ _)) rfl ?_
  refine R ?_
  refine Xk (XQ rfl gk' rfl) (YH rfl (XH (XQ rfl gk' rfl) rfl) rfl) ?_
  refine R ?_
  refine Xk (XQ rfl gk' rfl) (YH rfl (XH (XQ rfl gk' rfl) rfl) rfl) ?_
  refine R ?_
  refine Xk (XQ rfl gk' rfl) (YH rfl (XH (XQ rfl gk' rfl) rfl) rfl) ?_
  refine Z7 (Xi rfl (ref02_maj_ok H _ _ _ _ _)) rfl ?_
  refine Xk (YV rfl rfl rfl) rfl ?_
  refine R ?_
  refine Xd (YV rfl rfl rfl) ?_
  refine R2 ?_
  refine Xd (YV rfl rfl rfl) ?_
  refine R2 ?_
  refine Xd (Yo (Xf (by conv => lhs; whnf) rfl rfl rfl (Xf (by conv => lhs; whnf) rfl rfl rfl (Xf (by conv => lhs; whnf) rfl rfl rfl (Xf (by conv => lhs; whnf) rfl rfl rfl (Xf (by conv => lhs; whnf) rfl rfl rfl (Xf (by conv => lhs; whnf) rfl rfl rfl (Xf (by conv => lhs; whnf) rfl rfl rfl (Xf (by conv => lhs; whnf) rfl rfl rfl XB))))))))) ?_
  refine Xm rfl (by conv => lhs; whnf) rfl gk' rfl (XhH rfl) fun H24 E24 L24 G24 => ?_
  refine R ?_
  refine ⟨hlt, ⟨rfl, rfl, rfl, rfl, rfl, rfl⟩, rfl, ek.same E24, L24.trans lk', ?_⟩
  rw [hrs, <- hX]
  exact G24
 ·have h64 : i = 64 := by omega
  have gx1 := ek.get1 (by omega) (by omega) g1'
  have gx2 := ek.get1 (by omega) (by omega) g2'
  subst h64
  refine R2 ?_
  refine Xd (YV rfl rfl rfl) ?_
  refine R2 ?_
  refine Xd (YV rfl rfl rfl) ?_
  refine R2 ?_
  refine Xd (YV rfl rfl rfl) ?_
  refine R2 ?_
  refine Xd (YV rfl rfl rfl) ?_
  refine R2 ?_
  refine Xd (YV rfl rfl rfl) ?_
  refine R2 ?_
  refine Xd (YV rfl rfl rfl) ?_
  refine R2 ?_
  refine Xd (YV rfl rfl rfl) ?_
  refine R2 ?_
  refine Xd (YV rfl rfl rfl) ?_
  refine Xd (Yo (Xf (by conv => lhs; whnf) rfl rfl rfl (Xf (by conv => lhs; whnf) rfl rfl rfl (Xf (by conv => lhs; whnf) rfl rfl rfl (Xf (by conv => lhs; whnf) rfl rfl rfl (Xf (by conv => lhs; whnf) rfl rfl rfl (Xf (by conv => lhs; whnf) rfl rfl rfl (Xf (by conv => lhs; whnf) rfl rfl rfl (Xf (by conv => lhs; whnf) rfl rfl rfl XB))))))))) ?_
  refine Xm rfl (by conv => lhs; whnf) rfl gx2 rfl (XhH rfl) fun H40 E40 L40 G40 => ?_
  refine R ?_
  refine ⟨rfl, _, Xb (Y4 (cs := (s.add X).cells) rfl G40 rfl) Xg, ?_, ?_⟩
  ·unfold Jd
   rw [<- hW, <- hX]
   rfl
  ·exact ((((((E1.trans0 E2).trans0 e3).trans0 E12).trans1 E13 (by omega)).trans1 ek (by omega)).trans1 E40 (by omega))
end
section
variable {g g' : Xe} {t : Tm} {h : Heap}
theorem l_divU32 {a b : Nat} (h1 : g t = .int .u32 (XhA a)) (h2 : g' t = .int .u32 (XhA b)) (hb : 0 < b) (ha : a < 4294967296) : YE .quo g g' t h = some (.int .u32 (XhA (a / b))) := by
 unfold YE
 rw [h1, h2]
 show (bif J2 (XhA b) 0 then none else some (Value.int .u32 (IntKind.u32.wrap ((XhA a).tdiv (XhA b))))) = _
 rw [XaX, decide_eq_false (by show (b : Int) ≠ 0; omega)]
 have e : (XhA a).tdiv (XhA b) = XhA (a / b) := rfl
 have := Nat.div_le_self a b
 rw [e, wrap32N (by omega)]
 rfl
end
theorem u32_nat (z : Int) : ∃ n : Nat, n < 4294967296 /\ IntKind.u32.wrap z = XhA n := by
 rw [wrap32]
 exact ⟨(z % 4294967296).toNat, by omega, by rw [Xiv]; omega⟩
theorem behind_nat (s : S8) (b : List UInt8) {i : Nat} (hi : i < 8) : ∃ n : Nat, n < 4294967296 /\ (Jd s b).list.getD i 0 = XhA n := by
 unfold Jd
 generalize Vn s (Yd b 64) 64 = x
 have : i = 0 \/ i = 1 \/ i = 2 \/ i = 3 \/ i = 4 \/ i = 5 \/ i = 6 \/ i = 7 := by omega
 rcases this with rfl | rfl | rfl | rfl | rfl | rfl | rfl | rfl <;> exact u32_nat _
theorem quo_byte (n k : Nat) (hk : k <= 3) : Value.int .u8 (IntKind.u8.wrap (XhA (n / 256 ^ k))) = byteVal (W4 (U1 .u32 (XhA n) (24 - 8 * (3 - k)))) := by
 rw [Xc4]
 congr 2
 show XhA (n / 256 ^ k) = (XhA n).fdiv (2 ^ (min (24 - 8 * (3 - k)) 32))
 have e : (2 : Int) ^ (min (24 - 8 * (3 - k)) 32) = ((256 ^ k : Nat) : Int) := by
  have : k = 0 \/ k = 1 \/ k = 2 \/ k = 3 := by omega
  rcases this with rfl | rfl | rfl | rfl <;> rfl
 rw [e, Xiv, Xiv, Int.fdiv_eq_ediv_of_nonneg _ (Int.natCast_nonneg _)]
 rfl
def XgA (s : S8) (i k : Nat) : List UInt8 := (List.range 32).map fun p => if p / 4 < i \/ (p / 4 = i /\ 4 - k <= p % 4) then W4 (U1 .u32 (s.list.getD (p / 4) 0) (24 - 8 * (p % 4))) else 0
theorem XbS (s : S8) (i k : Nat) : (XgA s i k).length = 32 := by unfold XgA; rw [XhP, Xjr]
theorem outP_get (s : S8) (i k p : Nat) (h : p < (XgA s i k).length) : (XgA s i k)[p] = if p / 4 < i \/ (p / 4 = i /\ 4 - k <= p % 4) then W4 (U1 .u32 (s.list.getD (p / 4) 0) (24 - 8 * (p % 4))) else 0 := by
 have h2 : p < 32 := by rwa [XbS] at h
 have e : (XgA s i k)[p]? = some (if p / 4 < i \/ (p / 4 = i /\ 4 - k <= p % 4) then W4 (U1 .u32 (s.list.getD (p / 4) 0) (24 - 8 * (p % 4))) else 0) := by
  unfold XgA; rw [Xic, List.getElem?_range h2]; rfl
 rw [XhL h] at e
 exact XhU.inj e
theorem outP_zero (s : S8) : XgA s 0 0 = XhY 32 0 := by
 unfold XgA
 rw [Xjo (g := fun _ => (0 : UInt8)) (fun p hp => if_neg (by omega))]
 rfl
theorem outP_next (s : S8) (i : Nat) : XgA s i 4 = XgA s (i + 1) 0 := by
 unfold XgA
 apply Xjo
 intro p hp
 have : (p / 4 < i \/ p / 4 = i /\ 4 - 4 <= p % 4) ↔ (p / 4 < i + 1 \/ p / 4 = i + 1 /\ 4 - 0 <= p % 4) := by omega
 simp only [this]
theorem outP_all (s : S8) : XgA s 8 0 = outB s := by
 unfold XgA outB
 apply Xjo
 intro p hp
 rw [if_pos (.inl (by rw [List.mem_range] at hp; omega))]
theorem putAt_set {L : List UInt8} {p : Nat} (b : UInt8) (hp : p < L.length) : XZ [byteVal b] (0 + p * 1) (Xa L) = Xa (L.set p b) := by
 rw [XhT, XhI, putAt_eq _ _ _ (by rw [Xc]; simp; omega), U2, U3, XjK, if_pos hp, XS]
 simp only [Yj, Xit, List.length_singleton, List.singleton_append]
theorem outP_put (s : S8) {i k : Nat} (hi : i < 8) (hk : k < 4) : XZ [byteVal (W4 (U1 .u32 (s.list.getD i 0) (24 - 8 * (3 - k))))] (0 + (4 * i + (3 - k)) * 1) (Xa (XgA s i k)) = Xa (XgA s i (k + 1)) := by
 have hl := XbS s i k
 rw [putAt_set _ (by omega)]
 congr 1
 apply List.ext_getElem
 ·rw [List.length_set, hl, XbS]
 ·intro p h1 h2
  rw [XbS] at h2
  rw [List.getElem_set, outP_get, outP_get]
  by_cases e : 4 * i + (3 - k) = p
  ·subst e
   rw [if_pos rfl, if_pos (Or.inr (by omega)), show (4 * i + (3 - k)) / 4 = i by omega, show (4 * i + (3 - k)) % 4 = 3 - k by omega]
  ·rw [if_neg e]
   have : (p / 4 < i \/ p / 4 = i /\ 4 - k <= p % 4) ↔ (p / 4 < i \/ p / 4 = i /\ 4 - (k + 1) <= p % 4) := by omega
   simp only [this]
def jv (k : Nat) : Value := .int .i64 (3 - (k : Int))
section
variable {E : Env} {sg : Bool} (H : Has E)
include H
attribute [local irreducible] Yd Vn Jd
set_option maxHeartbeats 4000000 in
theorem XgB (m : Nat) (hm : 100000000 <= m) (h : Heap) (bs : List UInt8) (ao : Option Addr) (n ca : Nat) (hn : bs.length = n) (sl : Slc h 1 ao n ca (Xa bs)) (hbig : n < 90000000) :
  (enter E (ctx E (m + 6)) XdL [.slice ao n ca] h).Wp sg fun v h' => v = .agg ⟨Xa (Sha bs)⟩ /\ Ext [] h h' := by
 refine H.run (k := Ku) rfl rfl rfl ?_
 dsimp only [Ku]
 subst hn
 refine X9 ?_
 refine Xt fun H1 B1 E1 L1 G1 N1 Q1 => ?_
 refine R ?_
 refine Xd (Yo (Xf (by conv => lhs; whnf) rfl rfl rfl (Xf (by conv => lhs; whnf) rfl rfl rfl (Xf (by conv => lhs; whnf) rfl rfl rfl (Xf (by conv => lhs; whnf) rfl rfl rfl (Xf (by conv => lhs; whnf) rfl rfl rfl (Xf (by conv => lhs; whnf) rfl rfl rfl (Xf (by conv => lhs; whnf) rfl rfl rfl (Xf (by conv => lhs; whnf) rfl rfl rfl XB))))))))) ?_
 refine Xt fun H2 B2 E2 L2 G2 N2 Q2 => ?_
 refine Xm rfl (by conv => lhs; whnf) rfl G2 rfl (XhH rfl) fun H3 E3 L3 G3 => ?_
 refine R ?_
 refine Xj (Xi rfl (ref02_message_ok H (m + 5) (by omega) _ bs ao ca (sl.ext ((E1.trans0 E2).trans1 E3 (by omega))) hbig)) ?_
 rintro v h4 ⟨mo, mc, rfl, om, fm, e4⟩
 refine Xj (Xi rfl (ref02_constants_ok H (m + 5) _)) ?_
 rintro v h5 ⟨kb, rfl, gk, lk, lk', e5⟩
 have hM : ∃ M, M = bs ++ XbP bs.length := ⟨_, rfl⟩
 obtain ⟨M, hM⟩ := hM
 rw [<- hM] at om ⊢
 have hnb : ∃ nb, M.length = 64 * nb /\ 0 < nb /\ nb < 2000000 := by
  have h1 := XdY bs.length
  have h2 : YX bs.length = 1 + (119 - bs.length % 64) % 64 := rfl
  rw [hM, XhC, h1]
  exact ⟨(bs.length + (YX bs.length + 8)) / 64, by omega, by omega, by omega⟩
 obtain ⟨nb, hl, hnb0, hnb1⟩ := hnb
 refine R ?_
 have gz : H3.get B2 = some (.cells true (stN M 0).cells) := G3
 have g35 := e5.get0 (by have := e4.next; omega) (e4.get0 (by omega) gz)
 have ge4 := e4.next
 have ge5 := e5.next
 refine Yl nb 0 (fun k t x hk => (∃ mo mc, (g4 t = (.slice mo (M.length - 64 * k) mc) /\ g5 t = (.slice (some ⟨kb, 0, none⟩) 64 64) /\ g3 t = (.pointer (some ⟨B2, 0, none⟩)) /\ g2 t = (.pointer (some ⟨B1, 0, none⟩))) /\ Slc hk 1 mo (M.length - 64 * k) mc (Xa (M.drop (64 * k))) /\ (∀ a, mo = some a -> H3.next <= a.block)) /\ x = ⟨[], none, none⟩ /\ Ext [B2] h5 hk /\ hk.get B2 = some (.cells true (stN M k).cells)) ⟨⟨mo, mc, ⟨rfl, rfl, rfl, rfl⟩, om.toSlc.ext e5, fm⟩, rfl, ⟨XhE _, fun _ _ _ => rfl⟩, g35⟩ (by omega) (XG (by omega)) ?_
 rintro k t x hk hkn ⟨⟨mo, mc, ⟨r4, r5, r3, r2⟩, sm, fm⟩, rfl, ek, gk'⟩
 obtain ⟨t0, rfl⟩ : ∃ t0, t = p4 (.slice mo (M.length - 64 * k) mc) (p5 (.slice (some ⟨kb, 0, none⟩) 64 64) (p3 (.pointer (some ⟨B2, 0, none⟩)) (p2 (.pointer (some ⟨B1, 0, none⟩)) t0))) := ⟨t, (show t = p4 (g4 t) (p5 (g5 t) (p3 (g3 t) (p2 (g2 t) t))) from rfl).trans (by rw [r4, r5, r3, r2])⟩
 clear r4 r5 r3 r2
 obtain ⟨X, hX⟩ : ∃ X, X = stN M k := ⟨_, rfl⟩
 rw [<- hX] at gk'
 have gkk := ek.get1 (by omega) (by omega) gk
 have lkk := ek.next
 by_cases hlt : k < nb
 ·have hgt : 0 < M.length - 64 * k := by omega
  have hX8 : XU 8 (XY 0 X.cells) = some X.cells := rfl
  refine R2 ?_
  refine wp_dSub (l := 0) (r := 64) sm rfl rfl rfl (by omega) (by omega) rfl fun ao' ca' log sl' ft => ?_
  refine R ?_
  have hsl : (List.drop (64 * k) M).take 64 = (List.drop (64 * k) M).take 64 := rfl
  obtain ⟨bk, hbk⟩ : ∃ bk, bk = (List.drop (64 * k) M).take 64 := ⟨_, rfl⟩
  have hbl : bk.length = 64 := by rw [hbk, Xie, Xif]; omega
  have sl2 : Slc hk 1 ao' 64 ca' (Xa bk) := by
   have := sl'
   rw [U3, U2, Nat.zero_mul, XiN, XhI, <- hbk] at this
   exact this
  refine YL (Xi rfl (ref02_block_ok H m hm _ X bk hbl ao' ca' sl2 kb gkk (by omega))) (fun _ _ _ => rfl) ?_
  rintro v h12 ⟨rfl, e12⟩
  have l12 := e12.next
  have g12' := e12.get0 (by omega) gk'
  refine Yw rfl (by conv => lhs; whnf) rfl g12' rfl (XhH rfl) (fun _ => rfl) fun H13 E13 L13 G13 => ?_
  refine R ?_
  have hmb : ∀ a, mo = some a -> a.block ≠ B2 := fun a ha => by have := fm a ha; omega
  refine Xal (l := 64) (r := M.length - 64 * k) ((sm.ext e12).ext1 E13 hmb) rfl rfl rfl (by omega) (XhE _) fun ao3 ca3 sl3 ft3 => ?_
  refine R ?_
  have hd : (List.take ((M.length - 64 * k - 64) * 1) (List.drop (64 * 1) (Xa (M.drop (64 * k))))) = Xa (M.drop (64 * (k + 1))) := by
   rw [U3, U2, Xip, Xi6 (by rw [Xif]; omega), show 64 * k + 64 * 1 = 64 * (k + 1) by omega]
  rw [hd] at sl3
  refine ⟨by omega, ⟨ao3, ca3, ⟨?_, rfl, rfl, rfl⟩, by rw [show M.length - 64 * (k + 1) = M.length - 64 * k - 64 by omega]; exact sl3, fun a ha => by obtain ⟨a2, q1, q2⟩ := ft3 a ha; have := fm a2 q1; omega⟩, rfl, (ek.trans0 e12).same E13, ?_⟩
  ·rw [show M.length - 64 * (k + 1) = M.length - 64 * k - 64 by omega]; rfl
  ·rw [G13, hbk, hX]; rfl
 ·have hend : k = nb := by omega
  have hgt : ¬ 0 < M.length - 64 * k := by omega
  refine R2 ?_
  refine XJ (Xf (by conv => lhs; whnf) rfl rfl rfl (Xf (by conv => lhs; whnf) rfl rfl rfl (Xf (by conv => lhs; whnf) rfl rfl rfl (Xf (by conv => lhs; whnf) rfl rfl rfl (Xf (by conv => lhs; whnf) rfl rfl rfl (Xf (by conv => lhs; whnf) rfl rfl rfl (Xf (by conv => lhs; whnf) rfl rfl rfl (Xf (by conv => lhs; whnf) rfl rfl rfl XB)))))))) fun H10 B10 E10 L10 G10 N10 Q10 => ?_
  refine R ?_
  refine Xt fun H11 B11 E11 L11 G11 N11 Q11 => ?_
  refine R ?_
  have gl : H11.get B10 = some (.cells true (X.list.map wd)) := E11.get0 (by omega) G10
  have go : H11.get B11 = some (.cells true (Xa (XgA X 0 0))) := by rw [outP_zero]; exact G11
  have hw : ∀ i, i < 8 -> ∃ w : Nat, w < 4294967296 /\ X.list.getD i 0 = XhA w := by
   intro i hi
   rw [hX, hend, show nb = (nb - 1) + 1 by omega]
   exact behind_nat _ _ hi
  refine Yl 8 0 (fun i t x hm => (g8 t = (.int .i64 (XhA i)) /\ g6 t = (.slice (some ⟨B10, 0, none⟩) 8 8) /\ g7 t = (.pointer (some ⟨B11, 0, none⟩)) /\ g2 t = (.pointer (some ⟨B1, 0, none⟩))) /\ x = ⟨[], none, none⟩ /\ Ext [B10, B11] H11 hm /\ hm.next = H11.next /\ hm.get B11 = some (.cells true (Xa (XgA X i 0))) /\ ∃ us : List Int, us.length = 8 /\ (∀ j, i <= j -> us.getD j 0 = X.list.getD j 0) /\ hm.get B10 = some (.cells true (us.map wd))) ⟨⟨rfl, rfl, rfl, rfl⟩, rfl, ⟨XhE _, fun _ _ _ => rfl⟩, rfl, go, X.list, rfl, fun _ _ => rfl, gl⟩ (by decide) (XG (by omega)) ?_
  rintro i t x hq hi ⟨⟨r8, r6, r7, r2⟩, rfl, eq', lq', go', us, hul, hus, gl'⟩
  obtain ⟨t0, rfl⟩ : ∃ t0, t = p8 (.int .i64 (XhA i)) (p6 (.slice (some ⟨B10, 0, none⟩) 8 8) (p7 (.pointer (some ⟨B11, 0, none⟩)) (p2 (.pointer (some ⟨B1, 0, none⟩)) t0))) := ⟨t, (show t = p8 (g8 t) (p6 (g6 t) (p7 (g7 t) (p2 (g2 t) t))) from rfl).trans (by rw [r8, r6, r7, r2])⟩
  clear r8 r6 r7 r2
  by_cases hlt8 : i < 8
  ·obtain ⟨w, hw1, hw2⟩ := hw i hlt8
   refine R ?_
   refine Yl 4 0 (fun k t x hm => (g9 t = (jv k) /\ g8 t = (.int .i64 (XhA i)) /\ g6 t = (.slice (some ⟨B10, 0, none⟩) 8 8) /\ g7 t = (.pointer (some ⟨B11, 0, none⟩)) /\ g2 t = (.pointer (some ⟨B1, 0, none⟩))) /\ x = ⟨[], none, none⟩ /\ Ext [B10, B11] H11 hm /\ hm.next = H11.next /\ hm.get B11 = some (.cells true (Xa (XgA X i k))) /\ ∃ us : List Int, us.length = 8 /\ (∀ j, i < j -> us.getD j 0 = X.list.getD j 0) /\ us.getD i 0 = XhA (w / 256 ^ k) /\ hm.get B10 = some (.cells true (us.map wd))) ⟨⟨rfl, rfl, rfl, rfl, rfl⟩, rfl, eq', lq', go', us, hul, fun j hj => hus j (by omega), by rw [hus i (XhE _), hw2]; simp, gl'⟩ (by decide) (XG (by omega)) ?_
   clear hul hus gl' go' lq' eq' us hq
   rintro k t x hq hk4 ⟨⟨r9, r8, r6, r7, r2⟩, rfl, eq', lq', go', us, hul, hus, hui, gl'⟩
   obtain ⟨t0, rfl⟩ : ∃ t0, t = p9 (jv k) (p8 (.int .i64 (XhA i)) (p6 (.slice (some ⟨B10, 0, none⟩) 8 8) (p7 (.pointer (some ⟨B11, 0, none⟩)) (p2 (.pointer (some ⟨B1, 0, none⟩)) t0)))) := ⟨t, (show t = p9 (g9 t) (p8 (g8 t) (p6 (g6 t) (p7 (g7 t) (p2 (g2 t) t)))) from rfl).trans (by rw [r9, r8, r6, r7, r2])⟩
   clear r9 r8 r6 r7 r2
   by_cases hlk : k < 4
   ·have e3k : jv k = .int .i64 (XhA (3 - k)) := by unfold jv; congr 1; rw [Xiv]; omega
    rw [e3k]
    have n1 : nth (0 + i * 1) (us.map wd) = some (.int .u32 (XhA (w / 256 ^ k))) := by
     rw [Xea, XhT, XhI, Xic, XhL (by omega)]
     have := hui
     rw [Xih, XhL (by omega)] at this
     simp only [Option.getD_some] at this
     rw [this]; rfl
    have ho32 : (Xa (XgA X i k)).length = 32 := by rw [Xc, XbS]
    have hu8 : (us.map wd).length = 8 := by rw [XhP, hul]
    refine R ?_
    refine Xd (l_geqN rfl rfl rfl) ?_
    refine R ?_
    refine Xd (Xc3 rfl rfl (by omega)) ?_
    refine R ?_
    refine Xd (ZI rfl rfl (by omega)) ?_
    refine R2 ?_
    refine Xm rfl (by conv => lhs; whnf) rfl go' rfl (by omega) fun H20 E20 L20 G20 => ?_
    refine R ?_
    have T21 := E20.get1 (by omega) (by omega) gl'
    refine R2 ?_
    refine Xd (l_divU32 rfl rfl (by decide) (Nat.lt_of_le_of_lt (Nat.div_le_self _ _) hw1)) ?_
    refine R ?_
    refine Xm rfl (by conv => lhs; whnf) rfl T21 rfl (by omega) fun H24 E24 L24 G24 => ?_
    refine R ?_
    refine Xd (l_subI rfl rfl rfl) ?_
    refine R ?_
    have jn : Value.int .i64 (IntKind.i64.wrap (XhA (3 - k) - XhA 1)) = jv (k + 1) := by
     unfold jv; congr 1
     rw [Xiv, Xiv, wrap64' (by omega) (by omega)]
     omega
    refine ⟨hlk, ⟨jn, rfl, rfl, rfl, rfl⟩, rfl, (eq'.same (E20.mono (by simp))).same (E24.mono (by simp)), L24.trans (L20.trans lq'), ?_, us.set i (XhA (w / 256 ^ (k + 1))), by rw [List.length_set, hul], fun j hj => ?_, ?_, ?_⟩
    ·have := outP_put X hlt8 hlk
     rw [hw2, <- quo_byte w k (by omega)] at this
     exact E24.get1 (by omega) (by omega) (G20.trans (congrArg (fun z => some (AObj.cells true z)) this))
    ·rw [Xih, List.getElem?_set_ne (by omega), <- Xih]; exact hus j hj
    ·rw [Xih, List.getElem?_set_self (by omega)]; rfl
    ·rw [G24]
     refine congrArg (fun z => some (AObj.cells true z)) ?_
     rw [XhT, XhI, putAt_eq _ _ _ (by rw [hu8]; simp; omega), XjK, if_pos (by omega), Nat.div_div_eq_div_mul, <- Nat.pow_succ]
     simp [List.map_take, List.map_drop, wd]
   ·have e3k : jv k = .int .i64 (-1) := by unfold jv; congr 1; omega
    rw [e3k]
    have hk' : k = 4 := by omega
    refine R ?_
    refine Xd (l_geqI rfl rfl rfl) ?_
    refine R ?_
    refine ⟨hlt8, ⟨rfl, rfl, rfl, rfl⟩, rfl, eq', lq', ?_, us, hul, fun j hj => hus j (by omega), gl'⟩
    rw [go', hk', outP_next]
  ·have hi8 : i = 8 := by omega
   obtain ⟨ob, hob⟩ : ∃ ob, ob = outB X := ⟨_, rfl⟩
   rw [hi8, outP_all, <- hob] at go'
   have hobl : (Xa ob).length = 32 := by rw [hob, Xc]; unfold outB; rw [XhP, Xjr]
   have ht : XU 32 (XY 0 (Xa ob)) = some (Xa ob) := XK hobl
   have gf := eq'.getS (b := B1) (by omega) (by simp; omega) (E11.get0 (by omega) (E10.get0 (by omega) (ek.get1 (by omega) (by omega) (e5.get0 (by omega) (e4.get0 (by omega) (E3.get1 (by omega) (by omega) (E2.get0 (by omega) G1)))))))
   refine R2 ?_
   refine Xm rfl (by conv => lhs; whnf) rfl gf (by assumption) (XhH rfl) fun H30 E30 L30 G30 => ?_
   refine R ?_
   refine ⟨rfl, _, Xb (Y4 (cs := Xa ob) rfl G30 ?_) Xg, ?_, ?_⟩
   ·show XU 32 (XY 0 (XZ (Xa ob) 0 _)) = _
    rw [Yq hobl]
    exact ht
   ·rw [hob, hX, hend, hM]
    unfold Sha
    rw [<- hM, hl, Nat.mul_div_cancel_left _ (by decide)]
    rfl
   ·have x1 : Ext [] h h5 := ((((E1.trans0 E2).trans1 E3 (by omega)).trans0 e4).trans0 e5)
    have x2 : Ext [] h H11 := ((x1.trans1 ek (by omega)).trans0 E10).trans0 E11
    exact (x2.trans eq' (fun s hs => by simp at hs; right; rcases hs with rfl | rfl <;> omega)).trans1 E30 (by omega)
end
def Bss (h : Heap) (fp : List Nat) (vs : List Value) (ls : List (List UInt8)) : Prop := All2 (fun v b => ∃ ao ca, v = .slice ao b.length ca /\ Slc h 1 ao b.length ca (Xa b) /\ ∀ a, ao = some a -> a.block ∈ fp) vs ls
theorem Bss.extS {h h' : Heap} {fp : List Nat} {vs : List Value} {ls : List (List UInt8)} (c : Bss h fp vs ls) {S : List Nat} (e : Ext S h h') (q : ∀ b ∈ fp, b ∉ S) : Bss h' fp vs ls := All2.mono c fun v c ⟨ao, ca, h1, h2, h3⟩ => ⟨ao, ca, h1, h2.extS e fun a ha => q _ (h3 a ha), h3⟩
theorem Bss.ext {h h' : Heap} {fp : List Nat} {vs : List Value} {ls : List (List UInt8)} (c : Bss h fp vs ls) (e : Ext [] h h') : Bss h' fp vs ls := c.extS e fun _ _ h => nomatch h
theorem Bss.mono {h : Heap} {fp fp' : List Nat} {vs : List Value} {ls : List (List UInt8)} (c : Bss h fp vs ls) (q : ∀ b ∈ fp, b ∈ fp') : Bss h fp' vs ls := All2.mono c fun v c ⟨ao, ca, h1, h2, h3⟩ => ⟨ao, ca, h1, h2, fun a ha => q _ (h3 a ha)⟩
def zeros32 : List UInt8 := XhY 32 0
def NoC (ls : List (List UInt8)) : Prop := (∀ a ∈ ls, Sha a ≠ zeros32) /\ ∀ a ∈ ls, ∀ b ∈ ls, Sha a = Sha b -> a = b
theorem NoC.add {ls : List (List UInt8)} {b : List UInt8} (n : NoC ls) (hz : Sha b ≠ zeros32) (hb : ∀ a ∈ ls, Sha a = Sha b -> a = b) : NoC (ls ++ [b]) := by
 refine ⟨fun a ha => ?_, fun a ha c hc e => ?_⟩
 ·rcases XhV.1 ha with h | h
  ·exact n.1 a h
  ·rw [XhB.1 h]; exact hz
 ·rcases XhV.1 ha with h | h <;> rcases XhV.1 hc with h' | h'
  ·exact n.2 a h c h' e
  ·rw [XhB.1 h'] at e ⊢; exact hb a h e
  ·rw [XhB.1 h] at e ⊢; exact (hb c h' e.symm).symm
  ·rw [XhB.1 h, XhB.1 h']
def encD (b : List UInt8) : List Value := Xa (Sha b)
theorem encD_length (b : List UInt8) : (encD b).length = 32 := by unfold encD; rw [Xc, X5]
section
variable {E : Env} {sg : Bool} (H : Has E)
include H
attribute [local irreducible] Sha
set_option maxHeartbeats 4000000 in
theorem ref02_Clash_ok (m : Nat) (hm : 100000000 <= m) (h : Heap) (vs : List Value) (ls : List (List UInt8)) (ao : Option Addr) (ca n : Nat) (hn : vs.length = n) (sl : Slc h 1 ao n ca vs) (fp : List Nat) (hfp : ∀ b ∈ fp, b < h.next) (bs : Bss h fp vs ls) (hl : ∀ b ∈ ls, b.length < 90000000) (hn2 : n < 1000000) :
  (enter E (ctx E (m + 7)) Xb3 [.slice ao n ca] h).Wp sg fun v h' => ∃ b, v = .bool b /\ (b = false -> NoC ls) /\ Ext [] h h' := by
 refine H.run (k := UI) rfl rfl rfl ?_
 dsimp only [UI]
 have hln : ls.length = n := by rw [<- All2.length bs, hn]
 refine R ?_
 refine Yl n 0 (fun i t x hk => ∃ io ic, (g0 t = (.slice ao n ca) /\ g3 t = (.slice io i ic) /\ g4 t = (.int .i64 (XhA i))) /\ x = ⟨[], none, none⟩ /\ Ext [] h hk /\ Own hk 32 io i ic (fl encD (ls.take i)) /\ NoC (ls.take i) /\ ∀ a, io = some a -> h.next <= a.block) ⟨none, 0, ⟨rfl, rfl, rfl⟩, rfl, .refl h, by rw [List.take_zero]; exact .empty _ _, ⟨(fun a ha => nomatch ha), (fun a ha => nomatch ha)⟩, fun a e => nomatch e⟩ (XhO _) (XG (by omega)) ?_
 rintro i t x hk hi ⟨io, ic, ⟨r0, r3, r4⟩, rfl, ek, own, noc, fr⟩
 obtain ⟨t0, rfl⟩ : ∃ t0, t = p0 (.slice ao n ca) (p3 (.slice io i ic) (p4 (.int .i64 (XhA i)) t0)) := ⟨t, (show t = p0 (g0 t) (p3 (g3 t) (p4 (g4 t) t)) from rfl).trans (by rw [r0, r3, r4])⟩
 clear r0 r3 r4
 have lk := ek.next
 by_cases hlt : i < n
 ·obtain ⟨a, wa, xa, hao, ga, na, ta⟩ := sl.nonempty (by omega)
  subst hao
  have gak := ek.get0 na ga
  obtain ⟨b, hb⟩ : ∃ b, ls[i]? = some b := ⟨_, XhL (by omega)⟩
  obtain ⟨bo, bc, hv, sb, fb⟩ := bs.get i (by omega) (by omega)
  have hbi : ls[i] = b := XhU.inj ((XhL (by omega)).symm.trans hb)
  rw [hbi] at hv sb
  have hload : nth (a.off + i * 1) xa = some (.slice bo b.length bc) := by
   rw [XhI, Yf ta (by omega), XhL (by omega), hv]
  refine R2 ?_
  refine Xj (Xi rfl (XgB H m hm _ b bo b.length bc rfl (sb.ext ek) (hl _ (Xh5 hb)))) ?_
  rintro v h2 ⟨rfl, e2⟩
  have l2 := e2.next
  have hd32 : (Xa (Sha b)).length = 32 := by rw [Xc, X5]
  refine Xt fun H20 B20 E20 L20 G20 N20 Q20 => ?_
  refine Xm rfl (by conv => lhs; whnf) rfl G20 (by assumption) (XhH rfl) fun H21 E21 L21 G21 => ?_
  refine R ?_
  have gid : H21.get B20 = some (.cells true (Xa (Sha b))) := G21.trans (congrArg (fun z => some (AObj.cells true z)) (Yq hd32))
  have tid : XU 32 (XY 0 (Xa (Sha b))) = some (Xa (Sha b)) := XK hd32
  have tz := KM 32 (Sha b) zeros32 (X5 b) (by simp [zeros32])
  refine R2 ?_
  refine Xd (Yo XB) ?_
  refine Xd (l_eqFlat rfl rfl tz) ?_
  by_cases hz : Sha b = zeros32
  ·rw [decide_eq_true hz]
   refine R ?_
   exact ⟨rfl, _, Xb (Xw rfl) Xg, true, rfl, (fun h => nomatch h), ((ek.trans0 e2).trans0 E20).trans1 E21 (by omega)⟩
  rw [decide_eq_false hz]
  refine R ?_
  have eF : Ext [] h H21 := ((ek.trans0 e2).trans0 E20).trans1 E21 (by omega)
  have own1 : Own H21 32 io i ic (fl encD (ls.take i)) := ((own.ext e2).ext E20).extS E21 (fun a ha hm => by have := (own.toSlc.lt a ha); have := XhB.1 hm; omega)
  refine Yl i 0 (fun k t x hm => (g0 t = (.slice (some a) n ca) /\ g3 t = (.slice io i ic) /\ g4 t = (.int .i64 (XhA i)) /\ g5 t = (.pointer (some ⟨B20, 0, none⟩)) /\ g6 t = (.int .i64 (XhA k))) /\ x = ⟨[], none, none⟩ /\ hm = H21 /\ ∀ a ∈ ls.take k, Sha a = Sha b -> a = b) ⟨⟨rfl, rfl, rfl, rfl, rfl⟩, rfl, rfl, fun a ha => nomatch ha⟩ (XhO _) (XG (by omega)) ?_
  rintro k t x hm hk2 ⟨⟨r0, r3, r4, r5, r6⟩, rfl, rfl, hall⟩
  obtain ⟨t0, rfl⟩ : ∃ t0, t = p0 (.slice (some a) n ca) (p3 (.slice io i ic) (p4 (.int .i64 (XhA i)) (p5 (.pointer (some ⟨B20, 0, none⟩)) (p6 (.int .i64 (XhA k)) t0)))) := ⟨t, (show t = p0 (g0 t) (p3 (g3 t) (p4 (g4 t) (p5 (g5 t) (p6 (g6 t) t)))) from rfl).trans (by rw [r0, r3, r4, r5, r6])⟩
  clear r0 r3 r4 r5 r6
  by_cases hlk : k < i
  ·obtain ⟨ia, wi, xi, hio, gi, ni, ti⟩ := own1.toSlc.nonempty (by omega)
   subst hio
   obtain ⟨c, hc⟩ : ∃ c, ls[k]? = some c := ⟨_, XhL (by omega)⟩
   obtain ⟨co, cc, hv2, sc, fc⟩ := bs.get k (by omega) (by omega)
   have hci : ls[k] = c := XhU.inj ((XhL (by omega)).symm.trans hc)
   rw [hci] at hv2 sc
   have hck : (ls.take i)[k]? = some c := by rw [List.getElem?_take_of_lt hlk, hc]
   have tk : XU 32 (XY (ia.off + k * 32) xi) = some (encD c) := by
    have := take_take (i := k * 32) (k := 32) ti (by omega)
    rw [this, XcK (fun x _ => encD_length x) hck]
   have tk' : XU 32 (XY (ia.off + k * 32) xi) = some (Xa (Sha c)) := tk
   have te := KM 32 (Sha c) (Sha b) (X5 c) (X5 b)
   have hload2 : nth (a.off + k * 1) xa = some (.slice co c.length cc) := by
    rw [XhI, Yf ta (by omega), XhL (by omega), hv2]
   have ga1 := eF.get0 na ga
   have sb1 := sb.ext eF
   have sc1 := sc.ext eF
   refine R2 ?_
   refine Xk (l_eqFlat rfl rfl te) rfl ?_
   by_cases hsh : Sha c = Sha b
   ·rw [decide_eq_true hsh]
    refine R2 ?_
    refine Xk (XfR sc1 rfl) rfl ?_
    refine R2 ?_
    refine Xk (XfR sb1 rfl) rfl ?_
    have ebc : Vf (bytes (⟨⟨c⟩⟩ : ByteArray)) (bytes (⟨⟨b⟩⟩ : ByteArray)) = decide (c = b) := (Ji c b).trans (by rw [Bool.eq_iff_iff]; simp)
    refine R ?_
    refine Xk (l_neS rfl rfl) rfl ?_
    rw [ebc]
    by_cases hcb : c = b
    ·rw [decide_eq_true hcb]
     refine R ?_
     refine ⟨hlk, ⟨rfl, rfl, rfl, rfl, rfl⟩, rfl, rfl, fun x hx e => ?_⟩
     rw [Xh6, hc] at hx
     rcases XhV.1 hx with hx | hx
     ·exact hall x hx e
     ·rw [XhB.1 hx]; exact hcb
    ·rw [decide_eq_false hcb]
     refine R ?_
     exact ⟨rfl, _, Xb (Xw rfl) Xg, true, rfl, (fun h => nomatch h), eF⟩
   ·rw [decide_eq_false hsh]
    refine R ?_
    refine ⟨hlk, ⟨rfl, rfl, rfl, rfl, rfl⟩, rfl, rfl, fun x hx e => ?_⟩
    rw [Xh6, hc] at hx
    rcases XhV.1 hx with hx | hx
    ·exact hall x hx e
    ·rw [XhB.1 hx] at e; exact absurd e hsh
  ·have hki : k = i := by omega
   refine R2 ?_
   refine XJ (Xf (by conv => lhs; whnf) rfl (by first | rfl | assumption) (by first | rfl | assumption) XB) fun H70 B70 E70 L70 G70 N70 Q70 => ?_
   have own2 := own1.ext E70
   have o32 : (XZ { toList := Xa (Sha b) : Array Value }.toList 0 Xr).length = 1 * 32 := by rw [Yq hd32, hd32]
   refine XP own2 rfl rfl rfl (Slc.of_get (z := 32) G70 N70 o32).elemsAll o32 (by omega) fun oo2 oc2 h5 o5 e5 l5 f5 => ?_
   refine R ?_
   have eS : ∀ s ∈ XD io, h.next <= s := fun s hs => by
    obtain ⟨q, h1, h2⟩ := Xu hs; rw [<- h2]; exact fr q h1
   have eN := eF.next
   refine ⟨hlt, oo2, oc2, ⟨rfl, rfl, rfl⟩, rfl, (eF.trans0 E70).trans e5 (fun s hs => .inr (eS s hs)), ?_, ?_, fun x hx => ?_⟩
   ·rw [Xh6, hb, Us]
    rw [Yq hd32] at o5
    have : fl encD (some b).toList = Xa (Sha b) := by simp [fl, encD]
    rw [this]; exact o5
   ·rw [Xh6, hb]
    exact noc.add hz (by rw [hki] at hall; exact hall)
   ·rcases f5 x hx with hx | hx
    ·exact eS _ hx
    ·omega
 ·have hin : i = n := by omega
  refine R ?_
  exact ⟨rfl, _, Xb (Xw rfl) Xg, false, rfl, fun _ => by rw [hin, <- hln, Xh7] at noc; exact noc, ek⟩
end
end Sp
end
