/-
  The abstract machine's looks and turns beside the model's: each operation does to memory what the model's does. Conditions: those that each lemma states.
-/
import Derived.Test.YtknhijalfgjfhaaGreatB
import Derived.Laws.Append
import Derived.Laws.MakeOwn
set_option linter.unusedVariables false
set_option linter.unusedSimpArgs false
set_option linter.unusedSectionVars false
open Go.Sem renaming run_bind -> XhG, run_pure -> XhJ
open Go.Result renaming andThen_ok -> XhF
open Array renaming toList_inj -> Xiq, toList_map -> Xiz, getElem?_eq_some_iff -> XjC, getElem?_eq_getElem -> XjD, replicate -> Xio
open Bool renaming and_eq_true -> XhN, false_eq_true -> Xik, not_true -> XiI, or_eq_true -> XiO
open Nat renaming blt -> XhK, mul -> XhX, eq_zero_or_pos -> Xjv, le_refl -> XhE, ble -> XhM, add_assoc -> Xim, le_succ -> Xil, beq -> XhD, add_mul -> XiU, succ -> Xid, lt_succ_self -> Xh0
open Option renaming map_some -> Xjc, isSome_iff_exists -> XiL
open List renaming getElem?_eq_getElem -> XhL, getElem_map -> Xjm, getElem_of_mem -> XiG, mem_of_getElem? -> Xh5, getElem?_eq_some_iff -> Xig, mem_append -> XhV, pairwise_append -> Xjw, perm_middle -> Xjg, pairwise_cons -> Xjl, isEmpty_iff -> XiP, eq_nil_of_length_eq_zero -> XiB
open Int renaming ofNat -> XhA, ofNat_eq_natCast -> Xiv
noncomputable section
namespace Go.Eng
variable {v z x x' : Value} {H' : Heap} {n : Nat}
section
variable {P : Program} {B : Nat} {ι : Inj} {H : Heap} {w : World} {m : Nat} {t : Tm} {a : Act}
theorem XN {x : Option COp} {why : String} {L : Zj} (h : YN (Zk x why) = some L) : ∃ c, x = some c /\ YN c = some L := by
 cases x with
 | none => cases h
 | some c => exact ⟨c, rfl, h⟩
theorem Zr {x : Option COp} {why : String} {L : Zj} (h : YN (x.getD (.bad why)) = some L) : ∃ c, x = some c /\ YN c = some L := XN h
theorem Xl {α β : Type} {x : Option α} {f : α -> β} {r : β} (h : x.map f = some r) : ∃ u, x = some u /\ f u = r := Option.map_eq_some_iff.1 h
theorem Xq {α β : Type} {x : Option α} {f : α -> Option β} {r : β} (h : x.bind f = some r) : ∃ u, x = some u /\ f u = some r := Option.bind_eq_some_iff.1 h
theorem run_v {x : Sem Value} (h : x.run P w = .ok v w) : (do pure (Next.value (<- x)) : Sem Next).run P w = .ok (.value v) w := by
 simp [h]
theorem Z6 {c : Call} {d : TypeDesc} (h : und0 P c = d) (hd : d ≠ .invalid) : ∃ T, c.argTypes[0]? = some T /\ und P T = d := by
 unfold und0 at h
 grind
def Tells (P : Program) (w : World) (ι : Inj) (a : Act) (o : Oper) (v : Value) : Prop := ∃ v', (execOp a.eval o).run P w = .ok (.value v') w /\ VRel ι v v'
theorem look_builtin (s : Sim P B ι H w) (hT : TmRel ι m t a.tmps) {o : Oper} {c : Call} (ho : o.op = .call c) {b : Builtin} (hb : c.callee = .builtin b) {L : Zj} (hc : YN (cCall P m c) = some L) (h : L t H = some v) : Tells P w ι a o v := by
 have key : ∀ s : Sem Value, (∀ k, builtin b c.argTypes o.type k (c.args.map a.eval) = do pure (Next.value (<- s))) -> ∀ v', s.run P w = .ok v' w -> VRel ι v v' -> Tells P w ι a o v := by
  intro s hs v' h1 h2
  refine ⟨v', ?_, h2⟩
  unfold execOp
  simp only [ho, XhG, resolve, hb, XhJ, XhF, invoke]
  rw [hs]
  exact run_v h1
 unfold cCall at hc
 rw [hb] at hc
 simp only at hc
 split at hc
 ·-- len
  rename_i x hargs
  have hx0 : (c.args.map a.eval)[0]? = some (a.eval x) := by
   have : c.args = #[x] := by rw [<- Xiq, hargs]
   rw [this]; simp
  split at hc
  ·rename_i n e he
   obtain ⟨T, t1, t2⟩ := Z6 he (by simp)
   cases hc
   cases h
   refine key (Builtin.len_ c.argTypes o.type (c.args.map a.eval)) (fun _ => rfl) (goInt n) ?_ (.int _ _)
   unfold Builtin.len_
   simp only [t1, hx0, XhG, Xy t2 (by simp), XhF, XhJ]
  ·rename_i q he
   obtain ⟨T, t1, t2⟩ := Z6 he (by simp)
   split at hc
   ·rename_i n e' he'
    cases hc
    cases h
    refine key (Builtin.len_ c.argTypes o.type (c.args.map a.eval)) (fun _ => rfl) (goInt n) ?_ (.int _ _)
    unfold Builtin.len_
    simp only [t1, hx0, XhG, Xy t2 (by simp), XhF, Xy he' (by simp), XhJ]
   ·cases hc
  ·rename_i he
   obtain ⟨T, t1, t2⟩ := Z6 he (by simp)
   obtain ⟨cc, hc1, hc2⟩ := Zr hc
   obtain ⟨x', hx1, rfl⟩ := Xl hc1
   cases hc2
   have hr := Xx hT hx1
   replace h : (match x'.val t with
    | .string s => some (Value.int .i64 (.ofNat (bytes s).length))
    | _ => none) = some v := h
   split at h
   ·rename_i s' e
    cases h
    rw [e] at hr
    generalize hq : a.eval x = q at hr
    cases hr
    refine key (Builtin.len_ c.argTypes o.type (c.args.map a.eval)) (fun _ => rfl) (goInt s'.size) ?_ (by rw [Xae]; exact .int _ _)
    unfold Builtin.len_
    simp only [t1, hx0, hq, XhG, Xy t2 (by simp), XhF, XhJ]
   ·cases h
  ·rename_i he
   obtain ⟨T, t1, t2⟩ := Z6 he (by simp)
   obtain ⟨cc, hc1, hc2⟩ := Zr hc
   obtain ⟨x', hx1, rfl⟩ := Xl hc1
   cases hc2
   have hr := Xx hT hx1
   replace h : (match x'.val t with
    | .slice _ n _ => some (Value.int .i64 (.ofNat n))
    | _ => none) = some v := h
   split at h
   ·rename_i oa n cp e
    cases h
    rw [e] at hr
    generalize hq : a.eval x = q at hr
    have : ∃ oa' cp', q = .slice oa' n cp' := by cases hr <;> exact ⟨_, _, rfl⟩
    obtain ⟨oa', cp', rfl⟩ := this
    refine key (Builtin.len_ c.argTypes o.type (c.args.map a.eval)) (fun _ => rfl) (goInt n) ?_ (.int _ _)
    unfold Builtin.len_
    simp only [t1, hx0, hq, XhG, Xy t2 (by simp), XhF, XhJ]
   ·cases h
  ·rename_i he
   obtain ⟨T, t1, t2⟩ := Z6 he (by simp)
   obtain ⟨cc, hc1, hc2⟩ := Zr hc
   obtain ⟨x', hx1, rfl⟩ := Xl hc1
   cases hc2
   have hr := Xx hT hx1
   replace h : (match x'.val t with
    | .map none => some (Value.int .i64 (.ofNat 0))
    | .map (some r) => match H.get r with
     | some (.map _ _ es) => some (.int .i64 (.ofNat es.length))
     | _ => none
    | _ => none) = some v := h
   split at h
   ·rename_i e
    cases h
    rw [e] at hr
    generalize hq : a.eval x = q at hr
    cases hr
    refine key (Builtin.len_ c.argTypes o.type (c.args.map a.eval)) (fun _ => rfl) (goInt 0) ?_ (.int _ _)
    unfold Builtin.len_
    simp only [t1, hx0, hq, XhG, Xy t2 (by simp), XhF, XhJ]
   ·rename_i r e
    split at h
    ·rename_i sh ver es hg
     cases h
     rw [e] at hr
     generalize hq : a.eval x = q at hr
     cases hr
     rename_i p hp
     obtain ⟨_, _, ms, clock, g1, g2⟩ := XdG s hp hg
     refine key (Builtin.len_ c.argTypes o.type (c.args.map a.eval)) (fun _ => rfl) (goInt ms.size) ?_ (by rw [g2.size]; exact .int _ _)
     unfold Builtin.len_
     simp only [t1, hx0, hq, XhG, Xy t2 (by simp), XhF, Ye g1 (by simp), XhJ]
    ·cases h
   ·cases h
  ·cases hc
 ·-- cap
  rename_i x hargs
  have hx0 : (c.args.map a.eval)[0]? = some (a.eval x) := by
   have : c.args = #[x] := by rw [<- Xiq, hargs]
   rw [this]; simp
  split at hc
  ·rename_i e0 he
   obtain ⟨T, t1, t2⟩ := Z6 he (by simp)
   obtain ⟨cc, hc1, hc2⟩ := Zr hc
   obtain ⟨x', hx1, rfl⟩ := Xl hc1
   cases hc2
   have hr := Xx hT hx1
   replace h : (match x'.val t with
    | .slice (some ⟨_, _, none⟩) _ c => some (Value.int .i64 (.ofNat c))
    | .slice none _ c => some (.int .i64 (.ofNat c))
    | _ => none) = some v := h
   have fin : ∀ oa n cp, a.eval x = .slice oa n cp -> v = .int .i64 (.ofNat cp) -> Tells P w ι a o v := by
    intro oa n cp hq hv
    refine key (Builtin.cap_ c.argTypes o.type (c.args.map a.eval)) (fun _ => rfl) (goInt cp) ?_ (by rw [hv]; exact .int _ _)
    unfold Builtin.cap_
    simp only [t1, hx0, hq, XhG, Xy t2 (by simp), XhF, XhJ]
   split at h
   ·rename_i b o' n cp e
    cases h
    rw [e] at hr
    generalize hq : a.eval x = q at hr
    cases hr with
    | sempty h' => exact fin _ _ _ hq (by rw [h' rfl])
    | slice hp hex hc hn hl => exact fin _ _ _ hq (by rw [hex rfl])
   ·rename_i n cp e
    cases h
    rw [e] at hr
    generalize hq : a.eval x = q at hr
    cases hr
    exact fin _ _ _ hq rfl
   ·cases h
  ·cases hc
 ·-- append
  split at hc
  ·split at hc
   ·split at hc
    ·cases hc
    ·obtain ⟨cc, hc1, hc2⟩ := Zr hc
     obtain ⟨u, v, _, _, rfl⟩ := Xv hc1
     cases hc2
   ·cases hc
  ·split at hc
   ·split at hc
    ·cases hc
    ·obtain ⟨cc, hc1, hc2⟩ := Zr hc
     obtain ⟨u, v, _, _, rfl⟩ := Xv hc1
     cases hc2
   ·cases hc
  ·split at hc
   ·split at hc
    ·cases hc
    ·obtain ⟨cc, hc1, hc2⟩ := Zr hc
     obtain ⟨u, v, _, _, rfl⟩ := Xv hc1
     cases hc2
   ·cases hc
  ·cases hc
 ·-- copy
  split at hc
  ·obtain ⟨cc, hc1, hc2⟩ := Zr hc
   obtain ⟨_, hc3⟩ := XR hc1
   obtain ⟨u, v, _, _, rfl⟩ := Xv hc3
   cases hc2
  ·cases hc
 ·-- delete
  split at hc
  ·obtain ⟨cc, hc1, hc2⟩ := Zr hc
   obtain ⟨sh, _, hc3⟩ := Xq hc1
   obtain ⟨u, v, _, _, rfl⟩ := Xv hc3
   cases hc2
  ·cases hc
 ·-- clear
  split at hc
  ·split at hc
   ·split at hc <;> cases hc
   ·cases hc
  ·obtain ⟨cc, hc1, hc2⟩ := Zr hc
   obtain ⟨u, _, rfl⟩ := Xl hc1
   cases hc2
  ·cases hc
 ·-- max
  rename_i x xs hargs
  obtain ⟨cc, hc1, hc2⟩ := Zr hc
  obtain ⟨x', xs', h1, h2, rfl⟩ := Xv hc1
  cases hc2
  have hl : (c.args.map a.eval).toList = a.eval x :: xs.map a.eval := by rw [Xiz, hargs]; rfl
  obtain ⟨v', g1, g2⟩ := foldV_ok (P := P) (w := w) (g := Builtin.max2) (fun _ _ _ _ _ h1 h2 h3 => max2_ok h1 h2 h3) h (Xx hT h1) (Xc0 hT h2)
  refine key (Builtin.max_ c.argTypes o.type (c.args.map a.eval)) (fun _ => rfl) v' ?_ g2
  unfold Builtin.max_
  rw [hl]
  exact g1
 ·-- min
  rename_i x xs hargs
  obtain ⟨cc, hc1, hc2⟩ := Zr hc
  obtain ⟨x', xs', h1, h2, rfl⟩ := Xv hc1
  cases hc2
  have hl : (c.args.map a.eval).toList = a.eval x :: xs.map a.eval := by rw [Xiz, hargs]; rfl
  obtain ⟨v', g1, g2⟩ := foldV_ok (P := P) (w := w) (g := Builtin.min2) (fun _ _ _ _ _ h1 h2 h3 => min2_ok h1 h2 h3) h (Xx hT h1) (Xc0 hT h2)
  refine key (Builtin.min_ c.argTypes o.type (c.args.map a.eval)) (fun _ => rfl) v' ?_ g2
  unfold Builtin.min_
  rw [hl]
  exact g1
 ·obtain ⟨cc, hc1, hc2⟩ := Zr hc
  obtain ⟨u, _, rfl⟩ := Xl hc1
  cases hc2
 ·cases hc
 ·cases hc
theorem look_sound (s : Sim P B ι H w) (hT : TmRel ι m t a.tmps) {o : Oper} {L : Zj} (hc : YN (cOp P m o) = some L) (h : L t H = some v) : Tells P w ι a o v := by
 have key : ∀ s : Sem Value, (execOp a.eval o = do pure (Next.value (<- s))) -> ∀ v', s.run P w = .ok v' w -> VRel ι v v' -> Tells P w ι a o v := by
  intro s hs v' h1 h2
  refine ⟨v', ?_, h2⟩
  rw [hs]
  exact run_v h1
 unfold cOp at hc
 cases ho : o.op
 all_goals (rw [ho] at hc; simp only at hc)
 case move x =>
  obtain ⟨cc, hc1, hc2⟩ := XN hc
  obtain ⟨x', hx, rfl⟩ := Xl hc1
  cases hc2
  cases h
  exact ⟨_, by unfold execOp; rw [ho]; rfl, Xx hT hx⟩
 case assign x =>
  obtain ⟨cc, hc1, hc2⟩ := XN hc
  obtain ⟨x', hx, rfl⟩ := Xl hc1
  cases hc2
  cases h
  exact ⟨_, by unfold execOp; rw [ho]; rfl, Xx hT hx⟩
 case pick c0 a0 b0 =>
  obtain ⟨cc, hc1, hc2⟩ := XN hc
  obtain ⟨c', hc', hc3⟩ := Xq hc1
  obtain ⟨a', b', ha', hb', rfl⟩ := Xv hc3
  cases hc2
  obtain ⟨bb, h1, h2⟩ := XW h
  obtain ⟨_, e2⟩ := asBool_rel (Xx hT hc') h1
  cases bb with
  | true =>
   cases h2
   exact ⟨_, by unfold execOp; rw [ho]; simp [Go.asBool, e2], Xx hT ha'⟩
  | false =>
   cases h2
   exact ⟨_, by unfold execOp; rw [ho]; simp [Go.asBool, e2], Xx hT hb'⟩
 case alloc e =>
  obtain ⟨cc, hc1, hc2⟩ := XN hc
  obtain ⟨x', hx, rfl⟩ := Xl hc1
  cases hc2
 case box e x =>
  obtain ⟨cc, hc1, hc2⟩ := XN hc
  obtain ⟨x', hx, rfl⟩ := Xl hc1
  cases hc2
 case build T ps =>
  obtain ⟨cc, hc1, hc2⟩ := XN hc
  obtain ⟨z, hz, hc3⟩ := Xq hc1
  have : ∃ cps, cc = .build (Yb z) cps /\ (match (generalizing := false) und P T with
   | .struct fs => Xd7 (fs.toList.all fun f => okT P f.type) (parts m (fun i => (fs[i]?).map fun f => (f.offset, cellN P f.type)) ps)
   | .array _ e => Xd7 (okT P e) (parts m (fun i => some (i * cellN P e, cellN P e)) ps)
   | _ => none) = some cps := by
   split at hc3
   ·rename_i fs e
    obtain ⟨h1, h2⟩ := XR hc3
    obtain ⟨cps, h3, rfl⟩ := Xl h2
    refine ⟨cps, rfl, ?_⟩
    rw [e]
    simp only
    rw [h1]
    exact h3
   ·rename_i n e0 e
    obtain ⟨h1, h2⟩ := XR hc3
    obtain ⟨cps, h3, rfl⟩ := Xl h2
    refine ⟨cps, rfl, ?_⟩
    rw [e]
    simp only
    rw [h1]
    exact h3
   ·cases hc3
  obtain ⟨cps, rfl, hp⟩ := this
  cases hc2
  obtain ⟨v', g1, g2⟩ := r_build (w := w) hT hz hp h
  exact key _ (by unfold execOp; rw [ho]) v' g1 g2
 case buildSlice T n ps =>
  obtain ⟨cc, hc1, hc2⟩ := XN hc
  split at hc1
  ·split at hc1
   ·cases hc1
   ·obtain ⟨z, _, hc3⟩ := Xq hc1
    split at hc3
    ·cases hc3
    ·obtain ⟨x', hx, rfl⟩ := Xl hc3
     cases hc2
  ·cases hc1
 case load T x =>
  obtain ⟨cc, hc1, hc2⟩ := XN hc
  obtain ⟨hk, hc3⟩ := XR hc1
  obtain ⟨x', hx, rfl⟩ := Xl hc3
  cases ha : Vb P T with
  | true =>
   rw [ha] at hc2
   cases hc2
   obtain ⟨v', g1, g2⟩ := r_loadN s hk ha (Xx hT hx) h
   exact key _ (by unfold execOp; rw [ho]) v' g1 g2
  | false =>
   rw [ha] at hc2
   cases hc2
   obtain ⟨v', g1, g2⟩ := r_load1 s hk ha (Xx hT hx) h
   exact key _ (by unfold execOp; rw [ho]) v' g1 g2
 case store T x y =>
  obtain ⟨cc, hc1, hc2⟩ := XN hc
  obtain ⟨hk, hc3⟩ := XR hc1
  obtain ⟨u, v, _, _, rfl⟩ := Xv hc3
  cases hc2
 case nilCheck x =>
  obtain ⟨cc, hc1, hc2⟩ := XN hc
  obtain ⟨x', hx, rfl⟩ := Xl hc1
  cases hc2
 case binOp op T x y U =>
  have bin : ∀ cc, Xac (XE m x) (XE m y) (COp.bin op) = some cc -> YN cc = some L -> op ≠ .eql -> op ≠ .neq -> Tells P w ι a o v := by
   intro cc h1 h2 n1 n2
   obtain ⟨x', y', hx, hy, rfl⟩ := Xv h1
   cases h2
   obtain ⟨g1, g2⟩ := r_bin (P := P) (w := w) (T := T) h (Xx hT hx) (Xx hT hy)
   refine key (do eqGuard op T x y (a.eval x) (a.eval y); binOp op T (a.eval x) (a.eval y)) (by unfold execOp; rw [ho]) v ?_ g2
   have : (eqGuard op T x y (a.eval x) (a.eval y)).run P w = .ok () w := by
    cases op <;> first | exact absurd rfl n1 | exact absurd rfl n2 | simp [eqGuard]
   simp only [XhG, this, XhF, g1]
  have eqs : ∀ (neg : Bool), op = (if neg then .neq else .eql) -> ∀ cc, ((cPred P T).bind fun p => Xac (XE m x) (XE m y) (COp.eq neg (if Xet p && (nilC x || nilC y) then .ifaceNil else p))) = some cc -> YN cc = some L -> Tells P w ι a o v := by
   intro neg hop cc h1 h2
   obtain ⟨p, hp, h3⟩ := Xq h1
   obtain ⟨x', y', hx, hy, rfl⟩ := Xv h3
   cases h2
   obtain ⟨r, h4, h5⟩ := XW h
   cases h5
   have hty := cPred_ty hp
   have htp : predTy P T (if Xet p && (nilC x || nilC y) then .ifaceNil else p) := by
    split
    ·rename_i hi
     cases p <;> first | (simp [Xet] at hi; done) | exact hty
    ·exact hty
   have hnp : (if Xet p && (nilC x || nilC y) then Pred.ifaceNil else p) = .ifaceNil -> (nilC x || nilC y) = true := by
    intro h6
    split at h6
    ·simp_all
    ·rename_i hi
     subst h6
     unfold cPred at hp
     grind
   have := r_pred (w := w) neg x y h4 (Xx hT hx) (Xx hT hy) htp hnp
   rw [<- hop] at this
   exact key (do eqGuard op T x y (a.eval x) (a.eval y); binOp op T (a.eval x) (a.eval y)) (by unfold execOp; rw [ho]) _ this (.bool _)
  split at hc
  ·obtain ⟨cc, hc1, hc2⟩ := XN hc
   exact eqs false rfl cc hc1 hc2
  ·obtain ⟨cc, hc1, hc2⟩ := XN hc
   exact eqs true rfl cc hc1 hc2
  grind [XN]
 case unOp op T x =>
  obtain ⟨cc, hc1, hc2⟩ := XN hc
  obtain ⟨x', hx, rfl⟩ := Xl hc1
  cases hc2
  obtain ⟨g1, g2⟩ := r_un (P := P) (w := w) h (Xx hT hx)
  exact key _ (by unfold execOp; rw [ho]) _ g1 g2
 case convert src d x =>
  obtain ⟨cc, hc1, hc2⟩ := XN hc
  split at hc1
  ·split at hc1
   ·split at hc1
    ·obtain ⟨x', hx, rfl⟩ := Xl hc1
     cases hc2
    ·cases hc1
   ·cases hc1
  ·rename_i j k e1 e2
   obtain ⟨x', hx, rfl⟩ := Xl hc1
   cases hc2
   obtain ⟨g1, g2⟩ := r_intTo (P := P) (w := w) e1 e2 h (Xx hT hx)
   exact key _ (by unfold execOp; rw [ho]) _ g1 g2
  ·rename_i e1 e2
   obtain ⟨x', hx, rfl⟩ := Xl hc1
   cases hc2
   obtain ⟨g1, g2⟩ := r_str (P := P) (w := w) e1 e2 h (Xx hT hx)
   exact key _ (by unfold execOp; rw [ho]) _ g1 g2
  ·split at hc1
   ·obtain ⟨x', hx, rfl⟩ := Xl hc1
    cases hc2
   ·cases hc1
  ·rename_i e0 e1 e2
   split at hc1
   ·rename_i e3
    obtain ⟨x', hx, rfl⟩ := Xl hc1
    cases hc2
    obtain ⟨g1, g2⟩ := r_bytesTo s e1 e3 e2 h (Xx hT hx)
    exact key _ (by unfold execOp; rw [ho]) _ g1 g2
   ·cases hc1
  ·cases hc1
 case sliceToArrayPointer T x =>
  obtain ⟨cc, hc1, hc2⟩ := XN hc
  split at hc1
  ·rename_i n e he
   obtain ⟨x', hx, rfl⟩ := Xl hc1
   cases hc2
   obtain ⟨v', g1, g2⟩ := r_toArr (P := P) (w := w) he h (Xx hT hx)
   exact key _ (by unfold execOp; rw [ho]) _ g1 g2
  ·cases hc1
 case makeInterface T x =>
  obtain ⟨cc, hc1, hc2⟩ := XN hc
  have : (∀ ms, und P T ≠ .interface ms) /\ und P T ≠ .invalid /\ (XE m x).map (COp.mkIface T) = some cc := by
   split at hc1
   ·cases hc1
   ·cases hc1
   ·simp_all
  obtain ⟨n1, n2, hc3⟩ := this
  obtain ⟨x', hx, rfl⟩ := Xl hc3
  cases hc2
  cases h
  refine key (Instr.makeInterface T (a.eval x)) (by unfold execOp; rw [ho]) (.iface T (a.eval x)) ?_ (.iface T (Xx hT hx))
  unfold Instr.makeInterface
  simp_all [Xy, XhG, XhF]
 case makeFunc fn fs cs =>
  obtain ⟨cc, hc1, hc2⟩ := XN hc
  have : FnRel ι fn fn /\ Xac (Uv m fs) (Uv m cs) (COp.mkFunc fn) = some cc := by
   split at hc1
   ·exact ⟨.func _, hc1⟩
   ·exact ⟨.method _, hc1⟩
   ·cases hc1
  obtain ⟨hf, hc3⟩ := this
  obtain ⟨f', c', hf', hc', rfl⟩ := Xv hc3
  cases hc2
  cases h
  refine key (Instr.makeFunc fn (fs.map a.eval) (cs.map a.eval)) (by unfold execOp; rw [ho]) _ rfl (vrel_func hf ?_ ?_)
  ·rw [Xiz]; exact Xc0 hT hf'
  ·rw [Xiz]; exact Xc0 hT hc'
 case makeMap T r =>
  cases r with
  | none =>
   obtain ⟨cc, hc1, hc2⟩ := XN hc
   split at hc1
   ·obtain ⟨x', hx, rfl⟩ := Xl hc1
    cases hc2
   ·cases hc1
  | some r => cases hc
 case makeSlice T l c =>
  obtain ⟨cc, hc1, hc2⟩ := XN hc
  split at hc1
  ·obtain ⟨z, _, hc3⟩ := Xq hc1
   split at hc3
   ·cases hc3
   ·obtain ⟨u, v, _, _, rfl⟩ := Xv hc3
    cases hc2
  ·cases hc1
 case slice T x lo hi mx =>
  obtain ⟨cc, hc1, hc2⟩ := XN hc
  obtain ⟨x', hx, hc3⟩ := Xq hc1
  obtain ⟨lo', hlo, hc4⟩ := Xq hc3
  obtain ⟨hi', hhi, hc5⟩ := Xq hc4
  obtain ⟨mx', hmx, hc6⟩ := Xq hc5
  have rl := orel_of hT hlo
  have rh := orel_of hT hhi
  have rm := orel_of hT hmx
  have rx := Xx hT hx
  have fin : ∀ v', (Instr.sliceAt T (a.eval x) (lo.map a.eval) (hi.map a.eval) (mx.map a.eval)).run P w = .ok v' w -> VRel ι v v' -> Tells P w ι a o v :=
   fun v' g1 g2 => key _ (by unfold execOp; rw [ho]) v' g1 g2
  split at hc6
  ·rename_i e
   split at hc6
   ·cases hc6
   ·rename_i hn
    cases hc6
    cases hc2
    have hmn : mx' = none := by simpa using hn
    subst hmn
    have : mx.map a.eval = none := by
     cases hq : mx.map a.eval with
     | none => rfl
     | some q => rw [hq] at rm; exact rm.elim
    rw [this] at fin
    obtain ⟨g1, g2⟩ := r_sliceStr (P := P) (w := w) (H := H) e rx rl rh h
    exact fin _ g1 g2
  ·rename_i e0 e
   obtain ⟨hk, hc7⟩ := XR hc6
   cases hc7
   cases hc2
   obtain ⟨v', g1, g2⟩ := r_sliceSl (P := P) (w := w) (H := H) e hk rx rl rh rm h
   exact fin _ g1 g2
  ·rename_i n e0 e
   obtain ⟨hk, hc7⟩ := XR hc6
   cases hc7
   cases hc2
   obtain ⟨v', g1, g2⟩ := r_sliceArr (P := P) (w := w) (H := H) (.inl e) hk rx rl rh rm h
   exact fin _ g1 g2
  ·rename_i q e
   split at hc6
   ·rename_i n e0 e'
    obtain ⟨hk, hc7⟩ := XR hc6
    cases hc7
    cases hc2
    obtain ⟨v', g1, g2⟩ := r_sliceArr (P := P) (w := w) (H := H) (.inr ⟨q, e, e'⟩) hk rx rl rh rm h
    exact fin _ g1 g2
   ·cases hc6
  ·cases hc6
 case fieldAddr T x f =>
  obtain ⟨cc, hc1, hc2⟩ := XN hc
  split at hc1
  ·rename_i fs e
   obtain ⟨fd, hf, hc3⟩ := Xq hc1
   split at hc3
   ·cases hc3
   ·rename_i h0
    obtain ⟨x', hx, rfl⟩ := Xl hc3
    cases hc2
    obtain ⟨v', g1, g2⟩ := r_fieldAddr (P := P) (w := w) e hf h0 (Xx hT hx) h
    exact key _ (by unfold execOp; rw [ho]) _ g1 g2
  ·cases hc1
 case field T x f =>
  obtain ⟨cc, hc1, hc2⟩ := XN hc
  split at hc1
  ·rename_i fs e
   obtain ⟨fd, hf, hc3⟩ := Xq hc1
   obtain ⟨hk, hc4⟩ := XR hc3
   obtain ⟨x', hx, rfl⟩ := Xl hc4
   have hq : Yr none (fun cs => if Vb P fd.type then Yr none (fun c => some (Value.agg ⟨c⟩)) (XU (cellN P fd.type) (XY fd.offset cs)) else nth fd.offset cs) (Xen (x'.val t)) = some v := by
    cases ha : Vb P fd.type with
    | true => rw [ha] at hc2; cases hc2; exact h
    | false => rw [ha] at hc2; cases hc2; exact h
   obtain ⟨v', g1, g2⟩ := r_field (P := P) (w := w) e hf hk (Xx hT hx) hq
   exact key _ (by unfold execOp; rw [ho]) _ g1 g2
  ·cases hc1
 case indexAddr T x i =>
  obtain ⟨cc, hc1, hc2⟩ := XN hc
  split at hc1
  ·rename_i n e0 e
   obtain ⟨hk, hc3⟩ := XR hc1
   obtain ⟨x', i', hx, hi, rfl⟩ := Xv hc3
   cases hc2
   obtain ⟨v', g1, g2⟩ := r_ixArr (P := P) (w := w) e hk (Xx hT hx) (Xx hT hi) h
   exact key _ (by unfold execOp; rw [ho]) _ g1 g2
  ·rename_i e0 e
   obtain ⟨hk, hc3⟩ := XR hc1
   obtain ⟨x', i', hx, hi, rfl⟩ := Xv hc3
   cases hc2
   obtain ⟨v', g1, g2⟩ := r_ixSl (P := P) (w := w) e hk h (Xx hT hx) (Xx hT hi)
   exact key _ (by unfold execOp; rw [ho]) _ g1 g2
  ·cases hc1
 case index T x i =>
  obtain ⟨cc, hc1, hc2⟩ := XN hc
  split at hc1
  ·rename_i n e0 e
   obtain ⟨hk', hc3⟩ := XR hc1
   rw [XhN] at hk'
   obtain ⟨hk, hk1⟩ := hk'
   obtain ⟨x', i', hx, hi, rfl⟩ := Xv hc3
   have hq : Yr none (fun cs => Yr none (fun i => bif XhK i n then
    (if Vb P e0 then Yr none (fun c => some (Value.agg ⟨c⟩)) (XU (cellN P e0) (XY (XhX i (cellN P e0)) cs)) else nth (XhX i (cellN P e0)) cs) else none) (Wf (i'.val t))) (Xen (x'.val t)) = some v := by
    cases ha : Vb P e0 with
    | true => rw [ha] at hc2; cases hc2; exact h
    | false =>
     rw [ha] at hc2
     cases hc2
     rw [ha] at hk1
     have h1 : cellN P e0 = 1 := beq_iff.1 hk1
     rw [h1]
     obtain ⟨cs, h2, h3⟩ := XW h
     obtain ⟨j, h4, h5⟩ := XW h3
     rw [h2]
     show Yr none _ _ = _
     rw [h4]
     show (bif XhK j n then nth (XhX j 1) cs else none) = _
     simp_all
   obtain ⟨v', g1, g2⟩ := r_ixVal (P := P) (w := w) e hk (Xx hT hx) (Xx hT hi) hq
   exact key _ (by unfold execOp; rw [ho]) _ g1 g2
  ·rename_i e
   obtain ⟨x', i', hx, hi, rfl⟩ := Xv hc1
   cases hc2
   obtain ⟨v', g1, g2⟩ := r_ixStr (P := P) (w := w) e (Xx hT hx) (Xx hT hi) h
   exact key _ (by unfold execOp; rw [ho]) _ g1 g2
  ·cases hc1
 case lookup T x i ok =>
  obtain ⟨cc, hc1, hc2⟩ := XN hc
  split at hc1
  ·rename_i kt e0 e
   obtain ⟨sh, hsh, hc3⟩ := Xq hc1
   obtain ⟨z, hz, hc4⟩ := Xq hc3
   obtain ⟨x', i', hx, hi, rfl⟩ := Xv hc4
   cases hc2
   obtain ⟨v', g1, g2⟩ := r_lookup s e hsh hz h (Xx hT hx) (Xx hT hi)
   exact key _ (by unfold execOp; rw [ho]) _ g1 g2
  ·cases hc1
 case mapUpdate T mp k x =>
  obtain ⟨cc, hc1, hc2⟩ := XN hc
  split at hc1
  ·obtain ⟨sh, hsh, hc3⟩ := Xq hc1
   obtain ⟨mp', _, hc4⟩ := Xq hc3
   obtain ⟨u, v, _, _, rfl⟩ := Xv hc4
   cases hc2
  ·cases hc1
 case insert T mp k x =>
  obtain ⟨cc, hc1, hc2⟩ := XN hc
  split at hc1
  ·obtain ⟨sh, hsh, hc3⟩ := Xq hc1
   obtain ⟨mp', _, hc4⟩ := Xq hc3
   obtain ⟨u, v, _, _, rfl⟩ := Xv hc4
   cases hc2
  ·cases hc1
 case range T x =>
  obtain ⟨cc, hc1, hc2⟩ := XN hc
  split at hc1
  ·obtain ⟨x', hx, rfl⟩ := Xl hc1
   cases hc2
  ·obtain ⟨x', hx, rfl⟩ := Xl hc1
   cases hc2
  ·cases hc1
 case next it st =>
  obtain ⟨cc, hc1, hc2⟩ := XN hc
  obtain ⟨x', hx, rfl⟩ := Xl hc1
  cases st <;> cases hc2
 case entry it =>
  obtain ⟨cc, hc1, hc2⟩ := XN hc
  obtain ⟨x', hx, rfl⟩ := Xl hc1
  cases hc2
  obtain ⟨v', g1, g2⟩ := r_entry s h (Xx hT hx)
  exact key _ (by unfold execOp; rw [ho]) _ g1 g2
 case typeAssert x xT T ok =>
  obtain ⟨cc, hc1, hc2⟩ := XN hc
  by_cases hi : ∃ want, und P T = .interface want
  ·obtain ⟨want, e⟩ := hi
   rw [e] at hc1
   simp only at hc1
   obtain ⟨z, hz, hc3⟩ := Xq hc1
   obtain ⟨x', hx, rfl⟩ := Xl hc3
   cases hc2
   obtain ⟨v', g1, g2⟩ := r_assertI (P := P) (w := w) (H := H) (xT := xT) hz e h (Xx hT hx)
   exact key _ (by unfold execOp; rw [ho]) _ g1 g2
  ·have : und P T ≠ .invalid /\ ((ZH P T).bind fun z => (XE m x).map (COp.assertT T z ok)) = some cc := by
    split at hc1
    ·rename_i want e; exact absurd ⟨want, e⟩ hi
    ·cases hc1
    ·rename_i n1 n2; exact ⟨fun e => n2 e, hc1⟩
   obtain ⟨n2, hc3⟩ := this
   obtain ⟨z, hz, hc4⟩ := Xq hc3
   obtain ⟨x', hx, rfl⟩ := Xl hc4
   cases hc2
   obtain ⟨v', g1, g2⟩ := r_assertT (P := P) (w := w) (H := H) (xT := xT) hz (fun ms e => hi ⟨ms, e⟩) n2 h (Xx hT hx)
   exact key _ (by unfold execOp; rw [ho]) _ g1 g2
 case extract x i =>
  obtain ⟨cc, hc1, hc2⟩ := XN hc
  obtain ⟨x', hx, rfl⟩ := Xl hc1
  cases hc2
  obtain ⟨v', g1, g2⟩ := r_extract (P := P) (w := w) (Xx hT hx) h
  exact key _ (by unfold execOp; rw [ho]) _ g1 g2
 case call c =>
  cases hb : c.callee with
  | builtin b => exact look_builtin s hT ho hb hc h
  | value f =>
   unfold cCall at hc
   rw [hb] at hc
   obtain ⟨cc, hc1, hc2⟩ := Zr hc
   obtain ⟨f', _, hc3⟩ := Xq hc1
   obtain ⟨x', hx, rfl⟩ := Xl hc3
   cases hc2
  | invoke x name =>
   unfold cCall at hc
   rw [hb] at hc
   obtain ⟨cc, hc1, hc2⟩ := Zr hc
   obtain ⟨f', _, hc3⟩ := Xq hc1
   obtain ⟨x', hx, rfl⟩ := Xl hc3
   cases hc2
 case defer c =>
  split at hc
  ·obtain ⟨cc, hc1, hc2⟩ := XN hc
   obtain ⟨u, v, _, _, rfl⟩ := Xv hc1
   cases hc2
  ·cases hc
 case panic x =>
  obtain ⟨cc, hc1, hc2⟩ := XN hc
  obtain ⟨x', hx, rfl⟩ := Xl hc1
  cases hc2
 all_goals first | (cases hc; done) | skip
end
section
variable {P : Program} {B : Nat} {ι : Inj} {H : Heap} {w : World} {m : Nat} {t : Tm} {a : Act}
def Turned (P : Program) (B : Nat) (ι : Inj) (H : Heap) (w : World) (x : Sem Value) (v : Value) (H' : Heap) : Prop :=
 ∃ ι' w' v', x.run P w = .ok v' w' /\ VRel ι' v v' /\ Sim P B ι' H' w' /\ Adv ι H w ι' H' w'
def Done (P : Program) (B : Nat) (ι : Inj) (H : Heap) (w : World) (x : Sem Unit) (H' : Heap) : Prop :=
 ∃ ι' w', x.run P w = .ok () w' /\ Sim P B ι' H' w' /\ Adv ι H w ι' H' w'
def CRel (ι : Inj) (xs : List Value) (ys : Array Value) : Prop := xs.length <= ys.size /\ (∀ (i : Nat) (x : Value), xs[i]? = some x -> ∃ v', ys[i]? = some v' /\ VRel ι x v' /\ Y8 x) /\ ∀ (i : Nat) (v : Value), ys[i]? = some v -> Y8 v
theorem CRel.of {xs : List Value} {ys : Array Value} (h : LRel ι xs ys.toList) (fl : ∀ x ∈ xs, Y8 x) : CRel ι xs ys := by
 refine ⟨by have := h.length; simp at this; omega, fun i x hx => ?_, fun i v hv => ?_⟩
 ·obtain ⟨y, h1, h2⟩ := h.get? hx
  grind
 ·obtain ⟨x, hx, hr⟩ := h.mem_right (y := v) (by grind)
  exact hr.flat (fl x hx)
theorem CRel.append {xs : List Value} {ys zs : Array Value} (r : CRel ι xs ys) (hz : ∀ (i : Nat) (v : Value), zs[i]? = some v -> Y8 v) : CRel ι xs (ys ++ zs) := by
 refine ⟨by have := r.1; simp; omega, fun i x hx => ?_, fun i v hv => ?_⟩
 ·obtain ⟨v', h1, h2, h3⟩ := r.2.1 i x hx
  grind
 ·rw [Array.getElem?_append] at hv
  split at hv
  ·exact r.2.2 i v hv
  ·exact hz _ v hv
theorem flat_zeros (hp : Jh z = true) (n : Nat) : ∀ (i : Nat) (v : Value), (Builtin.zeroCells z.cells n)[i]? = some v -> Y8 v := by
 intro i v hv
 unfold Builtin.zeroCells at hv
 have hlt := (XjC.1 hv).1
 rw [Array.size_map, Array.size_range] at hlt
 have hpos : 0 < z.cells.size := by
  rcases Xjv z.cells.size with h | h
  ·rw [h, Nat.mul_zero] at hlt; omega
  ·exact h
 rw [Array.getElem?_map, Array.getElem?_range, if_pos hlt] at hv
 have hm := Nat.mod_lt i hpos
 simp only [Xjc, Option.some.injEq] at hv
 rw [getElem!_pos z.cells _ hm] at hv
 obtain ⟨h1, h2⟩ := J9 hp
 have hr := XcY (ι := fun _ => none) h2
 refine hr.2 v ?_
 rw [<- h1, <- hv]
 simp
theorem JQ (w : World) (o : Obj) : (w.alloc o).heap[w.heap.size]? = some o := by
 show (w.heap.push o)[w.heap.size]? = some o
 rw [Array.getElem?_push, if_pos rfl]
theorem JR (s : Sim P B ι H w) {xs : List Value} {ys : Array Value} {e : TypeId} {lo hi : Nat} (h : CRel ι xs ys) (hf : ys.size <= lo \/ hi = lo) :
  Sim P B (ι.with H.next ⟨w.heap.size, 0, ys.size⟩) (H.push (.cells true xs)) (w.alloc (.cells ys e (lo, hi))) /\ Adv ι H w (ι.with H.next ⟨w.heap.size, 0, ys.size⟩) (H.push (.cells true xs)) (w.alloc (.cells ys e (lo, hi))) := by
 have hnew : (w.alloc (.cells ys e (lo, hi))).heap[w.heap.size]? = some (.cells ys e (lo, hi)) := JQ w _
 refine s.alloc ?_
 refine ⟨h.1, fun i hi' => ?_, fun i x hx => ?_, fun _ => ⟨s.base, fun i hi' => ?_, fun _ c e' lo' hi' hk => ?_⟩⟩
 ·have hlt : i < ys.size := hi'
  refine ⟨ys[i], ?_, h.2.2 i _ (XjD hlt)⟩
  simp only [World.cell?, hnew]
  simp [hlt]
 ·obtain ⟨v', h1, h2, h3⟩ := h.2.1 i x hx
  refine ⟨v', ?_, h2.mono (Inj.with_le s.next_none _), h3⟩
  simp only [World.cell?, hnew]
  simpa using h1
 ·simp only [World.frozen?, hnew]
  grind
 grind
theorem rel_new (s : Sim P B ι H w) (L : Nat) : VRel (ι.with H.next ⟨w.heap.size, 0, L⟩) (.pointer (some ⟨H.next, 0, none⟩)) (.pointer (some ⟨w.heap.size, 0, none⟩)) :=
 .ptr (a := ⟨H.next, 0, none⟩) (p := ⟨w.heap.size, 0, L⟩) (Inj.with_same ι _ _)
theorem t_alloc (s : Sim P B ι H w) {e : TypeId} (hz : ZH P e = some z) : Turned P B ι H w (Instr.alloc e true (.tuple #[])) (.pointer (some ⟨H.next, 0, none⟩)) (H.push (.cells true (Yb z))) := by
 obtain ⟨z1, z2⟩ := J9 (YZ hz).choose_spec.2.2
 have hr := XcY (ι := ι) z2
 obtain ⟨g1, g2⟩ := JR s (e := e) (lo := 0) (hi := 0) (CRel.of (ys := z.cells) (by rw [z1]; exact hr.1) hr.2) (.inr rfl)
 refine ⟨_, _, _, ?_, rel_new s _, g1, g2⟩
 unfold Instr.alloc
 simp only [XhG, W3 hz, XhF, newVar, newRow, run_newObj, XhJ]
 rfl
theorem t_box (s : Sim P B ι H w) {e : TypeId} {cs : List Value} (hx : VRel ι x x') (h : cellsOf x = some cs) : Turned P B ι H w (Instr.box e x') (.pointer (some ⟨H.next, 0, none⟩)) (H.push (.cells true cs)) := by
 obtain ⟨h1, h2⟩ := hx.cells h
 obtain ⟨g1, g2⟩ := JR s (e := e) (lo := 0) (hi := 0) (CRel.of (ys := x'.cells) h1 h2) (.inr rfl)
 refine ⟨_, _, _, ?_, rel_new s _, g1, g2⟩
 unfold Instr.box
 simp only [XhG, XhF, newVar, newRow, run_newObj, XhJ]
 rfl
theorem Xex {e : TypeId} (hz : ZH P e = some z) (w : World) : (sizeOf e).run P w = .ok (cellN P e) w := by
 obtain ⟨i, hi, _⟩ := YZ hz
 simp [sizeOf, typeInfo, hi, cellN, Program.cellsOf]
theorem rep_get (xs : List Value) (n i : Nat) : (rep xs n)[i]? = if i < n * xs.length then xs[i % xs.length]? else none := by
 induction n generalizing i with
 | zero => rw [if_neg (by omega)]; rfl
 | succ n ih =>
  rw [rep_succ]
  by_cases h : i < xs.length
  ·rw [List.getElem?_append_left h, if_pos (by rw [Nat.succ_mul]; omega), Nat.mod_eq_of_lt h]
  ·rw [List.getElem?_append_right (by omega), ih]
   by_cases h2 : i - xs.length < n * xs.length
   ·rw [if_pos h2, if_pos (by rw [Nat.succ_mul]; omega), Nat.mod_eq_sub_mod (a := i) (by omega)]
   grind
theorem made_rel (hp : Jh z = true) (n : Nat) : LRel ι (rep (Yb z) n) (madeCells z.cells (n * (Yb z).length)).toList /\ ∀ x ∈ rep (Yb z) n, Y8 x := by
 obtain ⟨z1, z2⟩ := J9 hp
 have hr := XcY (ι := ι) z2
 have hsz : z.cells.size = (Yb z).length := by rw [<- z1]; simp
 constructor
 ·refine All2.of_get (by rw [Xf5]; simp [madeCells]) fun i h1 h2 => ?_
  have e1 := rep_get (Yb z) n i
  rw [XhL h1] at e1
  rw [Xf5] at h1
  rw [if_pos h1] at e1
  have hlt : i % (Yb z).length < (Yb z).length := Nat.mod_lt _ (by
   grind)
  have e2 : (madeCells z.cells (n * (Yb z).length)).toList[i] = (Yb z)[i % (Yb z).length] := by
   simp only [madeCells, Xiz, Xjm, Array.toList_range, List.getElem_range, hsz]
   have : z.cells[i % (Yb z).length]? = (Yb z)[i % (Yb z).length]? := by rw [<- z1]; simp
   rw [XhL hlt] at this
   simp [getElem!_def, this]
  rw [e2]
  rw [XhL hlt] at e1
  rw [Option.some.inj e1]
  exact hr.1.get _ hlt hlt
 ·intro x hx
  obtain ⟨i, hi, rfl⟩ := XiG hx
  have e1 := rep_get (Yb z) n i
  grind
theorem t_buildSlice (s : Sim P B ι H w) (hT : TmRel ι m t a.tmps) {T e : TypeId} {ps : Array (Nat × Operand)} (hu : und P T = .slice e) (hz : ZH P e = some z) (hc : (Yb z).length = cellN P e) (hn : n * cellN P e <= 2 ^ 24)
  {cps : List Part} (hp : parts m (fun i => some (i * cellN P e, cellN P e)) ps = some cps) {cs : List Value} (h : Yz t (J6 cps) (repC (Yb z) n) = some cs) :
  Turned P B ι H w (Instr.buildSlice T n (ps.map fun (i, x) => (i, a.eval x))) (.slice (some ⟨H.next, 0, none⟩) n n) (H.push (.cells true cs)) := by
 have hpl := (YZ hz).choose_spec.2.2
 obtain ⟨r1, r2⟩ := made_rel (ι := ι) hpl n
 rw [repC_eq] at h
 rw [hc] at r1
 obtain ⟨C', k1, k2, k3, _⟩ := fill_ok (ps := ps.toList) (place := fun i => some (i * cellN P e, cellN P e)) hT hp h r1 r2
 obtain ⟨g1, g2⟩ := JR s (e := e) (lo := 0) (hi := 0) (CRel.of (ys := C') k2 k3) (.inr rfl)
 refine ⟨_, _, .slice (some ⟨w.heap.size, 0, none⟩) n n, ?_, ?_, g1, g2⟩
 ·unfold Instr.buildSlice
  simp only [XhG, Xy hu (by simp), XhF, Xex hz]
  rw [if_neg (by omega)]
  have hmade : (Array.range (n * cellN P e)).map (fun i => z.cells[i % z.cells.size]!) = madeCells z.cells (n * cellN P e) := rfl
  by_cases h0 : n * cellN P e = 0
  ·have hm0 : (Array.range (n * cellN P e)).map (fun i => (#[] : Array Value)[i % (#[] : Array Value).size]!) = madeCells z.cells (n * cellN P e) := by rw [h0]; simp [madeCells]
   simp only [h0, if_true, XhG, XhJ, XhF, Xiz]
   rw [h0] at hm0 k1
   rw [hm0, k1]
   rfl
  ·simp only [h0, if_false, XhG, XhJ, W3 hz, XhF, Xiz]
   rw [show (Array.range (n * cellN P e)).map (fun i => z.cells[i % z.cells.size]!) = madeCells z.cells (n * cellN P e) from rfl, k1]
   rfl
 ·exact .slice (a := ⟨H.next, 0, none⟩) (p := ⟨w.heap.size, 0, C'.size⟩) (Inj.with_same ι _ _) (fun _ => rfl) (XhE _) (XhE _) (fun z hz => by cases hz)
end
section
variable {P : Program} {B : Nat} {ι : Inj} {H : Heap} {w : World} {m : Nat} {t : Tm} {a : Act}
theorem flat_oneCell (h : Y8 v) : v.oneCell' = true := by cases v <;> first | rfl | exact h.elim
theorem setCells_os (b : Nat) : ∀ (vs : List Value) (o : Nat) (w : World), (w.setCells b o vs).os = w.os /\ ((w.setCells b o vs).tape = w.tape /\ w.drawn <= (w.setCells b o vs).drawn) /\ (w.setCells b o vs).output = w.output /\ (w.setCells b o vs).heap.size = w.heap.size /\
  ∀ k, k ≠ b -> (w.setCells b o vs).heap[k]? = w.heap[k]?
 | [], _, _ => ⟨rfl, ⟨rfl, XhE _⟩, rfl, rfl, fun _ _ => rfl⟩
 | v :: vs, o, w => by
  obtain ⟨h1, h2, h3, h4, h5⟩ := setCells_os b vs (o + 1) (w.setCell ⟨b, o, none⟩ v)
  refine ⟨h1, h2, h3, ?_, fun k hk => ?_⟩
  ·rw [World.setCells, h4]; simp [World.setCell]
  ·rw [World.setCells, h5 k hk]
   simp only [World.setCell, Array.getElem?_modify]
   rw [if_neg (Ne.symm hk)]
theorem fz_setCell (w : World) (a : Addr) (v : Value) (b : Nat) : Fz w (w.setCell a v) b := by
 intro c e fr h
 unfold World.setCell at h
 grind
theorem XaU (b : Nat) : ∀ (xs : List Value) (off : Nat) (w : World) (k : Nat), Fz w (w.setCells b off xs) k
 | [], off, w, k => .refl w k
 | x :: xs, off, w, k => (fz_setCell w ⟨b, off, none⟩ x k).trans (XaU b xs (off + 1) _ k)
theorem store_ok (s : Sim P B ι H w) {b off : Nat} {ys ys' : List Value} {p : Place} (hp : ι b = some p) (hr : LRel ι ys ys') (fl : ∀ x ∈ ys, Y8 x) (hn : ys.length = n) (h : H.store b off n ys = some H') :
  (storeCells ⟨p.b, p.d + off, none⟩ ys').run P w = .ok () (w.setCells p.b (p.d + off) ys') /\ Sim P B ι H' (w.setCells p.b (p.d + off) ys') /\ Adv ι H w ι H' (w.setCells p.b (p.d + off) ys') := by
 unfold Heap.store at h
 split at h
 ·rename_i c hg
  cases hb : XhM (Nat.add off n) (Wy c) with
  | false => rw [hb] at h; cases h
  | true =>
   rw [hb] at h
   rw [ble_iff, ZD] at hb
   replace hb : off + n <= c.length := hb
   cases h
   obtain ⟨h1, h2, h3, h4⟩ := s.obj b p _ hp hg
   obtain ⟨h4, h5, h6⟩ := h4 rfl
   have hl := hr.length
   have hcell : ∀ j, j < ys'.length -> (w.cell? ⟨p.b, p.d + off + j, none⟩).isSome = true := fun j hj => by rw [Xim]; exact (h2 (off + j) (by omega)).some
   have run := run_storeCells_cells (P := P) p.b (p.d + off) ys' 0 w (by simpa using hcell) (fun j hj => by grind) (fun v hv => by
    obtain ⟨x, hx, hxr⟩ := hr.mem_right hv
    exact flat_oneCell (hxr.flat (fl x hx)))
   obtain ⟨o1, o2, o3, o4, o5⟩ := setCells_os p.b ys' (p.d + off) w
   refine ⟨by simpa using run, ?_⟩
   refine s.update hp hg (o1 := .cells true (XZ ys off c)) trivial o1 o2 o3 o4 o5 ?_ (fun _ _ _ => XaU _ _ _ _ _) ?_
   ·intro wr xs e i hi
    refine ⟨World.cell?_setCells_out p.b ys' (p.d + off) w _ (fun _ _ => ?_), World.frozen?_setCells p.b ys' (p.d + off) w _⟩
    grind
   ·have cin : ∀ i, off <= i -> i < off + ys'.length -> (w.setCells p.b (p.d + off) ys').cell? ⟨p.b, p.d + i, none⟩ = ys'[i - off]? := by
     intro i i1 i2
     have hj : i - off < ys'.length := by omega
     have := World.cell?_setCells_in p.b ys' (p.d + off) w hcell (i - off) hj
     rw [show p.d + off + (i - off) = p.d + i by omega] at this
     rw [this]; simp [hj]
    have cout : ∀ i, ¬ (off <= i /\ i < off + ys'.length) -> (w.setCells p.b (p.d + off) ys').cell? ⟨p.b, p.d + i, none⟩ = w.cell? ⟨p.b, p.d + i, none⟩ := by
     intro i hi
     exact World.cell?_setCells_out p.b ys' (p.d + off) w _ (fun _ _ => by simp only; omega)
    refine ⟨by rw [Uj _ _ _ (by omega)]; exact h1, fun i hi => ?_, fun i x hx => ?_, fun _ => ⟨h4, fun i hi => ?_, fun hL => (h6 hL).fz (XaU _ _ _ _ _)⟩⟩
    ·by_cases hin : off <= i /\ i < off + ys'.length
     ·have hj : i - off < ys'.length := by omega
      obtain ⟨x, hx, hxr⟩ := hr.mem_right (List.getElem_mem hj)
      exact ⟨ys'[i - off], by rw [cin i hin.1 hin.2]; simp [hj], hxr.flat (fl x hx)⟩
     ·exact (h2 i hi).eq (cout i hin)
    ·rw [Xad _ _ _ (by omega)] at hx
     split at hx
     ·rename_i hin
      obtain ⟨y, k1, k2⟩ := hr.get? hx
      grind
     simp_all
    ·rw [World.frozen?_setCells]; exact h5 i hi
 ·cases h
theorem t_store (s : Sim P B ι H w) {T : TypeId} (hT : okT P T = true) {y y' : Value} {ad : Addr} {ys : List Value} (hx : VRel ι x x') (hy : VRel ι y y') (h1 : Xb1 x = some ad) (h2 : cellsOf y = some ys)
  (h3 : Wy ys = cellN P T) (h4 : H.store ad.block ad.off (cellN P T) ys = some H') : Done P B ι H w (Instr.storeAt T x' y') H' := by
 obtain ⟨p, _, hp, rfl⟩ := JO hx h1
 obtain ⟨r1, r2⟩ := hy.cells h2
 rw [ZD] at h3
 obtain ⟨g1, g2, g3⟩ := store_ok s hp r1 r2 h3 h4
 refine ⟨_, _, ?_, g2, g3⟩
 unfold Instr.storeAt storeVar
 have hl : ys.length = y'.cells.size := by simpa using r1.length
 simp only [Instr.sureAddr, XhG, XhJ, XhF, ZT hT]
 rw [if_neg (by omega)]
 exact g1
theorem t_newMap (s : Sim P B ι H w) (sh : KSh) : Sim P B (ι.with H.next ⟨w.heap.size, 0, 0⟩) (H.push (.map sh 0 [])) (w.alloc (.map #[] 0)) /\ Adv ι H w (ι.with H.next ⟨w.heap.size, 0, 0⟩) (H.push (.map sh 0 [])) (w.alloc (.map #[] 0)) := by
 refine s.alloc ⟨rfl, s.base, #[], 0, JQ w _, ⟨[], .refl _, .nil⟩, by simp, .nil, .nil, by simp⟩
theorem t_mkMap (s : Sim P B ι H w) (sh : KSh) (T : TypeId) : Turned P B ι H w (Instr.makeMap T none) (.map (some H.next)) (H.push (.map sh 0 [])) := by
 obtain ⟨g1, g2⟩ := t_newMap s sh
 refine ⟨_, _, .map (some w.heap.size), ?_, .map (p := ⟨w.heap.size, 0, 0⟩) (Inj.with_same ι _ _), g1, g2⟩
 unfold Instr.makeMap
 simp
theorem t_rangeNil (s : Sim P B ι H w) {T k e : TypeId} (hT : und P T = .map k e) : Turned P B ι H w (Instr.range T (.map none)) (.pointer (some ⟨H.next, 0, none⟩)) (H.push (.miter none 0 [] none)) := by
 obtain ⟨g1, g2⟩ := s.alloc (o := .miter none 0 [] none) (O := .mapIter none 0 #[] 0) (L := 0) ⟨rfl, s.base, rfl, rfl, 0, #[], 0, JQ w _⟩
 refine ⟨_, _, _, ?_, rel_new s 0, g1, g2⟩
 unfold Instr.range
 simp only [XhG, Xy hT (by simp), XhF, XhJ, run_newObj]
 rfl
theorem t_rangeMap (s : Sim P B ι H w) {T k e : TypeId} (hT : und P T = .map k e) {r : Nat} {p : Place} (hp : ι r = some p) {sh : KSh} {ver : Nat} {es : List (Value × Value)} (hg : H.get r = some (.map sh ver es)) :
  Turned P B ι H w (Instr.range T (.map (some p.b))) (.pointer (some ⟨H.next, 0, none⟩)) (H.push (.miter (some r) ver es none)) := by
 obtain ⟨q1, q2, ms, clock, q3, q4⟩ := XdG s hp hg
 have hlt := s.lt r p hp
 have hrn := s.bound r p hp
 have hle := Inj.with_le s.next_none ⟨w.heap.size, 0, 0⟩
 have hold : (w.alloc (.mapIter (some p.b) clock #[] clock)).heap[p.b]? = w.heap[p.b]? := by
  show (w.heap.push _)[p.b]? = _
  rw [Array.getElem?_push, if_neg (by omega)]
 have hget : ∀ o, (H.push (.miter (some r) ver es none)).get r = some o -> o = .map sh ver es := by
  intro o ho
  rw [Heap.get_push, if_neg (by omega), hg] at ho
  cases ho; rfl
 obtain ⟨g1, g2⟩ := s.alloc (o := .miter (some r) ver es none) (O := .mapIter (some p.b) clock #[] clock) (L := 0)
  ⟨rfl, s.base, p, clock, #[], clock, hle _ _ hp, JQ w _, fun sh' ver' es' h => by cases hget _ h; exact XhE _, fun sh' es' h => by
   cases hget _ h
   refine ⟨ms, by rw [hold]; exact q3, .inl rfl, ?_, fun e he => by cases he⟩
   obtain ⟨L, l1, l2⟩ := q4.perm
   refine ⟨L, by rw [List.filter_eq_self.2 (by simp)]; exact l1, l2.mono fun x y hr => ⟨hr.1.mono hle, hr.2.mono hle⟩⟩⟩
 refine ⟨_, _, _, ?_, rel_new s 0, g1, g2⟩
 unfold Instr.range
 simp only [XhG, Xy hT (by simp), XhF, XhJ, Ye q3 (by simp), run_newObj]
 rfl
theorem t_rangeStr (s : Sim P B ι H w) {T : TypeId} (hT : und P T = .string) (st : ByteArray) : Turned P B ι H w (Instr.range T (.string st)) (.pointer (some ⟨H.next, 0, none⟩)) (H.push (.siter st 0)) := by
 obtain ⟨g1, g2⟩ := s.alloc (o := .siter st 0) (O := .stringIter st 0) (L := 0) ⟨rfl, s.base, JQ w _⟩
 refine ⟨_, _, _, ?_, rel_new s 0, g1, g2⟩
 unfold Instr.range
 simp only [XhG, Xy hT (by simp), XhF, XhJ, run_newObj]
 rfl
theorem t_mkSlice (s : Sim P B ι H w) {T e : TypeId} (hu : und P T = .slice e) (hz : ZH P e = some z) (hc : (Yb z).length = cellN P e) (hb : ((P.info? e).map (·.bytes)).getD 0 < 2 ^ 20)
  {x x' y y' : Value} (hx : VRel ι x x') (hy : VRel ι y y') {l c : Nat} (h1 : Wf x = some l) (h2 : Wf y = some c) (h3 : l <= c) (h4 : c < 1000000) :
  Turned P B ι H w (Instr.makeSlice T x' y') (.slice (some ⟨H.next, 0, none⟩) l c) (H.push (.cells true (rep (Yb z) c))) := by
 obtain ⟨k1, _, rfl⟩ := JP hx h1
 obtain ⟨k2, _, rfl⟩ := JP hy h2
 obtain ⟨i, hi, hzi, hpl⟩ := YZ hz
 obtain ⟨r1, r2⟩ := made_rel (ι := ι) hpl c
 have hsz : cellN P e = i.size := by simp [cellN, Program.cellsOf, hi]
 rw [hc, hsz] at r1
 obtain ⟨g1, g2⟩ := JR s (e := e) (lo := 0) (hi := 0) (CRel.of (ys := madeCells z.cells (c * i.size)) r1 r2) (.inr rfl)
 rw [hi] at hb
 replace hb : i.bytes < 2 ^ 20 := hb
 have hbytes : (i.bytes : Int) * (XhA c) <= 281474976710656 := by
  have h1 : i.bytes * c <= 2 ^ 20 * 1000000 := Nat.mul_le_mul (by omega) (by omega)
  have h2 : ((i.bytes * c : Nat) : Int) <= 281474976710656 := by
   have : (2 ^ 20 * 1000000 : Nat) <= 281474976710656 := by decide
   omega
  rw [Int.natCast_mul] at h2
  exact h2
 refine ⟨_, _, _, run_make w T e i z (WD hu (by simp)) hi hzi k1 k2 (XhA l) (XhA c) (Int.natCast_nonneg l) (Int.ofNat_le.2 h3) hbytes (by show (c : Int) <= _; omega), ?_, g1, g2⟩
 exact .slice (a := ⟨H.next, 0, none⟩) (p := ⟨w.heap.size, 0, (madeCells z.cells (c * i.size)).size⟩) (Inj.with_same ι _ _) (fun _ => rfl) (XhE _) h3 (fun z hz => by cases hz)
def Jb (s : ByteArray) : Array Value := s.data.map fun (b : UInt8) => Value.int .u8 b.toNat
theorem byteVals_rel (s : ByteArray) : LRel ι (Xa (bytes s)) (Jb s).toList /\ (∀ x ∈ Xa (bytes s), Y8 x) /\ (Xa (bytes s)).length = s.size := by
 rw [Yj]
 refine ⟨?_, ?_, by rw [Xae]; simp⟩
 ·rw [Jb, Xiz]
  exact All2.refl fun x hx => by
   obtain ⟨b, _, rfl⟩ := List.mem_map.1 hx
   exact .int _ _
 ·intro x hx
  obtain ⟨b, _, rfl⟩ := List.mem_map.1 hx
  trivial
theorem freeze_alloc (w : World) (ys : Array Value) (e : TypeId) (n : Nat) : (w.alloc (.cells ys e)).freeze ⟨w.heap.size, n, none⟩ 1 = w.alloc (.cells ys e (n, n + 1)) := by
 unfold World.freeze
 rw [if_neg (by omega)]
 unfold World.alloc
 congr 1
 grind
theorem stringToBytes_eq (e : TypeId) (s : ByteArray) : Conv.stringToBytes e s = (do
  let cap <- choose (.appendCap s.size 0 e)
  let a <- newRow e (Jb s ++ Xio (cap - s.size) (Value.int .u8 0))
  markStringish a
  pure (.slice (some a) s.size cap)) := rfl
theorem t_toBytes (s : Sim P B ι H w) {e : TypeId} (st : ByteArray) : Turned P B ι H w (Conv.stringToBytes e st) (.slice (some ⟨H.next, 0, WV 1⟩) (bytes st).length (bytes st).length) (H.push (.cells true (Xa (bytes st)))) := by
 have hsz := Xae st
 obtain ⟨b1, b2, b3⟩ := byteVals_rel (ι := ι) st
 obtain ⟨cap, hcap, hrun⟩ : ∃ cap, st.size <= cap /\ (choose (.appendCap st.size 0 e)).run P w = .ok cap { w with drawn := w.drawn + 1 } := by
  refine ⟨Question.cut (.appendCap st.size 0 e) (w.tape w.drawn (.appendCap st.size 0 e)), Nat.le_add_right _ _, ?_⟩
  rw [run_choose]
  rfl
 have s' := s.drew (w.drawn + 1)
 have hC : CRel ι (Xa (bytes st)) (Jb st ++ Xio (cap - st.size) (Value.int .u8 0)) := (CRel.of b1 b2).append fun i v hv => by
  have := Array.mem_of_getElem? hv
  rw [Array.mem_replicate] at this
  rw [this.2]; trivial
 have hys : (Jb st ++ Xio (cap - st.size) (Value.int .u8 0)).size = cap := by
  have : (Jb st).size = st.size := Array.size_map ..
  rw [Array.size_append, this, Array.size_replicate]; omega
 obtain ⟨g1, g2⟩ := JR s' (e := e) (lo := cap) (hi := cap + 1) hC (.inl (by omega))
 refine ⟨_, _, .slice (some ⟨w.heap.size, 0, none⟩) st.size cap, ?_, ?_, g1, Adv.trans s.bound (Adv.drew ι H w _ (Xil _)) g2⟩
 ·rw [stringToBytes_eq]
  unfold markStringish
  have hshape : ({ w with drawn := w.drawn + 1 }.alloc (.cells (Jb st ++ Xio (cap - st.size) (Value.int .u8 0)) e)).shape? w.heap.size = some (e, cap) := by
   unfold World.shape?
   have := JQ { w with drawn := w.drawn + 1 } (.cells (Jb st ++ Xio (cap - st.size) (Value.int .u8 0)) e)
   simp only at this
   rw [this]
   simp only [hys]
  simp only [XhG, hrun, XhF, newRow, run_newObj, XhJ, run_shape]
  rw [show ({ w with drawn := w.drawn + 1, heap := w.heap.push (.cells (Jb st ++ Xio (cap - st.size) (Value.int .u8 0)) e) } : World) = { w with drawn := w.drawn + 1 }.alloc (.cells (Jb st ++ Xio (cap - st.size) (Value.int .u8 0)) e) from rfl, hshape]
  simp only [run_freeze, XhF]
  rw [show w.heap.size = ({ w with drawn := w.drawn + 1 } : World).heap.size from rfl, freeze_alloc]
 ·rw [<- hsz]
  exact .slice (a := ⟨H.next, 0, WV 1⟩) (p := ⟨w.heap.size, 0, _⟩) (Inj.with_same ι _ _) (fun h => by cases h) hcap (XhE _) (fun z hz => by
   cases hz
   show 0 + cap * 1 <= Array.size _
   rw [hys]; omega)
theorem frozen_le {w : World} {b e lo hi : Nat} {c : Array Value} {t : TypeId} (h : w.heap[b]? = some (.cells c t (lo, hi))) (hb : lo = hi \/ e <= lo) {i : Nat} (hi' : i < e) : w.frozen? ⟨b, i, none⟩ = false := by
 unfold World.frozen?
 grind
theorem t_stamp (s : Sim P B ι H w) {S : TypeId} {e : TypeId} (hS : und P S = .slice e) (he : und P e = .int .u8) {a : Addr} {c : Nat} (hn : 0 < n) (hx : VRel ι (.slice (some a) n c) x') {xs : List Value} (hg : H.get a.block = some (.cells true xs)) (hxs : 0 < xs.length) :
  Turned P B ι H w (convert S S x') (.slice (some a) n c) H := by
 cases hx with
 | sempty h => omega
 | @slice _ p _ _ c' hp hex hc hnc hl =>
  obtain ⟨o1, o2, o3, o4⟩ := s.obj _ _ _ hp hg
  obtain ⟨o4, o5, o6⟩ := o4 rfl
  have hL : 0 < p.L := by omega
  obtain ⟨v0, hv0⟩ := XiL.1 (o2 0 hL).some
  obtain ⟨ys, t, fr, hblk⟩ : ∃ ys t fr, w.heap[p.b]? = some (.cells ys t fr) := by
   unfold World.cell? at hv0
   grind
  obtain ⟨lo, hi⟩ := fr
  have hin : ∀ (q : Place), q.b = p.b -> 0 < q.L -> (∀ i, i < q.L -> CellOK w ⟨q.b, q.d + i, none⟩) -> q.d + q.L <= ys.size := by
   intro q hqb hqL hq
   have := (hq (q.L - 1) (by omega)).some
   rw [hqb] at this
   unfold World.cell? at this
   rw [hblk] at this
   simp only [Option.isSome_none, Xik, if_false] at this
   obtain ⟨v1, hv1⟩ := XiL.1 this
   have := (XjC.1 hv1).1
   omega
  let w' : World := w.freeze ⟨p.b, ys.size, none⟩ 1
  have hw' : w'.heap[p.b]? = some (.cells ys t (if lo == hi then (ys.size, ys.size + 1) else (min lo ys.size, max hi (ys.size + 1)))) := by
   show (w.freeze ⟨p.b, ys.size, none⟩ 1).heap[p.b]? = _
   unfold World.freeze
   rw [if_neg (by decide)]
   simp only [Array.getElem?_modify, if_true, hblk, Xjc]
  have hoth : ∀ k, k ≠ p.b -> w'.heap[k]? = w.heap[k]? := by
   intro k hk
   show (w.freeze ⟨p.b, ys.size, none⟩ 1).heap[k]? = _
   unfold World.freeze
   rw [if_neg (by decide)]
   simp only [Array.getElem?_modify]
   rw [if_neg (fun h => hk h.symm)]
  have hsz : w'.heap.size = w.heap.size := by
   show (w.freeze ⟨p.b, ys.size, none⟩ 1).heap.size = _
   unfold World.freeze
   rw [if_neg (by decide)]
   simp
  have hos : w'.os = w.os /\ (w'.tape = w.tape /\ w.drawn <= w'.drawn) /\ w'.output = w.output := by
   have e : w' = { w with heap := w'.heap } := by
    show w.freeze ⟨p.b, ys.size, none⟩ 1 = { w with heap := (w.freeze ⟨p.b, ys.size, none⟩ 1).heap }
    unfold World.freeze
    rw [if_neg (by decide)]
   exact ⟨by rw [e], ⟨by rw [e], by rw [e]; exact XhE _⟩, by rw [e]⟩
  have s' : Sim P B ι H w' := by
   refine ⟨fun b q o hq ho => ?_, s.apart, s.bound, fun b q hq => by rw [hsz]; exact s.lt b q hq, s.blank, by rw [hsz]; exact s.base⟩
   have old := s.obj b q o hq ho
   by_cases hb : q.b = p.b
   ·-- it lies in that block: cells
    have hcells : ∃ wr zs, o = .cells wr zs := by
     by_cases hbb : b = a.block
     ·subst hbb; rw [hg] at ho; cases ho; exact ⟨_, _, rfl⟩
     ·obtain ⟨wr, zs, _, _, e1, _⟩ := s.apart b a.block q p o _ hbb hq hp ho hg hb
      exact ⟨wr, zs, e1⟩
    obtain ⟨wr, zs, rfl⟩ := hcells
    obtain ⟨q1, q2, q3, q4⟩ := old
    have hc : ∀ i, w'.cell? ⟨q.b, i, none⟩ = w.cell? ⟨q.b, i, none⟩ := by
     intro i
     rw [hb]
     unfold World.cell?
     rw [hw', hblk]
    refine ⟨q1, fun i hi => (q2 i hi).eq (hc _), fun i x hx => by rw [hc]; exact q3 i x hx, fun hwr => ?_⟩
    obtain ⟨r1, r2, r3⟩ := q4 hwr
    have hbeh : 0 < q.L -> (if lo == hi then (ys.size, ys.size + 1) else (min lo ys.size, max hi (ys.size + 1))).1 >= q.d + q.L := by
     intro hqL
     have h1 := hin q hb hqL q2
     have h2 := r3 hqL ys t lo hi (by rw [hb]; exact hblk)
     by_cases hlh : lo = hi
     ·rw [if_pos (by simp [hlh])]; exact h1
     ·grind
    refine ⟨r1, fun i hi3 => ?_, fun hqL c2 e2 lo2 hi2 hk => ?_⟩
    ·rw [hb]
     exact frozen_le (e := q.d + q.L) (lo := (if lo == hi then (ys.size, ys.size + 1) else (min lo ys.size, max hi (ys.size + 1))).1) (hi := (if lo == hi then (ys.size, ys.size + 1) else (min lo ys.size, max hi (ys.size + 1))).2) hw' (.inr (hbeh (by omega))) (by omega)
    grind
   ·refine old.stay ι.le_refl (fun _ _ _ i _ => VS (hoth _ hb) _) (fun _ _ _ => .of_eq (hoth _ hb)) (fun _ => hoth _ hb) ?_
    intro m ver left last pm e' hm sh ver' es hgm
    refine .inr ⟨hgm, hoth _ fun hpb => ?_⟩
    by_cases hma : m = a.block
    ·subst hma; rw [hg] at hgm; cases hgm
    ·obtain ⟨_, _, _, _, e1, _⟩ := s.apart m a.block pm p _ _ hma hm hp hgm hg hpb
     cases e1
  refine ⟨ι, w', .slice (some ⟨p.b, p.d + a.off, none⟩) n c', ?_, .slice hp hex hc hnc hl, s', ⟨ι.le_refl, hos.1, hos.2.1, hos.2.2, by omega, XhE _, fun _ _ h => .inl h, fun k hk hne => hoth k fun e => hne _ _ _ hp hg rfl e.symm, fun _ _ _ => rfl, fun _ o' _ h => ⟨o', h, id⟩⟩⟩
  have hsh : w.shape? p.b = some (t, ys.size) := by unfold World.shape?; rw [hblk]
  simp only [convert, XhG, Xy hS (by simp), Xy he (by simp), XhF, beq_self_eq_true, markStringish, run_shape, hsh, run_freeze, XhJ]
  rfl
end
section
variable {P : Program} {B : Nat} {ι : Inj} {H : Heap} {w : World} {m : Nat} {t : Tm} {a : Act}
theorem lenV_ok (hx : VRel ι x x') (h : lenV x = some n) : (Builtin.lenOf x').run P w = .ok n w := by
 cases hx <;> first | (cases h; done) | (cases h; simp [Builtin.lenOf]; done) | skip
 cases h
 rw [<- Xae]
 simp [Builtin.lenOf]
theorem elems_ok (s : Sim P B ι H w) (hx : VRel ι x x') {size k : Nat} (hk : lenV x = some k) (hn : n <= k) {cs : List Value} (h : H.elems size n x = some cs) :
  ∃ cs' : Array Value, (∀ d, (Builtin.firstCells size n x').run P { w with drawn := d } = .ok cs' { w with drawn := d }) /\ LRel ι cs cs'.toList /\ (∀ y ∈ cs, Y8 y) /\ cs.length = n * size := by
 cases hx with
 | string st =>
  replace h : (bif XhD size 1 then XU n (Xa (bytes st)) else none) = some cs := h
  cases hb : XhD size 1 with
  | false => rw [hb] at h; cases h
  | true =>
   rw [hb] at h
   rw [beq_iff] at hb
   subst hb
   replace h : XU n (Xa (bytes st)) = some cs := h
   rw [VR] at h
   split at h
   ·cases h
    obtain ⟨b1, b2, b3⟩ := byteVals_rel (ι := ι) st
    refine ⟨(st.extract 0 n).data.map fun (b : UInt8) => Value.int .u8 b.toNat, fun d => ?_, ?_, fun y hy => b2 y (List.mem_of_mem_take hy), ?_⟩
    ·simp [Builtin.firstCells]
    ·have : ((st.extract 0 n).data.map fun (b : UInt8) => Value.int .u8 b.toNat).toList = (Jb st).toList.take n := by
      rw [ByteArray.data_extract, Xiz, Array.toList_extract, List.extract_eq_take_drop]
      simp [Jb, List.map_take]
     rw [this]
     exact b1.take n
    ·rw [List.length_take]; omega
   ·cases h
 | snil n' c =>
  replace h : (bif XhD n 0 then some [] else none) = some cs := h
  cases hb : XhD n 0 with
  | false => rw [hb] at h; cases h
  | true =>
   rw [hb] at h
   rw [beq_iff] at hb
   subst hb
   cases h
   exact ⟨#[], fun d => by simp [Builtin.firstCells], .nil, by simp, by simp⟩
 | sempty hs =>
  cases hk
  have : n = 0 := by omega
  subst this
  replace h : H.load _ _ (XhX 0 size) = some cs := h
  rw [show XhX 0 size = 0 from Nat.zero_mul size] at h
  have := load_zero h
  subst this
  exact ⟨#[], fun d => by simp [Builtin.firstCells, loadCells, loadCellsFrom], .nil, by simp, by simp⟩
 | slice hp hex hc hn' hl =>
  replace h : H.load _ _ (XhX n size) = some cs := h
  obtain ⟨cs', k1, k2, k3, k4, _⟩ := load_ok s hp h
  refine ⟨cs'.toArray, fun d => ?_, by simpa using k3, k4, ?_⟩
  ·simp only [Builtin.firstCells]
   exact run_loads (w := { w with drawn := d }) k1 k2
  ·rw [k3.length]; exact k1
 | _ => cases hk
theorem adopt (s : Sim P B ι H w) {w' : World} {b0 : Nat} {p0 : Place} {c : List Value} (h0 : ι b0 = some p0) (g0 : H.get b0 = some (.cells true c)) {q : Place} {xs : List Value}
  (hqb : q.b = p0.b) (hq1 : p0.d <= q.d) (hq2 : q.d + q.L <= p0.d + p0.L) (os : w'.os = w.os) (tape : w'.tape = w.tape /\ w.drawn <= w'.drawn) (out : w'.output = w.output) (hs : w'.heap.size = w.heap.size) (oth : ∀ k, k ≠ p0.b -> w'.heap[k]? = w.heap[k]?)
  (cs : ∀ i, (i < p0.d \/ p0.d + p0.L <= i) -> w'.cell? ⟨p0.b, i, none⟩ = w.cell? ⟨p0.b, i, none⟩ /\ w'.frozen? ⟨p0.b, i, none⟩ = w.frozen? ⟨p0.b, i, none⟩)
  (fz : Fz w w' p0.b)
  (hr : ObjRel P B (ι.with H.next q) ((H.put b0 none).push (.cells true xs)) w' q (.cells true xs)) :
  Sim P B (ι.with H.next q) ((H.put b0 none).push (.cells true xs)) w' /\ Adv ι H w (ι.with H.next q) ((H.put b0 none).push (.cells true xs)) w' := by
 have hle := Inj.with_le s.next_none q
 have hb0 := s.bound b0 p0 h0
 have get : ∀ b o, b ≠ H.next -> ((H.put b0 none).push (.cells true xs)).get b = some o -> b ≠ b0 /\ H.get b = some o := by
  intro b o hb h
  rw [Heap.get_push, if_neg (by simpa using hb), Heap.get_put] at h
  split at h
  ·cases h
  ·exact ⟨‹_›, h⟩
 have getn : ((H.put b0 none).push (.cells true xs)).get H.next = some (.cells true xs) := by
  rw [Heap.get_push]; simp
 have key : ∀ b p o, b ≠ b0 -> ι b = some p -> H.get b = some o -> p.b = p0.b -> ∃ wr ys, o = .cells wr ys /\ (p.d + p.L <= p0.d \/ p0.d + p0.L <= p.d) := by
  intro b p o hb hp ho he
  obtain ⟨wr, ys, wr', ys', e1, e2, e3⟩ := s.apart b b0 p p0 o _ hb hp h0 ho g0 he
  cases e2
  refine ⟨wr, ys, e1, ?_⟩
  rcases e3 with ⟨_, e3⟩ | e3 | e3
  ·cases e3
  ·exact .inl e3
  ·exact .inr e3
 refine ⟨⟨?_, ?_, ?_, ?_, ?_, ?_⟩, ⟨hle, os, tape, out, by omega, by simp, ?_, ?_, ?_, ?_⟩⟩
 ·intro b p o hp ho
  rcases Inj.with_cases hp with ⟨rfl, rfl⟩ | ⟨hne, hp'⟩
  ·rw [getn] at ho
   cases ho
   exact hr
  ·obtain ⟨hb, ho'⟩ := get b o hne ho
   refine (s.obj b p o hp' ho').stay hle ?_ (fun wr xs he => ?_) ?_ ?_
   rotate_left
   ·by_cases hb : p.b = p0.b
    ·rw [hb]; exact fz
    ·exact .of_eq (oth _ hb)
   rotate_left
   rotate_left
   ·grind [VS]
   ·grind
   grind
 ·intro b b' p p' o1 o2 hne h1 h2 g1 g2 heq
  rcases Inj.with_cases h1 with ⟨rfl, rfl⟩ | ⟨hn1, h1'⟩
  ·grind [Inj.with_cases]
  ·obtain ⟨hb, g1'⟩ := get b o1 hn1 g1
   rcases Inj.with_cases h2 with ⟨rfl, rfl⟩ | ⟨hn2, h2'⟩
   ·grind
   ·obtain ⟨hb', g2'⟩ := get b' o2 hn2 g2
    exact s.apart b b' p p' o1 o2 hne h1' h2' g1' g2' heq
 ·intro b p hp
  rcases Inj.with_cases hp with ⟨rfl, rfl⟩ | ⟨hne, hp'⟩
  ·simp
  ·have := s.bound b p hp'; simp; omega
 ·intro b p hp
  rcases Inj.with_cases hp with ⟨rfl, rfl⟩ | ⟨hne, hp'⟩
  ·rw [hqb, hs]; exact s.lt b0 p0 h0
  ·rw [hs]; exact s.lt b p hp'
 ·intro b hb
  simp at hb
  rw [Heap.get_push, if_neg (by simp; omega), Heap.get_put]
  split
  ·rfl
  ·exact s.blank b (by omega)
 ·rw [hs]; exact s.base
 ·intro b p hp
  rcases Inj.with_cases hp with ⟨rfl, rfl⟩ | ⟨hne, hp'⟩
  ·exact .inr ⟨s.next_none, XhE _, .inr ⟨b0, p0, _, h0, g0, rfl, hqb.symm⟩⟩
  ·exact .inl hp'
 ·intro k hk hne
  exact oth k fun e => hne b0 p0 _ h0 g0 rfl e.symm
 ·intro b hb hn
  rw [Heap.get_push, if_neg (by simp; omega), Heap.get_put, if_neg (by rintro rfl; rw [h0] at hn; cases hn)]
 grind
end
section
variable {P : Program} {B : Nat} {ι : Inj} {H : Heap} {w : World} {m : Nat} {t : Tm} {a : Act}
def isIntD : TypeDesc -> Bool
 | .int _ => true
 | _ => false
structure AppArgs (P : Program) (e : TypeId) (z : Value) (argTypes : Array TypeId) (args : Array Value) (sv xv : Value) (zeros : Bool) : Prop where
 t0 : ∃ T0, argTypes[0]? = some T0 /\ P.underlying T0 = some (.slice e)
 t1 : ∃ T1 d, argTypes[1]? = some T1 /\ P.underlying T1 = some d /\ isIntD d = zeros
 a0 : args[0]? = some sv
 a1 : args[1]? = some xv
 hz : ZH P e = some z
 bytes : ∃ i, P.info? e = some i /\ i.bytes < 2 ^ 20 /\ i.bytes ≠ 0 /\ i.zero = some z /\ i.size = cellN P e
structure AppNew (P : Program) (w : World) (e : TypeId) (z : Value) (xv : Value) (zeros : Bool) (n : Nat) (new : Array Value) : Prop where
 cells : zeros = false -> (∀ d, (Builtin.lenOf xv).run P { w with drawn := d } = .ok n { w with drawn := d }) /\ ∀ d, (Builtin.firstCells (cellN P e) n xv).run P { w with drawn := d } = .ok new { w with drawn := d }
 zero : zeros = true -> (∃ k, xv = .int k (.ofNat n)) /\ n < 100000000 /\ new = Builtin.zeroCells z.cells n
theorem app_fits {e : TypeId} {argTypes : Array TypeId} {args : Array Value} {xv : Value} {zeros : Bool} {ty : TypeId} {base : Option Addr} {sLen sCap : Nat} {new : Array Value} {w' : World}
  (A : AppArgs P e z argTypes args (.slice base sLen sCap) xv zeros) (N : AppNew P w e z xv zeros n new) (hz0 : n * cellN P e = 0 -> new = #[]) (hfit : sLen + n <= sCap)
  (hst : match base with | some a => (storeCells (a.add (sLen * cellN P e)) new.toList).run P w = .ok () w' | none => w' = w) :
  (Builtin.append_ argTypes ty args).run P w = .ok (.slice base (sLen + n) sCap) w' := by
 obtain ⟨⟨T0, h0, ht⟩, ⟨T1, d, h1, hu, hd⟩, ha0, ha1, hz, i, hi, hb1, hb2, hzi, hsz⟩ := A
 have hw : w = { w with drawn := w.drawn } := rfl
 cases zeros with
 | false =>
  obtain ⟨hl, hf⟩ := N.cells rfl
  have hl := hl w.drawn
  have hf := hf w.drawn
  rw [<- hw] at hl hf
  unfold Builtin.append_
  simp only [h0, ha0, ha1, h1, XhG, run_underlying ht, run_underlying hu, XhF, Xex hz, XhJ]
  cases d <;> first | (cases hd; done) | skip
  all_goals
   simp only [Xik, if_false, hl, XhF, if_pos hfit, Bool.not_false, if_true, XhG, hf]
   cases base with
   | none => cases hst; simp
   | some ad => simp [hst]
 | true =>
  obtain ⟨⟨k, rfl⟩, hn, rfl⟩ := N.zero rfl
  cases d <;> first | (cases hd; done) | skip
  have wl : IntKind.i64.wrap (XhA n) = XhA n := by rw [IntKind.wrap_i64]; simp only [Xiv]; omega
  have n1 : ¬ (XhA n) < 0 := by simp
  have n2 : ¬ ((XhA n) * (i.bytes : Int) > 2 ^ 48) := by
   have : n * i.bytes <= 100000000 * 2 ^ 20 := Nat.mul_le_mul (by omega) (by omega)
   have h2 : ((n * i.bytes : Nat) : Int) <= 2 ^ 48 := by
    have : (100000000 * 2 ^ 20 : Nat) <= 2 ^ 48 := by decide
    omega
   rw [Int.natCast_mul] at h2
   simp only [Xiv]
   omega
  have hti : (typeInfo e).run P w = .ok i w := by simp [typeInfo, hi]
  unfold Builtin.append_
  simp only [h0, ha0, ha1, h1, XhG, run_underlying ht, run_underlying hu, XhF, Xex hz, XhJ, if_true, asInt, asIntOf, wl, if_neg n1, hti, if_neg n2]
  simp only [Xiv, Int.toNat_natCast, if_pos hfit, XiI, Xik, if_false]
  by_cases h00 : n * cellN P e = 0
  ·have hne := hz0 h00
   rw [hne] at hst
   simp only [h00, if_true, XhG, XhJ, XhF]
   cases base with
   | none => cases hst; simp
   | some ad => simp [hst]
  ·simp only [h00, if_false, XhG, W3 hz, XhJ, XhF]
   cases base with
   | none => cases hst; simp
   | some ad => simp [hst]
theorem app_grows {e : TypeId} {argTypes : Array TypeId} {args : Array Value} {xv : Value} {zeros : Bool} {ty : TypeId} {base : Option Addr} {sLen sCap : Nat} {old new : Array Value}
  (A : AppArgs P e z argTypes args (.slice base sLen sCap) xv zeros) (N : AppNew P w e z xv zeros n new) (hz0 : n * cellN P e = 0 -> new = #[]) (hfit : sCap < sLen + n) (hsmall : sLen + n <= 100000000)
  (ho : ∀ d, (Builtin.firstCells (cellN P e) sLen (.slice base sLen sCap)).run P { w with drawn := d } = .ok old { w with drawn := d }) :
  ∃ c, sLen + n <= c /\ (Builtin.append_ argTypes ty args).run P w = .ok (.slice (some ⟨w.heap.size, 0, none⟩) (sLen + n) c) ({ w with drawn := w.drawn + 1 }.alloc (.cells (old ++ new ++ Builtin.zeroCells z.cells (c - (sLen + n))) e)) := by
 obtain ⟨⟨T0, h0, ht⟩, ⟨T1, d, h1, hu, hd⟩, ha0, ha1, hz, i, hi, hb1, hb2, hzi, hsz⟩ := A
 have hw : w = { w with drawn := w.drawn } := rfl
 obtain ⟨c, hcap, hrun⟩ : ∃ c, sLen + n <= c /\ (choose (.appendCap (sLen + n) sCap e)).run P w = .ok c { w with drawn := w.drawn + 1 } := by
  refine ⟨Question.cut (.appendCap (sLen + n) sCap e) (w.tape w.drawn (.appendCap (sLen + n) sCap e)), Nat.le_add_right _ _, ?_⟩
  rw [run_choose]
  rfl
 refine ⟨c, hcap, ?_⟩
 have hti : (typeInfo e).run P w = .ok i w := by simp [typeInfo, hi]
 have hti' : (typeInfo e).run P { w with drawn := w.drawn + 1 } = .ok i { w with drawn := w.drawn + 1 } := by simp [typeInfo, hi]
 have hnf : ¬ (sLen + n <= sCap) := by omega
 have hsl := nextslicecap_le hfit
 have h48 : ¬ (Builtin.nextslicecap (sLen + n) sCap * i.bytes > 2 ^ 48) := by
  have : Builtin.nextslicecap (sLen + n) sCap * i.bytes <= 200000000 * 2 ^ 20 := Nat.mul_le_mul (by omega) (by omega)
  have : (200000000 * 2 ^ 20 : Nat) <= 2 ^ 48 := by decide
  omega
 have hmax : IntKind.i64.max = 9223372036854775807 := by decide
 have h63 : ∀ b : Prop, ¬ (((sLen + n : Nat) : Int) > IntKind.i64.max /\ (b \/ i.bytes = 0)) := by
  intro b hh
  rw [hmax] at hh
  omega
 cases zeros with
 | false =>
  obtain ⟨hl, hf⟩ := N.cells rfl
  have hl := hl w.drawn
  have hf' := hf (w.drawn + 1)
  rw [<- hw] at hl
  have ho' := ho (w.drawn + 1)
  unfold Builtin.append_
  simp only [h0, ha0, ha1, h1, XhG, run_underlying ht, run_underlying hu, XhF, Xex hz, XhJ]
  cases d <;> first | (cases hd; done) | skip
  all_goals
   simp only [Xik, if_false, hl, XhF, if_neg hnf, Bool.not_false, if_true, XhG, hti, if_neg (h63 False), if_neg h48, hrun, hti', run_askRoom, ho', hf', W3 hz, newRow, run_newObj, XhJ]
   first | rfl | skip
 | true =>
  obtain ⟨⟨k, rfl⟩, hn, rfl⟩ := N.zero rfl
  have ho' := ho (w.drawn + 1)
  cases d <;> first | (cases hd; done) | skip
  have wl : IntKind.i64.wrap (XhA n) = XhA n := by rw [IntKind.wrap_i64]; simp only [Xiv]; omega
  have n1 : ¬ (XhA n) < 0 := by simp
  have n2 : ¬ ((XhA n) * (i.bytes : Int) > 2 ^ 48) := by
   have : n * i.bytes <= 100000000 * 2 ^ 20 := Nat.mul_le_mul (by omega) (by omega)
   have h2 : ((n * i.bytes : Nat) : Int) <= 2 ^ 48 := by
    have : (100000000 * 2 ^ 20 : Nat) <= 2 ^ 48 := by decide
    omega
   rw [Int.natCast_mul] at h2
   simp only [Xiv]
   omega
  unfold Builtin.append_
  simp only [h0, ha0, ha1, h1, XhG, run_underlying ht, run_underlying hu, XhF, Xex hz, XhJ, if_true, asInt, asIntOf, wl, if_neg n1, hti, if_neg n2]
  simp only [Xiv, Int.toNat_natCast, if_neg hnf, XiI, Xik, if_false, if_neg (h63 (true = true)), if_neg (h63 True), if_neg h48, hrun, hti', run_askRoom, ho', XhG, XhF]
  by_cases h00 : n * cellN P e = 0
  ·have hne := hz0 h00
   simp only [h00, if_true, XhG, XhJ, XhF, hti, if_neg (h63 (true = true)), if_neg (h63 True), if_neg h48, hrun, hti', run_askRoom, ho', W3 hz, newRow, run_newObj, hne]
   rfl
  ·simp only [h00, if_false, XhG, W3 hz, XhJ, XhF, hti, if_neg (h63 (true = true)), if_neg (h63 True), if_neg h48, hrun, hti', run_askRoom, ho', newRow, run_newObj]
   rfl
end
section
variable {P : Program} {B : Nat} {ι : Inj} {H : Heap} {w : World} {m : Nat} {t : Tm} {a : Act}
theorem zcells_size (hp : Jh z = true) : z.cells.size = (Yb z).length := by
 have := (J9 hp).1
 rw [<- this]; simp
theorem grow_ok {H1 : Heap} (s : Sim P B ι H w) (s1 : Sim P B ι H1 w) (ad : Adv ι H w ι H1 w) {e : TypeId} {argTypes : Array TypeId} {args : Array Value} {xv : Value} {zeros : Bool} {ty : TypeId} {base : Option Addr} {sLen sCap : Nat}
  {old new : List Value} {old' new' : Array Value} (A : AppArgs P e z argTypes args (.slice base sLen sCap) xv zeros) (N : AppNew P w e z xv zeros n new') (hfit : sCap < sLen + n) (hsmall : sLen + n <= 100000000)
  (ho : ∀ d, (Builtin.firstCells (cellN P e) sLen (.slice base sLen sCap)).run P { w with drawn := d } = .ok old' { w with drawn := d })
  (hold : LRel ι old old'.toList) (flo : ∀ x ∈ old, Y8 x) (hlo : old.length = sLen * cellN P e) (hnew : LRel ι new new'.toList) (fln : ∀ x ∈ new, Y8 x) (hln : new.length = n * cellN P e) (hc : (Yb z).length = cellN P e) :
  Turned P B ι H w (Builtin.append_ argTypes ty args) (.slice (some ⟨H1.next, 0, WV (cellN P e)⟩) (sLen + n) (sLen + n)) (H1.push (.cells true (old ++ new))) := by
 have l1 : old'.size = sLen * cellN P e := by have := hold.length; simp at this; omega
 have l2 : new'.size = n * cellN P e := by have := hnew.length; simp at this; omega
 obtain ⟨c, hcap, hrun⟩ := app_grows (ty := ty) A N (fun h => by simp_all) hfit hsmall ho
 have hzs := zcells_size (YZ A.hz).choose_spec.2.2
 have hC : CRel ι (old ++ new) (old' ++ new' ++ Builtin.zeroCells z.cells (c - (sLen + n))) := (CRel.of (ys := old' ++ new') (by rw [Array.toList_append]; exact hold.append hnew) (by
  grind)).append (flat_zeros (YZ A.hz).choose_spec.2.2 _)
 have s2 := s1.drew (w.drawn + 1)
 obtain ⟨g1, g2⟩ := JR s2 (e := e) (lo := 0) (hi := 0) hC (.inr rfl)
 refine ⟨_, _, _, hrun, ?_, g1, Adv.trans s.bound ad (Adv.trans s1.bound (Adv.drew ι H1 w _ (Xil _)) g2)⟩
 refine .slice (a := ⟨H1.next, 0, WV (cellN P e)⟩) (p := ⟨w.heap.size, 0, _⟩) (Inj.with_same ι _ _) (fun h => by cases h) hcap (XhE _) (fun k hk => ?_)
 cases hk
 show 0 + c * cellN P e <= Array.size _
 rw [Array.size_append, Array.size_append, l1, l2]
 simp only [Builtin.zeroCells, Array.size_map, Array.size_range, hzs, hc]
 have : c * cellN P e = (sLen + n) * cellN P e + (c - (sLen + n)) * cellN P e := by rw [<- XiU]; congr 1; omega
 rw [this, XiU]
 omega
theorem append_ok (s : Sim P B ι H w) {e : TypeId} {z : Value} {argTypes : Array TypeId} {args : Array Value} {sv sv' xv v : Value} {zeros : Bool} {ty : TypeId} {n : Nat} {new : List Value} {new' : Array Value} {H' : Heap}
  (A : AppArgs P e z argTypes args sv' xv zeros) (N : AppNew P w e z xv zeros n new') (hs : VRel ι sv sv') (hnew : LRel ι new new'.toList) (fln : ∀ x ∈ new, Y8 x) (hln : new.length = n * cellN P e) (hc : (Yb z).length = cellN P e) (hpos : cellN P e ≠ 0)
  (h : H.appendL (cellN P e) sv n new = some (v, H')) : Turned P B ι H w (Builtin.append_ argTypes ty args) v H' := by
 have l2 : new'.size = n * cellN P e := by have := hnew.length; simp at this; omega
 have hz0 : n * cellN P e = 0 -> new' = #[] := fun h => by simp_all
 unfold Heap.appendL at h
 split at h
 ·cases hs
  split at h
  ·cases h
   refine ⟨ι, w, _, app_fits A N hz0 (XhE _) rfl, .snil 0 0, s, Adv.refl ι H w⟩
  ·rename_i n
   cases hb : XhK n 100000000 with
   | false => rw [hb] at h; cases h
   | true =>
    rw [hb] at h
    rw [blt_iff] at hb
    cases h
    have := grow_ok (ty := ty) s s (Adv.refl ι H w) (old := []) (old' := #[]) A N (by omega) (by omega) (fun d => by simp [Builtin.firstCells]) .nil (by simp) (by simp) hnew fln hln hc
    simpa using this
 ·rename_i ad len cap
  split at h
  ·rename_i old hload
   cases hsm : XhK (Nat.add len n) 100000000 with
   | false => rw [hsm] at h; cases h
   | true =>
    rw [hsm] at h
    rw [blt_iff] at hsm
    replace hsm : len + n < 100000000 := hsm
    simp only [XiI, cond_false] at h
    cases hs with
    | @sempty _ ad' c' he' =>
     rw [show XhX 0 (cellN P e) = 0 from Nat.zero_mul _] at hload
     have := load_zero hload
     subst this
     cases hfit : XhM (Nat.add 0 n) 0 with
     | true =>
      rw [hfit] at h
      rw [ble_iff] at hfit
      have : n = 0 := by replace hfit : 0 + n <= 0 := hfit; omega
      subst this
      cases h
      have hne := hz0 (by simp)
      refine ⟨ι, w, _, app_fits A N hz0 (by omega) (w' := w) ?_, ?_, s, Adv.refl ι H w⟩
      ·rw [hne]; rfl
      ·exact .sempty he'
     | false =>
      rw [hfit] at h
      have hnn : 0 < n := by
       rcases Xjv n with rfl | h0
       ·cases hfit
       ·exact h0
      simp only [cond_false] at h
      split at h
      ·rename_i hsp
       cases h
       have hc0 := he' hsp
       subst hc0
       have := grow_ok (ty := ty) s s (Adv.refl ι H w) (old := []) (old' := #[]) A N (by omega) (by omega) (fun d => by simp [Builtin.firstCells, loadCells, loadCellsFrom]) .nil (by simp) (by simp) hnew fln hln hc
       simpa [UB] using this
      ·cases h
    | @slice _ p _ _ c' hp hex hcc hn hl =>
     obtain ⟨old', k1, k2, k3, k4, k5⟩ := load_ok s hp hload
     have hlo : old.length = len * cellN P e := by rw [k3.length]; exact k1
     have hfc : ∀ d, (Builtin.firstCells (cellN P e) len (.slice (some ⟨p.b, p.d + ad.off, none⟩) len c')).run P { w with drawn := d } = .ok old'.toArray { w with drawn := d } := fun d => by
      simp only [Builtin.firstCells]
      exact run_loads (w := { w with drawn := d }) k1 k2
     cases hfit : XhM (Nat.add len n) cap with
     | true =>
      rw [hfit] at h
      rw [ble_iff] at hfit
      replace hfit : len + n <= cap := hfit
      simp only [cond_true] at h
      cases hnz : XhD n 0 with
      | true =>
       rw [hnz] at h
       rw [beq_iff] at hnz
       subst hnz
       cases h
       have hne := hz0 (by simp)
       refine ⟨ι, w, _, app_fits A N hz0 (by omega) (w' := w) ?_, ?_, s, Adv.refl ι H w⟩
       ·rw [hne]; rfl
       ·exact .slice hp hex hcc hn hl
      | false =>
       rw [hnz] at h
       simp only [cond_false] at h
       split at h
       ·rename_i H1 hst
        cases h
        obtain ⟨g1, g2, g3⟩ := store_ok s hp hnew fln hln hst
        refine ⟨ι, _, _, app_fits A N hz0 (by omega) ?_, ?_, g2, g3⟩
        ·grind [XaT, Xim]
        ·exact .slice hp hex hcc hfit hl
       ·cases h
     | false =>
      rw [hfit] at h
      have hgt : cap < len + n := by
       rcases Nat.lt_or_ge cap (len + n) with h0 | h0
       ·exact h0
       ·grind [ble_iff]
      simp only [cond_false] at h
      split at h
      ·rename_i hsp
       cases h
       have hce := hex hsp
       subst hce
       have := grow_ok (ty := ty) s s (Adv.refl ι H w) (old := old) (old' := old'.toArray) A N hgt (by omega) hfc (by simpa using k3) k4 hlo hnew fln hln hc
       rw [UB]
       exact this
      ·rename_i sz hsp
       cases hsz : (XhD cap 0 || !(XhD sz (cellN P e))) with
       | true => rw [hsz] at h; cases h
       | false =>
        rw [hsz] at h
        simp only [cond_false] at h
        simp only [Bool.or_eq_false_iff, Bool.not_eq_false'] at hsz
        have hsz2 := beq_iff.1 hsz.2
        subst hsz2
        split at h
        ·rename_i cs0 hget
         cases h
         rw [UB]
         by_cases hg : c' < len + n
         ·obtain ⟨s1, a1⟩ := s.kill hp
          exact grow_ok (ty := ty) s s1 a1 (old := old) (old' := old'.toArray) A N hg (by omega) hfc (by simpa using k3) k4 hlo hnew fln hln hc
         ·-- in place
          have hg : len + n <= c' := by omega
          have hL := hl _ hsp
          obtain ⟨q1, q2, q3, q4⟩ := s.obj ad.block p _ hp hget
          obtain ⟨q4, q5, q6⟩ := q4 rfl
          have hmul : (len + n) * cellN P e <= c' * cellN P e := Nat.mul_le_mul_right _ hg
          rw [XiU] at hmul
          have hcell : ∀ j, j < new'.toList.length -> (w.cell? ⟨p.b, p.d + ad.off + len * cellN P e + j, none⟩).isSome = true := fun j hj => by
           simp at hj
           have := (q2 (ad.off + len * cellN P e + j) (by omega)).some
           grind
          have run := run_storeCells_cells (P := P) p.b (p.d + ad.off + len * cellN P e) new'.toList 0 w (by simpa using hcell) (fun j hj => by
           simp at hj
           have := q5 (ad.off + len * cellN P e + j) (by omega)
           grind) (fun v hv => by
           obtain ⟨x, hx, hxr⟩ := hnew.mem_right hv
           exact flat_oneCell (hxr.flat (fln x hx)))
          rw [Nat.add_zero] at run
          obtain ⟨o1, o2, o3, o4, o5⟩ := setCells_os p.b new'.toList (p.d + ad.off + len * cellN P e) w
          have hout : ∀ i, (i < p.d + ad.off + len * cellN P e \/ p.d + ad.off + len * cellN P e + new'.size <= i) -> (w.setCells p.b (p.d + ad.off + len * cellN P e) new'.toList).cell? ⟨p.b, i, none⟩ = w.cell? ⟨p.b, i, none⟩ := fun i hi =>
           World.cell?_setCells_out p.b new'.toList _ w _ (fun _ _ => by simpa using hi)
          have hin : ∀ j (hj : j < new'.size), (w.setCells p.b (p.d + ad.off + len * cellN P e) new'.toList).cell? ⟨p.b, p.d + ad.off + len * cellN P e + j, none⟩ = some new'[j] := fun j hj => by
           have := World.cell?_setCells_in p.b new'.toList (p.d + ad.off + len * cellN P e) w hcell j (by simpa using hj)
           simpa using this
          obtain ⟨g1, g2⟩ := adopt s hp hget (w' := w.setCells p.b (p.d + ad.off + len * cellN P e) new'.toList) (q := ⟨p.b, p.d + ad.off, p.L - ad.off⟩) (xs := old ++ new) rfl (by simp) (by simp only; omega) o1 o2 o3 o4 o5
           (fun i hi => ⟨hout i (by omega), World.frozen?_setCells _ _ _ _ _⟩) (XaU _ _ _ _ _) (by
            refine ⟨by simp only [List.length_append]; omega, fun i hi => ?_, fun i x hx => ?_, fun _ => ⟨q4, fun i hi => ?_, fun hL c e' lo hi' hk => ?_⟩⟩
            ·simp only at hi ⊢
             by_cases hi2 : len * cellN P e <= i /\ i < len * cellN P e + new'.size
             ·have := hin (i - len * cellN P e) (by omega)
              rw [show p.d + ad.off + len * cellN P e + (i - len * cellN P e) = p.d + ad.off + i by omega] at this
              obtain ⟨x, hx, hxr⟩ := hnew.mem_right (y := new'[i - len * cellN P e]'(by omega)) (by simp)
              exact ⟨_, this, hxr.flat (fln x hx)⟩
             ·have := q2 (ad.off + i) (by omega)
              rw [<- Xim] at this
              exact this.eq (hout _ (by omega))
            ·simp only
             rw [List.getElem?_append] at hx
             split at hx
             ·rename_i hi2
              obtain ⟨y, y1, y2⟩ := k3.get? hx
              refine ⟨y, ?_, y2.mono (Inj.with_le s.next_none _), k4 x (Xh5 hx)⟩
              simp_all
             ·rename_i hi2
              obtain ⟨y, y1, y2⟩ := hnew.get? hx
              have hj := (Xig.1 y1).1
              simp at hj
              refine ⟨y, ?_, y2.mono (Inj.with_le s.next_none _), fln x (Xh5 hx)⟩
              grind
            ·grind [World.frozen?_setCells, Xim]
            ·simp only at hL hk ⊢
             have := (q6 (by omega)).fz (XaU p.b new'.toList (p.d + ad.off + len * cellN P e) w p.b) c e' lo hi' hk
             omega)
          refine ⟨_, _, _, app_fits A N hz0 hg ?_, ?_, g1, g2⟩
          ·grind [XaT]
          ·have hv := VRel.slice (ι := ι.with H.next ⟨p.b, p.d + ad.off, p.L - ad.off⟩) (a := ⟨H.next, 0, WV (cellN P e)⟩) (n := len + n) (c := len + n) (c' := c') (Inj.with_same ι _ _) (fun h => by cases h) hg (XhE _) (fun k hk => by
            cases hk
            grind)
           exact hv
        ·cases h
  ·cases h
 ·cases h
end
section
variable {P : Program} {B : Nat} {ι : Inj} {H : Heap} {w : World} {m : Nat} {t : Tm} {a : Act}
theorem first_zero (h : (Builtin.lenOf x).run P w = .ok n w) (size : Nat) : (Builtin.firstCells size 0 x).run P w = .ok #[] w := by
 cases x <;> first | (simp [Builtin.lenOf] at h; done) | skip
 ·simp only [Builtin.firstCells, XhJ, ByteArray.data_extract]
  simp
 ·rename_i o l c
  cases o <;> simp [Builtin.firstCells, loadCells, loadCellsFrom]
theorem t_copy (s : Sim P B ι H w) {T e : TypeId} (hT : und P T = .slice e) (he : okT P e = true) {argTypes : Array TypeId} {args : Array Value} {ty : TypeId} {x y : Xe} {x' y' v : Value} {H' : Heap}
  (h0 : argTypes[0]? = some T) (a0 : args[0]? = some x') (a1 : args[1]? = some y') (hx : VRel ι (x t) x') (hy : VRel ι (y t) y') (h : Uz (cellN P e) x y t H = some (v, H')) :
  Turned P B ι H w (Builtin.copy_ argTypes ty args) v H' := by
 unfold Uz at h
 generalize x t = xv at h hx
 generalize y t = yv at h hy
 split at h
 ·rename_i cp
  cases hx
  split at h
  ·rename_i k hk
   cases h
   have hl := lenV_ok (P := P) (w := w) hy hk
   refine ⟨ι, w, goInt 0, ?_, .int _ _, s, Adv.refl ι H w⟩
   unfold Builtin.copy_
   simp_all [XhG, Xy, XhF, ZT, Nat.min_zero, first_zero]
  ·cases h
 ·rename_i ad dl cp
  split at h
  ·rename_i k hk
   have hl := lenV_ok (P := P) (w := w) hy hk
   have hmin : (bif XhM k dl then k else dl) = Nat.min k dl := by
    cases hb : XhM k dl with
    | true => simp_all
    | false =>
     grind [ble_iff, Nat.min_eq_right]
   rw [hmin] at h
   split at h
   ·rename_i cs hcs
    obtain ⟨cs', c1, c2, c3, c4⟩ := elems_ok s hy hk (Nat.min_le_left k dl) hcs
    have c1 := c1 w.drawn
    have c1 : (Builtin.firstCells (cellN P e) (Nat.min k dl) y').run P w = .ok cs' w := c1
    have hlen : cs'.size = Nat.min k dl * cellN P e := by rw [<- c4, c2.length]; simp
    cases hz : XhD (Nat.min k dl) 0 with
    | true =>
     rw [hz] at h
     rw [beq_iff] at hz
     cases h
     have hne : cs' = #[] := Array.eq_empty_of_size_eq_zero (by rw [hlen, hz]; simp)
     have hsv : ∃ oa' cp', x' = .slice (some oa') dl cp' := by cases hx <;> exact ⟨_, _, rfl⟩
     obtain ⟨oa', cp', rfl⟩ := hsv
     refine ⟨ι, w, goInt 0, ?_, .int _ _, s, Adv.refl ι H w⟩
     unfold Builtin.copy_
     simp only [h0, a0, a1, XhG, Xy hT (by simp), XhF, hl, ZT he, c1, hne]
     simp [storeCells, hz]
    | false =>
     rw [hz] at h
     simp only [cond_false] at h
     split at h
     ·rename_i H1 hst
      cases h
      cases hx with
      | sempty he' =>
       simp_all
      | slice hp hex hc hn hl' =>
       obtain ⟨g1, g2, g3⟩ := store_ok s hp c2 c3 c4 hst
       refine ⟨ι, _, goInt (Nat.min k dl), ?_, .int _ _, g2, g3⟩
       unfold Builtin.copy_
       simp_all [XhG, Xy, XhF, ZT, XhJ]
     ·cases h
   ·cases h
  ·cases h
 ·cases h
theorem ZP {r : Nat} {o o' : Obj} (h : w.heap[r]? = some o) (hc : ∀ c e f, o ≠ .cells c e f) : (setObj r o').run P w = .ok () { w with heap := w.heap.setIfInBounds r o' } := by
 cases o <;> first | exact absurd rfl (hc _ _ _) | simp [setObj, Sem.run, h]
theorem VU {r : Nat} {o o' : Obj} (h : w.heap[r]? = some o) : ({ w with heap := w.heap.setIfInBounds r o' } : World).heap[r]? = some o' := by
 grind
theorem set_other {r k : Nat} {o' : Obj} (h : k ≠ r) : ({ w with heap := w.heap.setIfInBounds r o' } : World).heap[k]? = w.heap[k]? := by
 grind
theorem Ka (s : Sim P B ι H w) {b0 : Nat} {p0 : Place} {o0 o1 : AObj} {O : Obj} (h0 : ι b0 = some p0) (g0 : H.get b0 = some o0) (fo : Follows o0 o1) (hn : ∀ wr xs, o0 ≠ .cells wr xs)
  (hr : ObjRel P B ι (H.put b0 (some o1)) { w with heap := w.heap.setIfInBounds p0.b O } p0 o1) :
  Sim P B ι (H.put b0 (some o1)) { w with heap := w.heap.setIfInBounds p0.b O } /\ Adv ι H w ι (H.put b0 (some o1)) { w with heap := w.heap.setIfInBounds p0.b O } :=
 s.update h0 g0 fo rfl ⟨rfl, XhE _⟩ rfl (by simp) (fun k hk => set_other hk) (fun wr xs e => absurd e (hn wr xs)) (fun wr xs e => absurd e (hn wr xs)) hr
theorem t_clear (s : Sim P B ι H w) {T : TypeId} {z : List Value} (hT : (∃ e zv, und P T = .slice e /\ ZH P e = some zv /\ z = Yb zv) \/ ∃ k e, und P T = .map k e /\ z = []) {argTypes : Array TypeId} {args : Array Value} {ty : TypeId} {x : Xe}
  (h0 : argTypes[0]? = some T) (a0 : args[0]? = some x') (hx : VRel ι (x t) x') (h : XdD z x t H = some (v, H')) : Turned P B ι H w (Builtin.clear_ argTypes ty args) v H' := by
 have hu : ∃ d, (underlying T).run P w = .ok d w /\ (d = und P T) := by
  rcases hT with ⟨e, zv, h1, _⟩ | ⟨k, e, h1, _⟩
  ·grind [Xy]
  ·grind [Xy]
 obtain ⟨d, hu, hd⟩ := hu
 have fin0 : (x' = .map none \/ (∃ n c, x' = .slice none n c) \/ ∃ a c, x' = .slice a 0 c) -> v = .tuple ⟨[]⟩ -> H' = H -> Turned P B ι H w (Builtin.clear_ argTypes ty args) v H' := by
  intro hq hv hH
  subst hv; subst hH
  refine ⟨ι, w, .tuple #[], ?_, YO .nil, s, Adv.refl ι _ w⟩
  unfold Builtin.clear_
  simp only [h0, a0, XhG, hu, XhF]
  rcases hq with rfl | ⟨n, c, rfl⟩ | ⟨o, c, rfl⟩
  ·simp
  ·simp
  ·cases o <;> simp
 unfold XdD at h
 generalize x t = xv at h hx
 split at h
 ·cases h
  cases hx
  exact fin0 (.inl rfl) rfl rfl
 ·cases h
  cases hx
  exact fin0 (.inr (.inl ⟨_, _, rfl⟩)) rfl rfl
 ·rename_i ad n cp
  cases hz : XhD n 0 with
  | true =>
   rw [hz] at h
   rw [beq_iff] at hz
   subst hz
   cases h
   have : ∃ oa' cp', x' = .slice (some oa') 0 cp' := by cases hx <;> exact ⟨_, _, rfl⟩
   grind
  | false =>
   rw [hz] at h
   have hn : n ≠ 0 := fun e => by rw [e] at hz; cases hz
   simp only [cond_false] at h
   cases hl : XhD (Wy z) 0 with
   | true => rw [hl] at h; cases h
   | false =>
    rw [hl] at h
    simp only [cond_false] at h
    split at h
    ·rename_i H1 hst
     cases h
     rcases hT with ⟨e, zv, t1, t2, t3⟩ | ⟨k, e, t1, t2⟩
     ·subst t3
      cases hx with
      | sempty => exact absurd rfl hn
      | slice hp hex hc hn' hl' =>
       have hpl := (YZ t2).choose_spec.2.2
       obtain ⟨r1, r2⟩ := made_rel (ι := ι) hpl n
       obtain ⟨g1, g2, g3⟩ := store_ok s hp r1 r2 (by rw [Xf5, ZD]; rfl) hst
       refine ⟨ι, _, .tuple #[], ?_, YO .nil, g2, g3⟩
       unfold Builtin.clear_
       obtain ⟨n, rfl⟩ : ∃ n', n = n' + 1 := ⟨n - 1, by omega⟩
       rw [t1] at hd
       subst hd
       have hzc : Builtin.zeroCells zv.cells (n + 1) = madeCells zv.cells ((n + 1) * (Yb zv).length) := by
        unfold Builtin.zeroCells madeCells
        rw [zcells_size hpl]
       simp_all [XhG, XhF, W3, XhJ]
     ·subst t2
      cases hl
    ·cases h
 ·rename_i r
  cases hx
  rename_i p hp
  split at h
  ·rename_i sh ver es hg
   cases h
   obtain ⟨q1, q2, ms, clock, q3, q4⟩ := XdG s hp hg
   obtain ⟨g1, g2⟩ := Ka s hp hg (o1 := .map sh (Xid ver) []) (O := .map #[] clock) (Xh0 ver) (by simp)
    ⟨q1, q2, #[], clock, VU q3, ⟨[], .refl _, .nil⟩, by simp, .nil, .nil, by simp⟩
   refine ⟨ι, _, .tuple #[], ?_, YO .nil, g1, g2⟩
   unfold Builtin.clear_
   simp_all [XhG, XhF, Ye, ZP, XhJ]
  ·cases h
 ·cases h
theorem t_nextStr (s : Sim P B ι H w) {it : Xe} {it' v : Value} {ty : TypeId} {H' : Heap} (hx : VRel ι (it t) it') (h : Xer it t H = some (v, H')) : Turned P B ι H w (Instr.next it' true ty) v H' := by
 unfold Xer at h
 generalize it t = xv at h hx
 split at h
 ·rename_i r sp
  cases hx with
  | @ptr ad p hp =>
   split at h
   ·rename_i st pos hg
    obtain ⟨q1, q2, q3⟩ := s.obj r p _ hp hg
    have e : p.d + (⟨r, 0, sp⟩ : Addr).off = 0 := by simp [q1]
    rw [e]
    split at h
    ·rename_i hlt
     cases h
     obtain ⟨g1, g2⟩ := Ka s hp hg (o1 := .siter st (pos + (Utf8.decode st pos).2)) (O := .stringIter st (pos + (Utf8.decode st pos).2)) trivial (by simp) ⟨q1, q2, VU q3⟩
     refine ⟨ι, _, .tuple #[.bool true, goInt pos, .int .i32 (Utf8.decode st pos).1], ?_, YO (.cons (.bool true) (.cons (.int _ _) (.cons (.int _ _) .nil))), g1, g2⟩
     unfold Instr.next
     simp_all [XhG, Ye, XhF, if_pos, ZP, XhJ]
    ·rename_i hlt
     cases h
     refine ⟨ι, w, .tuple #[.bool false], ?_, YO (.cons (.bool false) .nil), s, Adv.refl ι H w⟩
     unfold Instr.next
     simp only [XhG, Ye q3 (by simp), XhF, if_neg hlt, XhJ]
   ·cases h
 ·cases h
end
section
variable {P : Program} {B : Nat} {ι : Inj} {H : Heap} {w : World} {m : Nat} {t : Tm} {a : Act}
section
variable {sh : KSh} {es : List (Value × Value)} {ms : Array MapEntry} {clock : Nat}
theorem setEntry_ok {k : Value} (hk : Wg sh k = true) {es es' : List (Value × Value)} (he : ∀ e ∈ es, Wg sh e.1 = true) (h : XaN k v (JL sh) es = some es') :
  ((∀ e ∈ es, e.1 ≠ k) /\ es' = es ++ [(k, v)]) \/ ∃ l1 v0 l2, es = l1 ++ (k, v0) :: l2 /\ es' = l1 ++ (k, v) :: l2 := by
 induction es generalizing es' with
 | nil => cases h; exact .inl ⟨by simp, rfl⟩
 | cons e es ih =>
  obtain ⟨k', v'⟩ := e
  obtain ⟨r, h1, h2⟩ := Xaf hk (he (k', v') (by simp))
  simp only [XaN, h1] at h
  cases r with
  | true =>
   cases h
   have := h2.1 rfl
   simp only at this
   subst this
   exact .inr ⟨[], v', es, rfl, rfl⟩
  | false =>
   grind
theorem dropEntry_ok {k : Value} (hk : Wg sh k = true) {es es' : List (Value × Value)} (he : ∀ e ∈ es, Wg sh e.1 = true) (h : Xeo k (JL sh) es = some es') :
  ((∀ e ∈ es, e.1 ≠ k) /\ es' = es) \/ ∃ l1 v0 l2, es = l1 ++ (k, v0) :: l2 /\ es' = l1 ++ l2 := by
 induction es generalizing es' with
 | nil => cases h; exact .inl ⟨by simp, rfl⟩
 | cons e es ih =>
  obtain ⟨k', v'⟩ := e
  obtain ⟨r, h1, h2⟩ := Xaf hk (he (k', v') (by simp))
  simp only [Xeo, h1] at h
  cases r with
  | true =>
   cases h
   have := h2.1 rfl
   simp only at this
   subst this
   exact .inr ⟨[], v', _, rfl, rfl⟩
  | false =>
   grind
theorem MapRel.split (h : MapRel ι sh es ms clock) {l1 l2 : List (Value × Value)} {k : Value} (he : es = l1 ++ (k, v) :: l2) {i : Nat} {q : MapEntry} (hq : ms.toList[i]? = some q) (hk : q.key = k) :
  ∃ m1 m2, (m1 ++ q :: m2).Perm ms.toList /\ All2 (ERel ι) l1 m1 /\ All2 (ERel ι) l2 m2 /\ VRel ι v q.val := by
 obtain ⟨L, h1, h2⟩ := h.perm
 have sp : ∀ (l1 : List (Value × Value)) (x : Value × Value) (l2 : List (Value × Value)) (L : List MapEntry), All2 (ERel ι) (l1 ++ x :: l2) L -> ∃ m1 y m2, L = m1 ++ y :: m2 /\ All2 (ERel ι) l1 m1 /\ ERel ι x y /\ All2 (ERel ι) l2 m2 := by
  intro l1
  induction l1 with
  | nil => intro x l2 L h; cases h with
   | cons hx ht => exact ⟨[], _, _, rfl, .nil, hx, ht⟩
  | cons z l1 ih => intro x l2 L h; cases h with
   | cons hx ht =>
    obtain ⟨m1, y, m2, rfl, g1, g2, g3⟩ := ih x l2 _ ht
    exact ⟨_ :: m1, y, m2, rfl, .cons hx g1, g2, g3⟩
 subst he
 obtain ⟨m1, y, m2, rfl, g1, g2, g3⟩ := sp _ _ _ _ h2
 have hyk : y.key = k := Jj (h.keys (k, v) (by simp)) g2.1
 have hym : y ∈ ms.toList := h1.mem_iff.1 (by simp)
 have : q = y := by
  have hn := h.nodup
  have hqm := Xh5 hq
  obtain ⟨i1, hi1, hi2⟩ := XiG hqm
  obtain ⟨i2, hi3, hi4⟩ := XiG hym
  have : i1 = i2 := by
   apply (List.getElem_inj (h₀ := by simpa using hi1) (h₁ := by simpa using hi3) hn).1
   simp only [Xjm, hi2, hi4]
   rw [hk, hyk]
  subst this
  rw [<- hi2, <- hi4]
 subst this
 exact ⟨m1, m2, h1, g1, g3, g2.2⟩
theorem keyEq_false {y : Value} (hx : Wg sh x = true) (hy : Wg sh y = true) (h : x ≠ y) : JL sh x y = some false := by
 grind [Xaf]
theorem sameBits_leaf {l : Jf} (h : XbT l x = true) (n : Nat) : Instr.sameBits n x x = true := by
 cases l <;> cases x <;> first | (cases h; done) | skip
 ·unfold Instr.sameBits; simp
 ·unfold Instr.sameBits; rw [beq_bytes]
 ·unfold Instr.sameBits; simp
theorem sameBits_key (h : Wg sh x = true) (n : Nat) : Instr.sameBits (n + 1) x x = true := by
 cases sh with
 | one l => exact sameBits_leaf h _
 | many c k =>
  cases x <;> first | (cases h; done) | skip
  rename_i cs
  obtain ⟨_, h2⟩ := Vg (show VF (.int k) cs.toList c = true from h)
  unfold Instr.sameBits
  simp only [beq_self_eq_true, Bool.true_and]
  generalize cs.toList = xs at h2
  induction xs with
  | nil => rfl
  | cons x xs ih => simp only [List.zip_cons_cons, List.all_cons, sameBits_leaf (h2 x (by simp)), Bool.true_and]; exact ih fun y hy => h2 y (by simp [hy])
theorem MapRel.insert (h : MapRel ι sh es ms clock) {k v' : Value} (hk : Wg sh k = true) (hv : VRel ι v v') (hn : ∀ e ∈ es, e.1 ≠ k) : MapRel ι sh (es ++ [(k, v)]) (ms.push { key := k, val := v', born := clock }) (clock + 1) := by
 obtain ⟨L, h1, h2⟩ := h.perm
 have hkk : VRel ι k k := by
  cases sh with
  | one l => cases l <;> cases k <;> first | (cases hk; done) | constructor
  | many c q =>
   cases k <;> first | (cases hk; done) | skip
   rename_i cs
   obtain ⟨_, g2⟩ := Vg (show VF (.int q) cs.toList c = true from hk)
   have hl : ∀ x ∈ cs.toList, VRel ι x x /\ Y8 x := fun x hx => by
    have := g2 x hx
    cases x <;> first | (cases this; done) | exact ⟨by constructor, trivial⟩
   exact Xev (a' := cs) (xs := cs.toList) (All2.refl fun x hx => (hl x hx).1) fun x hx => (hl x hx).2
 refine ⟨⟨L ++ [{ key := k, val := v', born := clock }], by rw [Array.toList_push]; exact h1.append_right _, h2.append (.cons ⟨hkk, hv⟩ .nil)⟩, ?_, ?_, ?_, ?_⟩
 ·intro e he
  rcases XhV.1 he with he | he
  ·exact h.keys e he
  ·simp at he; subst he; exact hk
 ·rw [distinct, Xjw]
  refine ⟨h.dist, by simp, fun x hx y hy => ?_⟩
  simp at hy
  subst hy
  exact ⟨keyEq_false (h.keys x hx) hk (hn x hx), keyEq_false hk (h.keys x hx) fun e => hn x hx e.symm⟩
 ·rw [Array.toList_push, Xjw]
  refine ⟨h.born, by simp, fun x hx y hy => ?_⟩
  simp at hy
  subst hy
  have := h.old x hx
  simp only
  omega
 ·intro q hq
  rw [Array.toList_push] at hq
  rcases XhV.1 hq with hq | hq
  ·have := h.old q hq; omega
  ·simp at hq; subst hq; simp
theorem toList_modify (ms : Array MapEntry) (i : Nat) (f : MapEntry -> MapEntry) {q : MapEntry} (hq : ms.toList[i]? = some q) : (ms.modify i f).toList = ms.toList.take i ++ f q :: ms.toList.drop (i + 1) := by
 grind [Xig, Array.toList_modify, List.modify_eq_take_cons_drop]
theorem split_at {α : Type} {L : List α} {i : Nat} {q : α} (hq : L[i]? = some q) : L = L.take i ++ q :: L.drop (i + 1) := by
 grind [Xig, List.take_append_drop, List.drop_eq_getElem_cons]
theorem MapRel.replace (h : MapRel ι sh es ms clock) {l1 l2 : List (Value × Value)} {k v0 v' : Value} (he : es = l1 ++ (k, v0) :: l2) {i : Nat} {q : MapEntry} (hq : ms.toList[i]? = some q) (hk : q.key = k) (hv : VRel ι v v') (hkk : VRel ι k k) :
  MapRel ι sh (l1 ++ (k, v) :: l2) (ms.modify i fun e => { e with key := k, val := v' }) clock := by
 obtain ⟨m1, m2, p1, p2, p3, p4⟩ := h.split he hq hk
 have hml := toList_modify ms i (fun e => { e with key := k, val := v' }) hq
 have hsp := split_at hq
 subst he
 refine ⟨⟨m1 ++ { q with key := k, val := v' } :: m2, ?_, p2.append (.cons ⟨hkk, hv⟩ p3)⟩, ?_, ?_, ?_, ?_⟩
 ·rw [hml]
  have g1 : (m1 ++ m2).Perm (ms.toList.take i ++ ms.toList.drop (i + 1)) := by
   have p1' : (m1 ++ q :: m2).Perm (ms.toList.take i ++ q :: ms.toList.drop (i + 1)) := p1.trans (by rw [<- hsp])
   exact (Xjg.symm.trans (p1'.trans Xjg)).cons_inv
  exact (Xjg.trans ((List.Perm.cons _ g1).trans Xjg.symm))
 ·intro e he
  rcases XhV.1 he with he | he
  ·exact h.keys e (by simp [he])
  ·rcases List.mem_cons.1 he with rfl | he
   ·exact h.keys (k, v0) (by simp)
   ·exact h.keys e (by simp [he])
 ·have := h.dist
  rw [distinct, Xjw, Xjl] at this ⊢
  obtain ⟨d1, ⟨d2, d3⟩, d4⟩ := this
  refine ⟨d1, ⟨fun x hx => d2 x hx, d3⟩, fun x hx y hy => ?_⟩
  rcases List.mem_cons.1 hy with rfl | hy
  ·exact d4 x hx (k, v0) (by simp)
  ·exact d4 x hx y (by simp [hy])
 ·have := h.born
  grind [Xjl]
 ·intro x hx
  rw [hml] at hx
  have ho := h.old
  grind
end
end
section
variable {P : Program} {B : Nat} {ι : Inj} {H : Heap} {w : World} {m : Nat} {t : Tm} {a : Act}
variable {sh : KSh} {es : List (Value × Value)} {ms : Array MapEntry} {clock : Nat}
theorem key_rel {k : Value} (hk : Wg sh k = true) : VRel ι k k := by
 cases sh with
 | one l => cases l <;> cases k <;> first | (cases hk; done) | constructor
 | many c q =>
  cases k <;> first | (cases hk; done) | skip
  rename_i cs
  obtain ⟨_, g2⟩ := Vg (show VF (.int q) cs.toList c = true from hk)
  have hl : ∀ x ∈ cs.toList, VRel ι x x /\ Y8 x := fun x hx => by
   have := g2 x hx
   cases x <;> first | (cases this; done) | exact ⟨by constructor, trivial⟩
  exact Xev (a' := cs) (xs := cs.toList) (All2.refl fun x hx => (hl x hx).1) fun x hx => (hl x hx).2
theorem MapRel.dropped (h : MapRel ι sh es ms clock) {l1 l2 : List (Value × Value)} {k v0 : Value} (he : es = l1 ++ (k, v0) :: l2) {i : Nat} {q : MapEntry} (hq : ms.toList[i]? = some q) (hk : q.key = k) :
  MapRel ι sh (l1 ++ l2) (ms.eraseIdxIfInBounds i) clock := by
 obtain ⟨m1, m2, p1, p2, p3, p4⟩ := h.split he hq hk
 have hi : i < ms.size := by have := (Xig.1 hq).1; simpa using this
 have hml : (ms.eraseIdxIfInBounds i).toList = ms.toList.take i ++ ms.toList.drop (i + 1) := by
  unfold Array.eraseIdxIfInBounds
  rw [dif_pos hi, Array.toList_eraseIdx, List.eraseIdx_eq_take_drop_succ]
 have hsp := split_at hq
 have hsub : (ms.eraseIdxIfInBounds i).toList.Sublist ms.toList := by
  rw [hml]
  conv => rhs; rw [hsp]
  exact (List.Sublist.refl _).append (List.sublist_cons_self _ _)
 subst he
 refine ⟨⟨m1 ++ m2, ?_, p2.append p3⟩, ?_, ?_, ?_, ?_⟩
 ·rw [hml]
  have p1' : (m1 ++ q :: m2).Perm (ms.toList.take i ++ q :: ms.toList.drop (i + 1)) := p1.trans (by rw [<- hsp])
  exact (Xjg.symm.trans (p1'.trans Xjg)).cons_inv
 ·intro e he
  rcases XhV.1 he with he | he
  ·exact h.keys e (by simp [he])
  ·exact h.keys e (by simp [he])
 ·exact List.Pairwise.sublist ((List.Sublist.refl _).append (List.sublist_cons_self _ _)) h.dist
 ·exact List.Pairwise.sublist hsub h.born
 ·exact fun x hx => h.old x (hsub.subset hx)
theorem t_mapUpdate (s : Sim P B ι H w) {T kt e : TypeId} (hT : und P T = .map kt e) (hsh : XcW P kt = some sh) {mo ko xo : Xe} {m' k' : Value} (hm : VRel ι (mo t) m') (hk : VRel ι (ko t) k') (hx : VRel ι (xo t) x')
  (h : Wz sh mo ko xo t H = some (v, H')) : v = undef /\ Done P B ι H w (Instr.mapUpdate T m' k' x') H' := by
 unfold Wz at h
 generalize mo t = mv at h hm
 generalize ko t = kv at h hk
 generalize xo t = xv at h hx
 cases hkk : Wg sh kv with
 | false => rw [hkk] at h; cases h
 | true =>
  rw [hkk] at h
  simp only [XiI, cond_false] at h
  have := Jj hkk hk
  subst this
  split at h
  ·rename_i r
   cases hm
   rename_i p hp
   split at h
   ·rename_i sh' ver es hg
    cases hs : XcT sh sh' with
    | false => rw [hs] at h; cases h
    | true =>
     rw [hs] at h
     have := sameSh_eq hs
     subst this
     simp only [XiI, cond_false] at h
     split at h
     ·rename_i es' hes
      cases h
      refine ⟨rfl, ?_⟩
      obtain ⟨q1, q2, ms, clock, q3, q4⟩ := XdG s hp hg
      obtain ⟨r0, f1, f2⟩ := Xf6 (P := P) (w := w) hsh hkk (L := ms.toList) fun e he => q4.keysC he
      have hse := setEntry_ok hkk q4.keys hes
      cases r0 with
      | none =>
       have hins : (∀ e ∈ es, e.1 ≠ k') /\ es' = es ++ [(k', xv)] := by
        rcases hse with hse | ⟨l1, v0, l2, rfl, _⟩
        ·exact hse
        ·obtain ⟨q, g1, g2, _⟩ := q4.ofE (e := (k', v0)) (by simp)
         exact absurd g2 (f2 q g1)
       obtain ⟨hne, rfl⟩ := hins
       obtain ⟨g1, g2⟩ := Ka s hp hg (o1 := .map sh (Xid ver) (es ++ [(k', xv)])) (O := .map (ms.push { key := k', val := x', born := clock }) (clock + 1)) (Xh0 ver) (by simp)
        ⟨q1, q2, _, _, VU q3, q4.insert hkk hx hne⟩
       refine ⟨ι, _, ?_, g1, g2⟩
       unfold Instr.mapUpdate
       simp_all [XhG, Xy, XhF, Ye, VT, ZP]
      | some pr =>
       obtain ⟨i, v0'⟩ := pr
       obtain ⟨q, c1, c2, _⟩ := f2
       have hrep : ∃ l1 v0 l2, es = l1 ++ (k', v0) :: l2 /\ es' = l1 ++ (k', xv) :: l2 := by
        rcases hse with ⟨hse, _⟩ | hse
        ·obtain ⟨e', g1, g2, _⟩ := q4.ofM (Xh5 c1)
         exact absurd (g2.symm.trans c2) (hse e' g1)
        ·exact hse
       obtain ⟨l1, v0, l2, rfl, rfl⟩ := hrep
       have c1' : ms[i]? = some q := by simpa using c1
       have hstay : (Instr.keyThatStays (((ms[i]?).map (·.key)).getD k') k').run P w = .ok k' w := by
        rw [c1']
        simp only [Xjc, Option.getD_some, c2]
        unfold Instr.keyThatStays
        rw [sameBits_key hkk 9999]
        rfl
       obtain ⟨g1, g2⟩ := Ka s hp hg (o1 := .map sh (Xid ver) (l1 ++ (k', xv) :: l2)) (O := .map (ms.modify i fun e => { e with key := k', val := x' }) clock) (Xh0 ver) (by simp)
        ⟨q1, q2, _, _, VU q3, q4.replace rfl c1 c2 hx (key_rel hkk)⟩
       refine ⟨ι, _, ?_, g1, g2⟩
       unfold Instr.mapUpdate
       simp_all [XhG, Xy, XhF, Ye, VT, ZP]
     ·cases h
   ·cases h
  ·cases h
theorem t_delete (s : Sim P B ι H w) {T kt e : TypeId} (hT : und P T = .map kt e) (hsh : XcW P kt = some sh) {argTypes : Array TypeId} {args : Array Value} {ty : TypeId} {mo ko : Xe} {m' k' v : Value} {H' : Heap}
  (h0 : argTypes[0]? = some T) (a0 : args[0]? = some m') (a1 : args[1]? = some k') (hm : VRel ι (mo t) m') (hk : VRel ι (ko t) k')
  (h : XaO sh mo ko t H = some (v, H')) : Turned P B ι H w (Builtin.delete_ argTypes ty args) v H' := by
 unfold XaO at h
 generalize mo t = mv at h hm
 generalize ko t = kv at h hk
 cases hkk : Wg sh kv with
 | false => rw [hkk] at h; cases h
 | true =>
  rw [hkk] at h
  simp only [XiI, cond_false] at h
  have := Jj hkk hk
  subst this
  split at h
  ·cases hm
   cases h
   refine ⟨ι, w, .tuple #[], ?_, YO .nil, s, Adv.refl ι H w⟩
   unfold Builtin.delete_
   simp_all [XhG, Xy, XhF, VT, XhJ]
  ·rename_i r
   cases hm
   rename_i p hp
   split at h
   ·rename_i sh' ver es hg
    cases hs : XcT sh sh' with
    | false => rw [hs] at h; cases h
    | true =>
     rw [hs] at h
     have := sameSh_eq hs
     subst this
     simp only [XiI, cond_false] at h
     split at h
     ·rename_i es' hes
      cases h
      obtain ⟨q1, q2, ms, clock, q3, q4⟩ := XdG s hp hg
      obtain ⟨r0, f1, f2⟩ := Xf6 (P := P) (w := w) hsh hkk (L := ms.toList) fun e he => q4.keysC he
      have hse := dropEntry_ok hkk q4.keys hes
      cases r0 with
      | none =>
       have hins : es' = es := by
        rcases hse with hse | ⟨l1, v0, l2, rfl, _⟩
        ·exact hse.2
        ·obtain ⟨q, g1, g2, _⟩ := q4.ofE (e := (k', v0)) (by simp)
         exact absurd g2 (f2 q g1)
       subst hins
       obtain ⟨g1, g2⟩ := Ka s hp hg (o1 := .map sh (Xid ver) es') (O := .map ms clock) (Xh0 ver) (by simp)
        ⟨q1, q2, _, _, VU q3, q4⟩
       refine ⟨ι, _, .tuple #[], ?_, YO .nil, g1, g2⟩
       unfold Builtin.delete_
       simp_all [XhG, Xy, XhF, Ye, VT, ZP, XhJ]
      | some pr =>
       obtain ⟨i, v0'⟩ := pr
       obtain ⟨q, c1, c2, _⟩ := f2
       have hrep : ∃ l1 v0 l2, es = l1 ++ (k', v0) :: l2 /\ es' = l1 ++ l2 := by
        rcases hse with ⟨hse, _⟩ | hse
        ·obtain ⟨e', g1, g2, _⟩ := q4.ofM (Xh5 c1)
         exact absurd (g2.symm.trans c2) (hse e' g1)
        ·exact hse
       obtain ⟨l1, v0, l2, rfl, rfl⟩ := hrep
       obtain ⟨g1, g2⟩ := Ka s hp hg (o1 := .map sh (Xid ver) (l1 ++ l2)) (O := .map (ms.eraseIdxIfInBounds i) clock) (Xh0 ver) (by simp)
        ⟨q1, q2, _, _, VU q3, q4.dropped rfl c1 c2⟩
       refine ⟨ι, _, .tuple #[], ?_, YO .nil, g1, g2⟩
       unfold Builtin.delete_
       simp_all [XhG, Xy, XhF, Ye, VT, ZP, XhJ]
     ·cases h
   ·cases h
  ·cases h
theorem next_ok (s : Sim P B ι H w) {it it' : Value} {ty : TypeId} (hx : VRel ι it it') {f : Nat -> Option (Value × Heap)} (h : nextMap H it = some (n, f)) :
  ∃ j, (n = 0 /\ j = 0 \/ j < n) /\ ∀ v H', f j = some (v, H') -> Turned P B ι H w (Instr.next it' false ty) v H' := by
 unfold nextMap at h
 split at h
 ·rename_i r sp
  cases hx with
  | @ptr ad p hp =>
   have e0 : ∀ q : Place, q.d = 0 -> q.d + (⟨r, 0, sp⟩ : Addr).off = 0 := fun q hq => by simp [hq]
   split at h
   ·rename_i ver left last hg
    obtain ⟨q1, q2, q3, q4, since, seen, stepped, q5⟩ := s.obj r p _ hp hg
    cases h
    refine ⟨0, .inl ⟨rfl, rfl⟩, fun v H' hv => ?_⟩
    cases hv
    refine ⟨ι, w, .tuple #[.bool false], ?_, YO (.cons (.bool false) .nil), s, Adv.refl ι H w⟩
    rw [e0 p q1]
    unfold Instr.next
    simp only [XhG, Ye q5 (by simp), XhF, XhJ]
   ·rename_i mb ver left last hg
    obtain ⟨q1, q2, pm, since, seen, stepped, q3, q4, q5, q6⟩ := s.obj r p _ hp hg
    rw [e0 p q1]
    split at h
    ·rename_i sh ver' es hg'
     cases hv : XhD ver ver' with
     | false => rw [hv] at h; cases h
     | true =>
      rw [hv] at h
      have := beq_iff.1 hv
      subst this
      simp only [cond_true] at h
      obtain ⟨ms, m1, m2, ⟨L, m3, m4⟩, m5⟩ := q6 sh es hg'
      obtain ⟨u1, u2, ms', clock', u3, u4⟩ := XdG s q3 hg'
      rw [m1] at u3
      have hcl : ms = ms' /\ since = clock' := by cases u3; exact ⟨rfl, rfl⟩
      obtain ⟨rfl, rfl⟩ := hcl
      -- the model's own look at the map
      have hguard : (!seen.isEmpty && !ms.isEmpty && ms.all (·.born >= stepped)) = false := by
       rcases m2 with hse | hse
       ·rw [hse]; simp
       ·rw [hse]
        by_cases hem : ms.isEmpty = true
        ·simp [hem]
        ·have : ms.all (fun x => decide (x.born >= since)) = false := by
          rw [<- Bool.not_eq_true]
          intro hall
          rw [Array.all_eq_true_iff_forall_mem] at hall
          have hne : 0 < ms.size := by
           rcases Xjv ms.size with h0 | h0
           ·simp_all
           ·exact h0
          have h1 := hall ms[0] (by simp)
          have h2 := u4.old ms[0] (by simp)
          simp at h1
          omega
         rw [this]; simp
      have hold : (ms.filter fun (e : MapEntry) => !seen.contains e.born).filter (fun e => decide (e.born < since)) = ms.filter fun (e : MapEntry) => !seen.contains e.born := by
       apply Array.filter_eq_self.2
       intro x hx
       have := u4.old x (by simp_all)
       simpa using this
      have hnew : (ms.filter fun (e : MapEntry) => !seen.contains e.born).filter (fun e => decide (e.born >= since)) = #[] := by
       apply Array.filter_eq_empty_iff.2
       intro x hx
       have := u4.old x (by simp_all)
       simp
       omega
      have hLc : (ms.filter fun (e : MapEntry) => !seen.contains e.born).toList = ms.toList.filter fun (e : MapEntry) => !seen.contains e.born := Array.toList_filter ..
      have hl : left.length = (ms.filter fun (e : MapEntry) => !seen.contains e.born).size := by
       have := congrArg List.length hLc
       rw [Array.length_toList] at this
       rw [m4.length, m3.length_eq]
       exact this.symm
      -- one of those that are left is taken
      have take : ∀ (d i : Nat) (hd : w.drawn <= d) (hi : i < (ms.filter fun (e : MapEntry) => !seen.contains e.born).size), (choose (.mapNext (ms.filter fun (e : MapEntry) => !seen.contains e.born).size)).run P w = .ok i { w with drawn := d } ->
        ∃ j e, left[j]? = some e /\ Turned P B ι H w (Instr.next (.pointer (some ⟨p.b, 0, none⟩)) false ty) (.tuple ⟨[.bool true, e.1, e.2]⟩) (H.put r (some (.miter (some mb) ver (Xes left j) (some e)))) := by
       intro d i hd hi hch
       have hqm : (ms.filter fun (e : MapEntry) => !seen.contains e.born)[i] ∈ L := m3.mem_iff.2 (by grind)
       generalize hqe : (ms.filter fun (e : MapEntry) => !seen.contains e.born)[i] = q at hqm
       obtain ⟨j, hj, hjq⟩ := XiG hqm
       have hjl : j < left.length := by rw [m4.length]; exact hj
       have hje : left[j]? = some left[j] := XhL hjl
       have her : ERel ι left[j] q := by rw [<- hjq]; exact m4.get j hjl hj
       refine ⟨j, left[j], hje, ?_⟩
       have s1 := s.drew d
       have hpq : p.b ≠ pm.b := by
        intro e
        obtain ⟨_, _, _, _, c1, _⟩ := s.apart r mb p pm _ _ (by rintro rfl; rw [hg] at hg'; cases hg') hp q3 hg hg' e
        cases c1
       have hmL : ∃ b1 b2, L = b1 ++ q :: b2 /\ All2 (ERel ι) (Xes left j) (b1 ++ b2) := by
        have gen : ∀ (left : List (Value × Value)) (L : List MapEntry) (j : Nat), All2 (ERel ι) left L -> L[j]? = some q -> ∃ b1 b2, L = b1 ++ q :: b2 /\ All2 (ERel ι) (Xes left j) (b1 ++ b2) := by
         intro left L j hA
         induction hA generalizing j with
         | nil => intro h; simp at h
         | cons hx ht ih =>
          intro h
          cases j with
          | zero => simp at h; subst h; exact ⟨[], _, rfl, ht⟩
          | succ j =>
           obtain ⟨b1, b2, c1, c2⟩ := ih j (by simpa using h)
           exact ⟨_ :: b1, b2, by rw [c1]; rfl, .cons hx c2⟩
        exact gen left L j m4 (by rw [XhL hj, hjq])
       obtain ⟨b1, b2, c1, c2⟩ := hmL
       have hqms : q ∈ ms.toList := (List.mem_filter.1 (m3.mem_iff.1 hqm)).1
       have hborn : (b1 ++ q :: b2).Pairwise fun a b => a.born ≠ b.born := by
        rw [<- c1]
        have h1 : (ms.toList.filter fun (e : MapEntry) => !seen.contains e.born).Pairwise fun a b => a.born ≠ b.born := List.Pairwise.sublist List.filter_sublist u4.born
        exact (m3.pairwise_iff (fun h e => h e.symm)).2 h1
       have hperm : (b1 ++ b2).Perm (ms.toList.filter fun (e : MapEntry) => !(seen.push q.born).contains e.born) := by
        have h1 : (L.filter fun x => x.born != q.born).Perm ((ms.toList.filter fun (e : MapEntry) => !seen.contains e.born).filter fun x => x.born != q.born) := m3.filter _
        have h2 : (L.filter fun x => x.born != q.born) = b1 ++ b2 := by
         rw [c1, List.filter_append, List.filter_cons]
         rw [Xjw, Xjl] at hborn
         obtain ⟨d1, ⟨d2, d3⟩, d4⟩ := hborn
         rw [List.filter_eq_self.2 (fun x hx => by simpa using d4 x hx q (by simp)), List.filter_eq_self.2 (fun x hx => by simpa using (d2 x hx).symm)]
         simp
        have h3 : ((ms.toList.filter fun (e : MapEntry) => !seen.contains e.born).filter fun x => x.born != q.born) = ms.toList.filter fun (e : MapEntry) => !(seen.push q.born).contains e.born := by
         rw [List.filter_filter]
         apply List.filter_congr
         intro x _
         rw [Array.contains_push]
         cases seen.contains x.born <;> cases hh : (x.born == q.born) <;> simp_all
        rw [h2, h3] at h1
        exact h1
       have q4' : ({ w with drawn := d } : World).heap[p.b]? = some (.mapIter (some pm.b) since seen stepped) := q4
       obtain ⟨g1, g2⟩ := Ka s1 hp hg (o1 := .miter (some mb) ver (Xes left j) (some left[j])) (O := .mapIter (some pm.b) since (seen.push q.born) since) trivial (by simp)
        ⟨q1, q2, pm, since, seen.push q.born, since, q3, VU q4', fun sh' ver' es' hh => by
         rw [Heap.get_put, if_neg (by rintro rfl; rw [hg] at hg'; cases hg')] at hh
         exact q5 sh' ver' es' hh, fun sh' es' hh => ⟨ms, by rw [set_other hpq.symm]; exact m1, .inr rfl, ⟨b1 ++ b2, hperm, c2⟩, fun e he => by
          grind⟩⟩
       refine ⟨ι, _, .tuple #[.bool true, q.key, q.val], ?_, YO (.cons (.bool true) (.cons her.1 (.cons her.2 .nil))), g1, Adv.trans s.bound (Adv.drew ι H w d hd) g2⟩
       unfold Instr.next
       have m1' : ({ w with drawn := d } : World).heap[pm.b]? = some (.map ms since) := m1
       have hcand : (if (ms.filter fun (e : MapEntry) => !seen.contains e.born).isEmpty = true then (#[none] : Array (Option MapEntry)) else #[]) ++ ((ms.filter fun (e : MapEntry) => !seen.contains e.born) ++ #[]).map some = (ms.filter fun (e : MapEntry) => !seen.contains e.born).map some := by
        rw [if_neg (by grind)]
        simp
       simp only [XhG, Ye q4 (by simp), XhF, Ye m1 (by simp), hguard, Xik, if_false, hold, hnew, hcand, Array.size_map, hch, ZP q4' (by simp), XhJ]
       have hget : ((ms.filter fun (e : MapEntry) => !seen.contains e.born).map some)[i]? = some (some q) := by
        rw [Array.getElem?_map, XjD hi, hqe]; rfl
       rw [hget]
       simp only [XhG, ZP q4' (by simp), XhF, XhJ]
      split at h
      ·cases h
       refine ⟨0, .inl ⟨rfl, rfl⟩, fun v H' hv => ?_⟩
       cases hv
       refine ⟨ι, w, .tuple #[.bool false], ?_, YO (.cons (.bool false) .nil), s, Adv.refl ι H w⟩
       have hemp : (ms.filter fun (e : MapEntry) => !seen.contains e.born) = #[] := Array.eq_empty_of_size_eq_zero (by rw [<- hl]; rfl)
       rw [hemp] at hold hnew
       unfold Instr.next
       simp only [XhG, Ye q4 (by simp), XhF, Ye m1 (by simp), hguard, Xik, if_false, hemp, hold, hnew]
       simp [Question.forced]
      ·rename_i e
       cases h
       have h1 : (ms.filter fun (e : MapEntry) => !seen.contains e.born).size = 1 := by rw [<- hl]; rfl
       obtain ⟨j, e', t1, t2⟩ := take w.drawn 0 (XhE _) (by omega) (by rw [h1]; simp [Question.forced])
       refine ⟨0, .inl ⟨rfl, rfl⟩, fun v H' hv => ?_⟩
       cases hv
       cases j with
       | zero =>
        simp at t1
        subst t1
        exact t2
       | succ j => simp at t1
      ·rename_i n1 n2
       cases h
       have h2 : 2 <= left.length := by
        cases hleft : left with
        | nil => exact absurd hleft n1
        | cons x l => cases l with
         | nil => exact absurd hleft (n2 x)
         | cons y l => simp
       have hnf : (Question.mapNext (ms.filter fun (e : MapEntry) => !seen.contains e.born).size).forced = false := by
        show decide (_ <= 1) = false
        rw [decide_eq_false_iff_not]
        omega
       have hi : (Question.mapNext (ms.filter fun (e : MapEntry) => !seen.contains e.born).size).cut (w.tape w.drawn (.mapNext (ms.filter fun (e : MapEntry) => !seen.contains e.born).size)) < (ms.filter fun (e : MapEntry) => !seen.contains e.born).size := Nat.mod_lt _ (by omega)
       obtain ⟨j, e', t1, t2⟩ := take (w.drawn + 1) _ (Xil _) hi (by rw [run_choose, hnf]; rfl)
       have hj := (Xig.1 t1).1
       refine ⟨j, .inr hj, fun v H' hv => ?_⟩
       simp_all
    ·cases h
   ·cases h
 ·cases h
end
def tnOf : COp -> Option Ui
 | .alloc z => some (XdC z)
 | .box x => some (Yv x.val)
 | .buildSlice z ps n => some (Xo z (J6 ps) n)
 | .store n a x => some (XcD n a.val x.val)
 | .toBytes x => some (JN x.val)
 | .stamp x => some (tnStamp x.val)
 | .mkMap sh => some (XcE sh)
 | .mkSlice z l c => some (Xab z l.val c.val)
 | .mapUpdate sh m k x => some (Wz sh m.val k.val x.val)
 | .rangeMap x => some (VQ x.val)
 | .rangeStr x => some (tnRangeStr x.val)
 | .nextStr it => some (Xer it.val)
 | .append size s x => some (Xz size s.val x.val)
 | .appendZ z s x => some (Vs z s.val x.val)
 | .copy size d s => some (Uz size d.val s.val)
 | .delete sh m k => some (XaO sh m.val k.val)
 | .clear z x => some (XdD z x.val)
 | _ => none
theorem turnOf_tn {o : COp} {T : Ui} (h : tnOf o = some T) : Zq o = Yi T := by
 cases o <;> first | (cases h; done) | (cases h; rfl)
section
variable {P : Program} {B : Nat} {ι : Inj} {H : Heap} {w : World} {m : Nat} {t : Tm} {a : Act}
def Acts (P : Program) (B : Nat) (ι : Inj) (H : Heap) (w : World) (x : Sem Next) (v : Value) (H' : Heap) : Prop :=
 ∃ ι' w' n v', x.run P w = .ok n w' /\ (n = .value v' \/ n = .skip /\ v' = undef) /\ VRel ι' v v' /\ Sim P B ι' H' w' /\ Adv ι H w ι' H' w'
theorem Xag (ι : Inj) : VRel ι undef undef := YO .nil
theorem Turned.acts {x : Sem Value} (h : Turned P B ι H w x v H') : Acts P B ι H w (do pure (Next.value (<- x))) v H' := by
 obtain ⟨ι', w', v', h1, h2, h3, h4⟩ := h
 exact ⟨ι', w', .value v', v', by simp [h1], .inl rfl, h2, h3, h4⟩
theorem Done.acts {x : Sem Unit} (h : Done P B ι H w x H') : Acts P B ι H w (do x; pure Next.skip) undef H' := by
 obtain ⟨ι', w', h1, h3, h4⟩ := h
 exact ⟨ι', w', .skip, undef, by simp [h1], .inr ⟨rfl, rfl⟩, Xag ι', h3, h4⟩
theorem Ym {x : Option COp} {why : String} {T : Ui} (h : tnOf (Zk x why) = some T) : ∃ c, x = some c /\ tnOf c = some T := by
 cases x with
 | none => cases h
 | some c => exact ⟨c, rfl, h⟩
theorem VH {x : Option COp} {why : String} {T : Ui} (h : tnOf (x.getD (.bad why)) = some T) : ∃ c, x = some c /\ tnOf c = some T := Ym h
theorem app_args {c : Call} {so xo : Operand} {T0 e : TypeId} {d : TypeDesc} {T1 : TypeId} (hargs : c.args.toList = [so, xo]) (h0 : c.argTypes[0]? = some T0) (hu : und P T0 = .slice e) (h1 : c.argTypes[1]? = some T1) (hd : und P T1 = d) (hd' : d ≠ .invalid)
  (hz : ZH P e = some z) (hb1 : ((P.info? e).map (·.bytes)).getD 0 < 2 ^ 20) (hb2 : ((P.info? e).map (·.bytes)).getD 0 ≠ 0) : AppArgs P e z c.argTypes (c.args.map a.eval) (a.eval so) (a.eval xo) (isIntD d) := by
 have ha : c.args = #[so, xo] := by rw [<- Xiq, hargs]
 obtain ⟨i, hi, hzi, _⟩ := YZ hz
 rw [hi] at hb1 hb2
 exact ⟨⟨T0, h0, WD hu (by simp)⟩, ⟨T1, d, h1, WD hd hd', rfl⟩, by rw [ha]; simp, by rw [ha]; simp, hz, ⟨i, hi, hb1, hb2, hzi, by simp [cellN, Program.cellsOf, hi]⟩⟩
theorem turn_builtin (s : Sim P B ι H w) (hT : TmRel ι m t a.tmps) {o : Oper} {c : Call} (ho : o.op = .call c) {b : Builtin} (hb : c.callee = .builtin b) {T : Ui} (hc : tnOf (cCall P m c) = some T) (h : T t H = some (v, H')) :
  Acts P B ι H w (execOp a.eval o) v H' := by
 have key : ∀ x : Sem Value, (∀ k, builtin b c.argTypes o.type k (c.args.map a.eval) = do pure (Next.value (<- x))) -> Turned P B ι H w x v H' -> Acts P B ι H w (execOp a.eval o) v H' := by
  intro x hs h1
  have := h1.acts
  obtain ⟨ι', w', n, v', g1, g2⟩ := this
  refine ⟨ι', w', n, v', ?_, g2⟩
  unfold execOp
  simp only [ho, XhG, resolve, hb, XhJ, XhF, invoke]
  rw [hs]
  exact g1
 unfold cCall at hc
 rw [hb] at hc
 simp only at hc
 split at hc
 ·split at hc
  ·cases hc
  ·split at hc <;> cases hc
  ·obtain ⟨cc, hc1, hc2⟩ := VH hc
   obtain ⟨x', hx1, rfl⟩ := Xl hc1
   cases hc2
  ·obtain ⟨cc, hc1, hc2⟩ := VH hc
   obtain ⟨x', hx1, rfl⟩ := Xl hc1
   cases hc2
  ·obtain ⟨cc, hc1, hc2⟩ := VH hc
   obtain ⟨x', hx1, rfl⟩ := Xl hc1
   cases hc2
  ·cases hc
 ·split at hc
  ·obtain ⟨cc, hc1, hc2⟩ := VH hc
   obtain ⟨x', hx1, rfl⟩ := Xl hc1
   cases hc2
  ·cases hc
 ·-- append
  rename_i so xo hargs
  have app : ∀ (e : TypeId) (z : Value) (T0 T1 : TypeId) (d : TypeDesc), c.argTypes[0]? = some T0 -> und P T0 = .slice e -> c.argTypes[1]? = some T1 -> und P T1 = d -> d ≠ .invalid -> isIntD d = false -> ZH P e = some z ->
    ¬ ((Yb z).isEmpty || (Yb z).length != cellN P e || ((P.info? e).map (·.bytes)).getD 0 >= 2 ^ 20 || ((P.info? e).map (·.bytes)).getD 0 = 0) = true ->
    tnOf ((Xac (XE m so) (XE m xo) (COp.append (cellN P e))).getD (.bad "append")) = some T -> Acts P B ι H w (execOp a.eval o) v H' := by
   intro e z T0 T1 d h0 hu h1 hd hd' hid hz hcond hc
   obtain ⟨cc, hc1, hc2⟩ := VH hc
   obtain ⟨s', x', hs, hx, rfl⟩ := Xv hc1
   cases hc2
   simp only [XiO, decide_eq_true_eq, not_or, bne_iff_ne, ne_eq, Classical.not_not, XiP] at hcond
   obtain ⟨⟨⟨n1, n2⟩, n3⟩, n4⟩ := hcond
   have A := app_args (a := a) (P := P) hargs h0 hu h1 hd hd' hz (by omega) n4
   rw [hid] at A
   have hrs := Xx hT hs
   have hrx := Xx hT hx
   replace h : H.append (cellN P e) (s'.val t) (x'.val t) = some (v, H') := h
   unfold Heap.append at h
   split at h
   ·rename_i n hn
    split at h
    ·rename_i new hnew
     obtain ⟨new', k1, k2, k3, k4⟩ := elems_ok s hrx hn (XhE n) hnew
     refine key (Builtin.append_ c.argTypes o.type (c.args.map a.eval)) (fun _ => rfl) ?_
     refine append_ok s A (new := new) (new' := new') (n := n) ⟨fun _ => ⟨fun d => ?_, k1⟩, fun hh => by cases hh⟩ hrs k2 k3 k4 n2 (fun hh => n1 (XiB (by rw [n2, hh]))) h
     grind [lenV_ok]
    ·cases h
   ·cases h
  split at hc
  ·rename_i e q he hq
   obtain ⟨T0, h0, hu⟩ := Z6 he (by simp)
   obtain ⟨T1, h1, hd⟩ := Xl hq
   split at hc
   ·rename_i z hz
    split at hc
    ·cases hc
    ·rename_i hcond
     exact app e z T0 T1 _ h0 hu h1 hd (by simp) rfl hz (by simpa using hcond) hc
   ·cases hc
  ·rename_i e he hq
   obtain ⟨T0, h0, hu⟩ := Z6 he (by simp)
   obtain ⟨T1, h1, hd⟩ := Xl hq
   split at hc
   ·rename_i z hz
    split at hc
    ·cases hc
    ·rename_i hcond
     exact app e z T0 T1 _ h0 hu h1 hd (by simp) rfl hz (by simpa using hcond) hc
   ·cases hc
  ·rename_i e k he hq
   obtain ⟨T0, h0, hu⟩ := Z6 he (by simp)
   obtain ⟨T1, h1, hd⟩ := Xl hq
   split at hc
   ·rename_i z hz
    split at hc
    ·cases hc
    ·rename_i hcond
     obtain ⟨cc, hc1, hc2⟩ := VH hc
     obtain ⟨s', x', hs, hx, rfl⟩ := Xv hc1
     cases hc2
     simp only [XiO, decide_eq_true_eq, not_or, bne_iff_ne, ne_eq, Classical.not_not, XiP] at hcond
     obtain ⟨⟨⟨n1, n2⟩, n3⟩, n4⟩ := hcond
     have A := app_args (a := a) (P := P) hargs h0 hu h1 hd (by simp) hz (by omega) n4
     have hrs := Xx hT hs
     have hrx := Xx hT hx
     replace h : Vs (Yb z) s'.val x'.val t H = some (v, H') := h
     unfold Vs at h
     split at h
     ·rename_i n hn
      obtain ⟨q, _, hxq⟩ := JP hrx hn
      cases hb : XhK n 1000000 with
      | false => rw [hb] at h; cases h
      | true =>
       rw [hb] at h
       rw [blt_iff] at hb
       simp only [cond_true, ZD, n2] at h
       have hpl := (YZ hz).choose_spec.2.2
       obtain ⟨r1, r2⟩ := made_rel (ι := ι) hpl n
       have hzc : Builtin.zeroCells z.cells n = madeCells z.cells (n * (Yb z).length) := by
        unfold Builtin.zeroCells madeCells
        rw [zcells_size hpl]
       refine key (Builtin.append_ c.argTypes o.type (c.args.map a.eval)) (fun _ => rfl) ?_
       exact append_ok s A (new := rep (Yb z) n) (new' := Builtin.zeroCells z.cells n) (n := n) ⟨(fun hh => by cases hh), fun _ => ⟨⟨q, hxq⟩, by omega, rfl⟩⟩ hrs (by rw [hzc]; exact r1) r2 (by rw [Xf5, n2]) n2
        (fun hh => n1 (XiB (by rw [n2, hh]))) h
     ·cases h
   ·cases hc
  ·cases hc
 ·-- copy
  rename_i do' so hargs
  split at hc
  ·rename_i e he
   obtain ⟨T0, h0, hu⟩ := Z6 he (by simp)
   obtain ⟨cc, hc1, hc2⟩ := VH hc
   obtain ⟨hk, hc3⟩ := XR hc1
   obtain ⟨d', s', hd, hs, rfl⟩ := Xv hc3
   cases hc2
   have ha : c.args = #[do', so] := by rw [<- Xiq, hargs]
   exact key (Builtin.copy_ c.argTypes o.type (c.args.map a.eval)) (fun _ => rfl) (t_copy s hu hk h0 (by rw [ha]; simp) (by rw [ha]; simp) (Xx hT hd) (Xx hT hs) h)
  ·cases hc
 ·-- delete
  rename_i mo ko hargs
  split at hc
  ·rename_i kt e he
   obtain ⟨T0, h0, hu⟩ := Z6 he (by simp)
   obtain ⟨cc, hc1, hc2⟩ := VH hc
   obtain ⟨sh, hsh, hc3⟩ := Xq hc1
   obtain ⟨m', k', hm, hk, rfl⟩ := Xv hc3
   cases hc2
   have ha : c.args = #[mo, ko] := by rw [<- Xiq, hargs]
   exact key (Builtin.delete_ c.argTypes o.type (c.args.map a.eval)) (fun _ => rfl) (t_delete s hu hsh h0 (by rw [ha]; simp) (by rw [ha]; simp) (Xx hT hm) (Xx hT hk) h)
  ·cases hc
 ·-- clear
  rename_i xo hargs
  have ha : c.args = #[xo] := by rw [<- Xiq, hargs]
  split at hc
  ·rename_i e he
   obtain ⟨T0, h0, hu⟩ := Z6 he (by simp)
   split at hc
   ·rename_i z x' hz hx
    split at hc
    ·cases hc
    ·cases hc
     exact key (Builtin.clear_ c.argTypes o.type (c.args.map a.eval)) (fun _ => rfl) (t_clear s (.inl ⟨e, z, hu, hz, rfl⟩) h0 (by rw [ha]; simp) (Xx hT hx) h)
   ·cases hc
  ·rename_i kt e he
   obtain ⟨T0, h0, hu⟩ := Z6 he (by simp)
   obtain ⟨cc, hc1, hc2⟩ := VH hc
   obtain ⟨x', hx, rfl⟩ := Xl hc1
   cases hc2
   exact key (Builtin.clear_ c.argTypes o.type (c.args.map a.eval)) (fun _ => rfl) (t_clear s (.inr ⟨kt, e, hu, rfl⟩) h0 (by rw [ha]; simp) (Xx hT hx) h)
  ·cases hc
 ·obtain ⟨cc, hc1, hc2⟩ := VH hc
  obtain ⟨u, v, _, _, rfl⟩ := Xv hc1
  cases hc2
 ·obtain ⟨cc, hc1, hc2⟩ := VH hc
  obtain ⟨u, v, _, _, rfl⟩ := Xv hc1
  cases hc2
 ·obtain ⟨cc, hc1, hc2⟩ := VH hc
  obtain ⟨u, _, rfl⟩ := Xl hc1
  cases hc2
 ·cases hc
 ·cases hc
theorem turn_sound (s : Sim P B ι H w) (hT : TmRel ι m t a.tmps) {o : Oper} {T : Ui} (hc : tnOf (cOp P m o) = some T) (h : T t H = some (v, H')) : Acts P B ι H w (execOp a.eval o) v H' := by
 have keyV : ∀ x : Sem Value, (execOp a.eval o = do pure (Next.value (<- x))) -> Turned P B ι H w x v H' -> Acts P B ι H w (execOp a.eval o) v H' := by
  intro x hs h1
  rw [hs]
  exact h1.acts
 have keyU : ∀ x : Sem Unit, (execOp a.eval o = do x; pure Next.skip) -> v = undef -> Done P B ι H w x H' -> Acts P B ι H w (execOp a.eval o) v H' := by
  intro x hs hv h1
  rw [hs, hv]
  exact h1.acts
 unfold cOp at hc
 cases ho : o.op
 all_goals (rw [ho] at hc; simp only at hc)
 case alloc e =>
  obtain ⟨cc, hc1, hc2⟩ := Ym hc
  obtain ⟨z, hz, rfl⟩ := Xl hc1
  cases hc2
  cases h
  exact keyV _ (by unfold execOp; rw [ho]) (t_alloc s hz)
 case box e x =>
  obtain ⟨cc, hc1, hc2⟩ := Ym hc
  obtain ⟨x', hx, rfl⟩ := Xl hc1
  cases hc2
  obtain ⟨cs, h1, h2⟩ := XW h
  cases h2
  exact keyV _ (by unfold execOp; rw [ho]) (t_box s (Xx hT hx) h1)
 case buildSlice T' n ps =>
  obtain ⟨cc, hc1, hc2⟩ := Ym hc
  split at hc1
  ·rename_i e he
   split at hc1
   ·cases hc1
   ·rename_i hsz
    obtain ⟨z, hz, hc3⟩ := Xq hc1
    split at hc3
    ·cases hc3
    ·rename_i hzc
     obtain ⟨cps, hp, rfl⟩ := Xl hc3
     cases hc2
     replace h : (match Yz t (J6 cps) (repC (Yb z) n) with
      | some cs => some (Value.slice (some ⟨H.next, 0, none⟩) n n, H.push (.cells true cs))
      | none => none) = some (v, H') := h
     split at h
     ·rename_i cs hcs
      cases h
      exact keyV _ (by unfold execOp; rw [ho]) (t_buildSlice s hT he hz (by simpa using hzc) (by omega) hp hcs)
     ·cases h
  ·cases hc1
 case store T' x y =>
  obtain ⟨cc, hc1, hc2⟩ := Ym hc
  obtain ⟨hk, hc3⟩ := XR hc1
  obtain ⟨x', y', hx, hy, rfl⟩ := Xv hc3
  cases hc2
  obtain ⟨p, h1, g⟩ := XW h
  obtain ⟨ys, h2, g2⟩ := XW g
  cases hl : XhD (Wy ys) (cellN P T') with
  | false => rw [hl] at g2; cases g2
  | true =>
   rw [hl] at g2
   simp only [cond_true] at g2
   obtain ⟨H1, h3, h4⟩ := XW g2
   cases h4
   exact keyU _ (by unfold execOp; rw [ho]) rfl (t_store s hk (Xx hT hx) (Xx hT hy) h1 h2 (beq_iff.1 hl) h3)
 case convert src d x =>
  obtain ⟨cc, hc1, hc2⟩ := Ym hc
  split at hc1
  ·rename_i e0 e e1 e2
   split at hc1
   ·rename_i e3
    split at hc1
    ·rename_i hsd
     subst hsd
     obtain ⟨x', hx, rfl⟩ := Xl hc1
     cases hc2
     have hr := Xx hT hx
     refine keyV (convert src src (a.eval x)) (by unfold execOp; rw [ho]) ?_
     replace h : (match x'.val t with
      | .slice (some a) n c => bif XhK 0 n then (match H.get a.block with
       | some (.cells true xs) => bif XhK 0 (Wy xs) then some (Value.slice (some a) n c, H) else none
       | _ => none) else none
      | _ => none) = some (v, H') := h
     split at h
     ·rename_i ad n cc hv
      rw [hv] at hr
      cases hb : XhK 0 n with
      | false => rw [hb] at h; cases h
      | true =>
       rw [hb] at h
       simp only [cond_true] at h
       grind [t_stamp, blt_iff, ZD]
     ·cases h
    ·cases hc1
   ·cases hc1
  ·obtain ⟨x', hx, rfl⟩ := Xl hc1
   cases hc2
  ·obtain ⟨x', hx, rfl⟩ := Xl hc1
   cases hc2
  ·rename_i e e1 e2
   split at hc1
   ·rename_i e3
    obtain ⟨x', hx, rfl⟩ := Xl hc1
    cases hc2
    have hr := Xx hT hx
    replace h : (match x'.val t with
     | .string s => some (Value.slice (some ⟨H.next, 0, WV 1⟩) (bytes s).length (bytes s).length, H.push (.cells true (Xa (bytes s))))
     | _ => none) = some (v, H') := h
    split at h
    ·rename_i st hst
     cases h
     rw [hst] at hr
     generalize hq : a.eval x = q at hr
     cases hr
     refine keyV (convert src d (a.eval x)) (by unfold execOp; rw [ho]) ?_
     rw [hq]
     obtain ⟨ι', w', v', g1, g2⟩ := t_toBytes s (e := e) st
     refine ⟨ι', w', v', ?_, g2⟩
     rw [<- g1]
     simp [convert, Xy e1, Xy e2, Xy e3]
    ·cases h
   ·cases hc1
  ·split at hc1
   ·obtain ⟨x', hx, rfl⟩ := Xl hc1
    cases hc2
   ·cases hc1
  ·cases hc1
 case makeMap T' r =>
  cases r with
  | none =>
   obtain ⟨cc, hc1, hc2⟩ := Ym hc
   split at hc1
   ·obtain ⟨sh, hsh, rfl⟩ := Xl hc1
    cases hc2
    cases h
    exact keyV _ (by unfold execOp; rw [ho]; rfl) (t_mkMap s sh T')
   ·cases hc1
  | some r => cases hc
 case makeSlice T' l c =>
  obtain ⟨cc, hc1, hc2⟩ := Ym hc
  split at hc1
  ·rename_i e he
   obtain ⟨z, hz, hc3⟩ := Xq hc1
   split at hc3
   ·cases hc3
   ·rename_i hcond
    obtain ⟨l', c', hl, hcc, rfl⟩ := Xv hc3
    cases hc2
    simp only [XiO, decide_eq_true_eq, not_or, bne_iff_ne, ne_eq, Classical.not_not] at hcond
    replace h : (match Wf (l'.val t), Wf (c'.val t) with
     | some l, some c => bif XhM l c && XhK c 1000000 then some (Value.slice (some ⟨H.next, 0, none⟩) l c, H.push (.cells true (rep (Yb z) c))) else none
     | _, _ => none) = some (v, H') := h
    split at h
    ·rename_i ln cn h1 h2
     cases hb : (XhM ln cn && XhK cn 1000000) with
     | false => rw [hb] at h; cases h
     | true =>
      rw [hb] at h
      rw [XhN, ble_iff, blt_iff] at hb
      cases h
      exact keyV _ (by unfold execOp; rw [ho]) (t_mkSlice s he hz hcond.1 (by omega) (Xx hT hl) (Xx hT hcc) h1 h2 hb.1 hb.2)
    ·cases h
  ·cases hc1
 case mapUpdate T' mp k x =>
  obtain ⟨cc, hc1, hc2⟩ := Ym hc
  split at hc1
  ·rename_i kt e he
   obtain ⟨sh, hsh, hc3⟩ := Xq hc1
   obtain ⟨mp', hm, hc4⟩ := Xq hc3
   obtain ⟨k', x', hk, hx, rfl⟩ := Xv hc4
   cases hc2
   obtain ⟨g1, g2⟩ := t_mapUpdate s he hsh (Xx hT hm) (Xx hT hk) (Xx hT hx) h
   exact keyU _ (by unfold execOp; rw [ho]) g1 g2
  ·cases hc1
 case insert T' mp k x =>
  obtain ⟨cc, hc1, hc2⟩ := Ym hc
  split at hc1
  ·rename_i kt e he
   obtain ⟨sh, hsh, hc3⟩ := Xq hc1
   obtain ⟨mp', hm, hc4⟩ := Xq hc3
   obtain ⟨k', x', hk, hx, rfl⟩ := Xv hc4
   cases hc2
   obtain ⟨g1, g2⟩ := t_mapUpdate s he hsh (Xx hT hm) (Xx hT hk) (Xx hT hx) h
   exact keyU _ (by unfold execOp; rw [ho]) g1 g2
  ·cases hc1
 case range T' x =>
  obtain ⟨cc, hc1, hc2⟩ := Ym hc
  split at hc1
  ·rename_i kt e he
   obtain ⟨x', hx, rfl⟩ := Xl hc1
   cases hc2
   have hr := Xx hT hx
   replace h : (match x'.val t with
    | .map none => some (Value.pointer (some ⟨H.next, 0, none⟩), H.push (.miter none 0 [] none))
    | .map (some r) => match H.get r with
     | some (.map _ ver es) => some (.pointer (some ⟨H.next, 0, none⟩), H.push (.miter (some r) ver es none))
     | _ => none
    | _ => none) = some (v, H') := h
   refine keyV (Instr.range T' (a.eval x)) (by unfold execOp; rw [ho]) ?_
   split at h
   ·rename_i hv
    cases h
    rw [hv] at hr
    generalize a.eval x = q at hr
    cases hr
    exact t_rangeNil s he
   ·rename_i r hv
    split at h
    ·rename_i sh ver es hg
     cases h
     rw [hv] at hr
     generalize a.eval x = q at hr
     cases hr
     grind [t_rangeMap]
    ·cases h
   ·cases h
  ·rename_i he
   obtain ⟨x', hx, rfl⟩ := Xl hc1
   cases hc2
   have hr := Xx hT hx
   replace h : (match x'.val t with
    | .string s => some (Value.pointer (some ⟨H.next, 0, none⟩), H.push (.siter s 0))
    | _ => none) = some (v, H') := h
   refine keyV (Instr.range T' (a.eval x)) (by unfold execOp; rw [ho]) ?_
   split at h
   ·rename_i st hv
    cases h
    rw [hv] at hr
    generalize a.eval x = q at hr
    cases hr
    exact t_rangeStr s he st
   ·cases h
  ·cases hc1
 case next it st =>
  obtain ⟨cc, hc1, hc2⟩ := Ym hc
  obtain ⟨x', hx, rfl⟩ := Xl hc1
  cases st with
  | true =>
   cases hc2
   exact keyV _ (by unfold execOp; rw [ho]) (t_nextStr s (Xx hT hx) h)
  | false => cases hc2
 case call c =>
  cases hb : c.callee with
  | builtin b => exact turn_builtin s hT ho hb hc h
  | value f =>
   unfold cCall at hc
   rw [hb] at hc
   obtain ⟨cc, hc1, hc2⟩ := VH hc
   obtain ⟨f', _, hc3⟩ := Xq hc1
   obtain ⟨x', hx, rfl⟩ := Xl hc3
   cases hc2
  | invoke x name =>
   unfold cCall at hc
   rw [hb] at hc
   obtain ⟨cc, hc1, hc2⟩ := VH hc
   obtain ⟨f', _, hc3⟩ := Xq hc1
   obtain ⟨x', hx, rfl⟩ := Xl hc3
   cases hc2
 case pick c0 a0 b0 =>
  obtain ⟨cc, hc1, hc2⟩ := Ym hc
  obtain ⟨c', hc', hc3⟩ := Xq hc1
  obtain ⟨a', b', ha', hb', rfl⟩ := Xv hc3
  cases hc2
 case build T' ps =>
  obtain ⟨cc, hc1, hc2⟩ := Ym hc
  obtain ⟨z, hz, hc3⟩ := Xq hc1
  split at hc3
  ·obtain ⟨h1, h2⟩ := XR hc3
   obtain ⟨cps, h3, rfl⟩ := Xl h2
   cases hc2
  ·obtain ⟨h1, h2⟩ := XR hc3
   obtain ⟨cps, h3, rfl⟩ := Xl h2
   cases hc2
  ·cases hc3
 case load T' x =>
  obtain ⟨cc, hc1, hc2⟩ := Ym hc
  obtain ⟨hk, hc3⟩ := XR hc1
  obtain ⟨x', hx, rfl⟩ := Xl hc3
  split at hc2 <;> cases hc2
 case binOp op T' x y U =>
  split at hc
  ·obtain ⟨cc, hc1, hc2⟩ := Ym hc
   obtain ⟨p, hp, h3⟩ := Xq hc1
   obtain ⟨x', y', hx, hy, rfl⟩ := Xv h3
   cases hc2
  ·obtain ⟨cc, hc1, hc2⟩ := Ym hc
   obtain ⟨p, hp, h3⟩ := Xq hc1
   obtain ⟨x', y', hx, hy, rfl⟩ := Xv h3
   cases hc2
  ·obtain ⟨cc, hc1, hc2⟩ := Ym hc
   obtain ⟨x', y', hx, hy, rfl⟩ := Xv hc1
   cases hc2
 case sliceToArrayPointer T' x =>
  obtain ⟨cc, hc1, hc2⟩ := Ym hc
  split at hc1
  ·obtain ⟨x', hx, rfl⟩ := Xl hc1
   cases hc2
  ·cases hc1
 case makeInterface T' x =>
  obtain ⟨cc, hc1, hc2⟩ := Ym hc
  split at hc1
  ·cases hc1
  ·cases hc1
  ·obtain ⟨x', hx, rfl⟩ := Xl hc1
   cases hc2
 case makeFunc fn fs cs =>
  obtain ⟨cc, hc1, hc2⟩ := Ym hc
  split at hc1
  ·obtain ⟨f', c', hf', hc', rfl⟩ := Xv hc1
   cases hc2
  ·obtain ⟨f', c', hf', hc', rfl⟩ := Xv hc1
   cases hc2
  ·cases hc1
 case slice T' x lo hi mx =>
  obtain ⟨cc, hc1, hc2⟩ := Ym hc
  obtain ⟨x', hx, hc3⟩ := Xq hc1
  obtain ⟨lo', hlo, hc4⟩ := Xq hc3
  obtain ⟨hi', hhi, hc5⟩ := Xq hc4
  obtain ⟨mx', hmx, hc6⟩ := Xq hc5
  split at hc6
  ·split at hc6
   ·cases hc6
   ·cases hc6; cases hc2
  ·obtain ⟨hk, hc7⟩ := XR hc6
   cases hc7; cases hc2
  ·obtain ⟨hk, hc7⟩ := XR hc6
   cases hc7; cases hc2
  ·split at hc6
   ·obtain ⟨hk, hc7⟩ := XR hc6
    cases hc7; cases hc2
   ·cases hc6
  ·cases hc6
 case fieldAddr T' x f =>
  obtain ⟨cc, hc1, hc2⟩ := Ym hc
  split at hc1
  ·obtain ⟨fd, hf, hc3⟩ := Xq hc1
   split at hc3
   ·cases hc3
   ·obtain ⟨x', hx, rfl⟩ := Xl hc3
    cases hc2
  ·cases hc1
 case field T' x f =>
  obtain ⟨cc, hc1, hc2⟩ := Ym hc
  split at hc1
  ·obtain ⟨fd, hf, hc3⟩ := Xq hc1
   obtain ⟨hk, hc4⟩ := XR hc3
   obtain ⟨x', hx, rfl⟩ := Xl hc4
   cases hc2
  ·cases hc1
 case indexAddr T' x i =>
  obtain ⟨cc, hc1, hc2⟩ := Ym hc
  split at hc1
  ·obtain ⟨hk, hc3⟩ := XR hc1
   obtain ⟨x', i', hx, hi, rfl⟩ := Xv hc3
   cases hc2
  ·obtain ⟨hk, hc3⟩ := XR hc1
   obtain ⟨x', i', hx, hi, rfl⟩ := Xv hc3
   cases hc2
  ·cases hc1
 case index T' x i =>
  obtain ⟨cc, hc1, hc2⟩ := Ym hc
  split at hc1
  ·obtain ⟨hk, hc3⟩ := XR hc1
   obtain ⟨x', i', hx, hi, rfl⟩ := Xv hc3
   cases hc2
  ·obtain ⟨x', i', hx, hi, rfl⟩ := Xv hc1
   cases hc2
  ·cases hc1
 case lookup T' x i ok =>
  obtain ⟨cc, hc1, hc2⟩ := Ym hc
  split at hc1
  ·obtain ⟨sh, hsh, hc3⟩ := Xq hc1
   obtain ⟨z, hz, hc4⟩ := Xq hc3
   obtain ⟨x', i', hx, hi, rfl⟩ := Xv hc4
   cases hc2
  ·cases hc1
 case typeAssert x xT T' ok =>
  obtain ⟨cc, hc1, hc2⟩ := Ym hc
  split at hc1
  ·obtain ⟨z, hz, hc3⟩ := Xq hc1
   obtain ⟨x', hx, rfl⟩ := Xl hc3
   cases hc2
  ·cases hc1
  ·obtain ⟨z, hz, hc3⟩ := Xq hc1
   obtain ⟨x', hx, rfl⟩ := Xl hc3
   cases hc2
 case defer c =>
  split at hc
  ·obtain ⟨cc, hc1, hc2⟩ := Ym hc
   obtain ⟨u, v, _, _, rfl⟩ := Xv hc1
   cases hc2
  ·cases hc
 all_goals first
  | (cases hc; done)
  | (obtain ⟨cc, hc1, hc2⟩ := Ym hc
     obtain ⟨x', hx, rfl⟩ := Xl hc1
     cases hc2
     done)
end
end Go.Eng
end
