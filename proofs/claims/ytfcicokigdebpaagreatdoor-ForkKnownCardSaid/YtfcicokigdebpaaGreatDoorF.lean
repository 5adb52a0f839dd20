/-
  Regions that draw their order go as the abstract machine goes through them in the order of the text; a closed call that ends with true there ends so in the model. Conditions: those that each lemma states.
-/
import Derived.Test.YtfcicokigdebpaaGreatDoorD
import Derived.Orders
import Derived.Below
import Derived.OpenShut
import Derived.Laws.Externs
import Derived.Lib.Bytealg

set_option linter.unusedSimpArgs false
set_option linter.unusedSectionVars false
/- The abstract machine: operations depend on their operands alone. -/
namespace Go.Eng
set_option linter.unusedVariables false

section
variable {t t' : Tm}

theorem vals_local {xs : List Opd} (h : ∀ x ∈ xs, x.val t = x.val t') : vals t (opds xs) = vals t' (opds xs) := by
  rw [vals_eq, vals_eq, opds_eq, List.map_map, List.map_map]
  exact List.map_congr_left fun x hx => h x hx

theorem fill_local {ps : List Part} (h : ∀ p ∈ ps, p.x.val t = p.x.val t') : ∀ cs, fillParts t (partsF ps) cs = fillParts t' (partsF ps) cs := by
  induction ps with
  | nil => intro cs; rfl
  | cons p ps ih =>
    intro cs
    show optV none (fun ys => bif Nat.beq (lenL ys) p.size && Nat.ble (Nat.add p.off p.size) (lenL cs) then fillParts t (partsF ps) (putAt ys p.off cs) else none) (cellsOf (p.x.val t)) =
      optV none (fun ys => bif Nat.beq (lenL ys) p.size && Nat.ble (Nat.add p.off p.size) (lenL cs) then fillParts t' (partsF ps) (putAt ys p.off cs) else none) (cellsOf (p.x.val t'))
    rw [h p (by simp)]
    congr 1
    funext ys
    rw [ih fun q hq => h q (by simp [hq])]

theorem optNat_local {o : Option Opd} (h : ∀ x ∈ oList o, x.val t = x.val t') (d : Nat) : optNat t d (optOpd o) = optNat t' d (optOpd o) := by
  cases o with
  | none => rfl
  | some x => show asNat (x.val t) = asNat (x.val t'); rw [h x (by simp [oList])]

theorem look_local {c : COp} {L : Look} (hl : lookOf c = some L) (h : ∀ x ∈ c.opds, x.val t = x.val t') (hp : Heap) : L t hp = L t' hp := by
  cases c
  case build z ps =>
    cases hl
    show optV none _ _ = optV none _ _
    rw [fill_local fun p hp => h p.x (List.mem_map.2 ⟨p, hp, rfl⟩)]
  case mkFunc fn a b =>
    cases hl
    show some _ = some _
    rw [vals_local fun x hx => h x (List.mem_append_left _ hx), vals_local fun x hx => h x (List.mem_append_right _ hx)]
  case sliceStr x lo hi =>
    cases hl
    simp only [lkSliceStr, h x (by simp [COp.opds]), optNat_local (o := lo) fun y hy => h y (by simp [COp.opds, hy]), optNat_local (o := hi) fun y hy => h y (by simp [COp.opds, hy])]
  case sliceSl n x lo hi mx =>
    cases hl
    simp only [lkSliceSl, h x (by simp [COp.opds]), optNat_local (o := lo) fun y hy => h y (by simp [COp.opds, hy]), optNat_local (o := hi) fun y hy => h y (by simp [COp.opds, hy]), optNat_local (o := mx) fun y hy => h y (by simp [COp.opds, hy])]
  case sliceArr n e x lo hi mx =>
    cases hl
    simp only [lkSliceArr, h x (by simp [COp.opds]), optNat_local (o := lo) fun y hy => h y (by simp [COp.opds, hy]), optNat_local (o := hi) fun y hy => h y (by simp [COp.opds, hy]), optNat_local (o := mx) fun y hy => h y (by simp [COp.opds, hy])]
  case max x xs =>
    cases hl
    show foldV _ _ _ = foldV _ _ _
    rw [h x (by simp [COp.opds]), vals_local fun y hy => h y (by simp [COp.opds, hy])]
  case min x xs =>
    cases hl
    show foldV _ _ _ = foldV _ _ _
    rw [h x (by simp [COp.opds]), vals_local fun y hy => h y (by simp [COp.opds, hy])]
  case field off size x =>
    have h1 := h x (by simp [COp.opds])
    cases size <;> cases hl <;> simp only [lkField1, lkFieldN, h1]
  case ixVal n e ag x y =>
    have h1 := h x (by simp [COp.opds])
    have h2 := h y (by simp [COp.opds])
    cases ag <;> cases hl <;> simp only [lkIxVal1, lkIxValN, h1, h2]
  case len k x =>
    have h1 := h x (by simp [COp.opds])
    cases k <;> cases hl <;> simp only [lkLen, h1]
  all_goals first
    | (cases hl; done)
    | (rename_i x
       have h1 := h x (by simp [COp.opds])
       cases hl
       first
         | (simp only [lkMove, lkLoad1, lkLoadN, lkUn, lkIntTo, lkStr, lkBytesTo, lkMkIface, lkToArr, lkFieldAddr, lkEntry, lkAssertT, lkAssertI, lkExtract, lkCap, h1]; done)
         | rfl)
    | (rename_i x y
       have h1 := h x (by simp [COp.opds])
       have h2 := h y (by simp [COp.opds])
       cases hl
       simp only [lkBin, lkEq, lkIxSl, lkIxArr, lkIxStr, lkLookup, h1, h2]
       done)
    | (rename_i x y z
       have h1 := h x (by simp [COp.opds])
       have h2 := h y (by simp [COp.opds])
       have h3 := h z (by simp [COp.opds])
       cases hl
       simp only [lkPick, h1, h2, h3]
       done)
    | (cases hl; rfl)

theorem turn_local {c : COp} {T : Turn} (hl : tnOf c = some T) (h : ∀ x ∈ c.opds, x.val t = x.val t') (hp : Heap) : T t hp = T t' hp := by
  cases c
  case buildSlice z ps n =>
    cases hl
    simp only [tnBuildSlice]
    rw [fill_local fun p hp => h p.x (List.mem_map.2 ⟨p, hp, rfl⟩)]
  all_goals first
    | (cases hl; done)
    | (rename_i x
       have h1 := h x (by simp [COp.opds])
       cases hl
       first
         | (simp only [tnBox, tnToBytes, tnStamp, tnRangeMap, tnRangeStr, tnNextStr, tnClear, h1]; done)
         | rfl)
    | (rename_i x y
       have h1 := h x (by simp [COp.opds])
       have h2 := h y (by simp [COp.opds])
       cases hl
       simp only [tnStore, tnMkSlice, tnAppend, tnAppendZ, tnCopy, tnDelete, h1, h2]
       done)
    | (rename_i x y z
       have h1 := h x (by simp [COp.opds])
       have h2 := h y (by simp [COp.opds])
       have h3 := h z (by simp [COp.opds])
       cases hl
       simp only [tnMapUpdate, h1, h2, h3]
       done)
    | (cases hl; rfl)

/-- Looks that do not look at memory. -/
theorem look_plain {c : COp} {L : Look} (hl : lookOf c = some L) (hm : memLook c = false) (t : Tm) (h h' : Heap) : L t h = L t h' := by
  cases c <;> first
    | (cases hl; done)
    | (cases hm; done)
    | (cases hl; rfl)
    | (rename_i a b; cases b <;> cases hl <;> rfl)
    | (rename_i a b c; cases b <;> cases hl <;> rfl)
    | (rename_i a b c d e; cases c <;> cases hl <;> rfl)

/-- No look looks at where memory ends. -/
theorem look_next {c : COp} {L : Look} (hl : lookOf c = some L) (t : Tm) (h : Heap) (n : Nat) : L t ⟨n, h.t⟩ = L t h := by
  cases c <;> first
    | (cases hl; done)
    | (cases hl; rfl)
    | (rename_i a b; cases a <;> cases hl <;> rfl)
    | (rename_i a b c; cases b <;> cases hl <;> rfl)
    | (rename_i a b c d e; cases c <;> cases hl <;> rfl)
end
end Go.Eng

/- Drawn regions: what comes ahead of what. -/
namespace Go.Eng
set_option linter.unusedVariables false

def ahead (acc : Array Nat) (s : Nat) (e : Edge) : Nat := if Region.binds .any e then s ||| 2 ^ e.on ||| acc.getD e.on 0 else s

theorem ahead_bits (acc : Array Nat) (j : Nat) : ∀ (l : List Edge) (s : Nat), (l.foldl (ahead acc) s).testBit j = true → s.testBit j = true ∨ ∃ e ∈ l, Region.binds .any e = true ∧ (e.on = j ∨ (acc.getD e.on 0).testBit j = true)
  | [], s, h => .inl h
  | e :: l, s, h => by
    rw [List.foldl_cons] at h
    rcases ahead_bits acc j l _ h with h1 | ⟨e', h1, h2, h3⟩
    · unfold ahead at h1
      split at h1
      · rename_i hb
        rw [Nat.testBit_or, Nat.testBit_or, Nat.testBit_two_pow] at h1
        simp only [Bool.or_eq_true, decide_eq_true_eq] at h1
        rcases h1 with (h1 | h1) | h1
        · exact .inl h1
        · exact .inr ⟨e, by simp, hb, .inl h1⟩
        · exact .inr ⟨e, by simp, hb, .inr h1⟩
      · exact .inl h1
    · exact .inr ⟨e', by simp [h1], h2, h3⟩

def stepB (acc : Array Nat) (o : Oper) : Array Nat := acc.push (o.after.toList.foldl (ahead acc) 0)

theorem before_eq (ops : Array Oper) : Region.before ops = ops.toList.foldl stepB #[] := by
  unfold Region.before
  rw [← Array.foldl_toList]
  congr 1
  funext acc o
  unfold stepB
  rw [← Array.foldl_toList]
  rfl

theorem stepB_ok (j : Nat) : ∀ (l : List Oper) (acc : Array Nat), (∀ i, i < acc.size → (l.foldl stepB acc).getD i 0 = acc.getD i 0) ∧
    ∀ (k : Nat) (o : Oper), l[k]? = some o → ((l.foldl stepB acc).getD (acc.size + k) 0).testBit j = true → ∃ e ∈ o.after.toList, Region.binds .any e = true ∧ (e.on = j ∨ ((l.foldl stepB acc).getD e.on 0).testBit j = true)
  | [], acc => ⟨fun _ _ => rfl, fun k o h => by simp at h⟩
  | o :: l, acc => by
    obtain ⟨h1, h2⟩ := stepB_ok j l (stepB acc o)
    have hs : (stepB acc o).size = acc.size + 1 := by simp [stepB]
    have old : ∀ i, i < acc.size → ((o :: l).foldl stepB acc).getD i 0 = acc.getD i 0 := by
      intro i hi
      rw [List.foldl_cons, h1 i (by omega)]
      simp [stepB, Array.getD_eq_getD_getElem?, Array.getElem?_push_lt hi, hi]
    refine ⟨old, fun k o' hk hb => ?_⟩
    cases k with
    | zero =>
      simp at hk
      subst hk
      rw [List.foldl_cons, Nat.add_zero, h1 acc.size (by omega)] at hb
      have : (stepB acc o).getD acc.size 0 = o.after.toList.foldl (ahead acc) 0 := by simp [stepB, Array.getD_eq_getD_getElem?]
      rw [this] at hb
      rcases ahead_bits acc j _ _ hb with hb | ⟨e, e1, e2, e3⟩
      · simp at hb
      · refine ⟨e, e1, e2, ?_⟩
        rcases e3 with e3 | e3
        · exact .inl e3
        · by_cases hlt : e.on < acc.size
          · exact .inr (by rw [old e.on hlt]; exact e3)
          · have : acc.getD e.on 0 = 0 := by
              simp [Array.getD_eq_getD_getElem?, Array.getElem?_eq_none (Nat.le_of_not_lt hlt)]
            rw [this] at e3
            simp at e3
    | succ k =>
      rw [List.foldl_cons] at hb ⊢
      exact h2 k o' (by simpa using hk) (by rw [hs]; rwa [show acc.size + 1 + k = acc.size + (k + 1) by omega])

/-- What is ahead of an operation is so through one of its edges. -/
theorem before_spec {ops : Array Oper} {i j : Nat} {o : Oper} (ho : ops[i]? = some o) (h : ((Region.before ops).getD i 0).testBit j = true) :
    ∃ e ∈ o.after.toList, Region.binds .any e = true ∧ (e.on = j ∨ ((Region.before ops).getD e.on 0).testBit j = true) := by
  rw [before_eq] at h ⊢
  obtain ⟨_, h2⟩ := stepB_ok j ops.toList #[]
  have := h2 i o (by simpa using ho) (by simpa using h)
  simpa using this

/-- Which operations have been gone through. -/
def Closed (ops : Array Oper) (S : Nat → Prop) : Prop := ∀ i j, S i → ((Region.before ops).getD i 0).testBit j = true → S j

theorem closed_step {ops : Array Oper} {S : Nat → Prop} (hc : Closed ops S) {i : Nat} {o : Oper} (ho : ops[i]? = some o) (hr : ∀ e ∈ o.after.toList, Region.binds .any e = true → S e.on) :
    (∀ j, ((Region.before ops).getD i 0).testBit j = true → S j) ∧ Closed ops (fun k => S k ∨ k = i) := by
  have h1 : ∀ j, ((Region.before ops).getD i 0).testBit j = true → S j := by
    intro j hj
    obtain ⟨e, e1, e2, e3⟩ := before_spec ho hj
    rcases e3 with rfl | e3
    · exact hr e e1 e2
    · exact hc _ _ (hr e e1 e2) e3
  refine ⟨h1, fun k j hk hj => ?_⟩
  rcases hk with hk | rfl
  · exact .inl (hc k j hk hj)
  · exact .inl (h1 j hj)
end Go.Eng

/- Drawn regions: the run in the order of the text, step by step. -/
namespace Go.Eng
set_option linter.unusedVariables false

abbrev DLog := List (Nat × LogE)
inductive Stat where
  | dead | off | look | turn | panicked
  deriving DecidableEq

/-- The state ahead of an operation. -/
structure DS where
  t : Tm
  x : Aux
  h : Heap
  d : Dead
  g : DLog

def wantedC (co : COper) (t : Tm) : Prop := match co.guard with
  | none => True
  | some (s, b) => wants s b t = true

inductive StepT (c : Ctx) (co : COper) : DS → Stat → Value → DS → Prop where
  | dead {t x h d g} (ha : isAfter co.pre d = true) : StepT c co ⟨t, x, h, d, g⟩ .dead undef ⟨t, x, h, d, g⟩
  | off {t x h d g s b} (ha : isAfter co.pre d = false) (hg : co.guard = some (s, b)) (hw : wants s b t = false) : StepT c co ⟨t, x, h, d, g⟩ .off undef ⟨dPut co.dst undef t, x, h, d, g⟩
  | look {t x h d g l v} (ha : isAfter co.pre d = false) (hw : wantedC co t) (hl : lookOf co.op = some l) (hv : l t h = some v) (hu : unLook g l t v co.un = true) :
      StepT c co ⟨t, x, h, d, g⟩ .look v ⟨dPut co.dst v t, x, h, d, (co.idx, .ld fun now => tellsAs (l t now) v) :: g⟩
  | turn {t x h d g v x' h'} (ha : isAfter co.pre d = false) (hw : wantedC co t) (hl : lookOf co.op = none) (hd : (co.op.writes && d.isSome) = false) (hx : turnOf co.op c t x h (fun v x h => .got v x h) = .got v x' h')
      (hu : unTurn g h' co.un = true) : StepT c co ⟨t, x, h, d, g⟩ .turn v ⟨dPut co.dst v t, x', h', d, (co.idx, .wr h) :: g⟩
  | panicked {t x h g v l t' x' h'} (hw : wantedC co t) (hl : lookOf co.op = none) (hx : turnOf co.op c t x h (fun v x h => .got v x h) = .panic v l t' x' h')
      (hu : unTurn g h' co.un = true) : StepT c co ⟨t, x, h, none, g⟩ .panicked v ⟨t, x', h', some (co.idx, v), (co.idx, .wr h) :: g⟩

/-- The whole run. -/
structure Trc (c : Ctx) (os : List COper) (i0 : Nat) (F : Nat → DS) (st : Nat → Stat) (V : Nat → Value) : Prop where
  step : ∀ k co, os[k]? = some co → StepT c co (F (i0 + k)) (st (i0 + k)) (V (i0 + k)) (F (i0 + k + 1))

noncomputable def dRun (lost : List Nat) (os : List COper) (c : Ctx) (s : DS) : Rz := drawOf lost os s.g s.d c s.t s.x s.h

theorem dOne_step (lost : List Nat) (co : COper) (os : List COper) (c : Ctx) (s : DS) (hw : wantedC co s.t) : (∃ why, dOne co (drawOf lost os) s.g s.d c s.t s.x s.h = .fail why) ∨ ∃ st v s', StepT c co s st v s' ∧ dOne co (drawOf lost os) s.g s.d c s.t s.x s.h = dRun lost os c s' := by
  obtain ⟨t, x, h, d, g⟩ := s
  unfold dOne
  cases hl : lookOf co.op with
  | some l =>
    simp only
    unfold dLook
    cases ha : isAfter co.pre d with
    | true => exact .inr ⟨.dead, undef, _, .dead ha, rfl⟩
    | false =>
      simp only [cond_false]
      cases hv : l t h with
      | none => exact .inl ⟨_, rfl⟩
      | some v =>
        simp only
        cases hu : unLook g l t v co.un with
        | false => exact .inl ⟨_, rfl⟩
        | true => exact .inr ⟨.look, v, _, .look ha hw hl hv hu, rfl⟩
  | none =>
    simp only
    unfold dTurn
    cases ha : isAfter co.pre d with
    | true => exact .inr ⟨.dead, undef, _, .dead ha, rfl⟩
    | false =>
      simp only [cond_false]
      cases hd : (co.op.writes && d.isSome) with
      | true => exact .inl ⟨_, rfl⟩
      | false =>
        simp only [cond_false]
        cases hx : turnOf co.op c t x h (fun v x h => .got v x h) with
        | got v x' h' =>
          simp only
          cases hu : unTurn g h' co.un with
          | false => exact .inl ⟨_, rfl⟩
          | true => exact .inr ⟨.turn, v, _, .turn ha hw hl hd hx hu, rfl⟩
        | panic v l t' x' h' =>
          cases d with
          | some q => exact .inl ⟨_, rfl⟩
          | none =>
            simp only
            cases hu : unTurn g h' co.un with
            | false => exact .inl ⟨_, rfl⟩
            | true => exact .inr ⟨.panicked, v, _, .panicked hw hl hx hu, rfl⟩
        | fail why => exact .inl ⟨_, rfl⟩
        | norm => exact .inl ⟨_, rfl⟩
        | exit => exact .inl ⟨_, rfl⟩
        | ret => exact .inl ⟨_, rfl⟩
        | any => exact .inl ⟨_, rfl⟩

theorem dOf_step (lost : List Nat) (co : COper) (os : List COper) (c : Ctx) (s : DS) : (∃ why, dRun lost (co :: os) c s = .fail why) ∨ ∃ st v s', StepT c co s st v s' ∧ dRun lost (co :: os) c s = dRun lost os c s' := by
  show (∃ why, dOf co (drawOf lost os) s.g s.d c s.t s.x s.h = .fail why) ∨ ∃ st v s', StepT c co s st v s' ∧ dOf co (drawOf lost os) s.g s.d c s.t s.x s.h = dRun lost os c s'
  unfold dOf
  cases hg : co.guard with
  | none => exact dOne_step lost co os c s (by unfold wantedC; rw [hg]; trivial)
  | some q =>
    obtain ⟨gs, b⟩ := q
    simp only
    unfold dIf
    cases ha : isAfter co.pre s.d with
    | true => exact .inr ⟨.dead, undef, s, .dead ha, rfl⟩
    | false =>
      simp only [cond_false]
      cases hw : wants gs b s.t with
      | false => exact .inr ⟨.off, undef, _, .off ha hg hw, rfl⟩
      | true => exact dOne_step lost co os c s (by unfold wantedC; rw [hg]; exact hw)

theorem trace (lost : List Nat) (c : Ctx) : ∀ (os : List COper) (i0 : Nat) (s : DS), (∃ why, dRun lost os c s = .fail why) ∨ ∃ F st V, Trc c os i0 F st V ∧ F i0 = s ∧ dRun lost os c s = dRun lost [] c (F (i0 + os.length))
  | [], i0, s => .inr ⟨fun _ => s, fun _ => .dead, fun _ => undef, ⟨fun k co h => by simp at h⟩, rfl, rfl⟩
  | co :: os, i0, s => by
    rcases dOf_step lost co os c s with h | ⟨st0, v0, s', h1, h2⟩
    · exact .inl h
    · rcases trace lost c os (i0 + 1) s' with ⟨why, h⟩ | ⟨F, st, V, h3, h4, h5⟩
      · exact .inl ⟨why, h2.trans h⟩
      · refine .inr ⟨fun i => if i = i0 then s else F i, fun i => if i = i0 then st0 else st i, fun i => if i = i0 then v0 else V i, ⟨fun k co' hk => ?_⟩, by simp, ?_⟩
        · cases k with
          | zero =>
            simp at hk
            subst hk
            simp only [Nat.add_zero, if_true]
            rw [if_neg (by omega), h4]
            exact h1
          | succ k =>
            rw [if_neg (by omega), if_neg (by omega), if_neg (by omega), if_neg (by omega)]
            have := h3.step k co' (by simpa using hk)
            rwa [show i0 + 1 + k = i0 + (k + 1) by omega] at this
        · rw [h2, h5]
          simp only [List.length_cons]
          rw [if_neg (by omega), show i0 + 1 + os.length = i0 + (os.length + 1) by omega]
end Go.Eng

/- Drawn regions: what the run in the order of the text has checked. -/
namespace Go.Eng
set_option linter.unusedVariables false

section
variable {c : Ctx} {os : List COper} {F : Nat → DS} {st : Nat → Stat} {V : Nat → Value}

theorem findLog_cons (j i : Nat) (e : LogE) (g : DLog) : findLog j ((i, e) :: g) = if j = i then some e else findLog j g := by
  show (bif Nat.beq j i then some e else findLog j g) = _
  by_cases h : j = i
  · rw [if_pos h, beq_iff.2 h]; rfl
  · rw [if_neg h]
    have : Nat.beq j i = false := by
      cases hb : Nat.beq j i with
      | false => rfl
      | true => exact absurd (beq_iff.1 hb) h
    rw [this]; rfl

def LogIs (co : COper) (s : DS) (st : Stat) (v : Value) (r : Option LogE) : Prop := match st with
  | .look => ∃ l, lookOf co.op = some l ∧ r = some (.ld fun now => tellsAs (l s.t now) v)
  | .turn | .panicked => r = some (.wr s.h)
  | _ => r = none

theorem log_step {co : COper} {s s' : DS} {q : Stat} {v : Value} (h : StepT c co s q v s') (hn : findLog co.idx s.g = none) : LogIs co s q v (findLog co.idx s'.g) ∧ ∀ j, j ≠ co.idx → findLog j s'.g = findLog j s.g := by
  cases h with
  | dead => exact ⟨hn, fun _ _ => rfl⟩
  | off => exact ⟨hn, fun _ _ => rfl⟩
  | look ha hw hl hv hu => exact ⟨⟨_, hl, by rw [findLog_cons, if_pos rfl]⟩, fun j hj => by rw [findLog_cons, if_neg hj]⟩
  | turn ha hw hl hd hx hu => exact ⟨by show _ = _; rw [findLog_cons, if_pos rfl], fun j hj => by rw [findLog_cons, if_neg hj]⟩
  | panicked hw hl hx hu => exact ⟨by show _ = _; rw [findLog_cons, if_pos rfl], fun j hj => by rw [findLog_cons, if_neg hj]⟩

theorem log_at (T : Trc c os 0 F st V) (h0 : (F 0).g = []) (hi : ∀ (k : Nat) (co : COper), os[k]? = some co → co.idx = k) : ∀ i, i ≤ os.length → (∀ j co, j < i → os[j]? = some co → LogIs co (F j) (st j) (V j) (findLog j (F i).g)) ∧ ∀ j, i ≤ j → findLog j (F i).g = none := by
  intro i
  induction i with
  | zero => intro _; exact ⟨fun j co h => by omega, fun j _ => by rw [h0]; rfl⟩
  | succ i ih =>
    intro hle
    obtain ⟨h1, h2⟩ := ih (by omega)
    have hco : os[i]? = some os[i] := List.getElem?_eq_getElem (by omega)
    have hidx := hi i _ hco
    have hs := T.step i _ hco
    simp only [Nat.zero_add] at hs
    obtain ⟨g1, g2⟩ := log_step hs (by rw [hidx]; exact h2 i (Nat.le_refl i))
    rw [hidx] at g1 g2
    refine ⟨fun j co hj hc => ?_, fun j hj => ?_⟩
    · by_cases e : j = i
      · subst e
        rw [hco] at hc
        cases hc
        exact g1
      · rw [g2 j e]
        exact h1 j co (by omega) hc
    · rw [g2 j (by omega)]
      exact h2 j (by omega)

theorem unLook_all {g : DLog} {l : Look} {t : Tm} {v : Value} {un : List Nat} (h : unLook g l t v un = true) {i : Nat} (hi : i ∈ un) : match findLog i g with
    | none => True
    | some (.wr before) => tellsAs (l t before) v = true
    | some (.ld _) => False := by
  induction un with
  | nil => simp at hi
  | cons k un ih =>
    replace h : ((match findLog k g with
      | none => true
      | some (.wr before) => tellsAs (l t before) v
      | some (.ld _) => false) && unLook g l t v un) = true := h
    rw [Bool.and_eq_true] at h
    rcases List.mem_cons.1 hi with rfl | hi
    · have := h.1
      cases e : findLog i g with
      | none => trivial
      | some q =>
        rw [e] at this
        cases q with
        | wr b => exact this
        | ld b => cases this
    · exact ih h.2 hi

theorem unTurn_all {g : DLog} {now : Heap} {un : List Nat} (h : unTurn g now un = true) {i : Nat} (hi : i ∈ un) : match findLog i g with
    | none => True
    | some (.wr _) => False
    | some (.ld again) => again now = true := by
  induction un with
  | nil => simp at hi
  | cons k un ih =>
    replace h : ((match findLog k g with
      | none => true
      | some (.wr _) => false
      | some (.ld again) => again now) && unTurn g now un) = true := h
    rw [Bool.and_eq_true] at h
    rcases List.mem_cons.1 hi with rfl | hi
    · have := h.1
      cases e : findLog i g with
      | none => trivial
      | some q =>
        rw [e] at this
        cases q with
        | wr b => cases this
        | ld b => exact this
    · exact ih h.2 hi

/-- Values that are told alike are the same. -/
theorem sameV_eq : ∀ (n : Nat) (v v' : Value), sameV n v v' = true → v = v' := by
  have all : ∀ (n : Nat) (ih : ∀ v v', sameV n v v' = true → v = v') (xs ys : List Value), sameV.all (sameV n) xs ys = true → xs = ys := by
    intro n ih xs
    induction xs with
    | nil => intro ys h; cases ys with
      | nil => rfl
      | cons y ys => simp [sameV.all] at h
    | cons x xs ihx => intro ys h; cases ys with
      | nil => simp [sameV.all] at h
      | cons y ys =>
        simp only [sameV.all, Bool.and_eq_true] at h
        rw [ih x y h.1, ihx ys h.2]
  have flat : ∀ (n : Nat) (v v' : Value), sameV n v v' = true → (∀ t x, v ≠ .iface t x) → (∀ a, v ≠ .agg a) → (∀ a, v ≠ .tuple a) → (∀ f a b, v ≠ .func f a b) → v = v' := by
    intro n v v' h n1 n2 n3 n4
    cases v <;> first | exact absurd rfl (n1 _ _) | exact absurd rfl (n2 _) | exact absurd rfl (n3 _) | exact absurd rfl (n4 _ _ _) | skip
    case chan r =>
      cases r <;> cases v' <;> first | rfl | (cases n <;> cases h; done) | skip
      all_goals (rename_i r'; cases r' <;> first | rfl | (cases n <;> cases h; done))
    all_goals (cases v' <;> first | (cases n <;> cases h; done) | skip)
    all_goals (unfold sameV at h)
    all_goals first
      | rfl
      | (simp at h; rw [h]; done)
      | (simp only [Bool.and_eq_true, sameKind_iff, eqInt_iff, decide_eq_true_eq] at h; rw [h.1, h.2]; done)
      | (rw [(beq_bytes _ _).1 h]; done)
      | (simp only [Bool.and_eq_true, beq_iff, beq_iff_eq] at h; obtain ⟨⟨h1, h2⟩, h3⟩ := h; rw [h1, h2, h3]; done)
  intro n
  induction n with
  | zero =>
    intro v v' h
    refine flat 0 v v' h ?_ ?_ ?_ ?_ <;> (intros; rintro rfl; cases v' <;> cases h)
  | succ n ih =>
    intro v v' h
    cases v
    case iface t x =>
      cases v' <;> first | (cases h; done) | skip
      replace h : (Nat.beq _ _ && sameV n _ _) = true := h
      rw [Bool.and_eq_true, beq_iff] at h
      rw [h.1, ih _ _ h.2]
    case agg a =>
      cases v' <;> first | (cases h; done) | skip
      have := all n ih _ _ h
      rw [Array.toList_inj] at this
      rw [this]
    case tuple a =>
      cases v' <;> first | (cases h; done) | skip
      have := all n ih _ _ h
      rw [Array.toList_inj] at this
      rw [this]
    case func f a b =>
      cases v' <;> first | (cases h; done) | skip
      replace h : (_ == _ && sameV.all (sameV n) _ _ && sameV.all (sameV n) _ _) = true := h
      rw [Bool.and_eq_true, Bool.and_eq_true, beq_iff_eq] at h
      have h1 := all n ih _ _ h.1.2
      have h2 := all n ih _ _ h.2
      rw [Array.toList_inj] at h1 h2
      rw [h.1.1, h1, h2]
    all_goals exact flat (n + 1) _ v' h (by simp) (by simp) (by simp) (by simp)

theorem tellsAs_eq {r : Option Value} {v : Value} (h : tellsAs r v = true) : r = some v := by
  cases r with
  | none => cases h
  | some v' => rw [sameV_eq 20 v v' h]
end
end Go.Eng

/- Drawn regions: one operation's effect. -/
namespace Go.Eng
set_option linter.unusedVariables false

/-- An operation that comes to a value comes to what is behind it. -/
theorem exBack_nat {er : Er} {t : Tm} {x : Aux} {v : Value} {x' : Aux} {h' : Heap} (h : exBack er t x (fun v x h => .got v x h) = .got v x' h') (K : Cont) : exBack er t x K = K v x' h' := by
  cases er with
  | ret v0 h0 => cases h; rfl
  | panic ch h0 =>
    replace h : (match ch with
      | [(v, false)] => Rz.panic v [] t x h0
      | _ => .fail "a panic of many") = .got v x' h' := h
    split at h <;> cases h
  | fail => cases h
  | any => cases h
theorem exBack_pan {er : Er} {t : Tm} {x : Aux} {v : Value} {l : List Nat} {t' : Tm} {x' : Aux} {h' : Heap} (h : exBack er t x (fun v x h => .got v x h) = .panic v l t' x' h') (K : Cont) : exBack er t x K = .panic v l t' x' h' := by
  cases er with
  | ret v0 h0 => cases h
  | panic ch h0 =>
    replace h : (match ch with
      | [(v, false)] => Rz.panic v [] t x h0
      | _ => .fail "a panic of many") = .panic v l t' x' h' := h
    show (match ch with
      | [(v, false)] => Rz.panic v [] t x h0
      | _ => .fail "a panic of many") = .panic v l t' x' h'
    exact h
  | fail => cases h
  | any => cases h

theorem turn_nat {co : COp} {c : Ctx} {t : Tm} {x : Aux} {h : Heap} {v : Value} {x' : Aux} {h' : Heap} (hx : turnOf co c t x h (fun v x h => .got v x h) = .got v x' h') (K : Cont) : turnOf co c t x h K = K v x' h' := by
  have tn : ∀ T : Turn, xTurn T c t x h (fun v x h => .got v x h) = .got v x' h' → xTurn T c t x h K = K v x' h' := by
    intro T hT
    unfold xTurn at hT ⊢
    cases hv : T t h with
    | none => rw [hv] at hT; cases hT
    | some r => rw [hv] at hT; cases hT; rfl
  cases co <;> first
    | (cases hx; done)
    | exact tn _ hx
    | exact exBack_nat hx K
    | skip
  case alloc z => exact tn (tnAlloc z) hx
  case mkMap sh => exact tn (tnMkMap sh) hx
  case nilCheck y =>
    replace hx : xNil y.val c t x h (fun v x h => .got v x h) = .got v x' h' := hx
    show xNil y.val c t x h K = K v x' h'
    unfold xNil at hx ⊢
    split at hx
    · cases hx; rfl
    · cases hx; rfl
    · split at hx
      · rename_i name first cap hv _ ty w rest e
        cases hn : c.nilOk ty name with
        | true => rw [hn] at hx; cases hx; rfl
        | false => rw [hn] at hx; cases hx
      · cases hx
    · cases hx; rfl
    · cases hx
  case panic y =>
    replace hx : xPanic y.val c t x h (fun v x h => .got v x h) = .got v x' h' := hx
    unfold xPanic at hx
    split at hx <;> cases hx
  case recover =>
    replace hx : xRecover c t x h (fun v x h => .got v x h) = .got v x' h' := hx
    show xRecover c t x h K = K v x' h'
    unfold xRecover at hx ⊢
    split at hx
    · cases hx
    · split at hx <;> (cases hx; rfl)
  case defer f args =>
    replace hx : xDefer f.val (opds args) c t x h (fun v x h => .got v x h) = .got v x' h' := hx
    show xDefer f.val (opds args) c t x h K = K v x' h'
    unfold xDefer at hx ⊢
    split at hx
    · split at hx
      · cases hx; rfl
      · cases hx
    · cases hx
  case nextMap it =>
    replace hx : xNextMap it.val c t x h (fun v x h => .got v x h) = .got v x' h' := hx
    show xNextMap it.val c t x h K = K v x' h'
    unfold xNextMap at hx ⊢
    split at hx
    · rename_i f e
      split at hx
      · rename_i v0 h0 e0
        cases hx
        rfl
      · cases hx
    · cases hx
    · cases hx

theorem turn_pan {co : COp} {c : Ctx} {t : Tm} {x : Aux} {h : Heap} {v : Value} {l : List Nat} {t' : Tm} {x' : Aux} {h' : Heap} (hx : turnOf co c t x h (fun v x h => .got v x h) = .panic v l t' x' h') (K : Cont) : turnOf co c t x h K = .panic v l t' x' h' := by
  have tn : ∀ T : Turn, xTurn T c t x h (fun v x h => .got v x h) ≠ .panic v l t' x' h' := by
    intro T hT
    unfold xTurn at hT
    cases hv : T t h <;> rw [hv] at hT <;> cases hT
  cases co <;> first
    | (cases hx; done)
    | exact absurd hx (tn _)
    | exact exBack_pan hx K
    | skip
  case nilCheck y =>
    replace hx : xNil y.val c t x h (fun v x h => .got v x h) = .panic v l t' x' h' := hx
    unfold xNil at hx
    split at hx
    · cases hx
    · cases hx
    · split at hx
      · rename_i name first cap hv _ ty w rest e
        cases hn : c.nilOk ty name <;> rw [hn] at hx <;> cases hx
      · cases hx
    · cases hx
    · cases hx
  case panic y => exact hx
  case recover =>
    replace hx : xRecover c t x h (fun v x h => .got v x h) = .panic v l t' x' h' := hx
    unfold xRecover at hx
    split at hx
    · cases hx
    · split at hx <;> cases hx
  case defer f args =>
    replace hx : xDefer f.val (opds args) c t x h (fun v x h => .got v x h) = .panic v l t' x' h' := hx
    unfold xDefer at hx
    split at hx
    · split at hx <;> cases hx
    · cases hx
  case nextMap it =>
    replace hx : xNextMap it.val c t x h (fun v x h => .got v x h) = .panic v l t' x' h' := hx
    unfold xNextMap at hx
    split at hx
    · split at hx <;> cases hx
    · cases hx
    · cases hx
end Go.Eng

/- Drawn regions: values that name blocks below a bound; temporaries laid bare. -/
namespace Go.Eng
set_option linter.unusedVariables false

def Inj.cut (ι : Inj) (n : Nat) : Inj := fun b => if b < n then ι b else none
theorem Inj.cut_some {ι : Inj} {n b : Nat} {p : Place} (h : ι.cut n b = some p) : b < n ∧ ι b = some p := by
  unfold Inj.cut at h
  split at h
  · exact ⟨‹_›, h⟩
  · cases h
theorem Inj.cut_of {ι : Inj} {n b : Nat} {p : Place} (h : ι b = some p) (hb : b < n) : ι.cut n b = some p := by
  unfold Inj.cut
  rw [if_pos hb]; exact h
theorem Inj.cut_le (ι : Inj) (n : Nat) : (ι.cut n).le ι := fun b p h => (Inj.cut_some h).2

theorem FnRel.cut {ι κ : Inj} {n : Nat} (hk : ∀ b p, κ b = some p → b < n) {f f' f'' : Fn} (r : FnRel ι f f') (q : FnRel κ f f'') : FnRel (ι.cut n) f f' := by
  cases r with
  | func f => exact .func f
  | method n => exact .method n
  | yield hl => cases q with
    | yield hq => exact .yield (Inj.cut_of hl (hk _ _ hq))

/-- A value that goes with another one by places below a bound does so with any other one that it goes with. -/
theorem VRel.cut {ι κ : Inj} {n : Nat} (hk : ∀ b p, κ b = some p → b < n) {v v' v'' : Value} (r : VRel ι v v') (q : VRel κ v v'') : VRel (ι.cut n) v v' := by
  induction r generalizing v'' with
  | bool b => exact .bool b
  | int k n => exact .int k n
  | string s => exact .string s
  | pnil => exact .pnil
  | ptr hp => cases q with
    | ptr hq => exact .ptr (Inj.cut_of hp (hk _ _ hq))
  | snil n c => exact .snil n c
  | sempty he => exact .sempty he
  | slice hp he hc hn hl =>
    cases q with
    | sempty => 
      exact .sempty fun h => by have := he h; omega
    | slice hq => exact .slice (Inj.cut_of hp (hk _ _ hq)) he hc hn hl
  | mnil => exact .mnil
  | map hp => cases q with
    | map hq => exact .map (Inj.cut_of hp (hk _ _ hq))
  | func hf ha hc ra rc ia ic => cases q with
    | func gf ga gc sa sc => exact .func (hf.cut hk gf) ha hc (fun i h h' => ia i h h' (sa i h (by omega))) (fun i h h' => ic i h h' (sc i h (by omega)))
  | nilFunc => exact .nilFunc
  | iface t h ih => cases q with
    | iface _ hq => exact .iface t (ih hq)
  | nilIface => exact .nilIface
  | unk h => exact .unk h
  | agg ha ra fl ia => cases q with
    | agg ga sa gl => exact .agg ha (fun i h h' => ia i h h' (sa i h (by omega))) fl
  | tuple ha ra ia => cases q with
    | tuple ga sa => exact .tuple ha (fun i h h' => ia i h h' (sa i h (by omega)))
end Go.Eng

/- Drawn regions: an operation's effect in the model, whole. -/
namespace Go.Eng
set_option linter.unusedVariables false

theorem exOf_turn {co : COp} (hl : lookOf co = none) : exOf co = turnOf co := by
  cases co <;> first
    | (cases hl; done)
    | (rename_i a b; cases b <;> (cases hl; done))
    | (rename_i a b c; cases b <;> (cases hl; done))
    | (rename_i a b c d e; cases c <;> (cases hl; done))
    | rfl

section
variable {P : Program} {m : Nat}
theorem cOp_defer {o : Oper} {cl : Call} (ho : o.op = .defer cl) : (∃ f as, cOp P m o = .defer f as) ∨ ∃ why, cOp P m o = .bad why := by
  unfold cOp
  rw [ho]
  simp only
  split
  · rename_i f hf
    cases h1 : cOpd m f with
    | none => exact .inr ⟨_, rfl⟩
    | some f' =>
      cases h2 : cOpds m cl.args with
      | none => exact .inr ⟨_, rfl⟩
      | some as => exact .inl ⟨_, _, rfl⟩
  · exact .inr ⟨_, rfl⟩

theorem nd_look {o : Oper} {l : Look} (hl : lookOf (cOp P m o) = some l) : ∀ cl, o.op ≠ .defer cl := by
  intro cl ho
  rcases cOp_defer (P := P) (m := m) ho with ⟨f, as, h⟩ | ⟨why, h⟩ <;> rw [h] at hl <;> cases hl
theorem nd_quiet {o : Oper} (hw : (cOp P m o).writes = false) : ∀ cl, o.op ≠ .defer cl := by
  intro cl ho
  rcases cOp_defer (P := P) (m := m) ho with ⟨f, as, h⟩ | ⟨why, h⟩ <;> rw [h] at hw <;> cases hw
theorem nd_turn {b : Frame} {ι : Inj} {o : Oper} {c : Ctx} {t : Tm} {x : Aux} {h : Heap} {K : Cont} {r : Rz} (hx : turnOf (cOp P m o) c t x h K = r) (hr : ∀ why, r ≠ .fail why) (hro : RoundRel ι x.round b) : b.roundOf = none ∨ ∀ cl, o.op ≠ .defer cl := by
  cases hxr : x.round with
  | none => rw [hxr] at hro; exact .inl hro
  | some l =>
    refine .inr fun cl ho => ?_
    rcases cOp_defer (P := P) (m := m) ho with ⟨f, as, hc⟩ | ⟨why, hc⟩
    · rw [hc] at hx
      replace hx : xDefer f.val (opds as) c t x h K = r := hx
      unfold xDefer at hx
      rw [hxr] at hx
      exact hr _ hx.symm
    · rw [hc] at hx
      exact hr _ hx.symm
end

section
variable {P : Program} {B : Nat}
variable {ι : Inj} {H : Heap} {w : World} {m : Nat} {b : Frame} {t : Tm} {x : Aux} {a : Act} {cs : List Frame}
variable {m1 : Machine} {fr : Frame} {c : Ctx} {o : Oper}

theorem turn_big (C : CtxOK P B c) (hfr : fr.defers = a.defers) (hmode : fr.mode = .run) (hk : fr.kind = b.kind) (hrd : fr.roundOf = b.roundOf) (D : Does P m1 fr cs (execOp a.eval o) w) (S : St P B ι H w m b t x a cs) (hl : lookOf (cOp P m o) = none) {v : Value} {x' : Aux} {H' : Heap}
    (hx : turnOf (cOp P m o) c t x H (fun v x h => .got v x h) = .got v x' H') :
    ∃ ι' w' a' cs' v', Steps P m1 (lone (({ fr with defers := a'.defers } : Frame).finish v') cs' w') ∧ a'.tmps = a.tmps ∧ VRel ι' v v' ∧ St P B ι' H' w' m b t x' a' cs' ∧ Adv ι H w ι' H' w' ∧ CsAdv b cs cs' := by
  let Q : Value → List Nat → Tm → Aux → Heap → Prop := fun v l t1 x' H' => l = [0] → ∃ ι' w' a' cs' v', Steps P m1 (lone (({ fr with defers := a'.defers } : Frame).finish v') cs' w') ∧ a'.tmps = a.tmps ∧ VRel ι' v v' ∧ St P B ι' H' w' m b t x' a' cs' ∧ Adv ι H w ι' H' w' ∧ CsAdv b cs cs'
  have G : Goes P B ι H w m b t x a cs m1 fr (fun v x h => .panic v [0] t x h) (fun _ _ _ => True) (fun _ _ _ _ => True) (fun _ _ _ => True) Q := by
    refine ⟨fun ι' H' w' a' cs' v v' x' h1 h2 h3 h4 h5 h6 => ?_, fun ι' H' w' v v' h1 h2 h3 h4 h => by cases h⟩
    show Q v [0] t x' H'
    exact fun _ => ⟨ι', w', a', cs', v', h1, h2, h3, h4, h5, h6⟩
  have := op_sound G hfr hmode hk hrd C D S
  rw [exOf_turn hl, turn_nat hx] at this
  exact this rfl

theorem turn_bigP (C : CtxOK P B c) (hfr : fr.defers = a.defers) (hmode : fr.mode = .run) (hk : fr.kind = b.kind) (hrd : fr.roundOf = b.roundOf) (D : Does P m1 fr cs (execOp a.eval o) w) (S : St P B ι H w m b t x a cs) (hl : lookOf (cOp P m o) = none) {v : Value} {l : List Nat} {t' : Tm} {x' : Aux} {H' : Heap}
    (hx : turnOf (cOp P m o) c t x H (fun v x h => .got v x h) = .panic v l t' x' H') :
    ∃ ι' w' v', Steps P m1 (lone (fr.raise [{ v := v', recovered := false }]) cs w') ∧ VRel ι' v v' ∧ x' = x ∧ St P B ι' H' w' m b t x a cs ∧ Adv ι H w ι' H' w' := by
  let Q : Value → List Nat → Tm → Aux → Heap → Prop := fun v l t1 x' H' => l = [0] ∨ ∃ ι' w' v', Steps P m1 (lone (fr.raise [{ v := v', recovered := false }]) cs w') ∧ VRel ι' v v' ∧ x' = x ∧ St P B ι' H' w' m b t x a cs ∧ Adv ι H w ι' H' w'
  have G : Goes P B ι H w m b t x a cs m1 fr (fun v x h => .panic v [0] t x h) (fun _ _ _ => True) (fun _ _ _ _ => True) (fun _ _ _ => True) Q := by
    refine ⟨fun ι' H' w' a' cs' v v' x' h1 h2 h3 h4 h5 h6 => .inl rfl, fun ι' H' w' v v' h1 h2 h3 h4 => .inr ⟨ι', w', v', h1, h2, rfl, h3, h4⟩⟩
  have := op_sound G hfr hmode hk hrd C D S
  rw [exOf_turn hl, turn_pan hx] at this
  rcases this with h | h
  · -- the mark of a value is not a panic's
    exfalso
    have hl0 : l = [] := by
      have gen : ∀ (er : Er), exBack er t x (fun v x h => .got v x h) = .panic v l t' x' H' → l = [] := by
        intro er he
        cases er with
        | ret v0 h0 => cases he
        | panic ch h0 =>
          replace he : (match ch with
            | [(v, false)] => Rz.panic v [] t x h0
            | _ => .fail "a panic of many") = .panic v l t' x' H' := he
          split at he
          · cases he; rfl
          · cases he
        | fail => cases he
        | any => cases he
      have tn : ∀ T : Turn, xTurn T c t x H (fun v x h => .got v x h) ≠ .panic v l t' x' H' := by
        intro T hT
        unfold xTurn at hT
        cases hv : T t H <;> rw [hv] at hT <;> cases hT
      generalize cOp P m o = co at hx
      cases co <;> first
        | (cases hx; done)
        | exact absurd hx (tn _)
        | exact gen _ hx
        | skip
      case nilCheck y =>
        replace hx : xNil y.val c t x H (fun v x h => .got v x h) = .panic v l t' x' H' := hx
        unfold xNil at hx
        split at hx
        · cases hx
        · cases hx
        · split at hx
          · rename_i name first cap hv _ ty w rest e
            cases hn : c.nilOk ty name <;> rw [hn] at hx <;> cases hx
          · cases hx
        · cases hx
        · cases hx
      case panic y =>
        replace hx : xPanic y.val c t x H (fun v x h => .got v x h) = .panic v l t' x' H' := hx
        unfold xPanic at hx
        split at hx
        · cases hx; rfl
        · cases hx
      case recover =>
        replace hx : xRecover c t x H (fun v x h => .got v x h) = .panic v l t' x' H' := hx
        unfold xRecover at hx
        split at hx
        · cases hx
        · split at hx <;> cases hx
      case defer f args =>
        replace hx : xDefer f.val (opds args) c t x H (fun v x h => .got v x h) = .panic v l t' x' H' := hx
        unfold xDefer at hx
        split at hx
        · split at hx <;> cases hx
        · cases hx
      case nextMap it =>
        replace hx : xNextMap it.val c t x H (fun v x h => .got v x h) = .panic v l t' x' H' := hx
        unfold xNextMap at hx
        split at hx
        · split at hx <;> cases hx
        · cases hx
        · cases hx
    rw [hl0] at h
    cases h
  · exact h
end
end Go.Eng

/- Drawn regions: operations that only make memory; the temporaries that count. -/
namespace Go.Eng
set_option linter.unusedVariables false

section
variable {t : Tm} {H H' : Heap} {v : Value}

/-- An object that leans on no other one. -/
def lone1 : AObj → Prop
  | .miter .. => False
  | _ => True

theorem fresh_turn {c : COp} {T : Turn} (hl : tnOf c = some T) (hw : c.writes = false) (h : T t H = some (v, H')) : ∃ o, (H' = H.push o ∧ T t ⟨H.next, .nil⟩ = some (v, (⟨H.next, .nil⟩ : Heap).push o)) ∧ lone1 o := by
  cases c <;> first | (cases hl; done) | (cases hw; done) | skip
  case alloc z => cases hl; cases h; exact ⟨_, ⟨rfl, rfl⟩, trivial⟩
  case box y =>
    cases hl
    obtain ⟨cs, h1, h2⟩ := optV_some h
    cases h2
    refine ⟨_, ⟨rfl, ?_⟩, trivial⟩
    show optV none (newPtr ⟨H.next, .nil⟩) (cellsOf (y.val t)) = _
    rw [h1]; rfl
  case buildSlice z ps n =>
    cases hl
    replace h : (match fillParts t (partsF ps) z with
      | some cs => some (Value.slice (some ⟨H.next, 0, none⟩) n n, H.push (.cells true cs))
      | none => none) = some (v, H') := h
    split at h
    · rename_i cs hcs
      cases h
      refine ⟨_, ⟨rfl, ?_⟩, trivial⟩
      show (match fillParts t (partsF ps) z with
        | some cs => some (Value.slice (some ⟨H.next, 0, none⟩) n n, (⟨H.next, .nil⟩ : Heap).push (.cells true cs))
        | none => none) = _
      rw [hcs]
    · cases h
  case toBytes y =>
    cases hl
    replace h : (match y.val t with
      | .string s => some (Value.slice (some ⟨H.next, 0, inexact 1⟩) (bytes s).length (bytes s).length, H.push (.cells true (byteVals (bytes s))))
      | _ => none) = some (v, H') := h
    split at h
    · rename_i s hs
      cases h
      refine ⟨_, ⟨rfl, ?_⟩, trivial⟩
      show (match y.val t with
        | .string s => some (Value.slice (some ⟨H.next, 0, inexact 1⟩) (bytes s).length (bytes s).length, (⟨H.next, .nil⟩ : Heap).push (.cells true (byteVals (bytes s))))
        | _ => none) = _
      rw [hs]
    · cases h
  case mkMap sh => cases hl; cases h; exact ⟨_, ⟨rfl, rfl⟩, trivial⟩
  case mkSlice z l cp =>
    cases hl
    replace h : (match asNat (l.val t), asNat (cp.val t) with
      | some l, some c => bif Nat.ble l c && Nat.blt c 1000000 then some (Value.slice (some ⟨H.next, 0, none⟩) l c, H.push (.cells true (rep z c))) else none
      | _, _ => none) = some (v, H') := h
    split at h
    · rename_i ln cn h1 h2
      cases hb : (Nat.ble ln cn && Nat.blt cn 1000000) with
      | false => rw [hb] at h; cases h
      | true =>
        rw [hb] at h
        cases h
        refine ⟨_, ⟨rfl, ?_⟩, trivial⟩
        show (match asNat (l.val t), asNat (cp.val t) with
          | some l, some c => bif Nat.ble l c && Nat.blt c 1000000 then some (Value.slice (some ⟨H.next, 0, none⟩) l c, (⟨H.next, .nil⟩ : Heap).push (.cells true (rep z c))) else none
          | _, _ => none) = _
        rw [h1, h2]
        simp only [hb, cond_true]
    · cases h

/-- A turn that does not write: it makes a block, or hands its operand back. -/
theorem quiet_turn {co : COp} {c : Ctx} {x x' : Aux} (hl : lookOf co = none) (hw : co.writes = false) (hx : turnOf co c t x H (fun v x h => .got v x h) = .got v x' H') :
    x' = x ∧ ((∃ T, tnOf co = some T ∧ T t H = some (v, H')) ∨ (∃ y, co = .nilCheck y ∧ H' = H)) := by
  have tn : ∀ T : Turn, xTurn T c t x H (fun v x h => .got v x h) = .got v x' H' → x' = x ∧ T t H = some (v, H') := by
    intro T hT
    unfold xTurn at hT
    cases hv : T t H with
    | none => rw [hv] at hT; cases hT
    | some r => rw [hv] at hT; cases hT; exact ⟨rfl, rfl⟩
  cases co <;> first
    | (cases hw; done)
    | (cases hl; done)
    | (cases hx; done)
    | skip
  case alloc z => obtain ⟨h1, h2⟩ := tn (tnAlloc z) hx; exact ⟨h1, .inl ⟨_, rfl, h2⟩⟩
  case box y => obtain ⟨h1, h2⟩ := tn _ hx; exact ⟨h1, .inl ⟨_, rfl, h2⟩⟩
  case buildSlice z ps n => obtain ⟨h1, h2⟩ := tn _ hx; exact ⟨h1, .inl ⟨_, rfl, h2⟩⟩
  case toBytes y => obtain ⟨h1, h2⟩ := tn _ hx; exact ⟨h1, .inl ⟨_, rfl, h2⟩⟩
  case mkMap sh => obtain ⟨h1, h2⟩ := tn (tnMkMap sh) hx; exact ⟨h1, .inl ⟨_, rfl, h2⟩⟩
  case mkSlice z l cp => obtain ⟨h1, h2⟩ := tn _ hx; exact ⟨h1, .inl ⟨_, rfl, h2⟩⟩
  case nilCheck y =>
    replace hx : xNil y.val c t x H (fun v x h => .got v x h) = .got v x' H' := hx
    unfold xNil at hx
    split at hx
    · cases hx; exact ⟨rfl, .inr ⟨y, rfl, rfl⟩⟩
    · cases hx; exact ⟨rfl, .inr ⟨y, rfl, rfl⟩⟩
    · split at hx
      · rename_i name first cap hv _ ty w rest e
        cases hn : c.nilOk ty name with
        | true => rw [hn] at hx; cases hx; exact ⟨rfl, .inr ⟨y, rfl, rfl⟩⟩
        | false => rw [hn] at hx; cases hx
      · cases hx
    · cases hx; exact ⟨rfl, .inr ⟨y, rfl, rfl⟩⟩
    · cases hx
  all_goals (first | (rename_i a b; cases b <;> cases hl; done) | (rename_i a b d; cases b <;> cases hl; done) | (rename_i a b d e f; cases d <;> cases hl; done))

/-- The same from where memory ends, with nothing else known. -/
theorem quiet_fresh {co : COp} {c : Ctx} {x x' : Aux} (hl : lookOf co = none) (hw : co.writes = false) (hx : turnOf co c t x H (fun v x h => .got v x h) = .got v x' H') :
    x' = x ∧ ∃ H1 : Heap, turnOf co c t x ⟨H.next, .nil⟩ (fun v x h => .got v x h) = .got v x H1 ∧ ((H' = H ∧ H1 = ⟨H.next, .nil⟩) ∨ ∃ o, lone1 o ∧ H' = H.push o ∧ H1 = (⟨H.next, .nil⟩ : Heap).push o) := by
  obtain ⟨rfl, h⟩ := quiet_turn hl hw hx
  refine ⟨rfl, ?_⟩
  rcases h with ⟨T, h1, h2⟩ | ⟨y, rfl, rfl⟩
  · obtain ⟨o, ⟨h4, h5⟩, h3⟩ := fresh_turn h1 hw h2
    refine ⟨_, ?_, .inr ⟨o, h3, h4, rfl⟩⟩
    rw [turnOf_tn h1]
    unfold xTurn
    rw [h5]
  · refine ⟨_, ?_, .inl ⟨rfl, rfl⟩⟩
    replace hx : xNil y.val c t x' H' (fun v x h => .got v x h) = .got v x' H' := hx
    show xNil y.val c t x' ⟨H'.next, .nil⟩ (fun v x h => .got v x h) = .got v x' ⟨H'.next, .nil⟩
    unfold xNil at hx ⊢
    split at hx
    · cases hx; rfl
    · cases hx; rfl
    · split at hx
      · rename_i name first cap hv _ ty w rest e
        cases hn : c.nilOk ty name with
        | true => rw [hn] at hx; cases hx; rfl
        | false => rw [hn] at hx; cases hx
      · cases hx
    · cases hx; rfl
    · cases hx
end
end Go.Eng

/- Drawn regions: operations on temporaries of which only those looked at are known. -/
namespace Go.Eng
set_option linter.unusedVariables false

noncomputable def clearT (bad : List Nat) (t : Tm) : Tm := bad.foldr (fun s t => slotP s undef t) t
def clearA (bad : List Nat) (a : Array Value) : Array Value := bad.foldr (fun s a => a.setIfInBounds s undef) a

theorem clearT_get (bad : List Nat) (hb : ∀ s ∈ bad, s < 256) (t : Tm) {n : Nat} (hn : n < 256) : slotG n (clearT bad t) = if n ∈ bad then undef else slotG n t := by
  induction bad with
  | nil => simp [clearT]
  | cons s bad ih =>
    have ih := ih fun q hq => hb q (by simp [hq])
    show slotG n (slotP s undef (clearT bad t)) = _
    by_cases e : n = s
    · subst e; rw [slot_same]; simp
    · rw [slot_other (hb s (by simp)) hn e, ih]
      simp [e]

theorem clearA_size (bad : List Nat) (a : Array Value) : (clearA bad a).size = a.size := by
  induction bad with
  | nil => rfl
  | cons s bad ih => show ((clearA bad a).setIfInBounds s undef).size = _; simpa using ih

theorem clearA_get (bad : List Nat) (a : Array Value) (n : Nat) : (clearA bad a).getD n undef = if n ∈ bad then undef else a.getD n undef := by
  induction bad with
  | nil => simp [clearA]
  | cons s bad ih =>
    show ((clearA bad a).setIfInBounds s undef).getD n undef = _
    by_cases e : n = s
    · subst e
      simp only [List.mem_cons, true_or, if_true]
      rw [Array.getD_eq_getD_getElem?, Array.getElem?_setIfInBounds]
      simp only [if_true]
      split <;> rfl
    · rw [Array.getD_eq_getD_getElem?, Array.getElem?_setIfInBounds_ne (Ne.symm e), ← Array.getD_eq_getD_getElem?, ih]
      simp [e]

/-- The slots that are not among these. -/
def others (ls : List Nat) : List Nat := (List.range 256).filter fun n => !ls.contains n
theorem others_lt {ls : List Nat} : ∀ s ∈ others ls, s < 256 := by
  intro s hs
  have := (List.mem_filter.1 hs).1
  simpa using this
theorem mem_others {ls : List Nat} {n : Nat} (hn : n < 256) : n ∈ others ls ↔ n ∉ ls := by
  unfold others
  rw [List.mem_filter, List.mem_range]
  simp [hn]

section
variable {P : Program} {B : Nat} {ι : Inj} {w : World} {m : Nat}

theorem part_rel {t : Tm} {tmps : Array Value} {ls : List Nat} (hm : m ≤ tmps.size) (h : ∀ s ∈ ls, s < m → s < 256 → VRel ι (slotG s t) (tmps.getD s undef)) : TmRel ι m (clearT (others ls) t) (clearA (others ls) tmps) := by
  refine ⟨by rw [clearA_size]; exact hm, fun n h1 h2 => ?_⟩
  rw [clearT_get _ others_lt t h1, clearA_get]
  by_cases hn : n ∈ others ls
  · rw [if_pos hn, if_pos hn]; exact undef_rel ι
  · rw [if_neg hn, if_neg hn]
    have : n ∈ ls := by
      rw [mem_others h1] at hn
      exact Classical.not_not.1 hn
    exact h n this h2 h1

theorem eval_part {a : Act} {ls : List Nat} {x : Operand} (hx : ∀ n, x = .tmp n → n ∈ ls) (hm : ∀ n, x = .tmp n → n < 256) : ({ a with tmps := clearA (others ls) a.tmps } : Act).eval x = a.eval x := by
  cases x with
  | tmp n =>
    show (clearA (others ls) a.tmps).getD n undef = a.tmps.getD n undef
    rw [clearA_get, if_neg]
    rw [mem_others (hm n rfl)]
    exact fun h => h (hx n rfl)
  | _ => rfl

theorem exec_part {a : Act} {ls : List Nat} {o : Oper} (hs : ∀ cs b, o.op ≠ .select cs b) (hx : ∀ n ∈ tmpsOf o.op.operands.toList, n ∈ ls) (hm : ∀ n ∈ tmpsOf o.op.operands.toList, n < 256) : execOp ({ a with tmps := clearA (others ls) a.tmps } : Act).eval o = execOp a.eval o := by
  refine execOp_congr o hs fun x hxm => ?_
  have mem : ∀ n, x = .tmp n → n ∈ tmpsOf o.op.operands.toList := by
    rintro n rfl
    exact List.mem_filterMap.2 ⟨_, by simpa using hxm, rfl⟩
  exact eval_part (fun n h => hx n (mem n h)) (fun n h => hm n (mem n h))

theorem val_part {t : Tm} {ls : List Nat} {x : Opd} (hx : ∀ n, x = .tmp n → n ∈ ls) (hm : ∀ n, x = .tmp n → n < 256) : x.val (clearT (others ls) t) = x.val t := by
  cases x with
  | tmp n =>
    show slotG n _ = slotG n t
    rw [clearT_get _ others_lt t (hm n rfl), if_neg]
    rw [mem_others (hm n rfl)]
    exact fun h => h (hx n rfl)
  | const v => rfl
end
end Go.Eng

/- Drawn regions: memory, in parts; operations on few temporaries. -/
namespace Go.Eng
set_option linter.unusedVariables false

section
variable {P : Program} {B : Nat}

/-- Other places known, fewer objects. -/
theorem Sim.turn {κ ι : Inj} {H H' : Heap} {w : World} (s : Sim P B κ H w) (h : ∀ b p o, ι b = some p → H'.get b = some o → κ b = some p ∧ H.get b = some o) (hle : κ.le ι)
    (hb : ∀ b p, ι b = some p → b < H'.next) (hl : ∀ b p, ι b = some p → p.b < w.heap.size) (hk : ∀ b, H'.next ≤ b → H'.get b = none) : Sim P B ι H' w := by
  refine ⟨fun b p o hp ho => ?_, fun b b' p p' o o' hne h1 h2 g1 g2 => ?_, hb, hl, hk, s.base⟩
  · obtain ⟨k1, k2⟩ := h b p o hp ho
    refine (s.obj b p o k1 k2).stay hle (fun _ _ _ _ _ => ⟨rfl, rfl⟩) (fun _ _ _ => .refl _ _) (fun _ => rfl) ?_
    intro m ver left last pm e hm sh ver' es hg
    exact .inr ⟨(h _ _ _ (hle _ _ hm) hg).2, rfl⟩
  · obtain ⟨k1, k2⟩ := h b p o h1 g1
    obtain ⟨k3, k4⟩ := h b' p' o' h2 g2
    exact s.apart b b' p p' o o' hne k1 k3 k2 k4

/-- Nothing known of memory. -/
theorem Sim.bare {κ ι : Inj} {H : Heap} {w : World} (s : Sim P B κ H w) {N : Nat} (hb : ∀ b p, ι b = some p → b < N) (hl : ∀ b p, ι b = some p → p.b < w.heap.size) : Sim P B ι ⟨N, .nil⟩ w :=
  ⟨fun _ _ _ _ h => (by cases h), fun _ _ _ _ _ _ _ _ _ h => (by cases h), hb, hl, fun _ _ => rfl, s.base⟩

/-- The model's memory has grown. -/
theorem Sim.grown {ι : Inj} {H : Heap} {w w1 : World} (s : Sim P B ι H w) (hs : w.heap.size ≤ w1.heap.size) (hk : ∀ k, k < w.heap.size → w1.heap[k]? = w.heap[k]?) : Sim P B ι H w1 := by
  refine ⟨fun b p o hp ho => ?_, s.apart, s.bound, fun b p hp => Nat.lt_of_lt_of_le (s.lt b p hp) hs, s.blank, Nat.le_trans s.base hs⟩
  refine (s.obj b p o hp ho).stay ι.le_refl (fun _ _ _ i _ => cells_other (hk _ (s.lt b p hp)) _) (fun _ _ _ => .of_eq (hk _ (s.lt b p hp))) (fun _ => hk _ (s.lt b p hp)) ?_
  intro m ver left last pm e hm sh ver' es hg
  exact .inr ⟨hg, hk _ (s.lt m pm hm)⟩

/-- An object that leans on no other one, elsewhere. -/
theorem ObjRel.shift {ι ι' : Inj} {H H' : Heap} {w w' : World} {p : Place} {o : AObj} (r : ObjRel P B ι H w p o) (h1 : lone1 o) (hι : ι.le ι') (hk : w'.heap[p.b]? = w.heap[p.b]?) : ObjRel P B ι' H' w' p o := by
  refine r.stay hι (fun _ _ _ i _ => cells_other hk _) (fun _ _ _ => .of_eq hk) (fun _ => hk) ?_
  rintro m ver left last pm rfl
  exact h1.elim

/-- One place more is known. -/
theorem Sim.learn {ι : Inj} {H : Heap} {w : World} (s : Sim P B ι H w) {b : Nat} {p : Place} (hn : ι b = none) (hb : b < H.next) (hp : p.b < w.heap.size) (solo : ∀ b' p', ι b' = some p' → p'.b ≠ p.b)
    (ho : ∀ o, H.get b = some o → ObjRel P B (ι.with b p) H w p o) : Sim P B (ι.with b p) H w := by
  have hle := Inj.with_le hn p
  refine ⟨fun c q o hc hg => ?_, fun c c' q q' o o' hne h1 h2 g1 g2 heq => ?_, fun c q hc => ?_, fun c q hc => ?_, s.blank, s.base⟩
  · rcases Inj.with_cases hc with ⟨rfl, rfl⟩ | ⟨hne, hc'⟩
    · exact ho o hg
    · refine (s.obj c q o hc' hg).stay hle (fun _ _ _ _ _ => ⟨rfl, rfl⟩) (fun _ _ _ => .refl _ _) (fun _ => rfl) ?_
      intro m ver left last pm e hm sh ver' es hg'
      exact .inr ⟨hg', rfl⟩
  · rcases Inj.with_cases h1 with ⟨rfl, rfl⟩ | ⟨hn1, h1'⟩
    · rcases Inj.with_cases h2 with ⟨rfl, rfl⟩ | ⟨hn2, h2'⟩
      · exact absurd rfl hne
      · exact absurd heq.symm (solo _ _ h2')
    · rcases Inj.with_cases h2 with ⟨rfl, rfl⟩ | ⟨hn2, h2'⟩
      · exact absurd heq (solo _ _ h1')
      · exact s.apart c c' q q' o o' hne h1' h2' g1 g2 heq
  · rcases Inj.with_cases hc with ⟨rfl, rfl⟩ | ⟨hne, hc'⟩
    · exact hb
    · exact s.bound c q hc'
  · rcases Inj.with_cases hc with ⟨rfl, rfl⟩ | ⟨hne, hc'⟩
    · exact hp
    · exact s.lt c q hc'

/-- A block that no place is known of. -/
theorem Sim.push {ι : Inj} {H : Heap} {w : World} (s : Sim P B ι H w) (o : AObj) : Sim P B ι (H.push o) w := by
  refine s.turn (fun b p o' hp ho => ⟨hp, ?_⟩) ι.le_refl (fun b p hp => ?_) s.lt (fun b hb => ?_)
  · rw [Heap.get_push, if_neg (by have := s.bound b p hp; omega)] at ho
    exact ho
  · have := s.bound b p hp; simp; omega
  · simp at hb
    rw [Heap.get_push, if_neg (by omega)]
    exact s.blank b (by omega)
end

/-! ### Operations on few temporaries -/
section
variable {t t' : Tm} {c : Ctx} {x x' : Aux} {h h' : Heap} {v : Value}

theorem exBack_pan' {er : Er} {l : List Nat} {s : Tm} (hx : exBack er t x (fun v x h => .got v x h) = .panic v l s x' h') : ∃ s', exBack er t' x (fun v x h => .got v x h) = .panic v l s' x' h' := by
  cases er with
  | ret v0 h0 => cases hx
  | panic ch h0 =>
    replace hx : (match ch with
      | [(v, false)] => Rz.panic v [] t x h0
      | _ => .fail "a panic of many") = .panic v l s x' h' := hx
    split at hx
    · cases hx; exact ⟨_, rfl⟩
    · cases hx
  | fail => cases hx
  | any => cases hx
theorem exBack_got' {er : Er} (hx : exBack er t x (fun v x h => .got v x h) = .got v x' h') : exBack er t' x (fun v x h => .got v x h) = .got v x' h' := by
  cases er with
  | ret v0 h0 => exact hx
  | panic ch h0 =>
    replace hx : (match ch with
      | [(v, false)] => Rz.panic v [] t x h0
      | _ => .fail "a panic of many") = .got v x' h' := hx
    split at hx <;> cases hx
  | fail => cases hx
  | any => cases hx

theorem turnOf_got {co : COp} (hy : ∀ y ∈ co.opds, y.val t = y.val t') (hx : turnOf co c t x h (fun v x h => .got v x h) = .got v x' h') : turnOf co c t' x h (fun v x h => .got v x h) = .got v x' h' := by
  cases ht : tnOf co with
  | some T =>
    rw [turnOf_tn ht] at hx ⊢
    unfold xTurn at hx ⊢
    rw [← turn_local ht hy]
    exact hx
  | none =>
    cases co <;> first
      | (cases hx; done)
      | (cases ht; done)
      | skip
    case nilCheck y =>
      show xNil y.val c t' x h _ = _
      replace hx : xNil y.val c t x h _ = _ := hx
      unfold xNil at hx ⊢
      rw [← hy y (by simp [COp.opds])]
      exact hx
    case nextMap y =>
      show xNextMap y.val c t' x h _ = _
      replace hx : xNextMap y.val c t x h _ = _ := hx
      unfold xNextMap at hx ⊢
      rw [← hy y (by simp [COp.opds])]
      exact hx
    case panic y =>
      replace hx : xPanic y.val c t x h (fun v x h => .got v x h) = _ := hx
      unfold xPanic at hx
      split at hx <;> cases hx
    case recover => exact hx
    case call f args =>
      show exBack (c.call (f.val t') (vals t' (opds args)) h) t' x _ = _
      replace hx : exBack (c.call (f.val t) (vals t (opds args)) h) t x _ = _ := hx
      rw [← hy f (by simp [COp.opds]), ← vals_local fun z hz => hy z (by simp [COp.opds, hz])]
      exact exBack_got' hx
    case invoke f name args =>
      show exBack (c.inv (f.val t') name (vals t' (opds args)) h) t' x _ = _
      replace hx : exBack (c.inv (f.val t) name (vals t (opds args)) h) t x _ = _ := hx
      rw [← hy f (by simp [COp.opds]), ← vals_local fun z hz => hy z (by simp [COp.opds, hz])]
      exact exBack_got' hx
    case defer f args =>
      show xDefer f.val (opds args) c t' x h _ = _
      replace hx : xDefer f.val (opds args) c t x h _ = _ := hx
      unfold xDefer at hx ⊢
      rw [← hy f (by simp [COp.opds]), ← vals_local fun z hz => hy z (by simp [COp.opds, hz])]
      exact hx

theorem turnOf_pan {co : COp} {l : List Nat} {s : Tm} (hy : ∀ y ∈ co.opds, y.val t = y.val t') (hx : turnOf co c t x h (fun v x h => .got v x h) = .panic v l s x' h') : ∃ s', turnOf co c t' x h (fun v x h => .got v x h) = .panic v l s' x' h' := by
  cases ht : tnOf co with
  | some T =>
    rw [turnOf_tn ht] at hx
    unfold xTurn at hx
    cases hv : T t h <;> rw [hv] at hx <;> cases hx
  | none =>
    cases co <;> first
      | (cases hx; done)
      | (cases ht; done)
      | skip
    case nilCheck y =>
      replace hx : xNil y.val c t x h _ = _ := hx
      unfold xNil at hx
      split at hx
      · cases hx
      · cases hx
      · split at hx
        · rename_i name first cap hv _ ty w rest e
          cases hn : c.nilOk ty name <;> rw [hn] at hx <;> cases hx
        · cases hx
      · cases hx
      · cases hx
    case nextMap y =>
      replace hx : xNextMap y.val c t x h _ = _ := hx
      unfold xNextMap at hx
      split at hx
      · split at hx <;> cases hx
      · cases hx
      · cases hx
    case panic y =>
      show ∃ s', xPanic y.val c t' x h (fun v x h => .got v x h) = _
      replace hx : xPanic y.val c t x h (fun v x h => .got v x h) = _ := hx
      unfold xPanic at hx ⊢
      rw [← hy y (by simp [COp.opds])]
      split at hx
      · cases hx; exact ⟨_, rfl⟩
      · cases hx
    case recover =>
      replace hx : xRecover c t x h _ = _ := hx
      unfold xRecover at hx
      split at hx
      · cases hx
      · split at hx <;> cases hx
    case call f args =>
      show ∃ s', exBack (c.call (f.val t') (vals t' (opds args)) h) t' x _ = _
      replace hx : exBack (c.call (f.val t) (vals t (opds args)) h) t x _ = _ := hx
      rw [← hy f (by simp [COp.opds]), ← vals_local fun z hz => hy z (by simp [COp.opds, hz])]
      exact exBack_pan' hx
    case invoke f name args =>
      show ∃ s', exBack (c.inv (f.val t') name (vals t' (opds args)) h) t' x _ = _
      replace hx : exBack (c.inv (f.val t) name (vals t (opds args)) h) t x _ = _ := hx
      rw [← hy f (by simp [COp.opds]), ← vals_local fun z hz => hy z (by simp [COp.opds, hz])]
      exact exBack_pan' hx
    case defer f args =>
      replace hx : xDefer f.val (opds args) c t x h _ = _ := hx
      unfold xDefer at hx
      split at hx
      · split at hx <;> cases hx
      · cases hx
end
end Go.Eng

/- Drawn regions: the run in the order of the text, as it counts. -/
namespace Go.Eng
set_option linter.unusedVariables false

theorem StepT.view {c : Ctx} {co : COper} {s s' : DS} {q : Stat} {v : Value} (h : StepT c co s q v s') :
    (q = .dead ∧ isAfter co.pre s.d = true ∧ s' = s) ∨
    (q = .off ∧ (∃ g b, co.guard = some (g, b) ∧ wants g b s.t = false) ∧ v = undef ∧ s'.t = dPut co.dst undef s.t ∧ s'.x = s.x ∧ s'.h = s.h ∧ s'.d = s.d) ∨
    (q = .look ∧ wantedC co s.t ∧ (∃ l, lookOf co.op = some l ∧ l s.t s.h = some v ∧ unLook s.g l s.t v co.un = true) ∧ s'.t = dPut co.dst v s.t ∧ s'.x = s.x ∧ s'.h = s.h ∧ s'.d = s.d) ∨
    (q = .turn ∧ wantedC co s.t ∧ lookOf co.op = none ∧ (co.op.writes && s.d.isSome) = false ∧ turnOf co.op c s.t s.x s.h (fun v x h => .got v x h) = .got v s'.x s'.h ∧ unTurn s.g s'.h co.un = true ∧ s'.t = dPut co.dst v s.t ∧ s'.d = s.d) ∨
    (q = .panicked ∧ wantedC co s.t ∧ lookOf co.op = none ∧ s.d = none ∧ (∃ l t', turnOf co.op c s.t s.x s.h (fun v x h => .got v x h) = .panic v l t' s'.x s'.h) ∧ unTurn s.g s'.h co.un = true ∧ s'.t = s.t ∧ s'.d = some (co.idx, v)) := by
  cases h with
  | dead ha => exact .inl ⟨rfl, ha, rfl⟩
  | off ha hg hw => exact .inr (.inl ⟨rfl, ⟨_, _, hg, hw⟩, rfl, rfl, rfl, rfl, rfl⟩)
  | look ha hw hl hv hu => exact .inr (.inr (.inl ⟨rfl, hw, ⟨_, hl, hv, hu⟩, rfl, rfl, rfl, rfl⟩))
  | turn ha hw hl hd hx hu => exact .inr (.inr (.inr (.inl ⟨rfl, hw, hl, hd, hx, hu, rfl, rfl⟩)))
  | panicked hw hl hx hu => exact .inr (.inr (.inr (.inr ⟨rfl, hw, hl, rfl, ⟨_, _, hx⟩, hu, rfl, rfl⟩)))

theorem pan_writes {co : COp} {c : Ctx} {t : Tm} {x : Aux} {h : Heap} {v : Value} {l : List Nat} {t' : Tm} {x' : Aux} {h' : Heap} (hx : turnOf co c t x h (fun v x h => .got v x h) = .panic v l t' x' h') : co.writes = true := by
  have tn : ∀ T : Turn, xTurn T c t x h (fun v x h => .got v x h) ≠ .panic v l t' x' h' := by
    intro T hT
    unfold xTurn at hT
    cases hv : T t h <;> rw [hv] at hT <;> cases hT
  cases co <;> first
    | rfl
    | exact absurd hx (tn _)
    | (cases hx; done)
    | skip
  case nilCheck y =>
    replace hx : xNil y.val c t x h (fun v x h => .got v x h) = _ := hx
    unfold xNil at hx
    split at hx
    · cases hx
    · cases hx
    · split at hx
      · rename_i name first cap hv _ ty w rest e
        cases hn : c.nilOk ty name <;> rw [hn] at hx <;> cases hx
      · cases hx
    · cases hx
    · cases hx

section
variable {m : Nat} {ops : Array Oper} {cs : Array COp} {b : Array Nat}

theorem mem_idx {o : Oper} {i : Nat} : (o, i) ∈ ops.toList.zipIdx ↔ ops[i]? = some o := by
  rw [List.mk_mem_zipIdx_iff_getElem?]
  simp

theorem fine_edges (h : drawFine m ops cs b = true) {i : Nat} {o : Oper} (ho : ops[i]? = some o) {e : Edge} (he : e ∈ o.after.toList) (hb : Region.binds .any e = true) : e.on < i := by
  unfold drawFine at h
  simp only [Bool.and_eq_true, List.all_eq_true] at h
  have := h.1.1 (o, i) (mem_idx.2 ho) e he
  simp only [hb, Bool.not_true, Bool.false_or, blt_iff] at this
  exact this

theorem fine_dst (h : drawFine m ops cs b = true) {i j : Nat} {o p : Oper} {d : Nat} (ho : ops[i]? = some o) (hp : ops[j]? = some p) (h1 : o.dst = some d) (h2 : p.dst = some d) : i = j := by
  unfold drawFine at h
  simp only [Bool.and_eq_true, List.all_eq_true] at h
  have := h.1.2 (o, i) (mem_idx.2 ho)
  simp only [h1, List.all_eq_true] at this
  have := this (p, j) (mem_idx.2 hp)
  simp only [h2, Bool.or_eq_true, beq_iff] at this
  rcases this with this | this
  · exact this
  · rw [beq_iff.2 rfl] at this; cases this

theorem fine_looks (h : drawFine m ops cs b = true) {i s : Nat} {o : Oper} (ho : ops[i]? = some o) (hs : s ∈ looks ops o (cs.getD i (.bad ""))) :
    s < 256 ∧ s < m ∧ ∀ j p, ops[j]? = some p → p.dst = some s → (j < i ∧ (b.getD i 0).testBit j = true) ∨ i = j ∨ (i < j ∧ (b.getD j 0).testBit i = true) := by
  unfold drawFine at h
  simp only [Bool.and_eq_true, List.all_eq_true] at h
  obtain ⟨⟨h1, h2⟩, h3⟩ := h.2 (o, i) (mem_idx.2 ho) s hs
  rw [blt_iff] at h1 h2
  refine ⟨h1, h2, fun j p hp hd => ?_⟩
  have := h3 (p, j) (mem_idx.2 hp)
  simp only [hd, Bool.or_eq_true, Bool.and_eq_true, beq_iff.2 rfl, Bool.not_true, Bool.false_eq_true, false_or, blt_iff] at this
  rcases this with (h | h) | h
  · exact .inl h
  · exact .inr (.inl (beq_iff.1 h))
  · exact .inr (.inr h)
end

/-- What is given: the run, and that the region is fine. -/
structure DrawT (P : Program) (c : Ctx) (m : Nat) (ops : Array Oper) (F : Nat → DS) (st : Nat → Stat) (V : Nat → Value) : Prop where
  fine : drawFine m ops (ops.map (cOp P m)) (Region.before ops) = true
  trc : Trc c (ops.toList.zipIdx.map fun (o, j) => cOne P m ops o j (unOf (ops.map (cOp P m)) (Region.before ops) j) (preOf (ops.map (cOp P m)) (Region.before ops) j)) 0 F st V
  g0 : (F 0).g = []
  d0 : (F 0).d = none

/-- j goes ahead of i. -/
def Ahead (ops : Array Oper) (j i : Nat) : Prop := ((Region.before ops).getD i 0).testBit j = true

def GuardIs (ops : Array Oper) (o : Oper) (m : Nat) : Option (Nat × Bool) → Prop
  | none => o.guard = none
  | some (s, w) => ∃ gi, o.guard = some (gi, w) ∧ (ops[gi]?).bind (·.dst) = some s ∧ s < m ∧ s < 256

section
variable {P : Program} {c : Ctx} {m : Nat} {ops : Array Oper} {F : Nat → DS} {st : Nat → Stat} {V : Nat → Value}

theorem getD_cs {i : Nat} {o : Oper} (ho : ops[i]? = some o) : (ops.map (cOp P m)).getD i (.bad "") = cOp P m o := by
  rw [Array.getD_eq_getD_getElem?, Array.getElem?_map, ho]
  rfl

theorem DrawT.step (D : DrawT P c m ops F st V) {i : Nat} {o : Oper} (ho : ops[i]? = some o) :
    ∃ g, StepT c { guard := g, dst := o.dst, op := cOp P m o, idx := i, un := unOf (ops.map (cOp P m)) (Region.before ops) i, pre := preOf (ops.map (cOp P m)) (Region.before ops) i } (F i) (st i) (V i) (F (i + 1)) ∧
      (∀ d, o.dst = some d → d < m ∧ d < 256) ∧ GuardIs ops o m g := by
  have hs := D.trc.step i (cOne P m ops o i (unOf (ops.map (cOp P m)) (Region.before ops) i) (preOf (ops.map (cOp P m)) (Region.before ops) i)) (by
    rw [List.getElem?_map, List.getElem?_zipIdx]
    simp [ho])
  simp only [Nat.zero_add] at hs
  rcases cOne_cases (P := P) m ops o i (unOf (ops.map (cOp P m)) (Region.before ops) i) (preOf (ops.map (cOp P m)) (Region.before ops) i) with ⟨why, hc⟩ | ⟨g, hc, hd, hg⟩
  · rw [hc] at hs
    exfalso
    rcases hs.view with ⟨_, h, _⟩ | ⟨_, ⟨g, b, h, _⟩, _⟩ | ⟨_, _, ⟨l, h, _⟩, _⟩ | ⟨_, _, _, _, h, _⟩ | ⟨_, _, _, _, ⟨l, t', h⟩, _⟩
    · unfold isAfter at h
      split at h
      · cases h
      · simp at h
    · cases h
    · cases h
    · cases h
    · cases h
  · rw [hc] at hs
    refine ⟨g, hs, hd, ?_⟩
    cases g with
    | none => exact hg
    | some q => exact hg

theorem DrawT.log (D : DrawT P c m ops F st V) {i j : Nat} {o : Oper} (hj : j < i) (hi : i ≤ ops.size) (ho : ops[j]? = some o) : ∃ g, LogIs { guard := g, dst := o.dst, op := cOp P m o, idx := j, un := unOf (ops.map (cOp P m)) (Region.before ops) j, pre := preOf (ops.map (cOp P m)) (Region.before ops) j } (F j) (st j) (V j) (findLog j (F i).g) := by
  have hget : (ops.toList.zipIdx.map fun (o, j) => cOne P m ops o j (unOf (ops.map (cOp P m)) (Region.before ops) j) (preOf (ops.map (cOp P m)) (Region.before ops) j))[j]? = some (cOne P m ops o j (unOf (ops.map (cOp P m)) (Region.before ops) j) (preOf (ops.map (cOp P m)) (Region.before ops) j)) := by
    rw [List.getElem?_map, List.getElem?_zipIdx]
    simp [ho]
  have h := (log_at D.trc D.g0 ?_ i (by simpa using hi)).1 j _ hj hget
  · rcases cOne_cases (P := P) m ops o j (unOf (ops.map (cOp P m)) (Region.before ops) j) (preOf (ops.map (cOp P m)) (Region.before ops) j) with ⟨why, hc⟩ | ⟨g, hc, hd, hg⟩
    · exfalso
      have hs := D.trc.step j _ hget
      simp only [Nat.zero_add] at hs
      rw [hc] at hs
      rcases hs.view with ⟨_, h, _⟩ | ⟨_, ⟨g, b, h, _⟩, _⟩ | ⟨_, _, ⟨l, h, _⟩, _⟩ | ⟨_, _, _, _, h, _⟩ | ⟨_, _, _, _, ⟨l, t', h⟩, _⟩
      · unfold isAfter at h
        split at h
        · cases h
        · simp at h
      · cases h
      · cases h
      · cases h
      · cases h
    · rw [hc] at h
      exact ⟨g, h⟩
  · intro k co hk
    rw [List.getElem?_map, List.getElem?_zipIdx] at hk
    obtain ⟨q, h1, rfl⟩ := map_some' hk
    obtain ⟨o', h2, rfl⟩ := map_some' h1
    simp only [Nat.zero_add]
    rcases cOne_cases (P := P) m ops o' k (unOf (ops.map (cOp P m)) (Region.before ops) k) (preOf (ops.map (cOp P m)) (Region.before ops) k) with ⟨why, hc⟩ | ⟨g, hc, hd, hg⟩ <;> rw [hc]

/-- An operation that writes, as it was run. -/
def Wr (P : Program) (m : Nat) (ops : Array Oper) (st : Nat → Stat) (i : Nat) : Prop := (st i = .turn ∨ st i = .panicked) ∧ ∃ o, ops[i]? = some o ∧ (cOp P m o).writes = true

theorem mem_un {i j : Nat} {o p : Oper} (hi : ops[i]? = some o) (hj : ops[j]? = some p) (hlt : i < j) (hn : ¬ Ahead ops i j)
    (h : (memLook (cOp P m o) = true ∧ (cOp P m p).writes = true) ∨ ((cOp P m o).writes = true ∧ memLook (cOp P m p) = true) ∨ ((cOp P m o).writes = true ∧ (cOp P m p).writes = true)) : i ∈ unOf (ops.map (cOp P m)) (Region.before ops) j := by
  unfold unOf
  rw [List.mem_filter, List.mem_range]
  refine ⟨hlt, ?_⟩
  rw [getD_cs hi, getD_cs hj]
  have : ((Region.before ops).getD j 0).testBit i = false := by
    cases hb : ((Region.before ops).getD j 0).testBit i with
    | false => rfl
    | true => exact absurd hb hn
  rw [this]
  simp only [Bool.not_false, Bool.true_and, Bool.or_eq_true, Bool.and_eq_true]
  rcases h with h | h | h
  · exact .inl (.inl h)
  · exact .inl (.inr h)
  · exact .inr h

variable (D : DrawT P c m ops F st V)
include D

theorem DrawT.size_of {i : Nat} {o : Oper} (ho : ops[i]? = some o) : i < ops.size := by
  exact (Array.getElem?_eq_some_iff.1 ho).1

theorem DrawT.get {i : Nat} (hi : i < ops.size) : ops[i]? = some ops[i] := Array.getElem?_eq_getElem hi

/-- Writers go in the order of the text. -/
theorem DrawT.worder {i j : Nat} (hlt : i < j) (hi : Wr P m ops st i) (hj : Wr P m ops st j) : Ahead ops i j := by
  apply Classical.byContradiction
  intro hn
  obtain ⟨s1, o, ho, w1⟩ := hi
  obtain ⟨s2, p, hp, w2⟩ := hj
  have hun := mem_un ho hp hlt hn (.inr (.inr ⟨w1, w2⟩))
  obtain ⟨g, hlog⟩ := D.log hlt (Nat.le_of_lt (D.size_of hp)) ho
  have hwr : findLog i (F j).g = some (.wr (F i).h) := by
    rcases s1 with s1 | s1 <;> (rw [s1] at hlog; exact hlog)
  obtain ⟨g', hs, _⟩ := D.step hp
  have bad : ∀ h, unTurn (F j).g h (unOf (ops.map (cOp P m)) (Region.before ops) j) = true → False := by
    intro h hu
    have := unTurn_all hu hun
    rw [hwr] at this
    exact this
  rcases hs.view with ⟨q, _⟩ | ⟨q, _⟩ | ⟨q, _⟩ | ⟨q, _, _, _, _, hu, _⟩ | ⟨q, _, _, _, _, hu, _⟩
  · rcases s2 with s2 | s2 <;> rw [q] at s2 <;> cases s2
  · rcases s2 with s2 | s2 <;> rw [q] at s2 <;> cases s2
  · rcases s2 with s2 | s2 <;> rw [q] at s2 <;> cases s2
  · exact bad _ hu
  · exact bad _ hu

/-- A look that goes beside a later writer tells the same behind it. -/
theorem DrawT.look_then {i j : Nat} {o : Oper} {l : Look} (ho : ops[i]? = some o) (hl : lookOf (cOp P m o) = some l) (hs : st i = .look) (hlt : i < j) (hj : Wr P m ops st j) (hn : ¬ Ahead ops i j) : l (F i).t (F (j + 1)).h = some (V i) := by
  obtain ⟨g0, hs0, _⟩ := D.step ho
  have here : l (F i).t (F i).h = some (V i) := by
    rcases hs0.view with ⟨q, _⟩ | ⟨q, _⟩ | ⟨q, _, ⟨l', h1, h2, _⟩, _⟩ | ⟨q, _⟩ | ⟨q, _⟩ <;> first | (rw [hs] at q; cases q; done) | skip
    rw [hl] at h1
    cases h1
    exact h2
  cases hm : memLook (cOp P m o) with
  | false => rw [look_plain hl hm _ _ (F i).h]; exact here
  | true =>
    obtain ⟨s2, p, hp, w2⟩ := hj
    have hun := mem_un ho hp hlt hn (.inl ⟨hm, w2⟩)
    obtain ⟨g, hlog⟩ := D.log hlt (Nat.le_of_lt (D.size_of hp)) ho
    rw [hs] at hlog
    obtain ⟨l', h1, h2⟩ := hlog
    replace h1 : lookOf (cOp P m o) = some l' := h1
    rw [hl] at h1
    cases h1
    obtain ⟨g', hsj, _⟩ := D.step hp
    have fin : unTurn (F j).g (F (j + 1)).h (unOf (ops.map (cOp P m)) (Region.before ops) j) = true → l (F i).t (F (j + 1)).h = some (V i) := by
      intro hu
      have := unTurn_all hu hun
      rw [h2] at this
      exact tellsAs_eq this
    rcases hsj.view with ⟨q, _⟩ | ⟨q, _⟩ | ⟨q, _⟩ | ⟨q, _, _, _, _, hu, _⟩ | ⟨q, _, _, _, _, hu, _⟩
    · rcases s2 with s2 | s2 <;> rw [q] at s2 <;> cases s2
    · rcases s2 with s2 | s2 <;> rw [q] at s2 <;> cases s2
    · rcases s2 with s2 | s2 <;> rw [q] at s2 <;> cases s2
    · exact fin hu
    · exact fin hu

/-- A look that goes beside an earlier writer tells the same ahead of it. -/
theorem DrawT.look_ahead {i j : Nat} {o : Oper} {l : Look} (ho : ops[i]? = some o) (hl : lookOf (cOp P m o) = some l) (hs : st i = .look) (hlt : j < i) (hj : Wr P m ops st j) (hn : ¬ Ahead ops j i) : l (F i).t (F j).h = some (V i) := by
  obtain ⟨g0, hs0, _⟩ := D.step ho
  rcases hs0.view with ⟨q, _⟩ | ⟨q, _⟩ | ⟨q, _, ⟨l', h1, h2, h3⟩, _⟩ | ⟨q, _⟩ | ⟨q, _⟩ <;> first | (rw [hs] at q; cases q; done) | skip
  replace h1 : lookOf (cOp P m o) = some l' := h1
  rw [hl] at h1
  cases h1
  cases hm : memLook (cOp P m o) with
  | false => rw [look_plain hl hm _ _ (F i).h]; exact h2
  | true =>
    obtain ⟨s2, p, hp, w2⟩ := hj
    have hun := mem_un hp ho hlt hn (.inr (.inl ⟨w2, hm⟩))
    obtain ⟨g, hlog⟩ := D.log hlt (Nat.le_of_lt (D.size_of ho)) hp
    have hwr : findLog j (F i).g = some (.wr (F j).h) := by
      rcases s2 with s2 | s2 <;> (rw [s2] at hlog; exact hlog)
    have := unLook_all h3 hun
    rw [hwr] at this
    exact tellsAs_eq this
end
end Go.Eng

/- Drawn regions: the run in the order of the text beside the model. -/
namespace Go.Eng
set_option linter.unusedVariables false

section
variable {P : Program} {B : Nat} {c : Ctx} {m : Nat} {ops : Array Oper} {F : Nat → DS} {st : Nat → Stat} {V : Nat → Value} {b : Frame}

theorem wanted_of {ι : Inj} {t : Tm} {a : Act} {o : Oper} {g : Option (Nat × Bool)} {co : COper} (hco : co.guard = g) (hT : TmRel ι m t a.tmps) (hg : GuardIs ops o m g) (hw : wantedC co t) : Region.wanted o (yielded ops a.tmps) = true := by
  unfold wantedC at hw
  rw [hco] at hw
  cases g with
  | none => unfold Region.wanted; rw [show o.guard = none from hg]
  | some q =>
    obtain ⟨s, wb⟩ := q
    obtain ⟨gi, g1, g2, g3, g4⟩ := hg
    rw [wants_ok hT g1 g2 g3 g4]
    exact hw

variable (D : DrawT P c m ops F st V)
include D

theorem DrawT.ghost_step (C : CtxOK P B c) {i : Nat} {o : Oper} (ho : ops[i]? = some o) {κ : Inj} {w : World} {a : Act} {cs : List Frame} (S : St P B κ (F i).h w m b (F i).t (F i).x a cs) :
    (∃ κ' w' a' cs', St P B κ' (F (i + 1)).h w' m b (F (i + 1)).t (F (i + 1)).x a' cs') ∧ (F i).h.next ≤ (F (i + 1)).h.next ∧
      (st i = .look → ∃ κ' v', (∀ b p, κ' b = some p → b < (F (i + 1)).h.next) ∧ VRel κ' (V i) v') := by
  obtain ⟨g, hs, hd, hg⟩ := D.step ho
  rcases hs.view with ⟨q, _, e⟩ | ⟨q, _, hv, e1, e2, e3, _⟩ | ⟨q, hw, ⟨l, hl, hv, _⟩, e1, e2, e3, _⟩ | ⟨q, hw, hl, _, hx, _, e1, _⟩ | ⟨q, hw, hl, _, ⟨l, t', hx⟩, _, e1, _⟩
  · rw [e]
    exact ⟨⟨κ, w, a, cs, S⟩, Nat.le_refl _, fun h => by rw [q] at h; cases h⟩
  · rw [e1, e2, e3]
    exact ⟨⟨κ, w, _, cs, S.put hd (undef_rel κ)⟩, Nat.le_refl _, fun h => by rw [q] at h; cases h⟩
  · obtain ⟨v', h1, h2⟩ := look_sound S.sim S.tmps hl hv
    rw [e1, e2, e3]
    exact ⟨⟨κ, w, _, cs, S.put hd h2⟩, Nat.le_refl _, fun _ => ⟨κ, v', S.sim.bound, h2⟩⟩
  · have hwant := wanted_of rfl S.tmps hg hw
    obtain ⟨ι', w', a', cs', v', h1, h2, h3, h4, h5, h6⟩ := turn_big (b := b) (fr := b.atR a (.inRegion ops (i :: []) :: [])) C rfl rfl rfl rfl (does_op ho hwant (nd_turn hx (by simp) S.round)) S hl hx
    rw [e1]
    exact ⟨⟨ι', w', _, cs', h4.put hd h3⟩, h5.next, fun h => by rw [q] at h; cases h⟩
  · have hwant := wanted_of rfl S.tmps hg hw
    obtain ⟨ι', w', v', h1, h2, h3, h4, h5⟩ := turn_bigP (b := b) (fr := b.atR a (.inRegion ops (i :: []) :: [])) C rfl rfl rfl rfl (does_op ho hwant (nd_turn hx (by simp) S.round)) S hl hx
    rw [e1, h3]
    exact ⟨⟨ι', w', a, cs, h4⟩, h5.next, fun h => by rw [q] at h; cases h⟩

theorem DrawT.ghost (C : CtxOK P B c) {κ : Inj} {w : World} {a : Act} {cs : List Frame} (S : St P B κ (F 0).h w m b (F 0).t (F 0).x a cs) : ∀ i, i ≤ ops.size → ∃ κ' w' a' cs', St P B κ' (F i).h w' m b (F i).t (F i).x a' cs' := by
  intro i
  induction i with
  | zero => intro _; exact ⟨κ, w, a, cs, S⟩
  | succ i ih =>
    intro hi
    obtain ⟨κ', w', a', cs', S'⟩ := ih (by omega)
    exact (D.ghost_step C (D.get hi) S').1

/-- How one step leaves the temporaries. -/
theorem DrawT.tstep {i : Nat} {o : Oper} (ho : ops[i]? = some o) : (((F (i + 1)).t = (F i).t) ∧ (st i = .dead ∨ st i = .panicked)) ∨ ((F (i + 1)).t = dPut o.dst (V i) (F i).t ∧ st i ≠ .dead ∧ st i ≠ .panicked) := by
  obtain ⟨g, hs, hd, hg⟩ := D.step ho
  rcases hs.view with ⟨q, _, e⟩ | ⟨q, _, hv, e1, e2, e3, _⟩ | ⟨q, hw, ⟨l, hl, hv, _⟩, e1, e2, e3, _⟩ | ⟨q, hw, hl, _, hx, _, e1, _⟩ | ⟨q, hw, hl, _, ⟨l, t', hx⟩, _, e1, _⟩
  · exact .inl ⟨by rw [e], .inl q⟩
  · refine .inr ⟨?_, by rw [q]; simp, by rw [q]; simp⟩
    rw [e1, hv]
  · exact .inr ⟨e1, by rw [q]; simp, by rw [q]; simp⟩
  · exact .inr ⟨e1, by rw [q]; simp, by rw [q]; simp⟩
  · exact .inl ⟨e1, .inr q⟩

theorem DrawT.dst_lt {i : Nat} {o : Oper} (ho : ops[i]? = some o) {d : Nat} (hd : o.dst = some d) : d < m ∧ d < 256 := by
  obtain ⟨g, hs, h, hg⟩ := D.step ho
  exact h d hd

theorem DrawT.tbase {s : Nat} (hs : s < 256) : ∀ i, i ≤ ops.size → (∀ (j : Nat) (o : Oper), j < i → ops[j]? = some o → o.dst ≠ some s) → slotG s (F i).t = slotG s (F 0).t := by
  intro i
  induction i with
  | zero => intro _ _; rfl
  | succ i ih0 =>
    intro hi hn0
    have hn := fun (j : Nat) (o : Oper) (h : j < i + 1) => hn0 j o h
    have ih := fun (h : i ≤ ops.size) => ih0 h fun j o hj => hn0 j o (by omega)
    have ho := D.get hi
    rcases D.tstep ho with ⟨e, _⟩ | ⟨e, _⟩
    · rw [e]; exact ih (by omega)
    · rw [e]
      cases hd : ops[i].dst with
      | none => exact ih (by omega)
      | some d =>
        show slotG s (slotP d (V i) (F i).t) = _
        rw [slot_other (D.dst_lt ho hd).2 hs (fun h => hn i _ (Nat.lt_succ_self i) ho (by rw [hd, h]))]
        exact ih (by omega)

theorem DrawT.tslot {j : Nat} {p : Oper} (hp : ops[j]? = some p) {d : Nat} (hd : p.dst = some d) (h1 : st j ≠ .dead) (h2 : st j ≠ .panicked) : ∀ i, j < i → i ≤ ops.size → slotG d (F i).t = V j := by
  intro i
  induction i with
  | zero => intro h; omega
  | succ i ih =>
    intro hji hi
    have ho := D.get hi
    by_cases e : j = i
    · subst e
      rcases D.tstep hp with ⟨_, q | q⟩ | ⟨e1, _⟩
      · exact absurd q h1
      · exact absurd q h2
      · rw [e1, hd]
        show slotG d (slotP d (V j) (F j).t) = _
        rw [slot_same]
    · have := ih (by omega) (by omega)
      rcases D.tstep ho with ⟨e1, _⟩ | ⟨e1, _⟩
      · rw [e1]; exact this
      · rw [e1]
        cases hd' : ops[i].dst with
        | none => exact this
        | some d' =>
          show slotG d (slotP d' (V i) (F i).t) = _
          rw [slot_other (D.dst_lt ho hd').2 (D.dst_lt hp hd).2 (fun h => e (fine_dst D.fine hp ho hd (by rw [hd', h])))]
          exact this

/-- Where the run has panicked. -/
theorem DrawT.dpan : ∀ i, i ≤ ops.size → ∀ p v, (F i).d = some (p, v) → p < i ∧ st p = .panicked ∧ V p = v := by
  intro i
  induction i with
  | zero => intro _ p v h; rw [D.d0] at h; cases h
  | succ i ih =>
    intro hi p v h
    have ho := D.get hi
    obtain ⟨g, hs, hd, hg⟩ := D.step ho
    have old : (F i).d = some (p, v) → p < i + 1 ∧ st p = .panicked ∧ V p = v := fun h => by
      obtain ⟨h1, h2, h3⟩ := ih (by omega) p v h
      exact ⟨by omega, h2, h3⟩
    rcases hs.view with ⟨q, _, e⟩ | ⟨q, _, hv, e1, e2, e3, e4⟩ | ⟨q, hw, ⟨l, hl, hv, _⟩, e1, e2, e3, e4⟩ | ⟨q, hw, hl, _, hx, _, e1, e4⟩ | ⟨q, hw, hl, _, ⟨l, t', hx⟩, _, e1, e4⟩
    · rw [e] at h; exact old h
    · rw [e4] at h; exact old h
    · rw [e4] at h; exact old h
    · rw [e4] at h; exact old h
    · rw [e4] at h
      cases h
      exact ⟨Nat.lt_succ_self i, q, rfl⟩

theorem DrawT.dead_of {i : Nat} {o : Oper} (ho : ops[i]? = some o) (hs : st i = .dead) : ∃ p, st p = .panicked ∧ Ahead ops p i := by
  obtain ⟨g, h, hd, hg⟩ := D.step ho
  rcases h.view with ⟨q, ha, e⟩ | ⟨q, _⟩ | ⟨q, _⟩ | ⟨q, _⟩ | ⟨q, _⟩ <;> first | (rw [hs] at q; cases q; done) | skip
  unfold isAfter at ha
  split at ha
  · cases ha
  · rename_i j v hj
    obtain ⟨h1, h2, h3⟩ := D.dpan i (Nat.le_of_lt (D.size_of ho)) j v hj
    refine ⟨j, h2, ?_⟩
    have hm : j ∈ preOf (ops.map (cOp P m)) (Region.before ops) i := by simpa using ha
    unfold preOf at hm
    have := (List.mem_filter.1 hm).2
    rw [Bool.and_eq_true] at this
    exact this.1

theorem DrawT.pan_after {j : Nat} (hj : j < ops.size) (hs : st j = .panicked) : ∀ i, j < i → i ≤ ops.size → (F i).d = some (j, V j) := by
  intro i
  induction i with
  | zero => intro h; omega
  | succ i ih =>
    intro hji hi
    have ho := D.get hi
    obtain ⟨g, h, hd, hg⟩ := D.step ho
    by_cases e : j = i
    · subst e
      rcases h.view with ⟨q, _⟩ | ⟨q, _⟩ | ⟨q, _⟩ | ⟨q, _⟩ | ⟨q, hw, hl, _, _, _, e1, e4⟩ <;> first | (rw [hs] at q; cases q; done) | skip
      exact e4
    · have := ih (by omega) (by omega)
      rcases h.view with ⟨q, _, e⟩ | ⟨q, _, hv, e1, e2, e3, e4⟩ | ⟨q, hw, ⟨l, hl, hv, _⟩, e1, e2, e3, e4⟩ | ⟨q, hw, hl, _, hx, _, e1, e4⟩ | ⟨q, hw, hl, hn, ⟨l, t', hx⟩, _, e1, e4⟩
      · rw [e]; exact this
      · rw [e4]; exact this
      · rw [e4]; exact this
      · rw [e4]; exact this
      · rw [this] at hn; cases hn

/-- Behind a panic nothing writes. -/
theorem DrawT.pan_last {j i : Nat} (hs : st j = .panicked) (hj : j < ops.size) (hlt : j < i) : ¬ Wr P m ops st i := by
  rintro ⟨s2, p, hp, w2⟩
  have hd := D.pan_after hj hs i hlt (Nat.le_of_lt (D.size_of hp))
  obtain ⟨g, h, _, _⟩ := D.step hp
  rcases h.view with ⟨q, _⟩ | ⟨q, _⟩ | ⟨q, _⟩ | ⟨q, _, _, hn, _⟩ | ⟨q, _, _, hn, _⟩
  · rcases s2 with s2 | s2 <;> rw [q] at s2 <;> cases s2
  · rcases s2 with s2 | s2 <;> rw [q] at s2 <;> cases s2
  · rcases s2 with s2 | s2 <;> rw [q] at s2 <;> cases s2
  · rw [hd] at hn
    replace hn : ((cOp P m p).writes && true) = false := hn
    rw [w2] at hn; cases hn
  · rw [hd] at hn; cases hn

theorem DrawT.pan_wr {j : Nat} (hj : j < ops.size) (hs : st j = .panicked) : Wr P m ops st j := by
  obtain ⟨g, h, _, _⟩ := D.step (D.get hj)
  rcases h.view with ⟨q, _⟩ | ⟨q, _⟩ | ⟨q, _⟩ | ⟨q, _⟩ | ⟨q, hw, hl, hn, ⟨l, t', hx⟩, _⟩ <;> first | (rw [hs] at q; cases q; done) | skip
  exact ⟨.inr hs, _, D.get hj, pan_writes hx⟩

/-- What does not write leaves memory, but for a new block. -/
theorem DrawT.still {i : Nat} (hi : i < ops.size) (hw : ¬ Wr P m ops st i) : (F (i + 1)).x = (F i).x ∧ ((F (i + 1)).h = (F i).h ∨ (st i = .turn ∧ ∃ o1, lone1 o1 ∧ (F (i + 1)).h = (F i).h.push o1)) := by
  have ho := D.get hi
  obtain ⟨g, h, _, _⟩ := D.step ho
  rcases h.view with ⟨q, _, e⟩ | ⟨q, _, hv, e1, e2, e3, e4⟩ | ⟨q, _, ⟨l, hl, hv, _⟩, e1, e2, e3, e4⟩ | ⟨q, _, hl, _, hx, _, e1, e4⟩ | ⟨q, _, hl, _, ⟨l, t', hx⟩, _, e1, e4⟩
  · rw [e]; exact ⟨rfl, .inl rfl⟩
  · exact ⟨e2, .inl e3⟩
  · exact ⟨e2, .inl e3⟩
  · have hnw : (cOp P m ops[i]).writes = false := by
      cases hb : (cOp P m ops[i]).writes with
      | false => rfl
      | true => exact absurd ⟨.inl q, _, ho, hb⟩ hw
    obtain ⟨h1, H1, h2, h3⟩ := quiet_fresh hl hnw hx
    refine ⟨h1, ?_⟩
    rcases h3 with ⟨h3, _⟩ | ⟨o1, h3, h4, _⟩
    · exact .inl h3
    · exact .inr ⟨q, o1, h3, h4⟩
  · exact absurd (D.pan_wr hi q) hw
end
end Go.Eng

/- Drawn regions: memory behind some of the operations, whatever their order. -/
namespace Go.Eng
set_option linter.unusedVariables false

theorem Inj.cut_mono (ι : Inj) {n n' : Nat} (h : n ≤ n') : (ι.cut n).le (ι.cut n') := fun b p hb => Inj.cut_of (Inj.cut_some hb).2 (Nat.lt_of_lt_of_le (Inj.cut_some hb).1 h)
theorem Inj.cut_le_cut {ι ι' : Inj} (h : ι.le ι') (n : Nat) : (ι.cut n).le (ι'.cut n) := fun b p hb => Inj.cut_of (h b p (Inj.cut_some hb).2) (Inj.cut_some hb).1
theorem Inj.cut_at (ι : Inj) (n k : Nat) : ι.cut n k = if k < n then ι k else none := rfl
theorem Inj.with_at (ι : Inj) (n : Nat) (p : Place) (k : Nat) : ι.with n p k = if k = n then some p else ι k := rfl
theorem Inj.cut_none {ι : Inj} {n b : Nat} (h : ι b = none) : ι.cut n b = none := by rw [Inj.cut_at, h]; split <;> rfl
theorem Inj.cut_ge {ι : Inj} {n b : Nat} (h : n ≤ b) : ι.cut n b = none := by rw [Inj.cut_at, if_neg (by omega)]
theorem Inj.cut_succ_none {ι : Inj} {n : Nat} (h : ι n = none) : ι.cut (n + 1) = ι.cut n := by
  funext k
  rw [Inj.cut_at, Inj.cut_at]
  by_cases e : k = n
  · rw [e, h, if_pos (by omega), if_neg (by omega)]
  · by_cases e' : k < n
    · rw [if_pos e', if_pos (by omega)]
    · rw [if_neg e', if_neg (by omega)]
theorem Inj.cut_succ_some {ι : Inj} {n : Nat} {p : Place} (h : ι n = some p) : ι.cut (n + 1) = (ι.cut n).with n p := by
  funext k
  rw [Inj.cut_at, Inj.with_at, Inj.cut_at]
  by_cases e : k = n
  · rw [e, h, if_pos (by omega), if_pos rfl]
  · rw [if_neg e]
    by_cases e' : k < n
    · rw [if_pos e', if_pos (by omega)]
    · rw [if_neg e', if_neg (by omega)]

section
variable {P : Program} {B : Nat}

theorem Adv.push {ι0 κ : Inj} {H0 H : Heap} {w0 w : World} (h : Adv ι0 H0 w0 κ H w) (o : AObj) : Adv ι0 H0 w0 κ (H.push o) w := by
  have hn := h.next
  refine ⟨h.le, h.os, h.tape, h.output, h.size, by simp; omega, h.img, h.keep, fun b hb hi => ?_, fun b o' hb hg => ?_⟩
  · rw [Heap.get_push, if_neg (by omega)]; exact h.out b hb hi
  · rw [Heap.get_push, if_neg (by omega)] at hg; exact h.back b o' hb hg

theorem Adv.learn {ι0 κ : Inj} {H0 H : Heap} {w0 w : World} (h : Adv ι0 H0 w0 κ H w) {b : Nat} {p : Place} (hk : κ b = none) (h0 : ι0 b = none) (hb : H0.next ≤ b) (hp : w0.heap.size ≤ p.b) : Adv ι0 H0 w0 (κ.with b p) H w := by
  refine ⟨Inj.le_trans h.le (Inj.with_le hk p), h.os, h.tape, h.output, h.size, h.next, fun c q hc => ?_, h.keep, h.out, h.back⟩
  rcases Inj.with_cases hc with ⟨rfl, rfl⟩ | ⟨hne, hc'⟩
  · exact .inr ⟨h0, hb, .inl hp⟩
  · exact h.img c q hc'

theorem Adv.grown (κ : Inj) (H : Heap) {w w1 : World} (os : w1.os = w.os) (tape : w1.tape = w.tape ∧ w.drawn ≤ w1.drawn) (out : w1.output = w.output) (hs : w.heap.size ≤ w1.heap.size) (hk : ∀ k, k < w.heap.size → w1.heap[k]? = w.heap[k]?) : Adv κ H w κ H w1 :=
  ⟨κ.le_refl, os, tape, out, hs, Nat.le_refl _, fun _ _ h => .inl h, fun k h _ => hk k h, fun _ _ _ => rfl, fun _ o' _ h => ⟨o', h, id⟩⟩
end

/-- Memory with those operations gone through of which S holds; u: the writers ahead of it are among them, and none behind. -/
structure Mem (P : Program) (B : Nat) (m : Nat) (ops : Array Oper) (F : Nat → DS) (st : Nat → Stat) (ι0 : Inj) (w0 : World) (S : Nat → Prop) (u : Nat) (ι : Inj) (w : World) : Prop where
  un : u ≤ ops.size
  sn : ∀ j, S j → j < ops.size
  wlo : ∀ j, j < u → Wr P m ops st j → S j
  whi : ∀ j, u ≤ j → S j → ¬ Wr P m ops st j
  core : Sim P B (ι.cut (F u).h.next) (F u).h w
  adv : Adv ι0 (F 0).h w0 (ι.cut (F u).h.next) (F u).h w
  dom : ∀ b p, ι b = some p → b < (F 0).h.next ∨ ∃ j, S j ∧ (F j).h.next ≤ b ∧ b < (F (j + 1)).h.next
  lt : ∀ b p, ι b = some p → p.b < w.heap.size
  extra : ∀ b p, ι b = some p → (F u).h.next ≤ b → w0.heap.size ≤ p.b ∧ (∀ b' p', ι b' = some p' → b' ≠ b → p'.b ≠ p.b) ∧
    ∃ j o, S j ∧ u ≤ j ∧ (F j).h.next = b ∧ lone1 o ∧ (F (j + 1)).h = (F j).h.push o ∧ ObjRel P B (ι.cut (b + 1)) (F (j + 1)).h w p o
  late : ∀ j, j < u → ¬ S j → st j = .turn → ∀ b, (F j).h.next ≤ b → b < (F (j + 1)).h.next → (F u).h.get b = (F (j + 1)).h.get b

section
variable {P : Program} {B : Nat} {c : Ctx} {m : Nat} {ops : Array Oper} {F : Nat → DS} {st : Nat → Stat} {V : Nat → Value} {b : Frame}
variable {ι0 : Inj} {w0 : World} {S : Nat → Prop} {u : Nat} {ι : Inj} {w : World}

abbrev Mono (ops : Array Oper) (F : Nat → DS) : Prop := ∀ i j, i ≤ j → j ≤ ops.size → (F i).h.next ≤ (F j).h.next

/-- Each block comes from one operation. -/
theorem Mono.one (hm : Mono ops F) {i j k : Nat} (hi : i < ops.size) (hj : j < ops.size) (h1 : (F i).h.next ≤ k) (h2 : k < (F (i + 1)).h.next) (h3 : (F j).h.next ≤ k) (h4 : k < (F (j + 1)).h.next) : i = j := by
  rcases Nat.lt_trichotomy i j with h | h | h
  · have := hm (i + 1) j h (by omega); omega
  · exact h
  · have := hm (j + 1) i h (by omega); omega

theorem Mem.none_at (M : Mem P B m ops F st ι0 w0 S u ι w) (hm : Mono ops F) {i : Nat} (hi : i < ops.size) (hS : ¬ S i) {k : Nat} (h1 : (F i).h.next ≤ k) (h2 : k < (F (i + 1)).h.next) : ι k = none := by
  cases e : ι k with
  | none => rfl
  | some p =>
    exfalso
    rcases M.dom k p e with h | ⟨j, hj, h3, h4⟩
    · have := hm 0 i (by omega) (by omega); omega
    · have := hm.one hi (M.sn j hj) h1 h2 h3 h4
      subst this
      exact hS hj

theorem Mem.raise (D : DrawT P c m ops F st V) (hm : Mono ops F) (h0 : ∀ b p, ι0 b = some p → b < (F 0).h.next) (M : Mem P B m ops F st ι0 w0 S u ι w) (hu : u < ops.size) (hw : ¬ Wr P m ops st u) : Mem P B m ops F st ι0 w0 S (u + 1) ι w := by
  obtain ⟨hx, hh⟩ := D.still hu hw
  have late' : ∀ j, j < u + 1 → ¬ S j → st j = .turn → ∀ b, (F j).h.next ≤ b → b < (F (j + 1)).h.next → (F (u + 1)).h.get b = (F (j + 1)).h.get b := by
    intro j hj hS hs b h1 h2
    by_cases e : j = u
    · subst e; rfl
    · have hbn : b < (F u).h.next := Nat.lt_of_lt_of_le h2 (hm (j + 1) u (by omega) M.un)
      rw [← M.late j (by omega) hS hs b h1 h2]
      rcases hh with hh | ⟨_, o1, _, hh⟩
      · rw [hh]
      · rw [hh, Heap.get_push, if_neg (by omega)]
  have wlo' : ∀ j, j < u + 1 → Wr P m ops st j → S j := fun j hj hW => by
    by_cases e : j = u
    · subst e; exact absurd hW hw
    · exact M.wlo j (by omega) hW
  have whi' : ∀ j, u + 1 ≤ j → S j → ¬ Wr P m ops st j := fun j hj hS => M.whi j (by omega) hS
  rcases hh with hh | ⟨hst, o1, ho1, hh⟩
  · refine ⟨by omega, M.sn, wlo', whi', by rw [hh]; exact M.core, by rw [hh]; exact M.adv, M.dom, M.lt, fun b p hp hb => ?_, late'⟩
    rw [hh] at hb
    obtain ⟨k1, k2, j, o, k3, k4, k5, k6, k7, k8⟩ := M.extra b p hp hb
    refine ⟨k1, k2, j, o, k3, ?_, k5, k6, k7, k8⟩
    by_cases e : j = u
    · subst e
      exfalso
      have := congrArg Heap.next (hh.symm.trans k7)
      simp at this
    · omega
  · have hn : (F (u + 1)).h.next = (F u).h.next + 1 := by rw [hh]; rfl
    have ex : ∀ b p, ι b = some p → (F (u + 1)).h.next ≤ b → w0.heap.size ≤ p.b ∧ (∀ b' p', ι b' = some p' → b' ≠ b → p'.b ≠ p.b) ∧
        ∃ j o, S j ∧ u + 1 ≤ j ∧ (F j).h.next = b ∧ lone1 o ∧ (F (j + 1)).h = (F j).h.push o ∧ ObjRel P B (ι.cut (b + 1)) (F (j + 1)).h w p o := by
      intro b p hp hb
      obtain ⟨k1, k2, j, o, k3, k4, k5, k6, k7, k8⟩ := M.extra b p hp (by omega)
      refine ⟨k1, k2, j, o, k3, ?_, k5, k6, k7, k8⟩
      by_cases e : j = u
      · subst e; omega
      · omega
    cases e : ι (F u).h.next with
    | none =>
      refine ⟨by omega, M.sn, wlo', whi', ?_, ?_, M.dom, M.lt, ex, late'⟩
      · rw [hn, Inj.cut_succ_none e, hh]; exact M.core.push o1
      · rw [hn, Inj.cut_succ_none e, hh]; exact M.adv.push o1
    | some p =>
      obtain ⟨k1, k2, j, o, k3, k4, k5, k6, k7, k8⟩ := M.extra _ p e (Nat.le_refl _)
      have hju : j = u := by
        have hj := M.sn j k3
        by_cases h : j = u
        · exact h
        · have := hm (u + 1) j (by omega) (by omega)
          omega
      subst hju
      have hno : ι.cut (F j).h.next (F j).h.next = none := Inj.cut_ge (Nat.le_refl _)
      refine ⟨by omega, M.sn, wlo', whi', ?_, ?_, M.dom, M.lt, ex, late'⟩
      · rw [hn, Inj.cut_succ_some e, hh]
        refine (M.core.push o1).learn hno (by simp) (M.lt _ _ e) (fun b' p' hb' => k2 b' p' (Inj.cut_some hb').2 (by have := (Inj.cut_some hb').1; omega)) ?_
        intro o' ho'
        have heq : o' = o := by
          rw [← hh, k7, Heap.get_push, if_pos rfl] at ho'
          cases ho'; rfl
        subst heq
        rw [← Inj.cut_succ_some e]
        exact k8.shift k6 (Inj.le_refl _) rfl
      · rw [hn, Inj.cut_succ_some e, hh]
        refine (M.adv.push o1).learn hno ?_ (hm 0 j (by omega) (by omega)) k1
        cases e' : ι0 (F j).h.next with
        | none => rfl
        | some q =>
          have := h0 _ _ e'
          have := hm 0 j (by omega) (by omega)
          omega

/-- Another operation that leaves memory as it is, but for what nobody knows. -/
theorem Mem.mark (M : Mem P B m ops F st ι0 w0 S u ι w) (h0 : ∀ b p, ι0 b = some p → b < (F 0).h.next) {i : Nat} (hi : i < ops.size) (hW : ¬ Wr P m ops st i) {w1 : World} (os : w1.os = w.os) (tape : w1.tape = w.tape ∧ w.drawn ≤ w1.drawn) (out : w1.output = w.output)
    (hs : w.heap.size ≤ w1.heap.size) (hk : ∀ k, k < w.heap.size → w1.heap[k]? = w.heap[k]?) : Mem P B m ops F st ι0 w0 (fun j => S j ∨ j = i) u ι w1 := by
  refine ⟨M.un, fun j hj => ?_, fun j hj hw => .inl (M.wlo j hj hw), fun j hj hS => ?_, M.core.grown hs hk, Adv.trans h0 M.adv (Adv.grown _ _ os tape out hs hk), fun b p hp => ?_, fun b p hp => Nat.lt_of_lt_of_le (M.lt b p hp) hs, fun b p hp hb => ?_, fun j hj hS => M.late j hj fun h => hS (.inl h)⟩
  · rcases hj with hj | rfl
    · exact M.sn j hj
    · exact hi
  · rcases hS with hS | rfl
    · exact M.whi j hj hS
    · exact hW
  · rcases M.dom b p hp with h | ⟨j, h1, h2⟩
    · exact .inl h
    · exact .inr ⟨j, .inl h1, h2⟩
  · obtain ⟨k1, k2, j, o, k3, k4, k5, k6, k7, k8⟩ := M.extra b p hp hb
    exact ⟨k1, k2, j, o, .inl k3, k4, k5, k6, k7, k8.shift k6 (Inj.le_refl _) (hk _ (M.lt b p hp))⟩

/-- A writer. -/
theorem Mem.write (hm : Mono ops F) (h0 : ∀ b p, ι0 b = some p → b < (F 0).h.next) (M : Mem P B m ops F st ι0 w0 S u ι w) (hu : u < ops.size) (hS : ¬ S u) {ι1 : Inj} {w1 : World} (s1 : Sim P B ι1 (F (u + 1)).h w1) (a1 : Adv (ι.cut (F u).h.next) (F u).h w ι1 (F (u + 1)).h w1) :
    ∃ ι', Mem P B m ops F st ι0 w0 (fun j => S j ∨ j = u) (u + 1) ι' w1 ∧ ι.le ι' ∧ ι'.cut (F (u + 1)).h.next = ι1 := by
  have hnn := hm u (u + 1) (by omega) hu
  let ι' : Inj := fun b => if b < (F (u + 1)).h.next then ι1 b else ι b
  have lo : ∀ b, b < (F (u + 1)).h.next → ι' b = ι1 b := fun b hb => if_pos hb
  have hi' : ∀ b, (F (u + 1)).h.next ≤ b → ι' b = ι b := fun b hb => if_neg (by omega)
  have hcut : ι'.cut (F (u + 1)).h.next = ι1 := by
    funext k
    by_cases hk : k < (F (u + 1)).h.next
    · unfold Inj.cut; rw [if_pos hk, lo k hk]
    · rw [Inj.cut_ge (by omega)]
      cases e : ι1 k with
      | none => rfl
      | some p => exact absurd (s1.bound k p e) hk
  have hle : ι.le ι' := by
    intro b p hp
    by_cases h : b < (F (u + 1)).h.next
    · rw [lo b h]
      by_cases h' : b < (F u).h.next
      · exact a1.le b p (Inj.cut_of hp h')
      · rw [M.none_at hm hu hS (by omega) h] at hp; cases hp
    · rw [hi' b (by omega)]; exact hp
  refine ⟨ι', ⟨hu, fun j hj => ?_, fun j hj hw => ?_, fun j hj hSj => ?_, by rw [hcut]; exact s1, by rw [hcut]; exact Adv.trans h0 M.adv a1, fun b p hp => ?_, fun b p hp => ?_, fun b p hp hb => ?_, fun j hj hSj hst b hb1 hb2 => ?_⟩, hle, hcut⟩
  · rcases hj with hj | rfl
    · exact M.sn j hj
    · exact hu
  · by_cases e : j = u
    · exact .inr e
    · exact .inl (M.wlo j (by omega) hw)
  · rcases hSj with hSj | rfl
    · exact M.whi j (by omega) hSj
    · omega
  · by_cases h : b < (F (u + 1)).h.next
    · rw [lo b h] at hp
      rcases a1.img b p hp with h1 | ⟨h1, h2, h3⟩
      · rcases M.dom b p (Inj.cut_some h1).2 with h4 | ⟨j, h4, h5⟩
        · exact .inl h4
        · exact .inr ⟨j, .inl h4, h5⟩
      · exact .inr ⟨u, .inr rfl, h2, h⟩
    · rw [hi' b (by omega)] at hp
      rcases M.dom b p hp with h4 | ⟨j, h4, h5⟩
      · exact .inl h4
      · exact .inr ⟨j, .inl h4, h5⟩
  · by_cases h : b < (F (u + 1)).h.next
    · rw [lo b h] at hp; exact s1.lt b p hp
    · rw [hi' b (by omega)] at hp; exact Nat.lt_of_lt_of_le (M.lt b p hp) a1.size
  · rw [hi' b hb] at hp
    obtain ⟨k1, k2, j, o, k3, k4, k5, k6, k7, k8⟩ := M.extra b p hp (by omega)
    have hplt := M.lt b p hp
    refine ⟨k1, fun b' p' hp' hne => ?_, j, o, .inl k3, ?_, k5, k6, k7, k8.shift k6 (Inj.cut_le_cut hle _) ?_⟩
    · by_cases h : b' < (F (u + 1)).h.next
      · rw [lo b' h] at hp'
        rcases a1.img b' p' hp' with h1 | ⟨h1, h2, h3 | ⟨c0, q0, o0, e1, e2, e3, e4⟩⟩
        · exact k2 b' p' (Inj.cut_some h1).2 hne
        · omega
        · rw [← e4]
          exact k2 c0 q0 (Inj.cut_some e1).2 (by have := (Inj.cut_some e1).1; omega)
      · rw [hi' b' (by omega)] at hp'
        exact k2 b' p' hp' hne
    · by_cases e : j = u
      · subst e; exact absurd k3 hS
      · omega
    · refine a1.keep p.b hplt fun c0 q0 o0 e1 _ _ => ?_
      exact k2 c0 q0 (Inj.cut_some e1).2 (by have := (Inj.cut_some e1).1; omega)
  · have hju : j ≠ u := fun e => hSj (.inr e)
    have hnS : ¬ S j := fun h => hSj (.inl h)
    have hjl : j < u := by omega
    have hbn : b < (F u).h.next := Nat.lt_of_lt_of_le hb2 (hm (j + 1) u (by omega) (by omega))
    rw [← M.late j hjl hnS hst b hb1 hb2]
    exact a1.out b hbn (Inj.cut_none (M.none_at hm (by omega) hnS hb1 hb2))

/-- A turn that only makes a block. -/
theorem Mem.quiet (hm : Mono ops F) (h0 : ∀ b p, ι0 b = some p → b < (F 0).h.next) (M : Mem P B m ops F st ι0 w0 S u ι w) {i : Nat} (hi : i < ops.size) (hS : ¬ S i) (hW : ¬ Wr P m ops st i) (hst : st i = .turn) {ι1 : Inj} {w1 : World} {H1 : Heap} (s1 : Sim P B ι1 H1 w1)
    (a1 : Adv (ι.cut (F i).h.next) ⟨(F i).h.next, .nil⟩ w ι1 H1 w1) (hH : ((F (i + 1)).h = (F i).h ∧ H1 = ⟨(F i).h.next, .nil⟩) ∨ ∃ o, lone1 o ∧ (F (i + 1)).h = (F i).h.push o ∧ H1 = (⟨(F i).h.next, .nil⟩ : Heap).push o) :
    ∃ ι', Mem P B m ops F st ι0 w0 (fun j => S j ∨ j = i) u ι' w1 ∧ ι.le ι' ∧ ι1.le (ι'.cut (F (i + 1)).h.next) := by
  have hk : ∀ k, k < w.heap.size → w1.heap[k]? = w.heap[k]? := fun k h => a1.keep k h fun b p o _ e => (by cases e)
  have hfresh : ∀ b p, ι1 b = some p → (ι.cut (F i).h.next) b = some p ∨ ((F i).h.next ≤ b ∧ w.heap.size ≤ p.b) := by
    intro b p hp
    rcases a1.img b p hp with h | ⟨_, h2, h3 | ⟨_, _, _, _, e, _⟩⟩
    · exact .inl h
    · exact .inr ⟨h2, h3⟩
    · cases e
  have M1 := M.mark h0 hi hW a1.os a1.tape a1.output a1.size hk
  have hnn := hm i (i + 1) (by omega) hi
  have plain : (∀ b p, ι1 b = some p → (ι.cut (F i).h.next) b = some p) → ∃ ι', Mem P B m ops F st ι0 w0 (fun j => S j ∨ j = i) u ι' w1 ∧ ι.le ι' ∧ ι1.le (ι'.cut (F (i + 1)).h.next) := by
    intro h
    exact ⟨ι, M1, ι.le_refl, fun b p hp => Inj.cut_mono ι hnn b p (h b p hp)⟩
  rcases hH with ⟨e1, e2⟩ | ⟨o, ho, e1, e2⟩
  · refine plain fun b p hp => ?_
    rcases hfresh b p hp with h | ⟨h, _⟩
    · exact h
    · have := s1.bound b p hp
      rw [e2] at this
      replace this : b < (F i).h.next := this
      omega
  · have hn1 : (F (i + 1)).h.next = (F i).h.next + 1 := by rw [e1]; rfl
    cases e : ι1 (F i).h.next with
    | none =>
      refine plain fun b p hp => ?_
      rcases hfresh b p hp with h | ⟨h, _⟩
      · exact h
      · have := s1.bound b p hp
        rw [e2] at this
        simp at this
        have : b = (F i).h.next := by omega
        subst this
        rw [e] at hp; cases hp
    | some p =>
      have hpf : w.heap.size ≤ p.b := by
        rcases hfresh _ _ e with h | ⟨_, h⟩
        · have := (Inj.cut_some h).1; omega
        · exact h
      have hpl : p.b < w1.heap.size := s1.lt _ _ e
      have hobj : ObjRel P B ι1 H1 w1 p o := s1.obj _ p o e (by rw [e2, Heap.get_push, if_pos rfl])
      have hno : ι (F i).h.next = none := M.none_at hm hi hS (Nat.le_refl _) (by omega)
      have hle := Inj.with_le hno p
      have h1w : ∀ b q, ι1 b = some q → (ι.with (F i).h.next p) b = some q := by
        intro b q hq
        by_cases hb : b = (F i).h.next
        · subst hb
          rw [e] at hq; cases hq
          exact Inj.with_same _ _ _
        · rcases hfresh b q hq with h | ⟨h, _⟩
          · exact hle b q (Inj.cut_some h).2
          · have := s1.bound b q hq
            rw [e2] at this
            simp at this
            omega
      have h1n : ∀ b q, ι1 b = some q → b < (F i).h.next + 1 := by
        intro b q hq
        have := s1.bound b q hq
        rw [e2] at this
        simpa using this
      have h0n : ι0 (F i).h.next = none := by
        cases e' : ι0 (F i).h.next with
        | none => rfl
        | some q =>
          have := h0 _ _ e'
          have := hm 0 i (by omega) (by omega)
          omega
      -- the part that u sees
      have hcore : Sim P B ((ι.with (F i).h.next p).cut (F u).h.next) (F u).h w1 ∧ Adv ι0 (F 0).h w0 ((ι.with (F i).h.next p).cut (F u).h.next) (F u).h w1 := by
        by_cases hiu : i < u
        · have hlt : (F i).h.next < (F u).h.next := by
            have := hm (i + 1) u (by omega) M.un
            omega
          have hcw : (ι.with (F i).h.next p).cut (F u).h.next = (ι.cut (F u).h.next).with (F i).h.next p := by
            funext k
            unfold Inj.cut Inj.with
            by_cases hk' : k = (F i).h.next
            · subst hk'; rw [if_pos hlt, if_pos rfl, if_pos rfl]
            · rw [if_neg hk', if_neg hk']
          have hcn : (ι.cut (F u).h.next) (F i).h.next = none := Inj.cut_none hno
          rw [hcw]
          refine ⟨M1.core.learn hcn hlt hpl (fun b' p' hb' => ?_) (fun o' ho' => ?_), M1.adv.learn hcn h0n (hm 0 i (by omega) (by omega)) (Nat.le_trans M.adv.size hpf)⟩
          · have := M.lt b' p' (Inj.cut_some hb').2
            omega
          · rw [M.late i hiu hS hst _ (Nat.le_refl _) (by omega), e1, Heap.get_push, if_pos rfl] at ho'
            cases ho'
            refine hobj.shift ho (fun b q hq => ?_) rfl
            rw [← hcw]
            exact Inj.cut_of (h1w b q hq) (by have := h1n b q hq; omega)
        · have hge : (F u).h.next ≤ (F i).h.next := hm u i (by omega) (by omega)
          have hcw : (ι.with (F i).h.next p).cut (F u).h.next = ι.cut (F u).h.next := by
            funext k
            unfold Inj.cut Inj.with
            split
            · rw [if_neg (by omega)]
            · rfl
          rw [hcw]
          exact ⟨M1.core, M1.adv⟩
      refine ⟨ι.with (F i).h.next p, ⟨M1.un, M1.sn, M1.wlo, M1.whi, hcore.1, hcore.2, fun b q hq => ?_, fun b q hq => ?_, fun b q hq hb => ?_, M1.late⟩, hle, fun b q hq => Inj.cut_of (h1w b q hq) (by have := h1n b q hq; omega)⟩
      · rcases Inj.with_cases hq with ⟨rfl, rfl⟩ | ⟨hne, hq'⟩
        · exact .inr ⟨i, .inr rfl, Nat.le_refl _, by omega⟩
        · exact M1.dom b q hq'
      · rcases Inj.with_cases hq with ⟨rfl, rfl⟩ | ⟨hne, hq'⟩
        · exact hpl
        · exact M1.lt b q hq'
      · rcases Inj.with_cases hq with ⟨rfl, rfl⟩ | ⟨hne, hq'⟩
        · have hui : u ≤ i := by
            apply Classical.byContradiction
            intro h
            have := hm (i + 1) u (by omega) M.un
            omega
          refine ⟨Nat.le_trans M.adv.size hpf, fun b' p' hb' hne => ?_, i, o, .inr rfl, hui, rfl, ho, e1, hobj.shift ho (fun b q hq => Inj.cut_of (h1w b q hq) (h1n b q hq)) rfl⟩
          rcases Inj.with_cases hb' with ⟨rfl, rfl⟩ | ⟨_, hb''⟩
          · exact absurd rfl hne
          · have := M.lt b' p' hb''
            omega
        · obtain ⟨k1, k2, j, o', k3, k4, k5, k6, k7, k8⟩ := M1.extra b q hq' hb
          refine ⟨k1, fun b' p' hb' hne' => ?_, j, o', k3, k4, k5, k6, k7, k8.shift k6 (Inj.cut_le_cut hle _) rfl⟩
          rcases Inj.with_cases hb' with ⟨rfl, rfl⟩ | ⟨_, hb''⟩
          · have := M.lt b q hq'
            omega
          · exact k2 b' p' hb'' hne'
end
end Go.Eng

/- Drawn regions: an operation at a place of the drawn order. -/
namespace Go.Eng
set_option linter.unusedVariables false

section
variable {P : Program} {B : Nat} {ι : Inj} {H : Heap} {w : World} {m : Nat} {t : Tm} {a : Act} {c : Ctx} {x x' : Aux} {v : Value} {H' : Heap}

theorem nil_inv {o : Oper} {y : Opd} (hco : cOp P m o = .nilCheck y) : ∃ xo, o.op = .nilCheck xo ∧ cOpd m xo = some y := by
  have hs := special_op (P := P) (m := m) (o := o)
  rw [hco] at hs
  replace hs := hs rfl
  unfold cOp at hco
  cases ho : o.op <;> rw [ho] at hs hco <;> first | (exact hs.elim) | skip
  all_goals simp only at hco
  case nilCheck xo =>
    cases hx : cOpd m xo with
    | none => rw [hx] at hco; cases hco
    | some q =>
      rw [hx] at hco
      cases hco
      exact ⟨xo, rfl, hx⟩
  case next it st =>
    cases hx : cOpd m it with
    | none => rw [hx] at hco; cases hco
    | some q => rw [hx] at hco; cases st <;> cases hco
  case call cl =>
    have := cCall_kind (P := P) (m := m) cl
    rw [hco] at this
    exact this.elim
  case defer cl =>
    split at hco
    · rename_i f hcl
      cases hf : cOpd m f with
      | none => rw [hf] at hco; cases hco
      | some f' =>
        cases ha : cOpds m cl.args with
        | none => rw [hf, ha] at hco; cases hco
        | some as => rw [hf, ha] at hco; cases hco
    · cases hco
  case panic xo =>
    cases hx : cOpd m xo with
    | none => rw [hx] at hco; cases hco
    | some q => rw [hx] at hco; cases hco

theorem nil_acts (hc : c.nilOk = cNilOk P) (s : Sim P B ι H w) (hT : TmRel ι m t a.tmps) {o : Oper} {y : Opd} (hco : cOp P m o = .nilCheck y) (h : xNil y.val c t x H (fun v x h => .got v x h) = .got v x' H') : Acts P B ι H w (execOp a.eval o) v H' := by
  obtain ⟨xo, ho, hx⟩ := nil_inv hco
  have hr := opd_rel hT hx
  have go : ∀ v, (execOp a.eval o).run P w = .ok (.value (a.eval xo)) w → VRel ι v (a.eval xo) → Acts P B ι H w (execOp a.eval o) v H :=
    fun v h1 h2 => ⟨ι, w, .value (a.eval xo), a.eval xo, h1, .inl rfl, h2, s, Adv.refl ι H w⟩
  unfold xNil at h
  split at h
  · rename_i ad e
    cases h
    rw [e] at hr
    refine go _ ?_ hr
    generalize hq : a.eval xo = q at hr
    cases hr
    unfold execOp; simp only [ho, hq]; rfl
  · rename_i f first cap e
    cases h
    rw [e] at hr
    refine go _ ?_ hr
    generalize hq : a.eval xo = q at hr
    obtain ⟨f', a', c', rfl, hf, _, _⟩ := vrel_func_inv hr
    cases hf
    unfold execOp; simp only [ho, hq]; rfl
  · rename_i name first cap e
    rw [e] at hr
    split at h
    · rename_i ty v0 rest hfirst
      cases hn : c.nilOk ty name with
      | false => rw [hn] at h; cases h
      | true =>
        rw [hn] at h
        cases h
        rw [hc] at hn
        refine go _ ?_ hr
        generalize hq : a.eval xo = q at hr
        obtain ⟨f', a', c', rfl, hf, ha, _⟩ := vrel_func_inv hr
        cases hf
        rw [hfirst] at ha
        have h0 : ∃ v', a'[0]? = some (.iface ty v') := by
          obtain ⟨z, hy1, hy2⟩ := ha.get? (i := 0) (x := .iface ty v0) rfl
          cases hy2
          exact ⟨_, by simpa using hy1⟩
        obtain ⟨v', h0⟩ := h0
        have hfuel : P.types.size + Made.depth = (P.types.size + 99) + 1 := rfl
        unfold execOp
        simp only [ho, hq, h0, Sem.run_bind, run_program, Result.andThen_ok, hfuel, cNilOk_run hn w]
        simp
    · cases h
  · rename_i ty v0 e
    cases h
    rw [e] at hr
    refine go _ ?_ hr
    generalize hq : a.eval xo = q at hr
    cases hr
    unfold execOp; simp only [ho, hq]; rfl
  · cases h

theorem quiet_acts (hc : c.nilOk = cNilOk P) (s : Sim P B ι H w) (hT : TmRel ι m t a.tmps) {o : Oper} (hl : lookOf (cOp P m o) = none) (hw : (cOp P m o).writes = false) (hx : turnOf (cOp P m o) c t x H (fun v x h => .got v x h) = .got v x' H') : Acts P B ι H w (execOp a.eval o) v H' := by
  obtain ⟨_, ⟨T, h1, h2⟩ | ⟨y, h1, h2⟩⟩ := quiet_turn hl hw hx
  · exact turn_sound s hT h1 h2
  · rw [h1] at hx
    exact nil_acts hc s hT h1 hx

theorem wanted_part {ops : Array Oper} {o : Oper} {s gi : Nat} {wb : Bool} {ls : List Nat} {tmps : Array Value} (hg : o.guard = some (gi, wb)) (hd : (ops[gi]?).bind (·.dst) = some s) (hm : s < tmps.size) (h256 : s < 256) (hs : s ∈ ls) :
    Region.wanted o (yielded ops (clearA (others ls) tmps)) = Region.wanted o (yielded ops tmps) := by
  have get : ∀ q : Array Value, s < q.size → q[s]? = some (q.getD s undef) := fun q hq => by simp [Array.getD_eq_getD_getElem?, hq]
  have h1 := get tmps hm
  have h2 := get (clearA (others ls) tmps) (by rw [clearA_size]; exact hm)
  rw [clearA_get, if_neg (by rw [mem_others h256]; exact fun h => h hs)] at h2
  unfold Region.wanted
  rw [hg]
  simp only [yielded, hd, Option.bind_some, h1, h2]

theorem wants_part {ls : List Nat} {t : Tm} {s : Nat} (h256 : s < 256) (hs : s ∈ ls) (wb : Bool) : wants s wb (clearT (others ls) t) = wants s wb t := by
  have : slotG s (clearT (others ls) t) = slotG s t := by
    rw [clearT_get _ others_lt t h256, if_neg]
    rw [mem_others h256]
    exact fun h => h hs
  cases wb
  · show isFalse _ = isFalse _; rw [this]
  · show isTrue _ = isTrue _; rw [this]
end

/-- The whole state with those operations gone through of which S holds. -/
structure DInv (P : Program) (B : Nat) (m : Nat) (ops : Array Oper) (F : Nat → DS) (st : Nat → Stat) (V : Nat → Value) (b : Frame) (ι0 : Inj) (w0 : World) (cs0 : List Frame) (S : Nat → Prop) (u : Nat) (ι : Inj) (w : World) (a : Act) (cs : List Frame) : Prop where
  mem : Mem P B m ops F st ι0 w0 S u ι w
  cl : Closed ops S
  good : ∀ j, S j → st j ≠ .dead ∧ st j ≠ .panicked
  dsts : ∀ (j : Nat) (o : Oper) (d : Nat), S j → ops[j]? = some o → o.dst = some d → VRel (ι.cut (F (j + 1)).h.next) (V j) (a.tmps.getD d undef)
  size : m ≤ a.tmps.size
  base : ∀ s, s < 256 → s < m → (∀ (j : Nat) (o : Oper), S j → ops[j]? = some o → o.dst ≠ some s) → VRel (ι.cut (F 0).h.next) (slotG s (F 0).t) (a.tmps.getD s undef)
  defs : All2 (ADefRel (ι.cut (F u).h.next)) (F u).x.defers a.defers
  round : RoundRel (ι.cut (F u).h.next) (F u).x.round b
  rc : RcRel (ι.cut (F u).h.next) (F u).x.rc b cs
  csa : CsAdv b cs0 cs

section
variable {P : Program} {B : Nat} {c : Ctx} {m : Nat} {ops : Array Oper} {F : Nat → DS} {st : Nat → Stat} {V : Nat → Value} {b : Frame}
variable {ι0 : Inj} {w0 : World} {cs0 : List Frame} {S : Nat → Prop} {u : Nat} {ι : Inj} {w : World} {a : Act} {cs : List Frame}

theorem DInv.raise (D : DrawT P c m ops F st V) (hm : Mono ops F) (h0 : ∀ b p, ι0 b = some p → b < (F 0).h.next) (I : DInv P B m ops F st V b ι0 w0 cs0 S u ι w a cs) (hu : u < ops.size) (hw : ¬ Wr P m ops st u) : DInv P B m ops F st V b ι0 w0 cs0 S (u + 1) ι w a cs := by
  have hx := (D.still hu hw).1
  have hle := Inj.cut_mono ι (hm u (u + 1) (by omega) hu)
  exact ⟨I.mem.raise D hm h0 hu hw, I.cl, I.good, I.dsts, I.size, I.base, by rw [hx]; exact All2.mono I.defs fun _ _ => ADefRel.mono hle, by rw [hx]; exact I.round.mono hle, by rw [hx]; exact I.rc.mono hle, I.csa⟩

/-- Up to the next writer. -/
theorem DInv.norm (D : DrawT P c m ops F st V) (hm : Mono ops F) (h0 : ∀ b p, ι0 b = some p → b < (F 0).h.next) : ∀ (k u : Nat), ops.size - u = k → DInv P B m ops F st V b ι0 w0 cs0 S u ι w a cs → ∃ u', DInv P B m ops F st V b ι0 w0 cs0 S u' ι w a cs ∧ (u' = ops.size ∨ (u' < ops.size ∧ Wr P m ops st u')) := by
  intro k
  induction k with
  | zero => intro u hk I; exact ⟨u, I, .inl (by have := I.mem.un; omega)⟩
  | succ k ih =>
    intro u hk I
    by_cases hw : Wr P m ops st u
    · exact ⟨u, I, .inr ⟨by omega, hw⟩⟩
    · exact ih (u + 1) (by omega) (I.raise D hm h0 (by omega) hw)

/-- What an operation looks at. -/
theorem DInv.rel (D : DrawT P c m ops F st V) (hm : Mono ops F) (I : DInv P B m ops F st V b ι0 w0 cs0 S u ι w a cs) {i : Nat} {o : Oper} (ho : ops[i]? = some o) (hS : ¬ S i) (hA : ∀ j, Ahead ops j i → S j) {s : Nat} (hs : s ∈ looks ops o (cOp P m o)) :
    s < 256 ∧ s < m ∧ VRel (ι.cut (F i).h.next) (slotG s (F i).t) (a.tmps.getD s undef) := by
  have hi := D.size_of ho
  have hs' : s ∈ looks ops o ((ops.map (cOp P m)).getD i (.bad "")) := by rw [getD_cs ho]; exact hs
  obtain ⟨h1, h2, h3⟩ := fine_looks D.fine ho hs'
  refine ⟨h1, h2, ?_⟩
  by_cases hd : ∃ (j : Nat) (p : Oper), S j ∧ ops[j]? = some p ∧ p.dst = some s
  · obtain ⟨j, p, hS', hp, hd⟩ := hd
    have h4 : j < i := by
      rcases h3 j p hp hd with ⟨h4, _⟩ | h4 | ⟨_, h4⟩
      · exact h4
      · subst h4; exact absurd hS' hS
      · exact absurd (I.cl j i hS' h4) hS
    rw [D.tslot hp hd (I.good j hS').1 (I.good j hS').2 i h4 (by omega)]
    exact (I.dsts j p s hS' hp hd).mono (Inj.cut_mono ι (hm (j + 1) i h4 (by omega)))
  · have hn : ∀ (j : Nat) (o : Oper), S j → ops[j]? = some o → o.dst ≠ some s := fun j p hj hp hd' => hd ⟨j, p, hj, hp, hd'⟩
    rw [D.tbase h1 i (by omega) fun j p hj hp hd' => ?_]
    rotate_left
    · rcases h3 j p hp hd' with ⟨_, h5⟩ | h4 | ⟨h4, _⟩
      · exact hn j p (hA j h5) hp hd'
      · omega
      · omega
    exact (I.base s h1 h2 hn).mono (Inj.cut_mono ι (hm 0 i (by omega) (by omega)))

/-- The temporaries that count. -/
noncomputable abbrev tOf (P : Program) (m : Nat) (ops : Array Oper) (F : Nat → DS) (i : Nat) (o : Oper) : Tm := clearT (others (looks ops o (cOp P m o))) (F i).t
abbrev aOf (P : Program) (m : Nat) (ops : Array Oper) (o : Oper) (a : Act) : Act := { a with tmps := clearA (others (looks ops o (cOp P m o))) a.tmps }

theorem DInv.part (D : DrawT P c m ops F st V) (hm : Mono ops F) (I : DInv P B m ops F st V b ι0 w0 cs0 S u ι w a cs) {i : Nat} {o : Oper} (ho : ops[i]? = some o) (hS : ¬ S i) (hA : ∀ j, Ahead ops j i → S j) :
    TmRel (ι.cut (F i).h.next) m (tOf P m ops F i o) (aOf P m ops o a).tmps ∧ (∀ y ∈ (cOp P m o).opds, y.val (F i).t = y.val (tOf P m ops F i o)) ∧
    ((∀ cs b, o.op ≠ .select cs b) → execOp (aOf P m ops o a).eval o = execOp a.eval o) ∧
    (∀ s wb, GuardIs ops o m (some (s, wb)) → Region.wanted o (yielded ops a.tmps) = wants s wb (F i).t) := by
  have hT : TmRel (ι.cut (F i).h.next) m (tOf P m ops F i o) (aOf P m ops o a).tmps := part_rel I.size fun s hs _ _ => (I.rel D hm ho hS hA hs).2.2
  refine ⟨hT, fun y hy => ?_, fun hsel => ?_, fun s wb hg => ?_⟩
  · have mem : ∀ n, y = .tmp n → n ∈ looks ops o (cOp P m o) := by
      rintro n rfl
      refine List.mem_append_right _ (List.mem_append_left _ ?_)
      exact List.mem_filterMap.2 ⟨_, hy, rfl⟩
    exact (val_part mem fun n hn => (I.rel D hm ho hS hA (mem n hn)).1).symm
  · exact exec_part hsel (fun n hn => List.mem_append_left _ hn) (fun n hn => (I.rel D hm ho hS hA (List.mem_append_left _ hn)).1)
  · obtain ⟨gi, g1, g2, g3, g4⟩ := hg
    have hmem : s ∈ looks ops o (cOp P m o) := by
      refine List.mem_append_right _ (List.mem_append_right _ ?_)
      unfold guardSlot
      rw [g1]
      simp only [g2]
      simp
    rw [← wanted_part (ls := looks ops o (cOp P m o)) g1 g2 (Nat.lt_of_lt_of_le g3 I.size) g4 hmem, ← wants_part g4 hmem wb]
    exact wants_ok (a := aOf P m ops o a) hT g1 g2 g3 g4
end
end Go.Eng

/- Drawn regions: a step of the drawn order. -/
namespace Go.Eng
set_option linter.unusedVariables false

theorem put_same {a : Act} {d : Nat} {v : Value} (h : d < a.tmps.size) : (a.put (some d) v).tmps.getD d undef = v := by
  show (a.tmps.setIfInBounds d v).getD d undef = v
  simp [Array.getD_eq_getD_getElem?, h]
theorem put_other {a : Act} {q : Option Tmp} {s : Nat} {v : Value} (h : q ≠ some s) : (a.put q v).tmps.getD s undef = a.tmps.getD s undef := by
  cases q with
  | none => rfl
  | some d =>
    show (a.tmps.setIfInBounds d v).getD s undef = _
    rw [Array.getD_eq_getD_getElem?, Array.getElem?_setIfInBounds_ne (fun e => h (by rw [e])), ← Array.getD_eq_getD_getElem?]
theorem put_size {a : Act} {q : Option Tmp} {v : Value} : (a.put q v).tmps.size = a.tmps.size := by
  cases q with
  | none => rfl
  | some d => show (a.tmps.setIfInBounds d v).size = _; simp
theorem put_defers {a : Act} {q : Option Tmp} {v : Value} : (a.put q v).defers = a.defers := by
  cases q <;> rfl

section
variable {P : Program} {B : Nat} {c : Ctx} {m : Nat} {ops : Array Oper} {F : Nat → DS} {st : Nat → Stat} {V : Nat → Value} {b : Frame}
variable {ι0 : Inj} {w0 : World} {cs0 : List Frame} {S : Nat → Prop} {u : Nat} {ι : Inj} {w : World} {a : Act} {cs : List Frame}

theorem not_select {o : Oper} (h : ∀ why, cOp P m o ≠ .bad why) : ∀ cs b, o.op ≠ .select cs b := by
  intro cs b ho
  refine h "operation" ?_
  unfold cOp
  rw [ho]

theorem DInv.slots (D : DrawT P c m ops F st V) (I : DInv P B m ops F st V b ι0 w0 cs0 S u ι w a cs) {i : Nat} {o : Oper} (ho : ops[i]? = some o) {ι' : Inj} (hle : ι.le ι') {v' : Value} (hv : VRel (ι'.cut (F (i + 1)).h.next) (V i) v') {a' : Act} (ha : a'.tmps = a.tmps) :
    (∀ (j : Nat) (p : Oper) (d : Nat), (S j ∨ j = i) → ops[j]? = some p → p.dst = some d → VRel (ι'.cut (F (j + 1)).h.next) (V j) ((a'.put o.dst v').tmps.getD d undef)) ∧ m ≤ (a'.put o.dst v').tmps.size ∧
    (∀ s, s < 256 → s < m → (∀ (j : Nat) (o : Oper), (S j ∨ j = i) → ops[j]? = some o → o.dst ≠ some s) → VRel (ι'.cut (F 0).h.next) (slotG s (F 0).t) ((a'.put o.dst v').tmps.getD s undef)) := by
  refine ⟨fun j p d hj hp hd => ?_, by rw [put_size, ha]; exact I.size, fun s h1 h2 hn => ?_⟩
  · by_cases e : j = i
    · subst e
      rw [hp] at ho
      cases ho
      rw [hd, put_same (by rw [ha]; exact Nat.lt_of_lt_of_le (D.dst_lt hp hd).1 I.size)]
      exact hv
    · have hS : S j := hj.resolve_right e
      rw [put_other (fun h => e (fine_dst D.fine hp ho hd h)), ha]
      exact (I.dsts j p d hS hp hd).mono (Inj.cut_le_cut hle _)
  · rw [put_other (hn i o (.inr rfl) ho), ha]
    exact (I.base s h1 h2 fun j o hj => hn j o (.inl hj)).mono (Inj.cut_le_cut hle _)

/-- What is known of the run in the order of the text. -/
structure Ghost (P : Program) (B : Nat) (m : Nat) (ops : Array Oper) (F : Nat → DS) (st : Nat → Stat) (V : Nat → Value) : Prop where
  mono : Mono ops F
  blank : ∀ i, i ≤ ops.size → ∀ k, (F i).h.next ≤ k → (F i).h.get k = none
  bnd : ∀ i, i < ops.size → st i = .look → ∃ κ v', (∀ b p, κ b = some p → b < (F (i + 1)).h.next) ∧ VRel κ (V i) v'

theorem DrawT.theGhost (D : DrawT P c m ops F st V) (C : CtxOK P B c) {κ : Inj} (S0 : St P B κ (F 0).h w m b (F 0).t (F 0).x a cs) : Ghost P B m ops F st V := by
  have step : ∀ i, i < ops.size → (F i).h.next ≤ (F (i + 1)).h.next := by
    intro i hi
    obtain ⟨κ', w', a', cs', S'⟩ := D.ghost C S0 i (by omega)
    exact (D.ghost_step C (D.get hi) S').2.1
  refine ⟨fun i j hij hj => ?_, fun i hi => ?_, fun i hi hs => ?_⟩
  · induction j with
    | zero => have : i = 0 := by omega
              subst this; exact Nat.le_refl _
    | succ j ih =>
      by_cases e : i = j + 1
      · subst e; exact Nat.le_refl _
      · exact Nat.le_trans (ih (by omega) (by omega)) (step j (by omega))
  · obtain ⟨κ', w', a', cs', S'⟩ := D.ghost C S0 i hi
    exact S'.sim.blank
  · obtain ⟨κ', w', a', cs', S'⟩ := D.ghost C S0 i (by omega)
    exact (D.ghost_step C (D.get hi) S').2.2 hs

/-- The last writer ahead of a place. -/
theorem last_wr (P : Program) (m : Nat) (ops : Array Oper) (st : Nat → Stat) (i : Nat) : ∀ u, i ≤ u → (∀ j, i ≤ j → j < u → ¬ Wr P m ops st j) ∨ ∃ j, i ≤ j ∧ j < u ∧ Wr P m ops st j ∧ ∀ k, j < k → k < u → ¬ Wr P m ops st k := by
  intro u
  induction u with
  | zero => intro _; exact .inl fun j _ h => by omega
  | succ u ih =>
    intro hu
    by_cases e : i = u + 1
    · exact .inl fun j h1 h2 => by omega
    · by_cases hw : Wr P m ops st u
      · exact .inr ⟨u, by omega, by omega, hw, fun k h1 h2 => by omega⟩
      · rcases ih (by omega) with h | ⟨j, h1, h2, h3, h4⟩
        · refine .inl fun j h1 h2 => ?_
          by_cases e' : j = u
          · subst e'; exact hw
          · exact h j h1 (by omega)
        · refine .inr ⟨j, h1, by omega, h3, fun k h5 h6 => ?_⟩
          by_cases e' : k = u
          · subst e'; exact hw
          · exact h4 k h5 (by omega)

theorem DrawT.still_to (D : DrawT P c m ops F st V) (hm : Mono ops F) {q : Nat} : ∀ u, q ≤ u → u ≤ ops.size → (∀ j, q ≤ j → j < u → ¬ Wr P m ops st j) → (F u).x = (F q).x ∧ ∀ k, k < (F q).h.next → (F u).h.get k = (F q).h.get k := by
  intro u
  induction u with
  | zero => intro h _ _; have : q = 0 := by omega
            subst this; exact ⟨rfl, fun _ _ => rfl⟩
  | succ u ih =>
    intro h1 h2 h3
    by_cases e : q = u + 1
    · subst e; exact ⟨rfl, fun _ _ => rfl⟩
    · obtain ⟨h4, h5⟩ := ih (by omega) (by omega) fun j a b => h3 j a (by omega)
      obtain ⟨h6, h7⟩ := D.still (by omega : u < ops.size) (h3 u (by omega) (by omega))
      refine ⟨h6.trans h4, fun k hk => ?_⟩
      rw [← h5 k hk]
      rcases h7 with h7 | ⟨_, o1, _, h7⟩
      · rw [h7]
      · rw [h7, Heap.get_push, if_neg (by have := hm q u (by omega) (by omega); omega)]

/-- Where the next writer is. -/
abbrev Norm (P : Program) (m : Nat) (ops : Array Oper) (st : Nat → Stat) (u : Nat) : Prop := u = ops.size ∨ (u < ops.size ∧ Wr P m ops st u)

/-- A look tells at its drawn place what it told in the order of the text. -/
theorem DInv.look (D : DrawT P c m ops F st V) (G : Ghost P B m ops F st V) (I : DInv P B m ops F st V b ι0 w0 cs0 S u ι w a cs) (hn : Norm P m ops st u) {i : Nat} {o : Oper} (ho : ops[i]? = some o) (hS : ¬ S i) (hA : ∀ j, Ahead ops j i → S j) (hs : st i = .look) :
    ∃ v', (execOp a.eval o).run P w = .ok (.value v') w ∧ VRel (ι.cut (F (i + 1)).h.next) (V i) v' := by
  have hi := D.size_of ho
  have hm := G.mono
  obtain ⟨hT, hopd, hex, _⟩ := I.part D hm ho hS hA
  obtain ⟨g, hstep, hd, hg⟩ := D.step ho
  rcases hstep.view with ⟨q, _⟩ | ⟨q, _⟩ | ⟨q, hw, ⟨l, hl, hv, _⟩, e1, e2, e3, _⟩ | ⟨q, _⟩ | ⟨q, _⟩ <;> first | (rw [hs] at q; cases q; done) | skip
  replace hl : lookOf (cOp P m o) = some l := hl
  have hsel := not_select (P := P) (m := m) (o := o) (fun why e => by rw [e] at hl; cases hl)
  have hex := hex hsel
  have hnw : ¬ Wr P m ops st i := by
    rintro ⟨s2 | s2, _⟩ <;> rw [hs] at s2 <;> cases s2
  rw [e3]
  -- what the look tells on a part of what is known
  have on : ∀ (κ : Inj) (H : Heap), Sim P B κ H w → (ι.cut (F i).h.next).le κ → l (F i).t H = some (V i) → ∃ v', (execOp a.eval o).run P w = .ok (.value v') w ∧ VRel κ (V i) v' := by
    intro κ H s hle hlv
    rw [look_local hl hopd] at hlv
    obtain ⟨v', h1, h2⟩ := look_sound (a := aOf P m ops o a) s (hT.mono hle) hl hlv
    rw [hex] at h1
    exact ⟨v', h1, h2⟩
  by_cases hiu : i < u
  · -- behind it, writers that have been
    have huS := I.mem.un
    have hq : ∃ q, i ≤ q ∧ q ≤ u ∧ l (F i).t (F q).h = some (V i) ∧ ∀ j, q ≤ j → j < u → ¬ Wr P m ops st j := by
      rcases last_wr P m ops st i u (by omega) with h | ⟨j, h1, h2, h3, h4⟩
      · exact ⟨i, Nat.le_refl _, by omega, hv, h⟩
      · have hij : i < j := by
          by_cases e : i = j
          · subst e; exact absurd h3 hnw
          · omega
        have hna : ¬ Ahead ops i j := fun h => hS (I.cl j i (I.mem.wlo j h2 h3) h)
        exact ⟨j + 1, by omega, by omega, D.look_then ho hl hs hij h3 hna, fun k h5 h6 => h4 k (by omega) h6⟩
    obtain ⟨q, hq1, hq2, hq3, hq4⟩ := hq
    obtain ⟨_, hst⟩ := D.still_to hm u hq2 huS hq4
    have hbl := G.blank q (by omega)
    have hqu := hm q u hq2 huS
    have s : Sim P B (ι.cut (F u).h.next) ⟨(F u).h.next, (F q).h.t⟩ w := by
      refine I.mem.core.turn (fun k p o' hk hg => ⟨hk, ?_⟩) (Inj.le_refl _) (fun k p hk => (Inj.cut_some hk).1) I.mem.core.lt (fun k hk => hbl k (by have : (F u).h.next ≤ k := hk; omega))
      replace hg : (F q).h.get k = some o' := hg
      by_cases hkq : k < (F q).h.next
      · rw [hst k hkq]; exact hg
      · rw [hbl k (by omega)] at hg; cases hg
    obtain ⟨v', h1, h2⟩ := on _ _ s (Inj.cut_mono ι (hm i u (by omega) huS)) (by rw [look_next hl]; exact hq3)
    obtain ⟨κ, v'', k1, k2⟩ := G.bnd i hi hs
    refine ⟨v', h1, ?_⟩
    rw [e3] at k1
    exact (h2.cut k1 k2).mono (Inj.cut_le_cut (Inj.cut_le ι _) _)
  · -- ahead of it, a writer that has not been
    have hu : u < ops.size ∧ Wr P m ops st u := by
      rcases hn with h | h
      · omega
      · exact h
    have hui : u < i := by
      by_cases e : u = i
      · subst e; exact absurd hu.2 hnw
      · omega
    have hnS : ¬ S u := fun h => I.mem.whi u (Nat.le_refl _) h hu.2
    have hna : ¬ Ahead ops u i := fun h => hnS (hA u h)
    have hlv := D.look_ahead ho hl hs hui hu.2 hna
    have hui' := hm u i (by omega) (by omega)
    have s : Sim P B (ι.cut (F i).h.next) ⟨(F i).h.next, (F u).h.t⟩ w := by
      refine I.mem.core.turn (fun k p o' hk hg => ⟨?_, hg⟩) (Inj.cut_mono ι hui') (fun k p hk => (Inj.cut_some hk).1) (fun k p hk => I.mem.lt k p (Inj.cut_some hk).2) (fun k hk => I.mem.core.blank k (by have : (F i).h.next ≤ k := hk; omega))
      refine Inj.cut_of (Inj.cut_some hk).2 ?_
      apply Classical.byContradiction
      intro h
      replace hg : (F u).h.get k = some o' := hg
      rw [I.mem.core.blank k (by omega)] at hg
      cases hg
    exact on _ _ s (Inj.le_refl _) (by rw [look_next hl]; exact hlv)
end
end Go.Eng

/- Drawn regions: every step, and a panic. -/
namespace Go.Eng
set_option linter.unusedVariables false

section
variable {P : Program} {B : Nat} {c : Ctx} {m : Nat} {ops : Array Oper} {F : Nat → DS} {st : Nat → Stat} {V : Nat → Value} {b : Frame}
variable {ι0 : Inj} {w0 : World} {cs0 : List Frame} {S : Nat → Prop} {u : Nat} {ι : Inj} {w : World} {a : Act} {cs : List Frame}

/-- From there the region ends by its panic. -/
def PanAt (P : Program) (B : Nat) (m : Nat) (ops : Array Oper) (F : Nat → DS) (V : Nat → Value) (b : Frame) (ι0 : Inj) (w0 : World) (cs0 : List Frame) (m1 : Machine) (i : Nat) : Prop :=
  ∃ ι' a' cs' w' todo v', Steps P m1 (lone { b.atR a' todo with mode := .panicking [{ v := v', recovered := false }] } cs' w') ∧ VRel ι' (V i) v' ∧ Sim P B ι' (F ops.size).h w' ∧
    m ≤ a'.tmps.size ∧ (∀ s, s < 256 → s < m → (∀ (j : Nat) (o : Oper), ops[j]? = some o → o.dst ≠ some s) → VRel ι' (slotG s (F ops.size).t) (a'.tmps.getD s undef)) ∧
    All2 (ADefRel ι') (F ops.size).x.defers a'.defers ∧ RoundRel ι' (F ops.size).x.round b ∧ RcRel ι' (F ops.size).x.rc b cs' ∧ Adv ι0 (F 0).h w0 ι' (F ops.size).h w' ∧ CsAdv b cs0 cs'

theorem Mem.raise_to (D : DrawT P c m ops F st V) (hm : Mono ops F) (h0 : ∀ b p, ι0 b = some p → b < (F 0).h.next) {S : Nat → Prop} {ι : Inj} {w : World} {q : Nat} (M : Mem P B m ops F st ι0 w0 S q ι w) : ∀ u, q ≤ u → u ≤ ops.size → (∀ j, q ≤ j → j < u → ¬ Wr P m ops st j) → Mem P B m ops F st ι0 w0 S u ι w := by
  intro u
  induction u with
  | zero => intro h _ _; have : q = 0 := by omega
            subst this; exact M
  | succ u ih =>
    intro h1 h2 h3
    by_cases e : q = u + 1
    · subst e; exact M
    · exact (ih (by omega) (by omega) fun j a b => h3 j a (by omega)).raise D hm h0 (by omega) (h3 u (by omega) (by omega))

theorem DInv.go (D : DrawT P c m ops F st V) (C : CtxOK P B c) (G : Ghost P B m ops F st V) (h0 : ∀ b p, ι0 b = some p → b < (F 0).h.next) (I : DInv P B m ops F st V b ι0 w0 cs0 S u ι w a cs) (hn : Norm P m ops st u) {i : Nat} {o : Oper} (ho : ops[i]? = some o) (hS : ¬ S i)
    (hr : ∀ e ∈ o.after.toList, Region.binds .any e = true → S e.on) (rest : List Nat) (k : List Item) :
    (∃ u' ι' w' a' cs', Steps P (lone (b.atR a (.inRegion ops (i :: rest) :: k)) cs w) (lone (b.atR a' (.inRegion ops rest :: k)) cs' w') ∧ DInv P B m ops F st V b ι0 w0 cs0 (fun j => S j ∨ j = i) u' ι' w' a' cs') ∨
    (st i = .panicked ∧ PanAt P B m ops F V b ι0 w0 cs0 (lone (b.atR a (.inRegion ops (i :: rest) :: k)) cs w) i) := by
  have hi := D.size_of ho
  have hm := G.mono
  obtain ⟨hA, hcl⟩ := closed_step I.cl ho hr
  obtain ⟨hT, hopd, hex, hgd⟩ := I.part D hm ho hS hA
  obtain ⟨g, hstep, hd, hg⟩ := D.step ho
  -- it is wanted here as it was there
  have want : ∀ co : COper, co.guard = g → wantedC co (F i).t → Region.wanted o (yielded ops a.tmps) = true := by
    intro co hco hw
    unfold wantedC at hw
    rw [hco] at hw
    cases g with
    | none => unfold Region.wanted; rw [show o.guard = none from hg]
    | some q =>
      obtain ⟨s, wb⟩ := q
      rw [hgd s wb hg]
      exact hw
  -- what does not write
  have good' : st i ≠ .dead → st i ≠ .panicked → ∀ j, (S j ∨ j = i) → st j ≠ .dead ∧ st j ≠ .panicked := by
    rintro h1 h2 j (hj | rfl)
    · exact I.good j hj
    · exact ⟨h1, h2⟩
  have put : ∀ {ι' : Inj} {w1 : World} {v' : Value}, st i ≠ .dead → st i ≠ .panicked → Mem P B m ops F st ι0 w0 (fun j => S j ∨ j = i) u ι' w1 → ι.le ι' → VRel (ι'.cut (F (i + 1)).h.next) (V i) v' → DInv P B m ops F st V b ι0 w0 cs0 (fun j => S j ∨ j = i) u ι' w1 (a.put o.dst v') cs := by
    intro ι' w1 v' h1 h2 M hle hv
    obtain ⟨s1, s2, s3⟩ := I.slots D ho hle hv (a' := a) rfl
    exact ⟨M, hcl, good' h1 h2, s1, s2, s3, by rw [put_defers]; exact All2.mono I.defs fun _ _ => ADefRel.mono (Inj.cut_le_cut hle _), I.round.mono (Inj.cut_le_cut hle _), I.rc.mono (Inj.cut_le_cut hle _), I.csa⟩
  have fin : ∀ v', (b.atR a (.inRegion ops (i :: rest) :: k)).finish v' = b.atR (a.put o.dst v') (.inRegion ops rest :: k) := by
    intro v'
    have := Frame.finish_atR b a ops i rest k v'
    rw [ho] at this
    exact this
  -- a writer stands where the next writer is
  have here : Wr P m ops st i → i = u := by
    intro hw
    rcases Nat.lt_trichotomy i u with h | h | h
    · exact absurd (I.mem.wlo i h hw) hS
    · exact h
    · exfalso
      have hu : u < ops.size ∧ Wr P m ops st u := by
        rcases hn with h' | h'
        · omega
        · exact h'
      exact I.mem.whi u (Nat.le_refl _) (hA u (D.worder h hu.2 hw)) hu.2
  rcases hstep.view with ⟨q, _⟩ | ⟨q, ⟨s, wb, hgs, hw⟩, hv, e1, e2, e3, _⟩ | ⟨q, hw, ⟨lk, hlk, _⟩, _⟩ | ⟨q, hw, hl, _, hx, _, e1, _⟩ | ⟨q, hw, hl, _, ⟨l, t', hx⟩, _, e1, _⟩
  · -- behind a panic
    exfalso
    obtain ⟨p, h1, h2⟩ := D.dead_of ho q
    exact (I.good p (hA p h2)).2 h1
  · -- not wanted
    refine .inl ⟨u, ι, w, a.put o.dst undef, cs, ?_, ?_⟩
    · replace hgs : g = some (s, wb) := hgs
      subst hgs
      have hnw : Region.wanted o (yielded ops a.tmps) = false := by rw [hgd s wb hg]; exact hw
      have := stepR_op_skip (P := P) (b := b) (a := a) (k := k) (cs := cs) (w := w) (ops := ops) (i := i) (rest := rest) (by simp [ho, hnw])
      rw [ho] at this
      exact .one this
    · refine put (by rw [q]; simp) (by rw [q]; simp) (I.mem.mark h0 hi ?_ rfl ⟨rfl, Nat.le_refl _⟩ rfl (Nat.le_refl _) fun _ _ => rfl) ι.le_refl (by rw [hv]; exact undef_rel _)
      rintro ⟨s2 | s2, _⟩ <;> rw [q] at s2 <;> cases s2
  · -- a look
    obtain ⟨v', h1, h2⟩ := I.look D G hn ho hS hA q
    refine .inl ⟨u, ι, w, a.put o.dst v', cs, ?_, ?_⟩
    · have hs := (does_op (P := P) (b := b) (a := a) (k := k) (cs := cs) (w := w) (rest := rest) ho (want _ rfl hw) (.inr (nd_look hlk))).ok (.value v') w _ _ h1 rfl
      rw [fin] at hs
      exact .one hs
    · refine put (by rw [q]; simp) (by rw [q]; simp) (I.mem.mark h0 hi ?_ rfl ⟨rfl, Nat.le_refl _⟩ rfl (Nat.le_refl _) fun _ _ => rfl) ι.le_refl h2
      rintro ⟨s2 | s2, _⟩ <;> rw [q] at s2 <;> cases s2
  · have hdo := does_op (P := P) (b := b) (a := a) (k := k) (cs := cs) (w := w) (rest := rest) ho (want _ rfl hw)
    replace hl : lookOf (cOp P m o) = none := hl
    replace hx : turnOf (cOp P m o) c (F i).t (F i).x (F i).h (fun v x h => .got v x h) = .got (V i) (F (i + 1)).x (F (i + 1)).h := hx
    have hsel := not_select (P := P) (m := m) (o := o) (fun why e => by rw [e] at hx; cases hx)
    have hex := hex hsel
    cases hb : (cOp P m o).writes with
    | false =>
      -- it only makes a block
      obtain ⟨hxx, H1, h1, h2⟩ := quiet_fresh hl hb hx
      have hx' := turnOf_got hopd h1
      have s : Sim P B (ι.cut (F i).h.next) ⟨(F i).h.next, .nil⟩ w := I.mem.core.bare (fun k p hk => (Inj.cut_some hk).1) (fun k p hk => I.mem.lt k p (Inj.cut_some hk).2)
      obtain ⟨ι1, w1, n, v', g1, g2, g3, g4, g5⟩ := quiet_acts (a := aOf P m ops o a) C.nil s hT hl hb hx'
      rw [hex] at g1
      have hnw : ¬ Wr P m ops st i := by
        rintro ⟨_, o', ho', hw'⟩
        rw [ho] at ho'; cases ho'
        rw [hb] at hw'; cases hw'
      obtain ⟨ι', M', hle, hle1⟩ := I.mem.quiet hm h0 hi hS hnw q g4 g5 (by
        rcases h2 with ⟨k1, k2⟩ | ⟨o1, k1, k2, k3⟩
        · exact .inl ⟨k1, k2⟩
        · exact .inr ⟨o1, k1, k2, k3⟩)
      refine .inl ⟨u, ι', w1, a.put o.dst v', cs, ?_, put (by rw [q]; simp) (by rw [q]; simp) M' hle (g3.mono hle1)⟩
      have hs : step P (lone (b.atR a (.inRegion ops (i :: rest) :: k)) cs w) = .next (lone ((b.atR a (.inRegion ops (i :: rest) :: k)).finish v') cs w1) := by
        rcases g2 with rfl | ⟨rfl, rfl⟩
        · exact (hdo (.inr (nd_quiet hb))).ok _ _ _ _ g1 rfl
        · exact (hdo (.inr (nd_quiet hb))).ok _ _ _ _ g1 rfl
      rw [fin] at hs
      exact .one hs
    | true =>
      have hwr : Wr P m ops st i := ⟨.inl q, o, ho, hb⟩
      have hiu := here hwr
      subst hiu
      have hx' := turnOf_got hopd hx
      have hdo' : Does P (lone (b.atR a (.inRegion ops (i :: rest) :: k)) cs w) (b.atR a (.inRegion ops (i :: rest) :: k)) cs (execOp (aOf P m ops o a).eval o) w := by rw [hex]; exact hdo (nd_turn hx (by simp) I.round)
      have S0 : St P B (ι.cut (F i).h.next) (F i).h w m b (tOf P m ops F i o) (F i).x (aOf P m ops o a) cs := ⟨I.mem.core, hT, I.defs, I.round, I.rc⟩
      obtain ⟨ι1, w1, a', cs', v', g1, g2, g3, g4, g5, g6⟩ := turn_big (a := aOf P m ops o a) (b := b) (fr := b.atR a (.inRegion ops (i :: rest) :: k)) C rfl rfl rfl rfl hdo' S0 hl hx'
      obtain ⟨ι', M', hle, hcut⟩ := I.mem.write hm h0 hi hS g4.sim g5
      have hfin : ({ b.atR a (.inRegion ops (i :: rest) :: k) with defers := a'.defers } : Frame).finish v' = b.atR (({ a with defers := a'.defers } : Act).put o.dst v') (.inRegion ops rest :: k) := by
        have := Frame.finish_atR b { a with defers := a'.defers } ops i rest k v'
        rw [ho] at this
        exact this
      rw [hfin] at g1
      obtain ⟨s1, s2, s3⟩ := I.slots D ho hle (v' := v') (by rw [hcut]; exact g3) (a' := { a with defers := a'.defers }) rfl
      refine .inl ⟨i + 1, ι', w1, ({ a with defers := a'.defers } : Act).put o.dst v', cs', g1, ⟨M', hcl, good' (by rw [q]; simp) (by rw [q]; simp), s1, s2, s3, ?_, ?_, ?_, I.csa.trans g6⟩⟩
      · rw [put_defers, hcut]; exact g4.defs
      · rw [hcut]; exact g4.round
      · rw [hcut]; exact g4.rc
  · -- it panics
    refine .inr ⟨q, ?_⟩
    have hdo := does_op (P := P) (b := b) (a := a) (k := k) (cs := cs) (w := w) (rest := rest) ho (want _ rfl hw)
    replace hl : lookOf (cOp P m o) = none := hl
    replace hx : turnOf (cOp P m o) c (F i).t (F i).x (F i).h (fun v x h => .got v x h) = .panic (V i) l t' (F (i + 1)).x (F (i + 1)).h := hx
    have hsel := not_select (P := P) (m := m) (o := o) (fun why e => by rw [e] at hx; cases hx)
    have hex := hex hsel
    have hwr : Wr P m ops st i := D.pan_wr hi q
    have hiu := here hwr
    subst hiu
    obtain ⟨s', hx'⟩ := turnOf_pan hopd hx
    have hdo' : Does P (lone (b.atR a (.inRegion ops (i :: rest) :: k)) cs w) (b.atR a (.inRegion ops (i :: rest) :: k)) cs (execOp (aOf P m ops o a).eval o) w := by rw [hex]; exact hdo (nd_turn hx (by simp) I.round)
    have S0 : St P B (ι.cut (F i).h.next) (F i).h w m b (tOf P m ops F i o) (F i).x (aOf P m ops o a) cs := ⟨I.mem.core, hT, I.defs, I.round, I.rc⟩
    obtain ⟨ι1, w1, v', g1, g2, g3, g4, g5⟩ := turn_bigP (a := aOf P m ops o a) (b := b) (fr := b.atR a (.inRegion ops (i :: rest) :: k)) C rfl rfl rfl rfl hdo' S0 hl hx'
    obtain ⟨ι', M', hle, hcut⟩ := I.mem.write hm h0 hi hS g4.sim g5
    have hnone : ∀ j, i + 1 ≤ j → j < ops.size → ¬ Wr P m ops st j := fun j h1 h2 => D.pan_last q hi (by omega)
    have Mn := M'.raise_to D hm h0 ops.size hi (Nat.le_refl _) hnone
    obtain ⟨hxn, _⟩ := D.still_to hm ops.size hi (Nat.le_refl _) hnone
    have hle1 : ι1.le (ι'.cut (F ops.size).h.next) := by rw [← hcut]; exact Inj.cut_mono ι' (hm _ _ hi (Nat.le_refl _))
    rw [Frame.raise_atR] at g1
    refine ⟨ι'.cut (F ops.size).h.next, a, cs, w1, _, v', g1, g2.mono hle1, Mn.core, I.size, fun s h1 h2 h3 => ?_, ?_, ?_, ?_, Mn.adv, I.csa⟩
    · rw [D.tbase h1 ops.size (Nat.le_refl _) fun j o _ => h3 j o]
      exact (I.base s h1 h2 fun j o _ => h3 j o).mono (Inj.le_trans (Inj.cut_le_cut hle _) (Inj.cut_mono ι' (hm 0 _ (by omega) (Nat.le_refl _))))
    · rw [hxn, g3]
      exact All2.mono I.defs fun _ _ => ADefRel.mono (Inj.le_trans (Inj.cut_le_cut hle _) (Inj.cut_mono ι' (hm i _ (by omega) (Nat.le_refl _))))
    · rw [hxn, g3]; exact I.round.mono (Inj.le_trans (Inj.cut_le_cut hle _) (Inj.cut_mono ι' (hm i _ (by omega) (Nat.le_refl _))))
    · rw [hxn, g3]
      exact I.rc.mono (Inj.le_trans (Inj.cut_le_cut hle _) (Inj.cut_mono ι' (hm i _ (by omega) (Nat.le_refl _))))
end
end Go.Eng

/- Drawn regions: every drawn order. -/
namespace Go.Eng
set_option linter.unusedVariables false

theorem filter_less {α : Type} {p q : α → Bool} : ∀ (l : List α), (∀ x ∈ l, q x = true → p x = true) → (∃ x ∈ l, p x = true ∧ q x = false) → (l.filter q).length < (l.filter p).length
  | [], _, h => by obtain ⟨x, h, _⟩ := h; cases h
  | y :: l, h1, h2 => by
    have le : ∀ (l : List α), (∀ x ∈ l, q x = true → p x = true) → (l.filter q).length ≤ (l.filter p).length := by
      intro l
      induction l with
      | nil => intro _; exact Nat.le_refl _
      | cons z l ih =>
        intro h
        have := ih fun x hx => h x (by simp [hx])
        by_cases hq : q z = true
        · rw [List.filter_cons_of_pos hq, List.filter_cons_of_pos (h z (by simp) hq)]
          simp only [List.length_cons]; omega
        · rw [List.filter_cons_of_neg hq]
          by_cases hp : p z = true
          · rw [List.filter_cons_of_pos hp]; simp only [List.length_cons]; omega
          · rw [List.filter_cons_of_neg hp]; exact this
    have tl := le l fun x hx => h1 x (by simp [hx])
    by_cases hq : q y = true
    · have hp := h1 y (by simp) hq
      rw [List.filter_cons_of_pos hq, List.filter_cons_of_pos hp]
      obtain ⟨x, hx, hx1, hx2⟩ := h2
      rcases List.mem_cons.1 hx with rfl | hx
      · rw [hq] at hx2; cases hx2
      · have := filter_less l (fun x hx => h1 x (by simp [hx])) ⟨x, hx, hx1, hx2⟩
        simp only [List.length_cons]; omega
    · rw [List.filter_cons_of_neg hq]
      by_cases hp : p y = true
      · rw [List.filter_cons_of_pos hp]; simp only [List.length_cons]; omega
      · rw [List.filter_cons_of_neg hp]
        obtain ⟨x, hx, hx1, hx2⟩ := h2
        rcases List.mem_cons.1 hx with rfl | hx
        · exact absurd hx1 hp
        · exact filter_less l (fun x hx => h1 x (by simp [hx])) ⟨x, hx, hx1, hx2⟩

section
variable {P : Program} {B : Nat} {c : Ctx} {m : Nat} {ops : Array Oper} {F : Nat → DS} {st : Nat → Stat} {V : Nat → Value} {b : Frame}
variable {ι0 : Inj} {w0 : World} {cs0 : List Frame}

def NorAt (P : Program) (B : Nat) (m : Nat) (ops : Array Oper) (F : Nat → DS) (b : Frame) (ι0 : Inj) (w0 : World) (cs0 : List Frame) (k : List Item) (m1 : Machine) : Prop :=
  ∃ ι' a' cs' w', Steps P m1 (lone (b.atR a' k) cs' w') ∧ St P B ι' (F ops.size).h w' m b (F ops.size).t (F ops.size).x a' cs' ∧ Adv ι0 (F 0).h w0 ι' (F ops.size).h w' ∧ CsAdv b cs0 cs'

theorem DInv.finish (D : DrawT P c m ops F st V) (hm : Mono ops F) (h0 : ∀ b p, ι0 b = some p → b < (F 0).h.next) {S : Nat → Prop} {u : Nat} {ι : Inj} {w : World} {a : Act} {cs : List Frame} (I : DInv P B m ops F st V b ι0 w0 cs0 S u ι w a cs) (all : ∀ j, j < ops.size → S j) (k : List Item) :
    (F ops.size).d = none ∧ NorAt P B m ops F b ι0 w0 cs0 k (lone (b.atR a (.inRegion ops [] :: k)) cs w) := by
  refine ⟨?_, ?_⟩
  · cases e : (F ops.size).d with
    | none => rfl
    | some q =>
      obtain ⟨p, v⟩ := q
      obtain ⟨h1, h2, _⟩ := D.dpan ops.size (Nat.le_refl _) p v e
      exact absurd h2 (I.good p (all p h1)).2
  · obtain ⟨u', I', hu⟩ := I.norm D hm h0 _ u rfl
    have hu' : u' = ops.size := by
      rcases hu with h | ⟨h1, h2⟩
      · exact h
      · exact absurd h2 (I'.mem.whi u' (Nat.le_refl _) (all u' h1))
    subst hu'
    refine ⟨ι.cut (F ops.size).h.next, a, cs, w, .one stepR_region_end, ⟨I'.mem.core, ⟨I'.size, fun s h1 h2 => ?_⟩, I'.defs, I'.round, I'.rc⟩, I'.mem.adv, I'.csa⟩
    by_cases hd : ∃ (j : Nat) (p : Oper), ops[j]? = some p ∧ p.dst = some s
    · obtain ⟨j, p, hp, hd⟩ := hd
      have hj := D.size_of hp
      rw [D.tslot hp hd (I'.good j (all j hj)).1 (I'.good j (all j hj)).2 ops.size hj (Nat.le_refl _)]
      exact (I'.dsts j p s (all j hj) hp hd).mono (Inj.cut_mono ι (hm (j + 1) _ hj (Nat.le_refl _)))
    · have hn : ∀ (j : Nat) (o : Oper), ops[j]? = some o → o.dst ≠ some s := fun j p hp hd' => hd ⟨j, p, hp, hd'⟩
      rw [D.tbase h1 ops.size (Nat.le_refl _) fun j o _ => hn j o]
      exact (I'.base s h1 h2 fun j o _ => hn j o).mono (Inj.cut_mono ι (hm 0 _ (by omega) (Nat.le_refl _)))

/-- How the region ends. -/
def DRes (P : Program) (B : Nat) (m : Nat) (ops : Array Oper) (F : Nat → DS) (V : Nat → Value) (b : Frame) (ι0 : Inj) (w0 : World) (cs0 : List Frame) (k : List Item) (m1 : Machine) : Prop :=
  ((F ops.size).d = none ∧ NorAt P B m ops F b ι0 w0 cs0 k m1) ∨ ∃ i, (F ops.size).d = some (i, V i) ∧ PanAt P B m ops F V b ι0 w0 cs0 m1 i

theorem DRes.ahead {k : List Item} {m1 m2 : Machine} (hs : Steps P m1 m2) (h : DRes P B m ops F V b ι0 w0 cs0 k m2) : DRes P B m ops F V b ι0 w0 cs0 k m1 := by
  rcases h with ⟨h1, ι', a', cs', w', h2, h3⟩ | ⟨i, h1, ι', a', cs', w', todo, v', h2, h3⟩
  · exact .inl ⟨h1, ι', a', cs', w', hs.trans h2, h3⟩
  · exact .inr ⟨i, h1, ι', a', cs', w', todo, v', hs.trans h2, h3⟩

theorem mem_ready {listed : Array Bool} {i : Nat} : i ∈ Region.ready .any ops listed ↔ i < ops.size ∧ listed.getD i true = false ∧ ∃ o, ops[i]? = some o ∧ ∀ e ∈ o.after.toList, Region.binds .any e = true → listed.getD e.on false = true := by
  unfold Region.ready
  rw [List.mem_filter, List.mem_range, Bool.and_eq_true]
  refine and_congr Iff.rfl (and_congr (by cases listed.getD i true <;> simp) ?_)
  cases ho : ops[i]? with
  | none => simp
  | some o =>
    simp only [Option.map_some, Option.getD_some, Option.some.injEq, exists_eq_left']
    rw [← Array.all_toList, List.all_eq_true]
    refine forall_congr' fun e => forall_congr' fun _ => ?_
    cases Region.binds .any e <;> simp

theorem getD_same {listed : Array Bool} {j : Nat} (hj : j < listed.size) (x y : Bool) : listed.getD j x = listed.getD j y := by
  rw [Array.getD_eq_getD_getElem?, Array.getD_eq_getD_getElem?, Array.getElem?_eq_getElem hj]
  rfl

theorem draw_go (D : DrawT P c m ops F st V) (C : CtxOK P B c) (G : Ghost P B m ops F st V) (h0 : ∀ b p, ι0 b = some p → b < (F 0).h.next) (k : List Item) : ∀ (fuel T : Nat) (listed : Array Bool) {S : Nat → Prop} {u : Nat} {ι : Inj} {w : World} {a : Act} {cs : List Frame},
    DInv P B m ops F st V b ι0 w0 cs0 S u ι w a cs → listed.size = ops.size → (∀ j, S j ↔ j < ops.size ∧ listed.getD j true = true) → ((List.range ops.size).filter fun i => !listed.getD i true).length ≤ fuel →
    DRes P B m ops F V b ι0 w0 cs0 k (lone (b.atR a (.inRegion ops (Region.linearise.go .any ops fuel T listed []) :: k)) cs w) := by
  intro fuel
  induction fuel with
  | zero =>
    intro T listed S u ι w a cs I hsz hS hlen
    have all : ∀ j, j < ops.size → S j := by
      intro j hj
      rw [hS]
      refine ⟨hj, ?_⟩
      cases e : listed.getD j true with
      | true => rfl
      | false =>
        exfalso
        have : j ∈ (List.range ops.size).filter fun i => !listed.getD i true := by
          rw [List.mem_filter, List.mem_range, e]; exact ⟨hj, rfl⟩
        rw [List.length_eq_zero_iff.1 (Nat.le_zero.1 hlen)] at this
        cases this
    have := I.finish D G.mono h0 all k
    simp only [Region.linearise.go, List.reverse_nil]
    exact .inl this
  | succ fuel ih =>
    intro T listed S u ι w a cs I hsz hS hlen
    simp only [Region.linearise.go]
    change DRes P B m ops F V b ι0 w0 cs0 k (lone (b.atR a (.inRegion ops (match (Region.ready .any ops listed)[T % (Region.ready .any ops listed).length]? with
      | some i => Region.linearise.go .any ops fuel (T / (Region.ready .any ops listed).length) (listed.setIfInBounds i true) [i]
      | none => [].reverse) :: k)) cs w)
    cases hi : (Region.ready .any ops listed)[T % (Region.ready .any ops listed).length]? with
    | none =>
      have hnil : Region.ready .any ops listed = [] := by
        cases hr : Region.ready .any ops listed with
        | nil => rfl
        | cons x xs =>
          rw [hr] at hi
          have hlt : T % (x :: xs).length < (x :: xs).length := Nat.mod_lt _ (by simp)
          simp at hi
          simp at hlt
          omega
      have all : ∀ j, j < ops.size → S j := by
        intro j
        induction j using Nat.strongRecOn with
        | ind j ihj =>
          intro hj
          rw [hS]
          refine ⟨hj, ?_⟩
          cases e : listed.getD j true with
          | true => rfl
          | false =>
            exfalso
            have ho := D.get hj
            have : j ∈ Region.ready .any ops listed := mem_ready.2 ⟨hj, e, _, ho, fun ed hed hb => by
              have hlt := fine_edges D.fine ho hed hb
              have := (hS ed.on).1 (ihj ed.on hlt (by omega))
              rw [getD_same (by omega) false true]
              exact this.2⟩
            rw [hnil] at this
            cases this
      have := I.finish D G.mono h0 all k
      simp only [List.reverse_nil]
      exact .inl this
    | some i =>
      simp only []
      obtain ⟨hin, hli, o, ho, hr⟩ := mem_ready.1 (List.mem_of_getElem? hi)
      rw [linearise_go_acc, List.reverse_singleton, List.singleton_append]
      have hnS : ¬ S i := fun h => by rw [((hS i).1 h).2] at hli; cases hli
      have hr' : ∀ e ∈ o.after.toList, Region.binds .any e = true → S e.on := by
        intro e he hb
        have := hr e he hb
        have hlt := fine_edges D.fine ho he hb
        rw [hS]
        refine ⟨by omega, ?_⟩
        rw [getD_same (by omega) true false]; exact this
      obtain ⟨u', I', hn⟩ := I.norm D G.mono h0 _ u rfl
      rcases I'.go D C G h0 hn ho hnS hr' (Region.linearise.go .any ops fuel (T / (Region.ready .any ops listed).length) (listed.setIfInBounds i true) []) k with ⟨u2, ι2, w2, a2, cs2, g1, g2⟩ | ⟨g1, g2⟩
      · refine DRes.ahead g1 (ih _ _ g2 (by simpa using hsz) (fun j => ?_) ?_)
        · by_cases e : j = i
          · subst e
            constructor
            · intro _
              refine ⟨hin, ?_⟩
              rw [Array.getD_eq_getD_getElem?, Array.getElem?_setIfInBounds_self_of_lt (by omega)]
              rfl
            · intro _; exact .inr rfl
          · rw [Array.getD_eq_getD_getElem?, Array.getElem?_setIfInBounds_ne (fun h => e h.symm), ← Array.getD_eq_getD_getElem?, ← hS]
            exact ⟨fun h => h.resolve_right e, fun h => .inl h⟩
        · refine Nat.le_of_lt_succ (Nat.lt_of_lt_of_le (filter_less _ (fun j _ hj => ?_) ⟨i, by simpa using hin, by rw [hli]; rfl, ?_⟩) hlen)
          · by_cases e : j = i
            · subst e; rw [hli]; rfl
            · rw [Array.getD_eq_getD_getElem?, Array.getElem?_setIfInBounds_ne (fun h => e h.symm), ← Array.getD_eq_getD_getElem?] at hj
              exact hj
          · rw [Array.getD_eq_getD_getElem?, Array.getElem?_setIfInBounds_self_of_lt (by omega)]
            rfl
      · exact .inr ⟨i, D.pan_after hin g1 ops.size hin (Nat.le_refl _), g2⟩

theorem DrawT.one (D : DrawT P c m ops F st V) {j : Nat} {o : Oper} (ho : ops[j]? = some o) : (cOne P m ops o j (unOf (ops.map (cOp P m)) (Region.before ops) j) (preOf (ops.map (cOp P m)) (Region.before ops) j)).dst = o.dst := by
  have hs := D.trc.step j (cOne P m ops o j (unOf (ops.map (cOp P m)) (Region.before ops) j) (preOf (ops.map (cOp P m)) (Region.before ops) j)) (by
    rw [List.getElem?_map, List.getElem?_zipIdx]
    simp [ho])
  rcases cOne_cases (P := P) m ops o j (unOf (ops.map (cOp P m)) (Region.before ops) j) (preOf (ops.map (cOp P m)) (Region.before ops) j) with ⟨why, hc⟩ | ⟨g, hc, hd, hg⟩
  · rw [hc] at hs
    exfalso
    rcases hs.view with ⟨_, h, _⟩ | ⟨_, ⟨g, b, h, _⟩, _⟩ | ⟨_, _, ⟨l, h, _⟩, _⟩ | ⟨_, _, _, _, h, _⟩ | ⟨_, _, _, _, ⟨l, t', h⟩, _⟩
    · unfold isAfter at h
      split at h
      · cases h
      · simp at h
    · cases h
    · cases h
    · cases h
    · cases h
  · rw [hc]

/-- Regions that draw their order go as the model's. -/
theorem draw_ok (hmix : P.follows .mixedOrders = true) (C : CtxOK P B c) : DrawOK P B c := by
  intro id ops k ι H w m b t x a cs S
  have hco : cOpers P m true ops = cOpersD P m ops (ops.map (cOp P m)) (Region.before ops) := rfl
  rw [hco]
  unfold cOpersD
  by_cases hf : drawFine m ops (ops.map (cOp P m)) (Region.before ops) = true
  · rw [if_pos hf]
    generalize hos : (ops.toList.zipIdx.map fun (o, j) => cOne P m ops o j (unOf (ops.map (cOp P m)) (Region.before ops) j) (preOf (ops.map (cOp P m)) (Region.before ops) j)) = os
    show Rz.all _ _ _ _ (dRun (dstsOf os) os c ⟨t, x, H, none, []⟩)
    rcases trace (dstsOf os) c os 0 ⟨t, x, H, none, []⟩ with ⟨why, h⟩ | ⟨F, st, V, h1, h2, h3⟩
    · rw [h]; trivial
    · have hlen : os.length = ops.size := by rw [← hos]; simp
      rw [h3, hlen, Nat.zero_add]
      rw [← hos] at h1
      have D : DrawT P c m ops F st V := ⟨hf, h1, by rw [h2], by rw [h2]⟩
      have e0 : (F 0).h = H := by rw [h2]
      have S0 : St P B ι (F 0).h w m b (F 0).t (F 0).x a cs := by rw [h2]; exact S
      have G : Ghost P B m ops F st V := D.theGhost C S0
      have hb0 : ∀ b p, ι b = some p → b < (F 0).h.next := S0.sim.bound
      have hcut : ι.cut (F 0).h.next = ι := by
        funext j
        rw [Inj.cut_at]
        split
        · rfl
        · cases e : ι j with
          | none => rfl
          | some p => exact absurd (hb0 j p e) ‹_›
      have I : DInv P B m ops F st V b ι w cs (fun _ => False) 0 ι { w with drawn := w.drawn + 1 } a cs := by
        refine ⟨⟨Nat.zero_le _, fun _ h => h.elim, fun j h => by omega, fun _ _ h => h.elim, ?_, ?_, fun b p h => .inl (hb0 b p h), S.sim.lt, fun b p h h' => ?_, fun j h => by omega⟩, fun _ _ h => h.elim, fun _ h => h.elim, fun _ _ _ h => h.elim, S.tmps.1, fun s h1 h2 _ => ?_, ?_, ?_, ?_, .refl _ _⟩
        · rw [hcut]; exact S0.sim.drew _
        · rw [hcut]; exact Adv.drew _ _ _ _ (Nat.le_succ _)
        · have := hb0 b p h; omega
        · rw [hcut]; exact S0.tmps.2 s h1 h2
        · rw [hcut]; exact S0.defs
        · rw [hcut]; exact S0.round
        · rw [hcut]; exact S0.rc
      refine From.head stepR_region_draw ?_
      have hres := draw_go D C G hb0 k ops.size (w.tape w.drawn (.order b.fn id)) (Array.replicate ops.size false) I (by simp) (fun j => ?_) ?_
      · have hsch : Region.schedule (P.follows .mixedOrders) ops (w.tape w.drawn (.order b.fn id)) = Region.linearise.go .any ops ops.size (w.tape w.drawn (.order b.fn id)) (Array.replicate ops.size false) [] := by
          rw [hmix]; rfl
        rw [hsch]
        show Rz.all _ _ _ _ (dEnd (dstsOf os) (F ops.size).g (F ops.size).d c (F ops.size).t (F ops.size).x (F ops.size).h)
        rcases hres with ⟨hd, ι', a', cs', w', g1, g2, g3, g4⟩ | ⟨i, hd, ι', a', cs', w', todo, v', g1, g2, g3, g4, g5, g6, g7, g8, g9, g10⟩
        · rw [hd]
          rw [e0] at g3
          exact ⟨ι', a', cs', w', g1, g2, g3, g4⟩
        · rw [hd]
          rw [e0] at g9
          refine ⟨ι', a', cs', w', todo, v', g1, g2, g3, ⟨g4, fun s h1 h2 h3 => g5 s h1 h2 fun j o ho hdst => h3 ?_⟩, g6, g7, g8, g9, g10⟩
          unfold dstsOf
          rw [List.mem_filterMap]
          have hget : os[j]? = some (cOne P m ops o j (unOf (ops.map (cOp P m)) (Region.before ops) j) (preOf (ops.map (cOp P m)) (Region.before ops) j)) := by
            rw [← hos, List.getElem?_map, List.getElem?_zipIdx]
            simp [ho]
          exact ⟨_, List.mem_of_getElem? hget, (D.one ho).trans hdst⟩
      · constructor
        · intro h; exact h.elim
        · rintro ⟨h1, h2⟩
          simp [Array.getD_eq_getD_getElem?, h1] at h2
      · refine Nat.le_trans (List.length_filter_le _ _) ?_
        simp
  · rw [if_neg hf]
    trivial
end
end Go.Eng

/- The abstract machine beside the model: a call that ends with true here, whatever is left open, ends so in the model, and writes nothing that was there. -/
namespace Go.Eng
set_option linter.unusedVariables false
open Go.RowKit

/-- Every number below n. -/
def below (f : Nat → Bool) (n : Nat) : Bool := Nat.rec (motive := fun _ => Bool) true (fun k ih => ih && f k) n
theorem below_all {f : Nat → Bool} : ∀ {n : Nat}, below f n = true → ∀ j, j < n → f j = true
  | 0, _, j, h => by omega
  | n + 1, h, j, hj => by
    replace h : (below f n && f n) = true := h
    rw [Bool.and_eq_true] at h
    by_cases e : j = n
    · rw [e]; exact h.2
    · exact below_all h.1 j (by omega)

/-- It ends with true, whatever is left open. -/
noncomputable def Er.sure (r : Er) : Bool :=
  Er.rec (motive := fun _ => Bool) (fun v _ => isTrue v) (fun _ _ => false) (fun _ => false) (fun n _ ih => below ih n) r

theorem isTrue_eq {v : Value} (h : isTrue v = true) : v = .bool true := by
  cases v <;> first | (cases h; done) | skip
  rename_i b
  cases b
  · cases h
  · rfl

theorem Er.sure_all {A : Value → Heap → Prop} {C : List (Value × Bool) → Heap → Prop} {r : Er} (hs : r.sure = true) (h : r.all A C) : ∃ H, A (.bool true) H := by
  induction r with
  | ret v h' => exact ⟨h', by rw [← isTrue_eq hs]; exact h⟩
  | panic c h' => cases hs
  | fail w => cases hs
  | any n k ih =>
    obtain ⟨j, h1, h2⟩ := h
    exact ih j (below_all hs j h1) h2

/-- What holds of all that a trie holds. -/
def Tr.allP {α : Type} (p : Nat → α → Prop) : Tr α → (Nat → Nat) → Prop
  | .nil, _ => True
  | .node v l r, φ => (match v with
    | none => True
    | some a => p (φ 0) a) ∧ Tr.allP p l (fun n => φ (2 * n + 1)) ∧ Tr.allP p r (fun n => φ (2 * n + 2))

theorem Tr.allP_get {α : Type} {p : Nat → α → Prop} : ∀ {t : Tr α} {φ : Nat → Nat}, Tr.allP p t φ → ∀ n a, t.get n = some a → p (φ n) a
  | .nil, φ, _, n, a, h => by cases h
  | .node v l r, φ, hp, n, a, h => by
    obtain ⟨h1, h2, h3⟩ := hp
    cases n with
    | zero =>
      replace h : v = some a := h
      rw [h] at h1
      exact h1
    | succ n =>
      replace h : (Bool.rec (motive := fun _ => Option α) (r.get (n / 2)) (l.get (n / 2)) (Nat.beq (n % 2) 0)) = some a := h
      cases hb : Nat.beq (n % 2) 0 with
      | true =>
        rw [hb] at h
        have := Tr.allP_get h2 (n / 2) a h
        rw [beq_iff] at hb
        have e : 2 * (n / 2) + 1 = n + 1 := by omega
        rw [e] at this
        exact this
      | false =>
        rw [hb] at h
        have := Tr.allP_get h3 (n / 2) a h
        have hne : n % 2 ≠ 0 := fun e => by rw [beq_iff.2 e] at hb; cases hb
        have e : 2 * (n / 2) + 2 = n + 1 := by omega
        rw [e] at this
        exact this

section
variable {P : Program} {E : Env}

theorem Adv.isBelow {w w' : World} {ι : Inj} {H' : Heap} {B : Nat} {ι0 : Inj} {H0 : Heap} (s : Sim P B ι0 H0 w) (h : Adv ι0 H0 w ι H' w') : Below B w w' :=
  ⟨h.os, h.tape.1, h.output, h.size, Adv.below s h⟩

/-- A call over whatever memory. -/
theorem calls_sure (hmix : P.follows .mixedOrders = true) {w : World} {B : Nat} (hE : EnvOK P B E) (n : Nat) {f : Nat} {k : KFun} (hk : E.fn f = some k) {ι : Inj} {H : Heap} (s : Sim P B ι H w) {args : List Value} {args' : Array Value} (ha : LRel ι args args'.toList)
    (h : (enterK E (ctx E n) k args H).sure = true) : Calls P f args' w fun e w' => e = .returned (.bool true) ∧ Below B w w' := by
  have hd : ∀ c, CtxOK P B c → DrawOK P B c := fun c C => draw_ok hmix C
  have C := ctx_ok hE hd n
  intro cs
  have := enterK_sound hE C (hd _ C) (hE.fn f k hk) s ha cs
  obtain ⟨H', ι', w', v', F, h1, h2, h3, h4, h5, h6⟩ := Er.sure_all h this
  cases h4
  exact ⟨.returned (.bool true), w', F, ⟨rfl, Adv.isBelow s h6⟩, h1, h2, h3⟩

/-- A closed call. -/
theorem calls_true (hmix : P.follows .mixedOrders = true) {w : World} (hE : EnvOK P w.heap.size E) (n : Nat) {f : Nat} {k : KFun} (hk : E.fn f = some k) (h : (enterK E (ctx E n) k [] ⟨0, .nil⟩).sure = true) :
    Calls P f #[] w fun e w' => e = .returned (.bool true) ∧ Below w.heap.size w w' :=
  calls_sure hmix hE n hk (sim_empty w) .nil h
end
end Go.Eng

/- A summary of a function of bytes by a table, each row of which is a run of the function itself. -/
namespace Go.Eng
set_option linter.unusedVariables false
open Go.RowKit

/-- It ends with that value, whatever is left open. -/
noncomputable def Er.gives (v : Value) (r : Er) : Bool :=
  Er.rec (motive := fun _ => Bool) (fun v' _ => sameV 20 v' v) (fun _ _ => false) (fun _ => false) (fun n _ ih => below ih n) r
theorem Er.gives_all {A : Value → Heap → Prop} {C : List (Value × Bool) → Heap → Prop} {v : Value} {r : Er} (hs : r.gives v = true) (h : r.all A C) : ∃ H, A v H := by
  induction r with
  | ret v' h' => exact ⟨h', by rw [← sameV_eq 20 v' v hs]; exact h⟩
  | panic c h' => cases hs
  | fail w => cases hs
  | any n k ih =>
    obtain ⟨j, h1, h2⟩ := h
    exact ih j (below_all hs j h1) h2

noncomputable def tabFind (T : List (List Value × Value)) (cs : List Value) : Option Value :=
  List.rec (motive := fun _ => Option Value) none (fun e _ ih => Bool.rec (motive := fun _ => Option Value) ih (some e.2) (sameV 1 (.agg ⟨cs⟩) (.agg ⟨e.1⟩))) T
theorem tabFind_mem {cs : List Value} {v : Value} : ∀ {T : List (List Value × Value)}, tabFind T cs = some v → (cs, v) ∈ T
  | [], h => by cases h
  | e :: T, h => by
    replace h : (Bool.rec (motive := fun _ => Option Value) (tabFind T cs) (some e.2) (sameV 1 (.agg ⟨cs⟩) (.agg ⟨e.1⟩))) = some v := h
    cases hb : sameV 1 (.agg ⟨cs⟩) (.agg ⟨e.1⟩) with
    | false => rw [hb] at h; exact List.mem_cons_of_mem _ (tabFind_mem h)
    | true =>
      rw [hb] at h
      have h1 := sameV_eq 1 _ _ hb
      have h2 : cs = e.1 := by cases h1; rfl
      have h3 : e.2 = v := by cases h; rfl
      rw [h2, ← h3]
      exact List.mem_cons_self

/-- The summary: of a slice whose cells are known, all that its capacity tells of included. -/
noncomputable def tabSum (T : List (List Value × Value)) : Summ := fun args h => match args with
  | [.slice (some a) n c] => match h.get a.block with
    | some (.cells _ xs) => match takeN n (dropN a.off xs) with
      | some cs => bif (match a.spot with
          | none => Nat.ble (Nat.add a.off c) (lenL xs)
          | some z => Nat.beq z 1) && Nat.blt 0 n then optV none (fun v => some (v, h)) (tabFind T cs) else none
      | none => none
    | _ => none
  | _ => none

/-- What a row of the table is: a run on a memory that holds those cells alone. -/
noncomputable def tabRow (E : Env) (d f : Nat) (e : List Value × Value) : Bool :=
  plainL e.1 && plainV e.2 && (enter E (ctx E d) f [.slice (some ⟨0, 0, some 1⟩) (lenL e.1) (lenL e.1)] ⟨1, .node (some (.cells false e.1)) .nil .nil⟩).gives e.2

theorem takeN_get {n off : Nat} {xs cs : List Value} (h : takeN n (dropN off xs) = some cs) : cs.length = n ∧ ∀ i, i < n → cs[i]? = xs[off + i]? := by
  rw [takeN_eq, dropN_eq] at h
  split at h
  · rename_i hle
    cases h
    refine ⟨by rw [List.length_take]; omega, fun i hi => ?_⟩
    rw [List.getElem?_take, if_pos hi, List.getElem?_drop]
  · cases h

theorem plain1_same {ι : Inj} {x v' : Value} (h : plain1 x = true) (r : VRel ι x v') : v' = x := by
  unfold plain1 at h
  split at h <;> first | (cases h; done) | (cases r; rfl)
theorem plainL_mem {xs : List Value} (h : plainL xs = true) : ∀ x ∈ xs, plain1 x = true := by
  induction xs with
  | nil => intro x hx; cases hx
  | cons y xs ih =>
    simp only [plainL, Bool.and_eq_true] at h
    intro x hx
    rcases List.mem_cons.1 hx with rfl | hx
    · exact h.1
    · exact ih h.2 x hx
theorem plainL_same {ι : Inj} {xs ys : List Value} (h : plainL xs = true) (r : LRel ι xs ys) : ys = xs := by
  induction r with
  | nil => rfl
  | cons hx _ ih =>
    simp only [plainL, Bool.and_eq_true] at h
    rw [plain1_same h.1 hx, ih h.2]
theorem plainV_same {ι : Inj} {v v' : Value} (h : plainV v = true) (r : VRel ι v v') : v' = v := by
  unfold plainV at h
  split at h
  · rename_i cs
    obtain ⟨a', rfl, h1, _⟩ := vrel_agg_inv r
    have := plainL_same h h1
    rw [Array.toList_inj] at this
    rw [this]
  · exact plain1_same h r

section
variable {P : Program} {B : Nat} {E : Env}

theorem tab_sound (hmix : P.follows .mixedOrders = true) (hE : EnvOK P B E) (d f : Nat) {T : List (List Value × Value)} (hT : ∀ e ∈ T, tabRow E d f e = true) {ι : Inj} {H : Heap} {w : World} {args args' : List Value} {v : Value} {H' : Heap} (s : Sim P B ι H w) (hr : LRel ι args args') (h : tabSum T args H = some (v, H')) :
    CallOK P B ι H w (callFunc f args'.toArray) (.ret v H') := by
  unfold tabSum at h
  split at h
  · rename_i a n c
    split at h
    · rename_i wr xs hg
      split at h
      · rename_i cs hcs
        cases hb : ((match a.spot with
          | none => Nat.ble (Nat.add a.off c) (lenL xs)
          | some z => Nat.beq z 1) && Nat.blt 0 n) with
        | false => rw [hb] at h; cases h
        | true =>
          rw [hb] at h
          obtain ⟨v0, hf, h2⟩ := optV_some h
          cases h2
          rw [Bool.and_eq_true, blt_iff] at hb
          obtain ⟨hcap, hn0⟩ := hb
          have hrow := hT _ (tabFind_mem hf)
          unfold tabRow at hrow
          simp only [Bool.and_eq_true] at hrow
          obtain ⟨⟨hp1, hp2⟩, hrun⟩ := hrow
          cases hr with
          | cons hv ht =>
            cases ht
            cases hv with
            | sempty he => omega
            | @slice _ p _ _ c' hp he hc hn hl =>
              obtain ⟨o1, o2, o3, o4⟩ := s.obj _ _ _ hp hg
              have hlen : lenL cs = n ∧ ∀ i, i < n → cs[i]? = xs[a.off + i]? := by
                rw [lenL_eq]
                exact takeN_get hcs
              obtain ⟨hl1, hl2⟩ := hlen
              have hcells : ∀ i, i < c' → a.off + i < p.L := by
                intro i hi
                cases hs : a.spot with
                | none =>
                  rw [hs] at hcap
                  have := he hs
                  simp only [ble_iff, lenL_eq] at hcap
                  replace hcap : a.off + c ≤ xs.length := hcap
                  omega
                | some z =>
                  rw [hs] at hcap
                  simp only [beq_iff] at hcap
                  subst hcap
                  have := hl 1 hs
                  omega
              let ι0 : Inj := fun b => if b = 0 then some ⟨p.b, p.d + a.off, c'⟩ else none
              have hι : ι0 0 = some ⟨p.b, p.d + a.off, c'⟩ := rfl
              have only : ∀ b q, ι0 b = some q → b = 0 ∧ q = ⟨p.b, p.d + a.off, c'⟩ := by
                intro b q hq
                by_cases hb : b = 0
                · subst hb; cases hq; exact ⟨rfl, rfl⟩
                · have : ι0 b = none := if_neg hb
                  rw [this] at hq; cases hq
              have s0 : Sim P B ι0 ⟨1, .node (some (.cells false cs)) .nil .nil⟩ w := by
                refine ⟨fun b q o hq ho => ?_, fun b b' q q' o o' hne h1 h2 => ?_, fun b q hq => ?_, fun b q hq => ?_, fun b hb => ?_, s.base⟩
                · obtain ⟨rfl, rfl⟩ := only b q hq
                  cases ho
                  refine ⟨by rw [← lenL_eq, hl1]; show n ≤ c'; omega, fun i hi => ?_, fun i x hx => ?_, fun h => by cases h⟩
                  · have := o2 (a.off + i) (hcells i hi)
                    rw [← Nat.add_assoc] at this
                    exact this
                  · have hi : i < n := by
                      have := (List.getElem?_eq_some_iff.1 hx).1
                      rw [← lenL_eq, hl1] at this; exact this
                    rw [hl2 i hi] at hx
                    obtain ⟨v', g1, g2, g3⟩ := o3 (a.off + i) x hx
                    have hpx : plain1 x = true := by
                      have : cs[i]? = some x := by rw [hl2 i hi]; exact hx
                      exact plainL_mem hp1 x (List.mem_of_getElem? this)
                    have := plain1_same hpx g2
                    subst this
                    rw [← Nat.add_assoc] at g1
                    exact ⟨_, g1, (plain1_rel hpx).1, g3⟩
                · obtain ⟨rfl, _⟩ := only b q h1
                  obtain ⟨rfl, _⟩ := only b' q' h2
                  exact absurd rfl hne
                · obtain ⟨rfl, _⟩ := only b q hq; exact Nat.zero_lt_one
                · obtain ⟨_, rfl⟩ := only b q hq; exact s.lt a.block p hp
                · cases b with
                  | zero => exact absurd (show 1 ≤ 0 from hb) (by omega)
                  | succ b =>
                    show (Tr.node (some (AObj.cells false cs)) .nil .nil).get (b + 1) = none
                    show (Bool.rec (motive := fun _ => Option AObj) ((Tr.nil : Tr AObj).get (b / 2)) ((Tr.nil : Tr AObj).get (b / 2)) (Nat.beq (b % 2) 0)) = none
                    cases Nat.beq (b % 2) 0 <;> rfl
              have hd : ∀ c, CtxOK P B c → DrawOK P B c := fun c C => draw_ok hmix C
              have C := ctx_ok hE hd d
              have harg : VRel ι0 (.slice (some ⟨0, 0, some 1⟩) (lenL cs) (lenL cs)) (.slice (some ⟨p.b, p.d + a.off, none⟩) n c') := by
                rw [hl1]
                exact .slice (a := ⟨0, 0, some 1⟩) (p := ⟨p.b, p.d + a.off, c'⟩) hι (fun h => by cases h) (by omega) (Nat.le_refl _) (fun z hz => by cases hz; show 0 + c' * 1 ≤ c'; omega)
              have hcall := enter_sound hE C (hd _ C) (f := f) s0 (.cons harg .nil)
              intro fr cs0 m0 hm D
              obtain ⟨H1, ι1, w1, v', g1, g2, g3, g4⟩ := Er.gives_all hrun (hcall fr cs0 m0 hm D)
              have := plainV_same hp2 g2
              subst this
              have hk : ∀ k, k < w.heap.size → w1.heap[k]? = w.heap[k]? := by
                intro k hk
                refine g4.keep k hk fun b q o hq ho hw => ?_
                obtain ⟨rfl, _⟩ := only b q hq
                cases ho
                cases hw
              exact ⟨ι, w1, _, g1, plainV_rel hp2, s.grown g4.size hk, Adv.grown _ _ g4.os g4.tape g4.output g4.size hk⟩
      · cases h
    · cases h
  · cases h
end
end Go.Eng

/- A summary of a closed call by its run; what arguments look like. -/
namespace Go.Eng
set_option linter.unusedVariables false
open Go.RowKit Go.WideShapes

/-- The summary of a function without arguments that answers true. -/
noncomputable def trueSum : Summ := fun args h => match args with
  | [] => some (.bool true, h)
  | _ => none

section
variable {P : Program} {B : Nat} {E : Env}

theorem closed_sound (hmix : P.follows .mixedOrders = true) (hE : EnvOK P B E) (d f : Nat) (hrun : (enter E (ctx E d) f [] ⟨0, .nil⟩).gives (.bool true) = true) {ι : Inj} {H : Heap} {w : World} {args args' : List Value} {v : Value} {H' : Heap} (s : Sim P B ι H w) (hr : LRel ι args args') (h : trueSum args H = some (v, H')) :
    CallOK P B ι H w (callFunc f args'.toArray) (.ret v H') := by
  unfold trueSum at h
  split at h
  · cases h
    cases hr
    have s0 : Sim P B (fun _ => none) ⟨0, .nil⟩ w :=
      ⟨(fun b p o h => by cases h), (fun b b' p p' o o' _ h => by cases h), (fun b p h => by cases h), (fun b p h => by cases h), fun b _ => rfl, s.base⟩
    have hd : ∀ c, CtxOK P B c → DrawOK P B c := fun c C => draw_ok hmix C
    have C := ctx_ok hE hd d
    have hcall := enter_sound hE C (hd _ C) (f := f) s0 (args := []) (args' := []) .nil
    intro fr cs0 m0 hm D
    obtain ⟨H1, ι1, w1, v', g1, g2, g3, g4⟩ := Er.gives_all hrun (hcall fr cs0 m0 hm D)
    cases g2
    have hk : ∀ k, k < w.heap.size → w1.heap[k]? = w.heap[k]? := fun k hk => g4.keep k hk fun b q o hq _ _ => by cases hq
    exact ⟨ι, w1, _, g1, .bool true, s.grown g4.size hk, Adv.grown _ _ g4.os g4.tape g4.output g4.size hk⟩
  · cases h
end

theorem sure_if {F : Bool → Er} {b : Bool} (hb : b = true) (h : (F true).sure = true) : (F b).sure = true := by rw [hb]; exact h

/-- An array of numbers that came in. -/
theorem id_open {H : Type} {enc : TypeId × Value → H} {P : Program} {w : World} {base : Nat} {spare : Nat → Bool} {held : Bool} {r : Reach} {b0 : Nat} {k e : TypeId} {n : Nat} {q : IntKind} (ht : P.underlying k = some (.array n e)) (he : P.underlying e = some (.int q)) (h1 : P.cellsOf e = 1) (h2 : P.cellsOf k = n) {v : Value} {d : DataW H} {ps : List MemPlace}
    (hval : Value.okWide P w r b0 k v) (hd : DataW.Trod enc P w base spare held k v d ps) : ∃ ns : List Int, ns.length = n ∧ v = .agg ⟨ns.map fun m => .int q m⟩ := by
  simp only [Value.okWide, ht] at hval
  obtain ⟨cs, rfl, hsz, _⟩ := hval
  obtain ⟨fuel, hf⟩ := hd
  obtain ⟨xs, m, _, _, hl, hlen, hat⟩ := DataW.trod_array ht hf
  replace hl : cs.toList.length = P.cellsOf k := hl
  have each : ∀ i, i < n → ∃ z, (cs.toList.drop i).take 1 = [.int q z] := by
    intro i hi
    have hx : xs[i]? = some xs[i] := List.getElem?_eq_getElem (by omega)
    have := hat i hi
    rw [hx, h1, Nat.mul_one] at this
    obtain ⟨z, hz, _⟩ := DataW.trod_int he this
    exact ⟨z, hz⟩
  rw [h2] at hl
  have hcell : ∀ x ∈ cs.toList, ∃ z, x = .int q z := by
    intro x hx
    obtain ⟨i, hi, rfl⟩ := List.getElem_of_mem hx
    obtain ⟨z, hz⟩ := each i (by omega)
    refine ⟨z, ?_⟩
    have := congrArg (·[0]?) hz
    simp only [List.getElem?_take, List.getElem?_drop, Nat.add_zero] at this
    have h3 : cs.toList[i]? = some (.int q z) := by simpa using this
    rw [List.getElem?_eq_getElem hi] at h3
    exact Option.some.inj h3
  refine ⟨cs.toList.map fun v => match v with
    | .int _ z => z
    | _ => 0, by simpa using hl, ?_⟩
  congr 1
  rw [List.map_map]
  have : cs.toList.map ((fun m => Value.int q m) ∘ fun v => match v with
      | .int _ z => z
      | _ => 0) = cs.toList := by
    conv => rhs; rw [← List.map_id cs.toList]
    refine List.map_congr_left fun x hx => ?_
    obtain ⟨z, rfl⟩ := hcell x hx
    rfl
  rw [this]
end Go.Eng

namespace Go.Eng
theorem unk_agg {ι : Inj} {q : IntKind} {n : Nat} {ns : List Int} (h : ns.length = n) : VRel ι (.agg ⟨List.replicate n (.chan none)⟩) (.agg ⟨ns.map fun m => .int q m⟩) := by
  refine vrel_agg ?_ (fun x hx => by rw [List.eq_of_mem_replicate hx]; trivial)
  subst h
  show LRel ι _ (ns.map fun m => Value.int q m)
  induction ns with
  | nil => exact .nil
  | cons z ns ih => exact .cons (.unk (by trivial)) ih
end Go.Eng

/- What slices that came in look like. -/
namespace Go.Eng
set_option linter.unusedVariables false
open Go.RowKit Go.WideShapes

theorem cells_first {w : World} {base : Nat} {a : Addr} {n : Nat} {cs : List Value} (hn : 0 < n) (h : w.cells? base a n = some cs) : ∃ v, w.cell? a = some v := by
  unfold World.cells? at h
  split at h
  · obtain ⟨m, rfl⟩ : ∃ m, n = m + 1 := ⟨n - 1, by omega⟩
    rw [List.range_succ_eq_map, List.mapM_cons] at h
    cases hc : w.cell? (a.add 0) with
    | none => rw [hc] at h; cases h
    | some v =>
      refine ⟨v, ?_⟩
      have : a.add 0 = a := by simp [Addr.add]
      rw [this] at hc
      exact hc
  · cases h

theorem cell_lt {w : World} {a : Addr} {v : Value} (h : w.cell? a = some v) : a.spot = none ∧ a.block < w.heap.size := by
  refine ⟨World.cell?_spot h, ?_⟩
  rcases Nat.lt_or_ge a.block w.heap.size with h' | h'
  · exact h'
  · simp [World.cell?, Array.getElem?_eq_none h'] at h

theorem slice_open {H : Type} {enc : TypeId × Value → H} {P : Program} {w : World} {base : Nat} {held : Bool} {r : Reach} {b0 : Nat} {t e : TypeId} (ht : P.underlying t = some (.slice e)) (hc : 0 < P.cellsOf e) {v : Value} {d : DataW H} {ps : List MemPlace}
    (hval : Value.okWide P w r b0 t v) (hd : DataW.Trod enc P w base (fun _ => true) held t v d ps) : v = .slice none 0 0 ∨ ∃ x len cap, v = .slice (some x) len cap ∧ len ≤ cap ∧ (0 < cap → x.spot = none ∧ x.block < w.heap.size) := by
  obtain ⟨a, len, cap, rfl⟩ := okWide_slice ht hval
  obtain ⟨fuel, hf⟩ := hd
  rcases DataW.trod_slice ht hf with ⟨h, _⟩ | ⟨x, len', cap', elems, rest, n, _, h, _, hb, hl, hm, hlen, hel, hsp, hns⟩
  · simp [Value.cells] at h
    obtain ⟨rfl, rfl, rfl⟩ := h
    exact .inl rfl
  · simp [Value.cells] at h
    obtain ⟨rfl, rfl, rfl⟩ := h
    refine .inr ⟨x, len, cap, rfl, hl, fun hcap => ?_⟩
    have first : ∃ y, (w.cells? base (x.add 0) (P.cellsOf e)).bind (DataW.trod enc P w base (fun _ => true) held n e) = some y := by
      by_cases h0 : 0 < len
      · have := hel 0 h0
        rw [Nat.zero_mul, List.getElem?_eq_getElem (by omega)] at this
        exact ⟨_, this⟩
      · obtain ⟨g1, g2⟩ := hsp rfl
        have := g2 0 (by omega)
        rw [show (len + 0) * P.cellsOf e = 0 by rw [show len = 0 by omega]; simp, List.getElem?_eq_getElem (by omega)] at this
        exact ⟨_, this⟩
    obtain ⟨y, hy⟩ := first
    cases hcs : w.cells? base (x.add 0) (P.cellsOf e) with
    | none => rw [hcs] at hy; cases hy
    | some cs =>
      obtain ⟨v, hv⟩ := cells_first hc hcs
      have : x.add 0 = x := by simp [Addr.add]
      rw [this] at hv
      exact cell_lt hv

/-- Beside slices of which only their places are known. -/
theorem sim_places {P : Program} {w : World} {ι : Inj} (N : Nat) (hb : ∀ b p, ι b = some p → b < N) (hl : ∀ b p, ι b = some p → p.b < w.heap.size) : Sim P w.heap.size ι ⟨N, .nil⟩ w :=
  (sim_empty w).bare hb hl

def place1 (j : Nat) (x : Addr) (cap : Nat) (ι : Inj) : Inj := fun b => if b = j then some ⟨x.block, x.off, cap⟩ else ι b
theorem place1_rel {ι : Inj} {j : Nat} {x : Addr} {len cap : Nat} (hx : x.spot = none) (hl : len ≤ cap) (hι : ι j = some ⟨x.block, x.off, cap⟩) : VRel ι (.slice (some ⟨j, 0, none⟩) len cap) (.slice (some x) len cap) := by
  obtain ⟨b, o, s⟩ := x
  simp only at hx
  subst hx
  exact .slice (a := ⟨j, 0, none⟩) (p := ⟨b, o, cap⟩) hι (fun _ => rfl) (Nat.le_refl _) hl (fun z h => by cases h)
theorem sure_bool {F : Bool → Er} (b : Bool) (h1 : (F true).sure = true) (h0 : (F false).sure = true) : (F b).sure = true := by cases b <;> assumption
theorem place1_lt {N j : Nat} {x : Addr} {c : Nat} {ι : Inj} (hj : j < N) (h : ∀ b p, ι b = some p → b < N) : ∀ b p, place1 j x c ι b = some p → b < N := by
  intro b p hp
  unfold place1 at hp
  split at hp
  · next e => rw [e]; exact hj
  · exact h b p hp
theorem place1_in {W : World} {j : Nat} {x : Addr} {c : Nat} {ι : Inj} (hx : x.block < W.heap.size) (h : ∀ b p, ι b = some p → p.b < W.heap.size) : ∀ b p, place1 j x c ι b = some p → p.b < W.heap.size := by
  intro b p hp
  unfold place1 at hp
  split at hp
  · cases hp; exact hx
  · exact h b p hp
end Go.Eng

/- A summary of a function of a value and of bytes by a table, each row of which is a run of the function itself. -/
namespace Go.Eng
set_option linter.unusedVariables false
open Go.RowKit

noncomputable def tab2Find (T : List ((Value × List Value) × Value)) (q : Value) (cs : List Value) : Option Value :=
  List.rec (motive := fun _ => Option Value) none (fun e _ ih => Bool.rec (motive := fun _ => Option Value) ih (Bool.rec (motive := fun _ => Option Value) ih (some e.2) (sameV 1 (.agg ⟨cs⟩) (.agg ⟨e.1.2⟩))) (sameV 20 q e.1.1)) T
theorem tab2Find_mem {q : Value} {cs : List Value} {v : Value} : ∀ {T : List ((Value × List Value) × Value)}, tab2Find T q cs = some v → ((q, cs), v) ∈ T
  | [], h => by cases h
  | e :: T, h => by
    replace h : (Bool.rec (motive := fun _ => Option Value) (tab2Find T q cs) (Bool.rec (motive := fun _ => Option Value) (tab2Find T q cs) (some e.2) (sameV 1 (.agg ⟨cs⟩) (.agg ⟨e.1.2⟩))) (sameV 20 q e.1.1)) = some v := h
    cases hq : sameV 20 q e.1.1 with
    | false => rw [hq] at h; exact List.mem_cons_of_mem _ (tab2Find_mem h)
    | true =>
      rw [hq] at h
      cases hb : sameV 1 (.agg ⟨cs⟩) (.agg ⟨e.1.2⟩) with
      | false => rw [hb] at h; exact List.mem_cons_of_mem _ (tab2Find_mem h)
      | true =>
        rw [hb] at h
        have h0 := sameV_eq 20 _ _ hq
        have h1 := sameV_eq 1 _ _ hb
        have h2 : cs = e.1.2 := by cases h1; rfl
        have h3 : e.2 = v := by cases h; rfl
        rw [h0, h2, ← h3]
        exact List.mem_cons_self

/-- The summary: of a value and a slice whose cells are known, all that its capacity tells of included. -/
noncomputable def tab2Sum (T : List ((Value × List Value) × Value)) : Summ := fun args h => match args with
  | [q, .slice (some a) n c] => match h.get a.block with
    | some (.cells _ xs) => match takeN n (dropN a.off xs) with
      | some cs => bif (match a.spot with
          | none => Nat.ble (Nat.add a.off c) (lenL xs)
          | some z => Nat.beq z 1) && Nat.blt 0 n then optV none (fun v => some (v, h)) (tab2Find T q cs) else none
      | none => none
    | _ => none
  | _ => none

/-- What a row of the table is: a run on a memory that holds those cells alone. -/
noncomputable def tab2Row (E : Env) (d f : Nat) (e : (Value × List Value) × Value) : Bool :=
  (plainV e.1.1 && plainL e.1.2) && plainV e.2 && (enter E (ctx E d) f [e.1.1, .slice (some ⟨0, 0, some 1⟩) (lenL e.1.2) (lenL e.1.2)] ⟨1, .node (some (.cells false e.1.2)) .nil .nil⟩).gives e.2

section
variable {P : Program} {B : Nat} {E : Env}

theorem tab2_sound (hmix : P.follows .mixedOrders = true) (hE : EnvOK P B E) (d f : Nat) {T : List ((Value × List Value) × Value)} (hT : ∀ e ∈ T, tab2Row E d f e = true) {ι : Inj} {H : Heap} {w : World} {args args' : List Value} {v : Value} {H' : Heap} (s : Sim P B ι H w) (hr : LRel ι args args') (h : tab2Sum T args H = some (v, H')) :
    CallOK P B ι H w (callFunc f args'.toArray) (.ret v H') := by
  unfold tab2Sum at h
  split at h
  · rename_i q a n c
    split at h
    · rename_i wr xs hg
      split at h
      · rename_i cs hcs
        cases hb : ((match a.spot with
          | none => Nat.ble (Nat.add a.off c) (lenL xs)
          | some z => Nat.beq z 1) && Nat.blt 0 n) with
        | false => rw [hb] at h; cases h
        | true =>
          rw [hb] at h
          obtain ⟨v0, hf, h2⟩ := optV_some h
          cases h2
          rw [Bool.and_eq_true, blt_iff] at hb
          obtain ⟨hcap, hn0⟩ := hb
          have hrow := hT _ (tab2Find_mem hf)
          unfold tab2Row at hrow
          simp only [Bool.and_eq_true] at hrow
          obtain ⟨⟨⟨hp0, hp1⟩, hp2⟩, hrun⟩ := hrow
          cases hr with
          | cons hq ht1 =>
          cases ht1 with
          | cons hv ht =>
            cases ht
            have := plainV_same hp0 hq
            subst this
            cases hv with
            | sempty he => omega
            | @slice _ p _ _ c' hp he hc hn hl =>
              obtain ⟨o1, o2, o3, o4⟩ := s.obj _ _ _ hp hg
              have hlen : lenL cs = n ∧ ∀ i, i < n → cs[i]? = xs[a.off + i]? := by
                rw [lenL_eq]
                exact takeN_get hcs
              obtain ⟨hl1, hl2⟩ := hlen
              have hcells : ∀ i, i < c' → a.off + i < p.L := by
                intro i hi
                cases hs : a.spot with
                | none =>
                  rw [hs] at hcap
                  have := he hs
                  simp only [ble_iff, lenL_eq] at hcap
                  replace hcap : a.off + c ≤ xs.length := hcap
                  omega
                | some z =>
                  rw [hs] at hcap
                  simp only [beq_iff] at hcap
                  subst hcap
                  have := hl 1 hs
                  omega
              let ι0 : Inj := fun b => if b = 0 then some ⟨p.b, p.d + a.off, c'⟩ else none
              have hι : ι0 0 = some ⟨p.b, p.d + a.off, c'⟩ := rfl
              have only : ∀ b q, ι0 b = some q → b = 0 ∧ q = ⟨p.b, p.d + a.off, c'⟩ := by
                intro b q hq
                by_cases hb : b = 0
                · subst hb; cases hq; exact ⟨rfl, rfl⟩
                · have : ι0 b = none := if_neg hb
                  rw [this] at hq; cases hq
              have s0 : Sim P B ι0 ⟨1, .node (some (.cells false cs)) .nil .nil⟩ w := by
                refine ⟨fun b q o hq ho => ?_, fun b b' q q' o o' hne h1 h2 => ?_, fun b q hq => ?_, fun b q hq => ?_, fun b hb => ?_, s.base⟩
                · obtain ⟨rfl, rfl⟩ := only b q hq
                  cases ho
                  refine ⟨by rw [← lenL_eq, hl1]; show n ≤ c'; omega, fun i hi => ?_, fun i x hx => ?_, fun h => by cases h⟩
                  · have := o2 (a.off + i) (hcells i hi)
                    rw [← Nat.add_assoc] at this
                    exact this
                  · have hi : i < n := by
                      have := (List.getElem?_eq_some_iff.1 hx).1
                      rw [← lenL_eq, hl1] at this; exact this
                    rw [hl2 i hi] at hx
                    obtain ⟨v', g1, g2, g3⟩ := o3 (a.off + i) x hx
                    have hpx : plain1 x = true := by
                      have : cs[i]? = some x := by rw [hl2 i hi]; exact hx
                      exact plainL_mem hp1 x (List.mem_of_getElem? this)
                    have := plain1_same hpx g2
                    subst this
                    rw [← Nat.add_assoc] at g1
                    exact ⟨_, g1, (plain1_rel hpx).1, g3⟩
                · obtain ⟨rfl, _⟩ := only b q h1
                  obtain ⟨rfl, _⟩ := only b' q' h2
                  exact absurd rfl hne
                · obtain ⟨rfl, _⟩ := only b q hq; exact Nat.zero_lt_one
                · obtain ⟨_, rfl⟩ := only b q hq; exact s.lt a.block p hp
                · cases b with
                  | zero => exact absurd (show 1 ≤ 0 from hb) (by omega)
                  | succ b =>
                    show (Tr.node (some (AObj.cells false cs)) .nil .nil).get (b + 1) = none
                    show (Bool.rec (motive := fun _ => Option AObj) ((Tr.nil : Tr AObj).get (b / 2)) ((Tr.nil : Tr AObj).get (b / 2)) (Nat.beq (b % 2) 0)) = none
                    cases Nat.beq (b % 2) 0 <;> rfl
              have hd : ∀ c, CtxOK P B c → DrawOK P B c := fun c C => draw_ok hmix C
              have C := ctx_ok hE hd d
              have harg : VRel ι0 (.slice (some ⟨0, 0, some 1⟩) (lenL cs) (lenL cs)) (.slice (some ⟨p.b, p.d + a.off, none⟩) n c') := by
                rw [hl1]
                exact .slice (a := ⟨0, 0, some 1⟩) (p := ⟨p.b, p.d + a.off, c'⟩) hι (fun h => by cases h) (by omega) (Nat.le_refl _) (fun z hz => by cases hz; show 0 + c' * 1 ≤ c'; omega)
              have hcall := enter_sound hE C (hd _ C) (f := f) s0 (.cons (plainV_rel hp0) (.cons harg .nil))
              intro fr cs0 m0 hm D
              obtain ⟨H1, ι1, w1, v', g1, g2, g3, g4⟩ := Er.gives_all hrun (hcall fr cs0 m0 hm D)
              have := plainV_same hp2 g2
              subst this
              have hk : ∀ k, k < w.heap.size → w1.heap[k]? = w.heap[k]? := by
                intro k hk
                refine g4.keep k hk fun b q o hq ho hw => ?_
                obtain ⟨rfl, _⟩ := only b q hq
                cases ho
                cases hw
              exact ⟨ι, w1, _, g1, plainV_rel hp2, s.grown g4.size hk, Adv.grown _ _ g4.os g4.tape g4.output g4.size hk⟩
      · cases h
    · cases h
  · cases h
end
end Go.Eng

/- Summaries of the library's functions without a body: bytes compared, a byte sought. -/
namespace Go.Eng
set_option linter.unusedVariables false
open Go.RowKit

/-- The bytes that cells hold. -/
def u8sOf : List Value → Option (List UInt8)
  | [] => some []
  | .int .u8 z :: r => match u8sOf r with
    | some l => some (z.toNat.toUInt8 :: l)
    | none => none
  | _ => none
noncomputable def bytesIn (v : Value) (h : Heap) : Option (List UInt8) := match v with
  | .string s => some s.data.toList
  | .slice none _ _ => some []
  | .slice (some a) n _ => match n with
    | 0 => some []
    | _ => match h.load a.block a.off n with
      | some cs => u8sOf cs
      | none => none
  | _ => none
noncomputable def cmpSum : Summ := fun args h => match args with
  | [x, y] => match bytesIn x h with
    | some a => match bytesIn y h with
      | some b => some (.int .i64 (Go.Lib.compareBytes a b), h)
      | none => none
    | none => none
  | _ => none
noncomputable def idxSum : Summ := fun args h => match args with
  | [.string s, .int .u8 c] => some (.int .i64 (firstIdx s c.toNat.toUInt8), h)
  | _ => none

section
variable {P : Program} {B : Nat}

theorem run_loadBytes {w : World} {b : Nat} : ∀ (l : List UInt8) (cs : List Value) (o : Nat) (acc : ByteArray), u8sOf cs = some l → (∀ j v, cs[j]? = some v → w.cell? ⟨b, o + j, none⟩ = some v) →
    ∃ s, (Extern.Bytes.loadBytes ⟨b, o, none⟩ cs.length acc).run P w = .ok s w ∧ s.data.toList = acc.data.toList ++ l
  | l, [], o, acc, h, hc => by
    cases h
    exact ⟨acc, rfl, by simp⟩
  | l, x :: cs, o, acc, h, hc => by
    unfold u8sOf at h
    split at h
    · rename_i e; cases e
    · rename_i z r he
      cases he
      cases hr : u8sOf cs with
      | none => rw [hr] at h; cases h
      | some l' =>
        rw [hr] at h
        cases h
        have h0 := hc 0 _ rfl
        obtain ⟨s, g1, g2⟩ := run_loadBytes l' cs (o + 1) (acc.push z.toNat.toUInt8) hr fun j v hv => by
          have := hc (j + 1) v hv
          rw [show o + 1 + j = o + (j + 1) by omega]; exact this
        refine ⟨s, ?_, by rw [g2]; simp⟩
        show Sem.run P (do
          match ← load ⟨b, o, none⟩ with
          | .int .u8 q => Extern.Bytes.loadBytes (Addr.add ⟨b, o, none⟩ 1) cs.length (acc.push q.toNat.toUInt8)
          | _ => stuck "loadBytes: a byte expected") w = _
        have h0' : w.cell? ⟨b, o, none⟩ = some (.int .u8 z) := h0
        simp only [Sem.run_bind, run_load, h0', Result.andThen]
        exact g1
    · cases h

theorem bytesIn_run {ι : Inj} {H : Heap} {w : World} (s : Sim P B ι H w) {x x' : Value} (r : VRel ι x x') {l : List UInt8} (h : bytesIn x H = some l) : ∃ t, (Extern.Bytes.bytesOf x').run P w = .ok t w ∧ t.data.toList = l := by
  unfold bytesIn at h
  split at h
  · cases h; cases r; exact ⟨_, rfl, rfl⟩
  · cases h; cases r; exact ⟨_, rfl, rfl⟩
  · rename_i a n c
    split at h
    · cases h
      cases r with
      | sempty => exact ⟨_, rfl, rfl⟩
      | slice => exact ⟨_, rfl, rfl⟩
    · rename_i n0 hn
      cases hl : H.load a.block a.off n with
      | none => rw [hl] at h; cases h
      | some cs =>
        rw [hl] at h
        replace h : u8sOf cs = some l := h
        cases r with
        | sempty => exact absurd rfl (hn ·)
        | @slice _ p _ _ c' hp he hc hn' hl' =>
          obtain ⟨cs', k1, k2, k3, k4, k5⟩ := load_ok s hp hl
          have same : ∀ {xs ys : List Value} {l : List UInt8}, LRel ι xs ys → u8sOf xs = some l → u8sOf ys = some l := by
            intro xs ys l hr
            induction hr generalizing l with
            | nil => exact id
            | @cons x y xs ys hx _ ih =>
              intro hu
              unfold u8sOf at hu
              split at hu
              · rename_i e; cases e
              · rename_i z r e
                cases e
                cases hx
                cases hr : u8sOf xs with
                | none => rw [hr] at hu; cases hu
                | some l' =>
                  rw [hr] at hu
                  cases hu
                  unfold u8sOf
                  rw [ih hr]
              · cases hu
          obtain ⟨t, g1, g2⟩ := run_loadBytes (P := P) (w := w) (b := p.b) l cs' (p.d + a.off) .empty (same k3 h) (fun j v hv => k2 j v hv)
          refine ⟨t, ?_, by rw [g2]; rfl⟩
          show (Extern.Bytes.loadBytes ⟨p.b, p.d + a.off, none⟩ n .empty).run P w = _
          rw [← k1]
          exact g1
  · cases h

/-- A function without a body, that only reads. -/
theorem extern_ok {f : FuncId} {fn : Func} {e : Array Value → Sem Value} (hf : P.funcs[f]? = some fn) (hname : (fn.name == "runtime.NumGoroutine") = false)
    (hb : fn.body.isNone = true) (hn : Extern.findNext fn = none) (he : Extern.find fn = some e) {ι : Inj} {H : Heap} {w : World} (s : Sim P B ι H w) {args' : Array Value} {v v' : Value} (hrun : (e args').run P w = .ok v' w) (hv : VRel ι v v') : CallOK P B ι H w (callFunc f args') (.ret v H) := by
  intro fr cs m0 hm D
  have h1 : (callFunc f args').run P w = .ok (.value v') w := by
    rw [run_callFunc_extern hf hname hb hn he, hrun]; rfl
  have h2 := D.ok _ _ _ _ h1 rfl
  exact ⟨ι, w, v', Steps.one h2, hv, s, Adv.refl _ _ _⟩

theorem cmp_sound {f : FuncId} {fn : Func} (hf : P.funcs[f]? = some fn) (hname : (fn.name == "runtime.NumGoroutine") = false)
    (hb : fn.body.isNone = true) (hn : Extern.findNext fn = none) (he : Extern.find fn = some Extern.BytealgCompare.compare) {ι : Inj} {H : Heap} {w : World} {args args' : List Value} {v : Value} {H' : Heap} (s : Sim P B ι H w) (hr : LRel ι args args') (h : cmpSum args H = some (v, H')) :
    CallOK P B ι H w (callFunc f args'.toArray) (.ret v H') := by
  unfold cmpSum at h
  split at h
  · rename_i x y
    cases hx : bytesIn x H with
    | none => rw [hx] at h; cases h
    | some a =>
    cases hy : bytesIn y H with
    | none => rw [hx, hy] at h; cases h
    | some b =>
      rw [hx, hy] at h
      cases h
      cases hr with
      | @cons _ x' _ _ rx ht =>
      cases ht with
      | @cons _ y' _ _ ry ht =>
        cases ht
        obtain ⟨s1, g1, e1⟩ := bytesIn_run s rx hx
        obtain ⟨s2, g2, e2⟩ := bytesIn_run s ry hy
        refine extern_ok hf hname hb hn he s (v' := .int .i64 (Go.Lib.compareBytes a b)) ?_ (.int _ _)
        show Sem.run P (do pure (goInt (Extern.BytealgCompare.cmp (← Extern.Bytes.bytesOf x') (← Extern.Bytes.bytesOf y')))) w = _
        simp only [Sem.run_bind, g1, g2, Result.andThen, Sem.run_pure]
        rw [Go.Lib.cmp_eq, e1, e2]
        rfl
  · cases h

theorem idx_sound {f : FuncId} {fn : Func} (hf : P.funcs[f]? = some fn) (hname : (fn.name == "runtime.NumGoroutine") = false)
    (hb : fn.body.isNone = true) (hn : Extern.findNext fn = none) (he : Extern.find fn = some Extern.BytealgIndexByte.indexByte) {ι : Inj} {H : Heap} {w : World} {args args' : List Value} {v : Value} {H' : Heap} (s : Sim P B ι H w) (hr : LRel ι args args') (h : idxSum args H = some (v, H')) :
    CallOK P B ι H w (callFunc f args'.toArray) (.ret v H') := by
  unfold idxSum at h
  split at h
  · cases h
    cases hr with
    | cons rx ht =>
    cases ht with
    | cons ry ht =>
      cases ht
      cases rx
      cases ry
      exact extern_ok hf hname hb hn he s (run_indexByte_string _ _ _) (.int _ _)
  · cases h
end

/-- One summary more. -/
noncomputable def Env.add (E : Env) (f : Nat) (s : Summ) : Env := ⟨E.fn, fun n => Bool.rec (motive := fun _ => Option Summ) (E.sum n) (some s) (Nat.beq n f), E.meth, E.nilOk⟩
theorem EnvOK.add {P : Program} {B : Nat} {E : Env} (hE : EnvOK P B E) (f : Nat) (s : Summ) (h : ∀ ι H w args args' v H', Sim P B ι H w → LRel ι args args' → s args H = some (v, H') → CallOK P B ι H w (callFunc f args'.toArray) (.ret v H')) : EnvOK P B (E.add f s) := by
  refine ⟨hE.fn, hE.meth, hE.nil, fun n s' hs => ?_⟩
  replace hs : (Bool.rec (motive := fun _ => Option Summ) (E.sum n) (some s) (Nat.beq n f)) = some s' := hs
  cases hb : Nat.beq n f with
  | false => rw [hb] at hs; exact hE.sum n s' hs
  | true =>
    rw [hb] at hs
    cases hs
    rw [beq_iff] at hb
    subst hb
    exact h
end Go.Eng

/- A summary of a function that only looks at what was there: a run of it on memory that is only to be looked at; all its choices come to the same. -/
namespace Go.Eng
set_option linter.unusedVariables false
open Go.RowKit

/-! ### Memory that is only looked at -/
def sealO : AObj → Option AObj
  | .cells _ xs => some (.cells false xs)
  | .map sh ver es => some (.map sh ver es)
  | .miter m ver left last => some (.miter m ver left last)
  | _ => none
noncomputable def sealT (t : Tr AObj) : Tr AObj :=
  Tr.rec (motive := fun _ => Tr AObj) .nil (fun v _ _ l r => .node (optV none sealO v) l r) t
noncomputable def sealH (h : Heap) : Heap := ⟨h.next, sealT h.t⟩

theorem sealT_get (t : Tr AObj) : ∀ n, (sealT t).get n = (t.get n).bind sealO := by
  induction t with
  | nil => intro n; rfl
  | node v l r ihl ihr =>
    intro n
    have e : sealT (.node v l r) = .node (optV none sealO v) (sealT l) (sealT r) := rfl
    rw [e]
    cases n with
    | zero => cases v <;> rfl
    | succ m =>
      rw [Tr.get_node_succ, Tr.get_node_succ]
      split
      · exact ihl _
      · exact ihr _
theorem sealH_get (h : Heap) (n : Nat) : (sealH h).get n = (h.get n).bind sealO := sealT_get h.t n
theorem sealO_some {o o' : AObj} (h : sealO o = some o') : (∃ wr xs, o = .cells wr xs ∧ o' = .cells false xs) ∨ (o' = o ∧ ((∃ sh ver es, o = .map sh ver es) ∨ ∃ m ver left last, o = .miter m ver left last)) := by
  cases o with
  | cells wr xs => cases h; exact .inl ⟨wr, xs, rfl, rfl⟩
  | map sh ver es => cases h; exact .inr ⟨rfl, .inl ⟨sh, ver, es, rfl⟩⟩
  | miter m ver left last => cases h; exact .inr ⟨rfl, .inr ⟨m, ver, left, last, rfl⟩⟩
  | _ => cases h

/-! ### What is the same -/
def sameEs : List (Value × Value) → List (Value × Value) → Bool
  | [], [] => true
  | x :: xs, y :: ys => sameV 20 x.1 y.1 && (sameV 20 x.2 y.2 && sameEs xs ys)
  | _, _ => false
theorem sameEs_eq : ∀ {xs ys : List (Value × Value)}, sameEs xs ys = true → xs = ys
  | [], [], _ => rfl
  | (a, b) :: xs, (c, d) :: ys, h => by
    simp only [sameEs, Bool.and_eq_true] at h
    rw [sameV_eq 20 _ _ h.1, sameV_eq 20 _ _ h.2.1, sameEs_eq h.2.2]
  | [], _ :: _, h => by cases h
  | _ :: _, [], h => by cases h
def sameON : Option Nat → Option Nat → Bool
  | none, none => true
  | some a, some b => Nat.beq a b
  | _, _ => false
theorem sameON_eq {a b : Option Nat} (h : sameON a b = true) : a = b := by
  cases a <;> cases b <;> first | rfl | (cases h; done) | (simp only [sameON, beq_iff] at h; rw [h])
def sameOE : Option (Value × Value) → Option (Value × Value) → Bool
  | none, none => true
  | some a, some b => sameV 20 a.1 b.1 && sameV 20 a.2 b.2
  | _, _ => false
theorem sameOE_eq {a b : Option (Value × Value)} (h : sameOE a b = true) : a = b := by
  cases a with
  | none => cases b with
    | none => rfl
    | some b => cases h
  | some a => cases b with
    | none => cases h
    | some b =>
      obtain ⟨a1, a2⟩ := a
      obtain ⟨b1, b2⟩ := b
      simp only [sameOE, Bool.and_eq_true] at h
      rw [sameV_eq 20 _ _ h.1, sameV_eq 20 _ _ h.2]

/-- What is to be there yet: maps and what goes through them. -/
def keepO (o : AObj) (o' : Option AObj) : Bool := match o with
  | .map sh ver es => match o' with
    | some (.map sh' ver' es') => sameSh sh sh' && (Nat.beq ver ver' && sameEs es es')
    | _ => false
  | .miter m ver left last => match o' with
    | some (.miter m' ver' left' last') => sameON m m' && (Nat.beq ver ver' && (sameEs left left' && sameOE last last'))
    | _ => false
  | _ => true
def kept : AObj → Prop
  | .map .. | .miter .. => True
  | _ => False
theorem keepO_eq {o : AObj} {o' : Option AObj} (h : keepO o o' = true) (hk : kept o) : o' = some o := by
  cases o with
  | map sh ver es =>
    unfold keepO at h
    split at h <;> first | (cases h; done) | skip
    · rename_i e; cases e
      split at h
      · simp only [Bool.and_eq_true, beq_iff] at h
        rw [sameSh_eq h.1, h.2.1, sameEs_eq h.2.2]
      · cases h
    · rename_i e; cases e
    · rename_i e1 e2; exact absurd rfl (e1 _ _ _)
  | miter m ver left last =>
    unfold keepO at h
    split at h <;> first | (cases h; done) | skip
    · rename_i e; cases e
    · rename_i e; cases e
      split at h
      · simp only [Bool.and_eq_true, beq_iff] at h
        rw [sameON_eq h.1, h.2.1, sameEs_eq h.2.2.1, sameOE_eq h.2.2.2]
      · cases h
    · rename_i e1 e2; exact absurd rfl (e2 _ _ _ _)
  | _ => exact hk.elim
noncomputable def keepV (v : Option AObj) (v' : Option AObj) : Bool := optV true (fun o => keepO o v') v
noncomputable def keepT (t : Tr AObj) : Tr AObj → Bool :=
  Tr.rec (motive := fun _ => Tr AObj → Bool) (fun _ => true)
    (fun v _ _ ihl ihr t' => Tr.rec (motive := fun _ => Bool) (keepV v none && (ihl .nil && ihr .nil)) (fun v' l' r' _ _ => keepV v v' && (ihl l' && ihr r')) t') t
theorem keepT_get : ∀ (t t' : Tr AObj), keepT t t' = true → ∀ n o, t.get n = some o → kept o → t'.get n = some o := by
  intro t
  induction t with
  | nil => intro t' _ n o h; cases h
  | node v l r ihl ihr =>
    intro t' h n o hn hk
    cases t' with
    | nil =>
      replace h : (keepV v none && (keepT l .nil && keepT r .nil)) = true := h
      simp only [Bool.and_eq_true] at h
      cases n with
      | zero =>
        replace hn : v = some o := hn
        subst hn
        have := keepO_eq (show keepO o none = true from h.1) hk
        cases this
      | succ m =>
        rw [Tr.get_node_succ] at hn
        split at hn
        · have := ihl _ h.2.1 _ o hn hk; cases this
        · have := ihr _ h.2.2 _ o hn hk; cases this
    | node v' l' r' =>
      replace h : (keepV v v' && (keepT l l' && keepT r r')) = true := h
      simp only [Bool.and_eq_true] at h
      cases n with
      | zero =>
        replace hn : v = some o := hn
        subst hn
        exact keepO_eq (show keepO o v' = true from h.1) hk
      | succ m =>
        rw [Tr.get_node_succ] at hn ⊢
        split at hn
        · rw [if_pos (by assumption)]; exact ihl _ h.2.1 _ o hn hk
        · rw [if_neg (by assumption)]; exact ihr _ h.2.2 _ o hn hk

/-! ### Lists in another order -/
def takeOut (x : Value × Value) : List (Value × Value) → Option (List (Value × Value))
  | [] => none
  | y :: ys => bif sameV 20 x.1 y.1 && sameV 20 x.2 y.2 then some ys else match takeOut x ys with
    | some r => some (y :: r)
    | none => none
theorem takeOut_perm {x : Value × Value} : ∀ {ys r : List (Value × Value)}, takeOut x ys = some r → ys.Perm (x :: r)
  | [], r, h => by cases h
  | y :: ys, r, h => by
    unfold takeOut at h
    cases hb : (sameV 20 x.1 y.1 && sameV 20 x.2 y.2) with
    | true =>
      rw [hb] at h
      cases h
      simp only [Bool.and_eq_true] at hb
      have : x = y := Prod.ext (sameV_eq 20 _ _ hb.1) (sameV_eq 20 _ _ hb.2)
      rw [this]
    | false =>
      rw [hb] at h
      replace h : (match takeOut x ys with
        | some r => some (y :: r)
        | none => none) = some r := h
      cases hr : takeOut x ys with
      | none => rw [hr] at h; cases h
      | some r' =>
        rw [hr] at h
        cases h
        exact ((takeOut_perm hr).cons y).trans (List.Perm.swap x y r')
def permB : List (Value × Value) → List (Value × Value) → Bool
  | [], [] => true
  | x :: xs, ys => match takeOut x ys with
    | some r => permB xs r
    | none => false
  | [], _ :: _ => false
theorem permB_perm : ∀ {xs ys : List (Value × Value)}, permB xs ys = true → xs.Perm ys
  | [], [], _ => .refl _
  | [], _ :: _, h => by cases h
  | x :: xs, ys, h => by
    unfold permB at h
    cases hr : takeOut x ys with
    | none => rw [hr] at h; cases h
    | some r =>
      rw [hr] at h
      exact ((permB_perm h).cons x).trans (takeOut_perm hr).symm
theorem all2_perm {α β : Type} {R : α → β → Prop} {xs xs' : List α} (h : xs.Perm xs') : ∀ {ys : List β}, All2 R xs ys → ∃ ys', ys'.Perm ys ∧ All2 R xs' ys' := by
  induction h with
  | nil => intro ys h; exact ⟨ys, .refl _, h⟩
  | cons x _ ih =>
    intro ys h
    cases h with
    | cons hx ht =>
      obtain ⟨l, h1, h2⟩ := ih ht
      exact ⟨_ :: l, h1.cons _, .cons hx h2⟩
  | swap x y l =>
    intro ys h
    cases h with
    | cons hy ht =>
      cases ht with
      | cons hx ht => exact ⟨_ :: _ :: _, List.Perm.swap _ _ _, .cons hx (.cons hy ht)⟩
  | trans _ _ ih1 ih2 =>
    intro ys h
    obtain ⟨l, h1, h2⟩ := ih1 h
    obtain ⟨l', h3, h4⟩ := ih2 h2
    exact ⟨l', h3.trans h1, h4⟩
theorem MapRel.reorder {ι : Inj} {sh : KSh} {es es' : List (Value × Value)} {ms : Array MapEntry} {clock : Nat} (r : MapRel ι sh es ms clock) (h : es.Perm es') : MapRel ι sh es' ms clock := by
  obtain ⟨⟨L, h1, h2⟩, h3, h4, h5, h6⟩ := r
  obtain ⟨L', k1, k2⟩ := all2_perm h h2
  refine ⟨⟨L', k1.trans h1, k2⟩, fun e he => h3 e (h.symm.mem_iff.1 he), ?_, h5, h6⟩
  exact (h.pairwise_iff (fun hab => ⟨hab.2, hab.1⟩)).1 h4
end Go.Eng

namespace Go.Eng
set_option linter.unusedVariables false
open Go.RowKit

/-! ### What all choices come to -/
/-- A value, what it leads to (a block that is new), how far blocks are named. -/
abbrev Res := Value × Option AObj × Nat
def plainEs : List (Value × Value) → Bool
  | [] => true
  | x :: xs => plainV x.1 && (plainV x.2 && plainEs xs)
def sameOO : Option AObj → Option AObj → Bool
  | none, none => true
  | some (.cells w xs), some (.cells w' ys) => (w == w') && sameV 1 (.agg ⟨xs⟩) (.agg ⟨ys⟩)
  | some (.map sh _ es), some (.map sh' _ fs) => sameSh sh sh' && permB fs es
  | _, _ => false
def OEq : Option AObj → Option AObj → Prop
  | none, none => True
  | some (.cells w xs), some (.cells w' ys) => w = w' ∧ xs = ys
  | some (.map sh _ es), some (.map sh' _ fs) => sh = sh' ∧ fs.Perm es
  | _, _ => False
theorem sameOO_eq {a b : Option AObj} (h : sameOO a b = true) : OEq a b := by
  unfold sameOO at h
  split at h
  · trivial
  · simp only [Bool.and_eq_true, beq_iff_eq] at h
    have := sameV_eq 1 _ _ h.2
    exact ⟨h.1, by cases this; rfl⟩
  · simp only [Bool.and_eq_true] at h
    exact ⟨sameSh_eq h.1, permB_perm h.2⟩
  · cases h
theorem OEq.refl' : ∀ {a : Option AObj} {b : Option AObj}, OEq a b → OEq a a
  | none, _, _ => trivial
  | some (.cells _ _), _, _ => ⟨rfl, rfl⟩
  | some (.map _ _ _), _, _ => ⟨rfl, .refl _⟩
  | some (.miter ..), none, h => h.elim
  | some (.miter ..), some _, h => h.elim
  | some (.siter ..), none, h => h.elim
  | some (.siter ..), some _, h => h.elim
  | some (.loop _), none, h => h.elim
  | some (.loop _), some _, h => h.elim
  | some .mark, none, h => h.elim
  | some .mark, some _, h => h.elim

noncomputable def mx (a b : Nat) : Nat := Bool.rec (motive := fun _ => Nat) a b (Nat.ble a b)
theorem mx_le (a b : Nat) : a ≤ mx a b ∧ b ≤ mx a b := by
  unfold mx
  cases h : Nat.ble a b with
  | true => exact ⟨ble_iff.1 h, Nat.le_refl _⟩
  | false =>
    refine ⟨Nat.le_refl _, ?_⟩
    show b ≤ a
    have : ¬ a ≤ b := fun k => by rw [ble_iff.2 k] at h; cases h
    omega
/-- Of two, the first: if they are alike. -/
noncomputable def both (a b : Option Res) : Option Res := optV none (fun x => optV none (fun y => Bool.rec (motive := fun _ => Option Res) none (some (x.1, x.2.1, mx x.2.2 y.2.2)) (sameV 20 x.1 y.1 && sameOO x.2.1 y.2.1)) b) a
/-- Of all ahead of one. -/
noncomputable def gatherN (k : Nat → Option Res) (n : Nat) : Option Res :=
  Nat.rec (motive := fun _ => Option Res) none (fun m acc => Nat.rec (motive := fun _ => Option Res) (k 0) (fun _ _ => both acc (k m)) m) n
noncomputable def Er.gather (f : Value → Heap → Option Res) (r : Er) : Option Res :=
  Er.rec (motive := fun _ => Option Res) f (fun _ _ => none) (fun _ => none) (fun n _ ih => gatherN ih n) r

def Alike (x r : Res) : Prop := x.1 = r.1 ∧ OEq r.2.1 x.2.1 ∧ x.2.2 ≤ r.2.2

theorem both_some {a b : Option Res} {r : Res} (h : both a b = some r) : ∃ x y, a = some x ∧ b = some y ∧ r = (x.1, x.2.1, mx x.2.2 y.2.2) ∧ x.1 = y.1 ∧ OEq x.2.1 y.2.1 := by
  unfold both at h
  obtain ⟨x, hx, h1⟩ := optV_some h
  obtain ⟨y, hy, h2⟩ := optV_some h1
  cases hb : (sameV 20 x.1 y.1 && sameOO x.2.1 y.2.1) with
  | false => rw [hb] at h2; cases h2
  | true =>
    rw [hb] at h2
    cases h2
    simp only [Bool.and_eq_true] at hb
    exact ⟨x, y, hx, hy, rfl, sameV_eq 20 _ _ hb.1, sameOO_eq hb.2⟩

theorem gatherN_some {k : Nat → Option Res} : ∀ {n : Nat} {r : Res}, gatherN k n = some r → ∀ j, j < n → ∃ x, k j = some x ∧ x.1 = r.1 ∧ (OEq r.2.1 x.2.1 ∨ r.2.1 = x.2.1) ∧ x.2.2 ≤ r.2.2
  | 0, r, h => by cases h
  | 1, r, h => by
    intro j hj
    obtain rfl : j = 0 := by omega
    exact ⟨r, h, rfl, .inr rfl, Nat.le_refl _⟩
  | m + 2, r, h => by
    replace h : both (gatherN k (m + 1)) (k (m + 1)) = some r := h
    obtain ⟨x, y, h1, h2, rfl, h4, h5⟩ := both_some h
    intro j hj
    by_cases e : j = m + 1
    · subst e
      exact ⟨y, h2, h4.symm, .inl h5, (mx_le _ _).2⟩
    · obtain ⟨z, g1, g2, g3, g4⟩ := gatherN_some h1 j (by omega)
      exact ⟨z, g1, g2, g3, Nat.le_trans g4 ((mx_le _ _).1)⟩

theorem gather_some {A : Value → Heap → Prop} {C : List (Value × Bool) → Heap → Prop} {f : Value → Heap → Option Res} {T : Er} : ∀ {r : Res}, T.gather f = some r → T.all A C → ∃ v h x, A v h ∧ f v h = some x ∧ x.1 = r.1 ∧ (OEq r.2.1 x.2.1 ∨ r.2.1 = x.2.1) ∧ x.2.2 ≤ r.2.2 := by
  have oeq : ∀ {a b c : Option AObj}, (OEq a b ∨ a = b) → (OEq b c ∨ b = c) → (OEq a c ∨ a = c) := by
    intro a b c h1 h2
    rcases h1 with h1 | rfl
    · rcases h2 with h2 | rfl
      · left
        unfold OEq at h1
        split at h1
        · exact h2
        · obtain ⟨rfl, rfl⟩ := h1; exact h2
        · obtain ⟨rfl, p⟩ := h1
          unfold OEq at h2 ⊢
          split at h2
          · rename_i e; cases e
          · rename_i e; cases e
          · rename_i e
            cases e
            exact ⟨h2.1, h2.2.trans p⟩
          · exact h2.elim
        · exact h1.elim
      · exact .inl h1
    · exact h2
  induction T with
  | ret v h => intro r hg ha; exact ⟨v, h, r, ha, hg, rfl, .inr rfl, Nat.le_refl _⟩
  | panic c h => intro r hg; cases hg
  | fail w => intro r hg; cases hg
  | any n k ih =>
    intro r hg ha
    obtain ⟨j, hj, ha⟩ := ha
    obtain ⟨x, h1, h2, h3, h4⟩ := gatherN_some (k := fun i => (k i).gather f) hg j hj
    obtain ⟨v, h, y, g1, g2, g3, g4, g5⟩ := ih j h1 ha
    exact ⟨v, h, y, g1, g2, g3.trans h2, oeq h3 g4, Nat.le_trans g5 h4⟩

/-- What an end comes to: z is how many cells an element has. -/
noncomputable def leafRes (H : Heap) (z : Nat) (v : Value) (h : Heap) : Option Res :=
  bif keepT H.t h.t then match v with
    | .slice (some a) n c => bif Nat.beq n 0 && Nat.beq c 0 then some (.slice (some ⟨0, 0, some 1⟩) 0 0, none, h.next) else
        bif Nat.ble H.next a.block && Nat.blt 0 (Nat.mul n z) then match h.get a.block with
          | some (.cells wr xs) => match takeN (Nat.mul n z) (dropN a.off xs) with
            | some cs => bif plainL cs then some (.slice (some ⟨0, 0, a.spot⟩) n c, some (.cells wr cs), h.next) else none
            | none => none
          | _ => none
        else none
    | .map (some r) => bif Nat.ble H.next r then match h.get r with
        | some (.map sh ver es) => bif plainEs es then some (.map (some 0), some (.map sh 0 es), h.next) else none
        | _ => none
        else none
    | v => bif plainV v then some (v, none, h.next) else none
  else none
noncomputable def finalR (H : Heap) (r : Res) : Value × Heap := match r.2.1 with
  | none => (r.1, ⟨r.2.2, H.t⟩)
  | some o => ((match r.1 with
      | .slice (some a) n c => .slice (some ⟨r.2.2, a.off, a.spot⟩) n c
      | .map (some _) => .map (some r.2.2)
      | v => v), Heap.push ⟨r.2.2, H.t⟩ o)
/-- The summary. -/
noncomputable def pureSum (E : Env) (d f z : Nat) : Summ := fun args H =>
  optV none (fun r => some (finalR H r)) ((enter E (ctx E d) f args (sealH H)).gather (leafRes H z))

section
variable {P : Program} {B : Nat}

theorem AObj.kept_writable {o : AObj} (h : kept o) : o.writable = true := by cases o <;> first | rfl | exact h.elim
theorem sealed {H : Heap} {b : Nat} {o : AObj} (h : (sealH H).get b = some o) : ∃ o0, H.get b = some o0 ∧ ((∃ wr xs, o0 = .cells wr xs ∧ o = .cells false xs) ∨ (o = o0 ∧ kept o0)) := by
  rw [sealH_get] at h
  cases e : H.get b with
  | none => rw [e] at h; cases h
  | some o0 =>
    rw [e] at h
    refine ⟨o0, rfl, ?_⟩
    rcases sealO_some h with h | ⟨rfl, ⟨sh, ver, es, rfl⟩ | ⟨m, ver, left, last, rfl⟩⟩
    · exact .inl h
    · exact .inr ⟨rfl, trivial⟩
    · exact .inr ⟨rfl, trivial⟩

theorem sealed_sim {ι : Inj} {H : Heap} {w : World} (s : Sim P B ι H w) : Sim P B ι (sealH H) w := by
  refine ⟨fun b p o hp ho => ?_, fun b b' p p' o o' hne h1 h2 g1 g2 => ?_, s.bound, s.lt, fun b hb => ?_, s.base⟩
  · obtain ⟨o0, g0, h | ⟨rfl, hk⟩⟩ := sealed ho
    · obtain ⟨wr, xs, rfl, rfl⟩ := h
      obtain ⟨k1, k2, k3, k4⟩ := s.obj b p _ hp g0
      exact ⟨k1, k2, k3, fun h => by cases h⟩
    · refine (s.obj b p _ hp g0).stay ι.le_refl (fun _ _ _ _ _ => ⟨rfl, rfl⟩) (fun _ _ _ => .refl _ _) (fun _ => rfl) ?_
      intro m ver left last pm e hm sh ver' es hg
      obtain ⟨o1, g1, h | ⟨rfl, hk1⟩⟩ := sealed hg
      · obtain ⟨_, _, _, h⟩ := h; cases h
      · exact .inr ⟨g1, rfl⟩
  · obtain ⟨o0, k0, h⟩ := sealed g1
    obtain ⟨o0', k0', h'⟩ := sealed g2
    intro heq
    obtain ⟨wr, xs, wr', xs', rfl, rfl, hd⟩ := s.apart b b' p p' _ _ hne h1 h2 k0 k0' heq
    rcases h with ⟨_, _, h, rfl⟩ | ⟨_, hk⟩
    · rcases h' with ⟨_, _, h', rfl⟩ | ⟨_, hk⟩
      · exact ⟨false, _, false, _, rfl, rfl, .inl ⟨rfl, rfl⟩⟩
      · exact hk.elim
    · exact hk.elim
  · rw [sealH_get, s.blank b hb]; rfl

/-- What was there stands as it stood. -/
theorem sealed_back {ι ι1 : Inj} {H h1 : Heap} {w w1 : World} (s : Sim P B ι H w) (g : Adv ι (sealH H) w ι1 h1 w1) (s1 : Sim P B ι1 h1 w1) (hk : keepT H.t h1.t = true) {N : Nat} (hN : h1.next ≤ N) :
    Sim P B ι1 ⟨N, H.t⟩ w1 ∧ Adv ι H w ι1 ⟨N, H.t⟩ w1 ∧ ∀ b p o, ι1 b = some p → H.get b = some o → ι b = some p := by
  have hnx : H.next ≤ h1.next := g.next
  have old : ∀ b p o, ι1 b = some p → H.get b = some o → ι b = some p := by
    intro b p o hp ho
    rcases g.img b p hp with h | ⟨_, h, _⟩
    · exact h
    · rw [s.blank b h] at ho; cases ho
  have same : ∀ b p o, ι b = some p → H.get b = some o → ¬ kept o → w1.heap[p.b]? = w.heap[p.b]? := by
    intro b p o hp ho hn
    refine g.keep p.b (s.lt b p hp) fun b0 p0 o0 hp0 ho0 hw heq => ?_
    obtain ⟨o00, k0, h | ⟨rfl, hk0⟩⟩ := sealed ho0
    · obtain ⟨_, _, _, rfl⟩ := h; cases hw
    · have hne : b0 ≠ b := by rintro rfl; rw [k0] at ho; cases ho; exact hn hk0
      obtain ⟨_, _, _, _, rfl, _, _⟩ := s.apart b0 b p0 p _ _ hne hp0 hp k0 ho heq
      exact hk0.elim
  refine ⟨⟨fun b p o hp ho => ?_, fun b b' p p' o o' hne h1 h2 k1 k2 => s.apart b b' p p' o o' hne (old _ _ _ h1 k1) (old _ _ _ h2 k2) k1 k2, fun b p hp => Nat.lt_of_lt_of_le (s1.bound b p hp) hN, s1.lt, fun b hb => s.blank b (Nat.le_trans (Nat.le_trans hnx hN) hb), s1.base⟩, ⟨g.le, g.os, g.tape, g.output, g.size, Nat.le_trans hnx hN, fun b p hp => ?_, fun k hkk hno => g.keep k hkk fun b p o hp ho hw => ?_, fun _ _ _ => rfl, fun b o' _ h => ⟨o', h, id⟩⟩, old⟩
  · have hp0 := old b p o hp ho
    by_cases hko : kept o
    · have h1o : h1.get b = some o := keepT_get H.t h1.t hk b o ho hko
      refine (s1.obj b p o hp h1o).stay ι1.le_refl (fun _ _ _ _ _ => ⟨rfl, rfl⟩) (fun _ _ _ => .refl _ _) (fun _ => rfl) ?_
      intro m ver left last pm e hm sh ver' es hg
      exact .inr ⟨keepT_get H.t h1.t hk m _ hg trivial, rfl⟩
    · have he := same b p o hp0 ho hko
      refine (s.obj b p o hp0 ho).stay g.le (fun _ _ _ i _ => cells_other he _) (fun _ _ _ => .of_eq he) (fun _ => he) ?_
      rintro m ver left last pm rfl
      exact absurd trivial hko
  · rcases g.img b p hp with h | ⟨h1, h2, h3 | ⟨b0, p0, o0, k1, k2, k3, k4⟩⟩
    · exact .inl h
    · exact .inr ⟨h1, h2, .inl h3⟩
    · obtain ⟨o00, k0, h | ⟨rfl, hk0⟩⟩ := sealed k2
      · obtain ⟨_, _, _, rfl⟩ := h; cases k3
      · exact .inr ⟨h1, h2, .inr ⟨b0, p0, o0, k1, k0, k3, k4⟩⟩
  · obtain ⟨o00, k0, h | ⟨rfl, hk0⟩⟩ := sealed ho
    · obtain ⟨_, _, _, rfl⟩ := h; cases hw
    · exact hno b p o hp k0 hw

/-- One block more, beside others that may lie in the same one. -/
theorem Sim.more {ι : Inj} {H : Heap} {w : World} (s : Sim P B ι H w) {o : AObj} {p : Place} (hp : p.b < w.heap.size) (hap : ∀ b p' o', ι b = some p' → H.get b = some o' → Apart o' o p' p ∧ Apart o o' p p')
    (ho : ObjRel P B (ι.with H.next p) (H.push o) w p o) : Sim P B (ι.with H.next p) (H.push o) w := by
  have hn := s.next_none
  have hle := Inj.with_le hn p
  have blw : ∀ c q, ι c = some q → c ≠ H.next := fun c q h e => by rw [e, hn] at h; cases h
  refine ⟨fun c q o' hc hg => ?_, fun c c' q q' o1 o2 hne h1 h2 g1 g2 => ?_, fun c q hc => ?_, fun c q hc => ?_, fun c hc => ?_, s.base⟩
  · rcases Inj.with_cases hc with ⟨rfl, rfl⟩ | ⟨hne, hc'⟩
    · rw [Heap.get_push, if_pos rfl] at hg; cases hg; exact ho
    · rw [Heap.get_push, if_neg hne] at hg
      refine (s.obj c q o' hc' hg).stay hle (fun _ _ _ _ _ => ⟨rfl, rfl⟩) (fun _ _ _ => .refl _ _) (fun _ => rfl) ?_
      intro m ver left last pm e hm sh ver' es hg'
      right
      refine ⟨?_, rfl⟩
      rw [Heap.get_push, if_neg (blw _ _ hm)] at hg'
      exact hg'
  · rcases Inj.with_cases h1 with ⟨rfl, rfl⟩ | ⟨hn1, h1'⟩
    · rcases Inj.with_cases h2 with ⟨rfl, rfl⟩ | ⟨hn2, h2'⟩
      · exact absurd rfl hne
      · rw [Heap.get_push, if_pos rfl] at g1
        rw [Heap.get_push, if_neg hn2] at g2
        cases g1
        exact (hap _ _ _ h2' g2).2
    · rcases Inj.with_cases h2 with ⟨rfl, rfl⟩ | ⟨hn2, h2'⟩
      · rw [Heap.get_push, if_pos rfl] at g2
        rw [Heap.get_push, if_neg hn1] at g1
        cases g2
        exact (hap _ _ _ h1' g1).1
      · rw [Heap.get_push, if_neg hn1] at g1
        rw [Heap.get_push, if_neg hn2] at g2
        exact s.apart c c' q q' o1 o2 hne h1' h2' g1 g2
  · rcases Inj.with_cases hc with ⟨rfl, rfl⟩ | ⟨hne, hc'⟩
    · exact Nat.lt_succ_self _
    · exact Nat.lt_succ_of_lt (s.bound c q hc')
  · rcases Inj.with_cases hc with ⟨rfl, rfl⟩ | ⟨hne, hc'⟩
    · exact hp
    · exact s.lt c q hc'
  · replace hc : H.next + 1 ≤ c := hc
    rw [Heap.get_push, if_neg (by omega)]
    exact s.blank c (by omega)
end
end Go.Eng

namespace Go.Eng
set_option linter.unusedVariables false
open Go.RowKit

section
variable {P : Program} {B : Nat}

theorem Adv.more {ι ι1 : Inj} {H : Heap} {w w1 : World} (s : Sim P B ι H w) {N a : Nat} {o : AObj} {p p' : Place} (g : Adv ι H w ι1 ⟨N, H.t⟩ w1) (hn : ι1 N = none) (ha : H.next ≤ a) (hp : ι1 a = some p) (hb : p'.b = p.b) : Adv ι H w (ι1.with N p') (Heap.push ⟨N, H.t⟩ o) w1 := by
  have hN : H.next ≤ N := g.next
  refine ⟨Inj.le_trans g.le (Inj.with_le hn p'), g.os, g.tape, g.output, g.size, Nat.le_succ_of_le hN, fun b q hq => ?_, g.keep, fun b hb hi => ?_, fun b o' hb h => ?_⟩
  · rcases Inj.with_cases hq with ⟨rfl, rfl⟩ | ⟨_, h⟩
    · have hi : ι b = none := by
        cases e : ι b with
        | none => rfl
        | some q => have := s.bound b q e; omega
      refine .inr ⟨hi, hN, ?_⟩
      rw [hb]
      rcases g.img a p hp with h | ⟨_, _, h⟩
      · have := s.bound a p h; omega
      · exact h
    · exact g.img b q h
  · rw [Heap.get_push, if_neg (show b ≠ N by omega)]; rfl
  · rw [Heap.get_push, if_neg (show b ≠ N by omega)] at h; exact ⟨o', h, id⟩

/-- A new block of the run lies apart from all that was there. -/
theorem sealed_apart {ι ι1 : Inj} {H h1 : Heap} {w w1 : World} (s : Sim P B ι H w) (g : Adv ι (sealH H) w ι1 h1 w1) (s1 : Sim P B ι1 h1 w1) (hk : keepT H.t h1.t = true) {a : Nat} {p : Place} {oa : AObj} (ha : H.next ≤ a) (hp : ι1 a = some p) (hoa : h1.get a = some oa) (hca : (∃ wr xs, oa = .cells wr xs) ∨ ∃ sh ver es, oa = .map sh ver es)
    (old : ∀ b p o, ι1 b = some p → H.get b = some o → ι b = some p) : ∀ b q o, ι1 b = some q → H.get b = some o → q.b ≠ p.b := by
  intro b q o hq ho heq
  have hq0 := old b q o hq ho
  rcases g.img a p hp with h | ⟨_, _, h | ⟨b0, p0, o0, k1, k2, k3, k4⟩⟩
  · have := s.bound a p h; omega
  · have := s.lt b q hq0; omega
  · obtain ⟨o00, k0, h | ⟨rfl, hk0⟩⟩ := sealed k2
    · obtain ⟨_, _, _, rfl⟩ := h; cases k3
    · have k5 := keepT_get H.t h1.t hk b0 _ k0 hk0
      have hne : b0 ≠ a := by have := s.bound b0 p0 k1; omega
      obtain ⟨_, _, _, _, rfl, _, _⟩ := s1.apart b0 a p0 p _ _ hne (g.le _ _ k1) hp k5 hoa k4
      exact hk0.elim

theorem pure_sound (hmix : P.follows .mixedOrders = true) {E : Env} (hE : EnvOK P B E) (d f z : Nat) {ι : Inj} {H : Heap} {w : World} {args args' : List Value} {v : Value} {H' : Heap} (s : Sim P B ι H w) (hr : LRel ι args args') (h : pureSum E d f z args H = some (v, H')) :
    CallOK P B ι H w (callFunc f args'.toArray) (.ret v H') := by
  unfold pureSum at h
  obtain ⟨r, hg, h2⟩ := optV_some h
  have hd : ∀ c, CtxOK P B c → DrawOK P B c := fun c C => draw_ok hmix C
  have C := ctx_ok hE hd d
  have hcall := enter_sound hE C (hd _ C) (f := f) (sealed_sim s) hr
  intro fr cs0 m0 hm D
  obtain ⟨v1, h1, x, ⟨ι1, w1, v', g1, g2, g3, g4⟩, hx, e1, e2, e3⟩ := gather_some hg (hcall fr cs0 m0 hm D)
  show ∃ ι' w' v', _
  unfold leafRes at hx
  cases hk : keepT H.t h1.t with
  | false => rw [hk] at hx; cases hx
  | true =>
  rw [hk] at hx
  dsimp only [cond] at hx
  obtain ⟨r1, r2, N⟩ := r
  obtain ⟨x1, x2, n1⟩ := x
  dsimp only at e1 e2 e3
  subst e1
  have none_of : x2 = none → r2 = none := by
    rintro rfl
    rcases e2 with e2 | e2
    · cases r2 with
      | none => rfl
      | some o => cases o <;> exact e2.elim
    · exact e2
  split at hx
  · rename_i a n c
    cases h0 : (Nat.beq n 0 && Nat.beq c 0) with
    | true =>
      rw [h0] at hx
      cases hx
      obtain ⟨sM, aM, old⟩ := sealed_back s g4 g3 hk e3
      obtain rfl := none_of rfl
      cases h2
      simp only [Bool.and_eq_true, beq_iff] at h0
      obtain ⟨rfl, rfl⟩ := h0
      cases g2 with
      | sempty => exact ⟨ι1, w1, _, g1, .sempty (fun h => by cases h), sM, aM⟩
      | slice => exact ⟨ι1, w1, _, g1, .sempty (fun h => by cases h), sM, aM⟩
    | false =>
      rw [h0] at hx
      dsimp only [cond] at hx
      cases h3 : (Nat.ble H.next a.block && Nat.blt 0 (Nat.mul n z)) with
      | false => rw [h3] at hx; cases hx
      | true =>
        rw [h3] at hx
        dsimp only [cond] at hx
        simp only [Bool.and_eq_true, ble_iff, blt_iff] at h3
        obtain ⟨hab, hnz⟩ := h3
        split at hx
        · rename_i wr xs hget
          split at hx
          · rename_i cs hcs
            cases hpl : plainL cs with
            | false => rw [hpl] at hx; cases hx
            | true =>
              rw [hpl] at hx
              cases hx
              obtain ⟨sM, aM, old⟩ := sealed_back s g4 g3 hk e3
              have hr2 : r2 = some (.cells wr cs) := by
                rcases e2 with e2 | e2
                · cases r2 with
                  | none => exact e2.elim
                  | some o =>
                    cases o with
                    | cells w' ys => obtain ⟨rfl, rfl⟩ := e2; rfl
                    | _ => exact e2.elim
                · exact e2
              subst hr2
              cases h2
              cases g2 with
              | sempty => cases h0
              | @slice _ p _ _ c' hp he hc hn hl =>
                have hN : ι1 N = none := sM.next_none
                have hap := sealed_apart s g4 g3 hk hab hp hget (.inl ⟨_, _, rfl⟩) old
                obtain ⟨o1, o2, o3, o4⟩ := g3.obj _ _ _ hp hget
                obtain ⟨l1, l2⟩ := takeN_get hcs
                have hlen : a.off + n * z ≤ xs.length := by
                  have hi : n * z - 1 < cs.length := by rw [l1]; show n * z - 1 < n * z; exact Nat.sub_lt hnz Nat.zero_lt_one
                  have := l2 (n * z - 1) (Nat.sub_lt hnz Nat.zero_lt_one)
                  rw [List.getElem?_eq_getElem hi] at this
                  have := (List.getElem?_eq_some_iff.1 this.symm).1
                  replace hnz : 0 < n * z := hnz
                  omega
                have hlL : a.off ≤ p.L := by omega
                refine ⟨ι1.with N ⟨p.b, p.d + a.off, p.L - a.off⟩, w1, _, g1, ?_, sM.more (p := ⟨p.b, p.d + a.off, p.L - a.off⟩) (show p.b < w1.heap.size from g3.lt _ _ hp) ?_ ?_, Adv.more s aM hN hab hp rfl⟩
                · exact .slice (a := ⟨N, 0, a.spot⟩) (p := ⟨p.b, p.d + a.off, p.L - a.off⟩) (Inj.with_same ι1 N _) he hc hn (fun q hq => by have := hl q hq; show 0 + c' * q ≤ p.L - a.off; omega)
                · intro b q o hq ho
                  exact ⟨fun heq => absurd heq (hap b q o hq ho), fun heq => absurd heq.symm (hap b q o hq ho)⟩
                · refine ⟨?_, fun i hi => ?_, fun i x hxi => ?_, fun e => ⟨(o4 e).1, fun i hi => ?_, fun hL => ?_⟩⟩
                  · rw [l1]; show n * z ≤ p.L - a.off; omega
                  · have := o2 (a.off + i) (by replace hi : i < p.L - a.off := hi; omega)
                    rw [← Nat.add_assoc] at this; exact this
                  · have hi : i < n * z := by have := (List.getElem?_eq_some_iff.1 hxi).1; rw [l1] at this; exact this
                    rw [l2 i hi] at hxi
                    obtain ⟨q, k1, k2, k3⟩ := o3 _ _ hxi
                    rw [← Nat.add_assoc] at k1
                    exact ⟨q, k1, k2.mono (Inj.with_le hN _), k3⟩
                  · have := (o4 e).2.1 (a.off + i) (by replace hi : i < p.L - a.off := hi; omega)
                    rw [← Nat.add_assoc] at this; exact this
                  · have := (o4 e).2.2 (by replace hL : 0 < p.L - a.off := hL; omega)
                    show Behind w1 p.b (p.d + a.off + (p.L - a.off))
                    rw [show p.d + a.off + (p.L - a.off) = p.d + p.L by omega]
                    exact this
          · cases hx
        · cases hx
  · rename_i q
    cases h3 : Nat.ble H.next q with
    | false => rw [h3] at hx; cases hx
    | true =>
      rw [h3] at hx
      dsimp only [cond] at hx
      rw [ble_iff] at h3
      split at hx
      · rename_i sh ver es hget
        cases hpl : plainEs es with
        | false => rw [hpl] at hx; cases hx
        | true =>
          rw [hpl] at hx
          cases hx
          obtain ⟨sM, aM, old⟩ := sealed_back s g4 g3 hk e3
          have hr2 : ∃ ver0 es0, r2 = some (.map sh ver0 es0) ∧ es.Perm es0 := by
            rcases e2 with e2 | e2
            · cases r2 with
              | none => exact e2.elim
              | some o =>
                cases o with
                | map sh0 ver0 es0 => obtain ⟨rfl, hp⟩ := e2; exact ⟨_, _, rfl, hp⟩
                | _ => exact e2.elim
            · exact ⟨_, _, e2, .refl _⟩
          obtain ⟨ver0, es0, rfl, hperm⟩ := hr2
          cases h2
          cases g2 with
          | @map _ p hp =>
            have hN : ι1 N = none := sM.next_none
            have hap := sealed_apart s g4 g3 hk h3 hp hget (.inr ⟨_, _, _, rfl⟩) old
            obtain ⟨k1, k2, ms, clock, k3, k4⟩ := g3.obj _ _ _ hp hget
            have hle := Inj.with_le hN p
            refine ⟨ι1.with N p, w1, _, g1, .map (Inj.with_same ι1 N p), sM.more (p := p) (g3.lt _ _ hp) ?_ ?_, Adv.more s aM hN h3 hp rfl⟩
            · intro b q o hq ho
              exact ⟨fun heq => absurd heq (hap b q o hq ho), fun heq => absurd heq.symm (hap b q o hq ho)⟩
            · obtain ⟨⟨L, j1, j2⟩, j3, j4, j5, j6⟩ := k4.reorder hperm
              exact ⟨k1, k2, ms, clock, k3, ⟨L, j1, j2.mono fun x y hr => ⟨hr.1.mono hle, hr.2.mono hle⟩⟩, j3, j4, j5, j6⟩
      · cases hx
  · cases hpl : plainV v1 with
    | false => rw [hpl] at hx; cases hx
    | true =>
      rw [hpl] at hx
      cases hx
      obtain ⟨sM, aM, old⟩ := sealed_back s g4 g3 hk e3
      obtain rfl := none_of rfl
      cases h2
      have := plainV_same hpl g2
      subst this
      exact ⟨ι1, w1, _, g1, plainV_rel hpl, sM, aM⟩
end
end Go.Eng
