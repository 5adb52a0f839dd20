/-
  Regions that draw their order go as the abstract machine goes through them in the order of the text; a closed call that ends with true there ends so in the model. Conditions: those that each lemma states.
-/
import Derived.Test.YtknhijalfgjfhaaGreatD
import Derived.Orders
import Derived.Below
import Derived.OpenShut
import Derived.Laws.Externs
import Derived.Lib.Bytealg
set_option linter.unusedVariables false
set_option linter.unusedSimpArgs false
set_option linter.unusedSectionVars false
open Nat renaming beq -> XhD, ble -> XhM, zero_add -> XhT, le_refl -> XhE, blt -> XhK, lt_of_lt_of_le -> Xia, le_trans -> Xh4, lt_succ_self -> Xh0
open List renaming mem_append_left -> XiE, mem_append_right -> XiC, mem_filter -> XiW, mem_range -> Xjd, all_eq_true -> Xjb, getElem?_map -> Xic, filter_cons_of_pos -> Xji, length_cons -> Xh8, filter_cons_of_neg -> Xjx, mem_of_getElem? -> Xh5
open Array renaming foldl_toList -> Xju, getD_eq_getD_getElem? -> Xiy, toList_inj -> Xiq, getElem?_setIfInBounds_ne -> XjF
open Bool renaming and_eq_true -> XhN, rec -> Xh3
noncomputable section
namespace Go.Eng
variable {i j n : Nat} {κ : Inj} {co : COp} {ls : List Nat}
section
variable {t t' : Tm}
theorem Vh {xs : List Opd} (h : ∀ x ∈ xs, x.val t = x.val t') : J1 t (opds xs) = J1 t' (opds xs) := by
 grind [vals_eq, opds_eq, List.map_map, List.map_congr_left]
theorem fill_local {ps : List Part} (h : ∀ p ∈ ps, p.x.val t = p.x.val t') : ∀ cs, Yz t (J6 ps) cs = Yz t' (J6 ps) cs := by
 induction ps with
 | nil => intro cs; rfl
 | cons p ps ih =>
  intro cs
  show Yr none (fun ys => bif XhD (Wy ys) p.size && XhM (Nat.add p.off p.size) (Wy cs) then Yz t (J6 ps) (XZ ys p.off cs) else none) (cellsOf (p.x.val t)) =
   Yr none (fun ys => bif XhD (Wy ys) p.size && XhM (Nat.add p.off p.size) (Wy cs) then Yz t' (J6 ps) (XZ ys p.off cs) else none) (cellsOf (p.x.val t'))
  simp_all
theorem WE {o : Option Opd} (h : ∀ x ∈ oList o, x.val t = x.val t') (d : Nat) : Y5 t d (XcV o) = Y5 t' d (XcV o) := by
 cases o with
 | none => rfl
 | some x => show Wf (x.val t) = Wf (x.val t'); rw [h x (by simp [oList])]
theorem look_local {c : COp} {L : Zj} (hl : YN c = some L) (h : ∀ x ∈ c.opds, x.val t = x.val t') (hp : Heap) : L t hp = L t' hp := by
 cases c
 case build z ps =>
  cases hl
  show Yr none _ _ = Yr none _ _
  rw [fill_local fun p hp => h p.x (List.mem_map.2 ⟨p, hp, rfl⟩)]
 case mkFunc fn a b =>
  cases hl
  show some _ = some _
  rw [Vh fun x hx => h x (XiE _ hx), Vh fun x hx => h x (XiC _ hx)]
 case sliceStr x lo hi =>
  cases hl
  simp only [lkSliceStr, h x (by simp [COp.opds]), WE (o := lo) fun y hy => h y (by simp [COp.opds, hy]), WE (o := hi) fun y hy => h y (by simp [COp.opds, hy])]
 case sliceSl n x lo hi mx =>
  cases hl
  simp only [XC, h x (by simp [COp.opds]), WE (o := lo) fun y hy => h y (by simp [COp.opds, hy]), WE (o := hi) fun y hy => h y (by simp [COp.opds, hy]), WE (o := mx) fun y hy => h y (by simp [COp.opds, hy])]
 case sliceArr n e x lo hi mx =>
  cases hl
  simp only [Za, h x (by simp [COp.opds]), WE (o := lo) fun y hy => h y (by simp [COp.opds, hy]), WE (o := hi) fun y hy => h y (by simp [COp.opds, hy]), WE (o := mx) fun y hy => h y (by simp [COp.opds, hy])]
 case max x xs =>
  cases hl
  show foldV _ _ _ = foldV _ _ _
  rw [h x (by simp [COp.opds]), Vh fun y hy => h y (by simp [COp.opds, hy])]
 case min x xs =>
  cases hl
  show foldV _ _ _ = foldV _ _ _
  rw [h x (by simp [COp.opds]), Vh fun y hy => h y (by simp [COp.opds, hy])]
 case field off size x =>
  have h1 := h x (by simp [COp.opds])
  cases size <;> cases hl <;> simp only [lkField1, lkFieldN, h1]
 case ixVal n e ag x y =>
  have h1 := h x (by simp [COp.opds])
  have h2 := h y (by simp [COp.opds])
  cases ag <;> cases hl <;> simp only [XcU, lkIxValN, h1, h2]
 case len k x =>
  have h1 := h x (by simp [COp.opds])
  cases k <;> cases hl <;> simp only [lkLen, h1]
 all_goals first
  | (cases hl; done)
  | (rename_i x
     have h1 := h x (by simp [COp.opds])
     cases hl
     first
      | (simp only [Jg, XcC, XdB, Uh, Yn, lkStr, Z5, Xep, lkToArr, Vd, lkEntry, Xeq, lkAssertI, Xaa, lkCap, h1]; done)
      | rfl)
  | (rename_i x y
     have h1 := h x (by simp [COp.opds])
     have h2 := h y (by simp [COp.opds])
     cases hl
     simp only [YE, XfZ, lkIxSl, YG, lkIxStr, W1, h1, h2]
     done)
  | (rename_i x y z
     have h1 := h x (by simp [COp.opds])
     have h2 := h y (by simp [COp.opds])
     have h3 := h z (by simp [COp.opds])
     cases hl
     simp only [XfY, h1, h2, h3]
     done)
  | (cases hl; rfl)
theorem turn_local {c : COp} {T : Ui} (hl : tnOf c = some T) (h : ∀ x ∈ c.opds, x.val t = x.val t') (hp : Heap) : T t hp = T t' hp := by
 cases c
 case buildSlice z ps n =>
  cases hl
  simp only [Xo]
  rw [fill_local fun p hp => h p.x (List.mem_map.2 ⟨p, hp, rfl⟩)]
 all_goals first
  | (cases hl; done)
  | (rename_i x
     have h1 := h x (by simp [COp.opds])
     cases hl
     first
      | (simp only [Yv, JN, tnStamp, VQ, tnRangeStr, Xer, XdD, h1]; done)
      | rfl)
  | (rename_i x y
     have h1 := h x (by simp [COp.opds])
     have h2 := h y (by simp [COp.opds])
     cases hl
     simp only [XcD, Xab, Xz, Vs, Uz, XaO, h1, h2]
     done)
  | (rename_i x y z
     have h1 := h x (by simp [COp.opds])
     have h2 := h y (by simp [COp.opds])
     have h3 := h z (by simp [COp.opds])
     cases hl
     simp only [Wz, h1, h2, h3]
     done)
  | (cases hl; rfl)
theorem look_plain {c : COp} {L : Zj} (hl : YN c = some L) (hm : Xf3 c = false) (t : Tm) (h h' : Heap) : L t h = L t h' := by
 cases c <;> first
  | (cases hl; done)
  | (cases hm; done)
  | (cases hl; rfl)
  | (rename_i a b; cases b <;> cases hl <;> rfl)
  | (rename_i a b c; cases b <;> cases hl <;> rfl)
  | (rename_i a b c d e; cases c <;> cases hl <;> rfl)
theorem look_next {c : COp} {L : Zj} (hl : YN c = some L) (t : Tm) (h : Heap) (n : Nat) : L t ⟨n, h.t⟩ = L t h := by
 cases c <;> first
  | (cases hl; done)
  | (cases hl; rfl)
  | (rename_i a b; cases a <;> cases hl <;> rfl)
  | (rename_i a b c; cases b <;> cases hl <;> rfl)
  | (rename_i a b c d e; cases c <;> cases hl <;> rfl)
end
def ahead (acc : Array Nat) (s : Nat) (e : Edge) : Nat := if Region.binds .any e then s ||| 2 ^ e.on ||| acc.getD e.on 0 else s
theorem ahead_bits (acc : Array Nat) (j : Nat) : ∀ (l : List Edge) (s : Nat), (l.foldl (ahead acc) s).testBit j = true -> s.testBit j = true \/ ∃ e ∈ l, Region.binds .any e = true /\ (e.on = j \/ (acc.getD e.on 0).testBit j = true)
 | [], s, h => .inl h
 | e :: l, s, h => by
  rw [List.foldl_cons] at h
  rcases ahead_bits acc j l _ h with h1 | ⟨e', h1, h2, h3⟩
  ·unfold ahead at h1
   grind
  ·exact .inr ⟨e', by simp [h1], h2, h3⟩
def XgI (acc : Array Nat) (o : Oper) : Array Nat := acc.push (o.after.toList.foldl (ahead acc) 0)
theorem before_eq (ops : Array Oper) : Region.before ops = ops.toList.foldl XgI #[] := by
 unfold Region.before
 rw [<- Xju]
 congr 1
 funext acc o
 unfold XgI
 rw [<- Xju]
 rfl
theorem stepB_ok (j : Nat) : ∀ (l : List Oper) (acc : Array Nat), (∀ i, i < acc.size -> (l.foldl XgI acc).getD i 0 = acc.getD i 0) /\
  ∀ (k : Nat) (o : Oper), l[k]? = some o -> ((l.foldl XgI acc).getD (acc.size + k) 0).testBit j = true -> ∃ e ∈ o.after.toList, Region.binds .any e = true /\ (e.on = j \/ ((l.foldl XgI acc).getD e.on 0).testBit j = true)
 | [], acc => ⟨fun _ _ => rfl, fun k o h => by simp at h⟩
 | o :: l, acc => by
  obtain ⟨h1, h2⟩ := stepB_ok j l (XgI acc o)
  have hs : (XgI acc o).size = acc.size + 1 := by simp [XgI]
  have old : ∀ i, i < acc.size -> ((o :: l).foldl XgI acc).getD i 0 = acc.getD i 0 := by
   intro i hi
   rw [List.foldl_cons, h1 i (by omega)]
   simp [XgI, Xiy, Array.getElem?_push_lt hi, hi]
  refine ⟨old, fun k o' hk hb => ?_⟩
  cases k with
  | zero =>
   simp at hk
   subst hk
   rw [List.foldl_cons, Nat.add_zero, h1 acc.size (by omega)] at hb
   have : (XgI acc o).getD acc.size 0 = o.after.toList.foldl (ahead acc) 0 := by simp [XgI, Xiy]
   rw [this] at hb
   rcases ahead_bits acc j _ _ hb with hb | ⟨e, e1, e2, e3⟩
   ·simp at hb
   grind
  | succ k =>
   grind
theorem before_spec {ops : Array Oper} {o : Oper} (ho : ops[i]? = some o) (h : ((Region.before ops).getD i 0).testBit j = true) :
  ∃ e ∈ o.after.toList, Region.binds .any e = true /\ (e.on = j \/ ((Region.before ops).getD e.on 0).testBit j = true) := by
 rw [before_eq] at h ⊢
 obtain ⟨_, h2⟩ := stepB_ok j ops.toList #[]
 have := h2 i o (by simpa using ho) (by simpa using h)
 simpa using this
def Closed (ops : Array Oper) (S : Nat -> Prop) : Prop := ∀ i j, S i -> ((Region.before ops).getD i 0).testBit j = true -> S j
theorem closed_step {ops : Array Oper} {S : Nat -> Prop} (hc : Closed ops S) {o : Oper} (ho : ops[i]? = some o) (hr : ∀ e ∈ o.after.toList, Region.binds .any e = true -> S e.on) :
  (∀ j, ((Region.before ops).getD i 0).testBit j = true -> S j) /\ Closed ops (fun k => S k \/ k = i) := by
 have h1 : ∀ j, ((Region.before ops).getD i 0).testBit j = true -> S j := by
  intro j hj
  obtain ⟨e, e1, e2, e3⟩ := before_spec ho hj
  rcases e3 with rfl | e3
  ·exact hr e e1 e2
  ·exact hc _ _ (hr e e1 e2) e3
 refine ⟨h1, fun k j hk hj => ?_⟩
 rcases hk with hk | rfl
 ·exact .inl (hc k j hk hj)
 ·exact .inl (h1 j hj)
abbrev DLog := List (Nat × J4)
inductive XeA where
 | dead | off | look | turn | panicked
 deriving DecidableEq
structure DS where
 t : Tm
 x : Aux
 h : Heap
 d : Dead
 g : DLog
def Un (co : W0) (t : Tm) : Prop := match co.guard with
 | none => True
 | some (s, b) => XaQ s b t = true
inductive StepT (c : Ctx) (co : W0) : DS -> XeA -> Value -> DS -> Prop where
 | dead {t x h d g} (ha : ZV co.pre d = true) : StepT c co ⟨t, x, h, d, g⟩ .dead undef ⟨t, x, h, d, g⟩
 | off {t x h d g s b} (ha : ZV co.pre d = false) (hg : co.guard = some (s, b)) (hw : XaQ s b t = false) : StepT c co ⟨t, x, h, d, g⟩ .off undef ⟨dPut co.dst undef t, x, h, d, g⟩
 | look {t x h d g l v} (ha : ZV co.pre d = false) (hw : Un co t) (hl : YN co.op = some l) (hv : l t h = some v) (hu : J5 g l t v co.un = true) :
   StepT c co ⟨t, x, h, d, g⟩ .look v ⟨dPut co.dst v t, x, h, d, (co.idx, .ld fun now => WB (l t now) v) :: g⟩
 | turn {t x h d g v x' h'} (ha : ZV co.pre d = false) (hw : Un co t) (hl : YN co.op = none) (hd : (co.op.writes && d.isSome) = false) (hx : Zq co.op c t x h (fun v x h => .got v x h) = .got v x' h')
   (hu : ZG g h' co.un = true) : StepT c co ⟨t, x, h, d, g⟩ .turn v ⟨dPut co.dst v t, x', h', d, (co.idx, .wr h) :: g⟩
 | panicked {t x h g v l t' x' h'} (hw : Un co t) (hl : YN co.op = none) (hx : Zq co.op c t x h (fun v x h => .got v x h) = .panic v l t' x' h')
   (hu : ZG g h' co.un = true) : StepT c co ⟨t, x, h, none, g⟩ .panicked v ⟨t, x', h', some (co.idx, v), (co.idx, .wr h) :: g⟩
structure Trc (c : Ctx) (os : List W0) (i0 : Nat) (F : Nat -> DS) (st : Nat -> XeA) (V : Nat -> Value) : Prop where
 step : ∀ k co, os[k]? = some co -> StepT c co (F (i0 + k)) (st (i0 + k)) (V (i0 + k)) (F (i0 + k + 1))
def dRun (lost : List Nat) (os : List W0) (c : Ctx) (s : DS) : Rz := drawOf lost os s.g s.d c s.t s.x s.h
theorem dOne_step (lost : List Nat) (co : W0) (os : List W0) (c : Ctx) (s : DS) (hw : Un co s.t) : (∃ why, dOne co (drawOf lost os) s.g s.d c s.t s.x s.h = .fail why) \/ ∃ st v s', StepT c co s st v s' /\ dOne co (drawOf lost os) s.g s.d c s.t s.x s.h = dRun lost os c s' := by
 obtain ⟨t, x, h, d, g⟩ := s
 unfold dOne
 cases hl : YN co.op with
 | some l =>
  simp only
  unfold W2
  cases ha : ZV co.pre d with
  | true => exact .inr ⟨.dead, undef, _, .dead ha, rfl⟩
  | false =>
   simp only [cond_false]
   cases hv : l t h with
   | none => exact .inl ⟨_, rfl⟩
   | some v =>
    simp only
    cases hu : J5 g l t v co.un with
    | false => exact .inl ⟨_, rfl⟩
    | true => exact .inr ⟨.look, v, _, .look ha hw hl hv hu, rfl⟩
 | none =>
  simp only
  unfold XaP
  cases ha : ZV co.pre d with
  | true => exact .inr ⟨.dead, undef, _, .dead ha, rfl⟩
  | false =>
   simp only [cond_false]
   cases hd : (co.op.writes && d.isSome) with
   | true => exact .inl ⟨_, rfl⟩
   | false =>
    simp only [cond_false]
    cases hx : Zq co.op c t x h (fun v x h => .got v x h) with
    | got v x' h' =>
     simp only
     cases hu : ZG g h' co.un with
     | false => exact .inl ⟨_, rfl⟩
     | true => exact .inr ⟨.turn, v, _, .turn ha hw hl hd hx hu, rfl⟩
    | panic v l t' x' h' =>
     cases d with
     | some q => exact .inl ⟨_, rfl⟩
     | none =>
      simp only
      cases hu : ZG g h' co.un with
      | false => exact .inl ⟨_, rfl⟩
      | true => exact .inr ⟨.panicked, v, _, .panicked hw hl hx hu, rfl⟩
    | fail why => exact .inl ⟨_, rfl⟩
    | norm => exact .inl ⟨_, rfl⟩
    | exit => exact .inl ⟨_, rfl⟩
    | ret => exact .inl ⟨_, rfl⟩
    | any => exact .inl ⟨_, rfl⟩
theorem dOf_step (lost : List Nat) (co : W0) (os : List W0) (c : Ctx) (s : DS) : (∃ why, dRun lost (co :: os) c s = .fail why) \/ ∃ st v s', StepT c co s st v s' /\ dRun lost (co :: os) c s = dRun lost os c s' := by
 show (∃ why, dOf co (drawOf lost os) s.g s.d c s.t s.x s.h = .fail why) \/ ∃ st v s', StepT c co s st v s' /\ dOf co (drawOf lost os) s.g s.d c s.t s.x s.h = dRun lost os c s'
 unfold dOf
 cases hg : co.guard with
 | none => exact dOne_step lost co os c s (by unfold Un; rw [hg]; trivial)
 | some q =>
  obtain ⟨gs, b⟩ := q
  simp only
  unfold dIf
  cases ha : ZV co.pre s.d with
  | true => exact .inr ⟨.dead, undef, s, .dead ha, rfl⟩
  | false =>
   simp only [cond_false]
   cases hw : XaQ gs b s.t with
   | false => exact .inr ⟨.off, undef, _, .off ha hg hw, rfl⟩
   | true => exact dOne_step lost co os c s (by unfold Un; rw [hg]; exact hw)
theorem trace (lost : List Nat) (c : Ctx) : ∀ (os : List W0) (i0 : Nat) (s : DS), (∃ why, dRun lost os c s = .fail why) \/ ∃ F st V, Trc c os i0 F st V /\ F i0 = s /\ dRun lost os c s = dRun lost [] c (F (i0 + os.length))
 | [], i0, s => .inr ⟨fun _ => s, fun _ => .dead, fun _ => undef, ⟨fun k co h => by simp at h⟩, rfl, rfl⟩
 | co :: os, i0, s => by
  rcases dOf_step lost co os c s with h | ⟨st0, v0, s', h1, h2⟩
  ·exact .inl h
  ·rcases trace lost c os (i0 + 1) s' with ⟨why, h⟩ | ⟨F, st, V, h3, h4, h5⟩
   ·exact .inl ⟨why, h2.trans h⟩
   ·refine .inr ⟨fun i => if i = i0 then s else F i, fun i => if i = i0 then st0 else st i, fun i => if i = i0 then v0 else V i, ⟨fun k co' hk => ?_⟩, by simp, ?_⟩
    ·cases k with
     | zero =>
      simp_all
     | succ k =>
      rw [if_neg (by omega), if_neg (by omega), if_neg (by omega), if_neg (by omega)]
      have := h3.step k co' (by simpa using hk)
      grind
    grind
section
variable {c : Ctx} {os : List W0} {F : Nat -> DS} {st : Nat -> XeA} {V : Nat -> Value}
theorem Uo (j i : Nat) (e : J4) (g : DLog) : Zc j ((i, e) :: g) = if j = i then some e else Zc j g := by
 show (bif XhD j i then some e else Zc j g) = _
 simp_all
def LogIs (co : W0) (s : DS) (st : XeA) (v : Value) (r : Option J4) : Prop := match st with
 | .look => ∃ l, YN co.op = some l /\ r = some (.ld fun now => WB (l s.t now) v)
 | .turn | .panicked => r = some (.wr s.h)
 | _ => r = none
theorem log_step {co : W0} {s s' : DS} {q : XeA} {v : Value} (h : StepT c co s q v s') (hn : Zc co.idx s.g = none) : LogIs co s q v (Zc co.idx s'.g) /\ ∀ j, j ≠ co.idx -> Zc j s'.g = Zc j s.g := by
 cases h with
 | dead => exact ⟨hn, fun _ _ => rfl⟩
 | off => exact ⟨hn, fun _ _ => rfl⟩
 | look ha hw hl hv hu => exact ⟨⟨_, hl, by rw [Uo, if_pos rfl]⟩, fun j hj => by rw [Uo, if_neg hj]⟩
 | turn ha hw hl hd hx hu => exact ⟨by show _ = _; rw [Uo, if_pos rfl], fun j hj => by rw [Uo, if_neg hj]⟩
 | panicked hw hl hx hu => exact ⟨by show _ = _; rw [Uo, if_pos rfl], fun j hj => by rw [Uo, if_neg hj]⟩
theorem log_at (T : Trc c os 0 F st V) (h0 : (F 0).g = []) (hi : ∀ (k : Nat) (co : W0), os[k]? = some co -> co.idx = k) : ∀ i, i <= os.length -> (∀ j co, j < i -> os[j]? = some co -> LogIs co (F j) (st j) (V j) (Zc j (F i).g)) /\ ∀ j, i <= j -> Zc j (F i).g = none := by
 intro i
 induction i with
 | zero => intro _; exact ⟨fun j co h => by omega, fun j _ => by rw [h0]; rfl⟩
 | succ i ih =>
  intro hle
  obtain ⟨h1, h2⟩ := ih (by omega)
  have hco : os[i]? = some os[i] := List.getElem?_eq_getElem (by omega)
  have hidx := hi i _ hco
  have hs := T.step i _ hco
  simp only [XhT] at hs
  obtain ⟨g1, g2⟩ := log_step hs (by rw [hidx]; exact h2 i (XhE i))
  grind
theorem unLook_all {g : DLog} {l : Zj} {t : Tm} {v : Value} {un : List Nat} (h : J5 g l t v un = true) (hi : i ∈ un) : match Zc i g with
  | none => True
  | some (.wr before) => WB (l t before) v = true
  | some (.ld _) => False := by
 induction un with
 | nil => simp at hi
 | cons k un ih =>
  replace h : ((match Zc k g with
   | none => true
   | some (.wr before) => WB (l t before) v
   | some (.ld _) => false) && J5 g l t v un) = true := h
  grind
theorem unTurn_all {g : DLog} {now : Heap} {un : List Nat} (h : ZG g now un = true) (hi : i ∈ un) : match Zc i g with
  | none => True
  | some (.wr _) => False
  | some (.ld again) => again now = true := by
 induction un with
 | nil => simp at hi
 | cons k un ih =>
  replace h : ((match Zc k g with
   | none => true
   | some (.wr _) => false
   | some (.ld again) => again now) && ZG g now un) = true := h
  grind
theorem sameV_eq : ∀ (n : Nat) (v v' : Value), sameV n v v' = true -> v = v' := by
 have all : ∀ (n : Nat) (ih : ∀ v v', sameV n v v' = true -> v = v') (xs ys : List Value), sameV.all (sameV n) xs ys = true -> xs = ys := by
  intro n ih xs
  induction xs with
  | nil => intro ys h; cases ys with
   | nil => rfl
   | cons y ys => simp [sameV.all] at h
  | cons x xs ihx => intro ys h; cases ys with
   | nil => simp [sameV.all] at h
   | cons y ys =>
    simp only [sameV.all, XhN] at h
    rw [ih x y h.1, ihx ys h.2]
 have flat : ∀ (n : Nat) (v v' : Value), sameV n v v' = true -> (∀ t x, v ≠ .iface t x) -> (∀ a, v ≠ .agg a) -> (∀ a, v ≠ .tuple a) -> (∀ f a b, v ≠ .func f a b) -> v = v' := by
  intro n v v' h n1 n2 n3 n4
  cases v <;> first | exact absurd rfl (n1 _ _) | exact absurd rfl (n2 _) | exact absurd rfl (n3 _) | exact absurd rfl (n4 _ _ _) | skip
  case chan r =>
   cases r <;> cases v' <;> first | rfl | (cases n <;> cases h; done) | skip
   all_goals (rename_i r'; cases r' <;> first | rfl | (cases n <;> cases h; done))
  all_goals (cases v' <;> first | (cases n <;> cases h; done) | skip)
  all_goals (unfold sameV at h)
  all_goals first
   | rfl
   | (simp at h; rw [h]; done)
   | (simp only [XhN, ZX, Xeu, decide_eq_true_eq] at h; rw [h.1, h.2]; done)
   | (rw [(beq_bytes _ _).1 h]; done)
   | (simp only [XhN, beq_iff, beq_iff_eq] at h; obtain ⟨⟨h1, h2⟩, h3⟩ := h; rw [h1, h2, h3]; done)
 intro n
 induction n with
 | zero =>
  intro v v' h
  refine flat 0 v v' h ?_ ?_ ?_ ?_ <;> (intros; rintro rfl; cases v' <;> cases h)
 | succ n ih =>
  intro v v' h
  cases v
  case iface t x =>
   cases v' <;> first | (cases h; done) | skip
   replace h : (XhD _ _ && sameV n _ _) = true := h
   rw [XhN, beq_iff] at h
   rw [h.1, ih _ _ h.2]
  case agg a =>
   cases v' <;> first | (cases h; done) | skip
   have := all n ih _ _ h
   rw [Xiq] at this
   rw [this]
  case tuple a =>
   cases v' <;> first | (cases h; done) | skip
   have := all n ih _ _ h
   rw [Xiq] at this
   rw [this]
  case func f a b =>
   cases v' <;> first | (cases h; done) | skip
   replace h : (_ == _ && sameV.all (sameV n) _ _ && sameV.all (sameV n) _ _) = true := h
   rw [XhN, XhN, beq_iff_eq] at h
   have h1 := all n ih _ _ h.1.2
   have h2 := all n ih _ _ h.2
   rw [Xiq] at h1 h2
   rw [h.1.1, h1, h2]
  all_goals exact flat (n + 1) _ v' h (by simp) (by simp) (by simp) (by simp)
theorem tellsAs_eq {r : Option Value} {v : Value} (h : WB r v = true) : r = some v := by
 cases r with
 | none => cases h
 | some v' => rw [sameV_eq 20 v v' h]
end
theorem exBack_nat {er : Er} {t : Tm} {x : Aux} {v : Value} {x' : Aux} {h' : Heap} (h : Wt er t x (fun v x h => .got v x h) = .got v x' h') (K : Cont) : Wt er t x K = K v x' h' := by
 cases er with
 | ret v0 h0 => cases h; rfl
 | panic ch h0 =>
  replace h : (match ch with
   | [(v, false)] => Rz.panic v [] t x h0
   | _ => .fail "a panic of many") = .got v x' h' := h
  split at h <;> cases h
 | fail => cases h
 | any => cases h
theorem exBack_pan {er : Er} {t : Tm} {x : Aux} {v : Value} {l : List Nat} {t' : Tm} {x' : Aux} {h' : Heap} (h : Wt er t x (fun v x h => .got v x h) = .panic v l t' x' h') (K : Cont) : Wt er t x K = .panic v l t' x' h' := by
 cases er with
 | ret v0 h0 => cases h
 | panic ch h0 =>
  replace h : (match ch with
   | [(v, false)] => Rz.panic v [] t x h0
   | _ => .fail "a panic of many") = .panic v l t' x' h' := h
  show (match ch with
   | [(v, false)] => Rz.panic v [] t x h0
   | _ => .fail "a panic of many") = .panic v l t' x' h'
  exact h
 | fail => cases h
 | any => cases h
theorem turn_nat {c : Ctx} {t : Tm} {x : Aux} {h : Heap} {v : Value} {x' : Aux} {h' : Heap} (hx : Zq co c t x h (fun v x h => .got v x h) = .got v x' h') (K : Cont) : Zq co c t x h K = K v x' h' := by
 have tn : ∀ T : Ui, Yi T c t x h (fun v x h => .got v x h) = .got v x' h' -> Yi T c t x h K = K v x' h' := by
  intro T hT
  unfold Yi at hT ⊢
  cases hv : T t h with
  | none => rw [hv] at hT; cases hT
  | some r => rw [hv] at hT; cases hT; rfl
 cases co <;> first
  | (cases hx; done)
  | exact tn _ hx
  | exact exBack_nat hx K
  | skip
 case alloc z => exact tn (XdC z) hx
 case mkMap sh => exact tn (XcE sh) hx
 case nilCheck y =>
  replace hx : XM y.val c t x h (fun v x h => .got v x h) = .got v x' h' := hx
  show XM y.val c t x h K = K v x' h'
  unfold XM at hx ⊢
  split at hx
  ·cases hx; rfl
  ·cases hx; rfl
  ·split at hx
   ·grind
   ·cases hx
  ·cases hx; rfl
  ·cases hx
 case panic y =>
  replace hx : UA y.val c t x h (fun v x h => .got v x h) = .got v x' h' := hx
  unfold UA at hx
  split at hx <;> cases hx
 case recover =>
  replace hx : WA c t x h (fun v x h => .got v x h) = .got v x' h' := hx
  show WA c t x h K = K v x' h'
  unfold WA at hx ⊢
  split at hx
  ·cases hx
  ·split at hx <;> (cases hx; rfl)
 case defer f args =>
  replace hx : Wu f.val (opds args) c t x h (fun v x h => .got v x h) = .got v x' h' := hx
  show Wu f.val (opds args) c t x h K = K v x' h'
  unfold Wu at hx ⊢
  split at hx
  ·split at hx
   ·cases hx; rfl
   ·cases hx
  ·cases hx
 case nextMap it =>
  replace hx : Zb it.val c t x h (fun v x h => .got v x h) = .got v x' h' := hx
  show Zb it.val c t x h K = K v x' h'
  unfold Zb at hx ⊢
  split at hx
  ·rename_i f e
   split at hx
   ·rename_i v0 h0 e0
    cases hx
    rfl
   ·cases hx
  ·cases hx
  ·cases hx
theorem turn_pan {c : Ctx} {t : Tm} {x : Aux} {h : Heap} {v : Value} {l : List Nat} {t' : Tm} {x' : Aux} {h' : Heap} (hx : Zq co c t x h (fun v x h => .got v x h) = .panic v l t' x' h') (K : Cont) : Zq co c t x h K = .panic v l t' x' h' := by
 have tn : ∀ T : Ui, Yi T c t x h (fun v x h => .got v x h) ≠ .panic v l t' x' h' := by
  intro T hT
  unfold Yi at hT
  cases hv : T t h <;> rw [hv] at hT <;> cases hT
 cases co <;> first
  | (cases hx; done)
  | exact absurd hx (tn _)
  | exact exBack_pan hx K
  | skip
 case nilCheck y =>
  replace hx : XM y.val c t x h (fun v x h => .got v x h) = .panic v l t' x' h' := hx
  unfold XM at hx
  grind
 case panic y => exact hx
 case recover =>
  replace hx : WA c t x h (fun v x h => .got v x h) = .panic v l t' x' h' := hx
  unfold WA at hx
  grind
 case defer f args =>
  replace hx : Wu f.val (opds args) c t x h (fun v x h => .got v x h) = .panic v l t' x' h' := hx
  unfold Wu at hx
  grind
 case nextMap it =>
  replace hx : Zb it.val c t x h (fun v x h => .got v x h) = .panic v l t' x' h' := hx
  unfold Zb at hx
  grind
def Inj.cut (ι : Inj) (n : Nat) : Inj := fun b => if b < n then ι b else none
theorem Inj.cut_some {ι : Inj} {b : Nat} {p : Place} (h : ι.cut n b = some p) : b < n /\ ι b = some p := by
 unfold Inj.cut at h
 simp_all
theorem Inj.cut_of {ι : Inj} {b : Nat} {p : Place} (h : ι b = some p) (hb : b < n) : ι.cut n b = some p := by
 unfold Inj.cut
 rw [if_pos hb]; exact h
theorem Inj.cut_le (ι : Inj) (n : Nat) : (ι.cut n).le ι := fun b p h => (Inj.cut_some h).2
theorem FnRel.cut {ι : Inj} (hk : ∀ b p, κ b = some p -> b < n) {f f' f'' : Fn} (r : FnRel ι f f') (q : FnRel κ f f'') : FnRel (ι.cut n) f f' := by
 cases r with
 | func f => exact .func f
 | method n => exact .method n
 | yield hl => cases q with
  | yield hq => exact .yield (Inj.cut_of hl (hk _ _ hq))
theorem VRel.cut {ι : Inj} (hk : ∀ b p, κ b = some p -> b < n) {v v' v'' : Value} (r : VRel ι v v') (q : VRel κ v v'') : VRel (ι.cut n) v v' := by
 induction r generalizing v'' with
 | bool b => exact .bool b
 | int k n => exact .int k n
 | string s => exact .string s
 | pnil => exact .pnil
 | ptr hp => cases q with
  | ptr hq => exact .ptr (Inj.cut_of hp (hk _ _ hq))
 | snil n c => exact .snil n c
 | sempty he => exact .sempty he
 | slice hp he hc hn hl =>
  cases q with
  | sempty =>
   exact .sempty fun h => by have := he h; omega
  | slice hq => exact .slice (Inj.cut_of hp (hk _ _ hq)) he hc hn hl
 | mnil => exact .mnil
 | map hp => cases q with
  | map hq => exact .map (Inj.cut_of hp (hk _ _ hq))
 | func hf ha hc ra rc ia ic => cases q with
  | func gf ga gc sa sc => exact .func (hf.cut hk gf) ha hc (fun i h h' => ia i h h' (sa i h (by omega))) (fun i h h' => ic i h h' (sc i h (by omega)))
 | nilFunc => exact .nilFunc
 | iface t h ih => cases q with
  | iface _ hq => exact .iface t (ih hq)
 | nilIface => exact .nilIface
 | unk h => exact .unk h
 | agg ha ra fl ia => cases q with
  | agg ga sa gl => exact .agg ha (fun i h h' => ia i h h' (sa i h (by omega))) fl
 | tuple ha ra ia => cases q with
  | tuple ga sa => exact .tuple ha (fun i h h' => ia i h h' (sa i h (by omega)))
theorem exOf_turn (hl : YN co = none) : exOf co = Zq co := by
 cases co <;> first
  | (cases hl; done)
  | (rename_i a b; cases b <;> (cases hl; done))
  | (rename_i a b c; cases b <;> (cases hl; done))
  | (rename_i a b c d e; cases c <;> (cases hl; done))
  | rfl
section
variable {P : Program} {m : Nat}
theorem cOp_defer {o : Oper} {cl : Call} (ho : o.op = .defer cl) : (∃ f as, cOp P m o = .defer f as) \/ ∃ why, cOp P m o = .bad why := by
 unfold cOp
 rw [ho]
 simp only
 split
 ·rename_i f hf
  cases h1 : XE m f with
  | none => exact .inr ⟨_, rfl⟩
  | some f' =>
   cases h2 : Uv m cl.args with
   | none => exact .inr ⟨_, rfl⟩
   | some as => exact .inl ⟨_, _, rfl⟩
 ·exact .inr ⟨_, rfl⟩
theorem nd_look {o : Oper} {l : Zj} (hl : YN (cOp P m o) = some l) : ∀ cl, o.op ≠ .defer cl := by
 intro cl ho
 rcases cOp_defer (P := P) (m := m) ho with ⟨f, as, h⟩ | ⟨why, h⟩ <;> rw [h] at hl <;> cases hl
theorem nd_quiet {o : Oper} (hw : (cOp P m o).writes = false) : ∀ cl, o.op ≠ .defer cl := by
 intro cl ho
 rcases cOp_defer (P := P) (m := m) ho with ⟨f, as, h⟩ | ⟨why, h⟩ <;> rw [h] at hw <;> cases hw
theorem nd_turn {b : Frame} {ι : Inj} {o : Oper} {c : Ctx} {t : Tm} {x : Aux} {h : Heap} {K : Cont} {r : Rz} (hx : Zq (cOp P m o) c t x h K = r) (hr : ∀ why, r ≠ .fail why) (hro : RoundRel ι x.round b) : b.roundOf = none \/ ∀ cl, o.op ≠ .defer cl := by
 cases hxr : x.round with
 | none => rw [hxr] at hro; exact .inl hro
 | some l =>
  refine .inr fun cl ho => ?_
  rcases cOp_defer (P := P) (m := m) ho with ⟨f, as, hc⟩ | ⟨why, hc⟩
  ·rw [hc] at hx
   replace hx : Wu f.val (opds as) c t x h K = r := hx
   unfold Wu at hx
   rw [hxr] at hx
   exact hr _ hx.symm
  ·rw [hc] at hx
   exact hr _ hx.symm
end
section
variable {P : Program} {B : Nat}
variable {ι : Inj} {H : Heap} {w : World} {m : Nat} {b : Frame} {t : Tm} {x : Aux} {a : Act} {cs : List Frame}
variable {m1 : Machine} {fr : Frame} {c : Ctx} {o : Oper}
theorem turn_big (C : Vr P B c) (hfr : fr.defers = a.defers) (hmode : fr.mode = .run) (hk : fr.kind = b.kind) (hrd : fr.roundOf = b.roundOf) (D : Does P m1 fr cs (execOp a.eval o) w) (S : St P B ι H w m b t x a cs) (hl : YN (cOp P m o) = none) {v : Value} {x' : Aux} {H' : Heap}
  (hx : Zq (cOp P m o) c t x H (fun v x h => .got v x h) = .got v x' H') :
  ∃ ι' w' a' cs' v', Steps P m1 (lone (({ fr with defers := a'.defers } : Frame).finish v') cs' w') /\ a'.tmps = a.tmps /\ VRel ι' v v' /\ St P B ι' H' w' m b t x' a' cs' /\ Adv ι H w ι' H' w' /\ CsAdv b cs cs' := by
 let Q : Value -> List Nat -> Tm -> Aux -> Heap -> Prop := fun v l t1 x' H' => l = [0] -> ∃ ι' w' a' cs' v', Steps P m1 (lone (({ fr with defers := a'.defers } : Frame).finish v') cs' w') /\ a'.tmps = a.tmps /\ VRel ι' v v' /\ St P B ι' H' w' m b t x' a' cs' /\ Adv ι H w ι' H' w' /\ CsAdv b cs cs'
 have G : Goes P B ι H w m b t x a cs m1 fr (fun v x h => .panic v [0] t x h) (fun _ _ _ => True) (fun _ _ _ _ => True) (fun _ _ _ => True) Q := by
  refine ⟨fun ι' H' w' a' cs' v v' x' h1 h2 h3 h4 h5 h6 => ?_, fun ι' H' w' v v' h1 h2 h3 h4 h => by cases h⟩
  show Q v [0] t x' H'
  exact fun _ => ⟨ι', w', a', cs', v', h1, h2, h3, h4, h5, h6⟩
 have := op_sound G hfr hmode hk hrd C D S
 rw [exOf_turn hl, turn_nat hx] at this
 exact this rfl
theorem turn_bigP (C : Vr P B c) (hfr : fr.defers = a.defers) (hmode : fr.mode = .run) (hk : fr.kind = b.kind) (hrd : fr.roundOf = b.roundOf) (D : Does P m1 fr cs (execOp a.eval o) w) (S : St P B ι H w m b t x a cs) (hl : YN (cOp P m o) = none) {v : Value} {l : List Nat} {t' : Tm} {x' : Aux} {H' : Heap}
  (hx : Zq (cOp P m o) c t x H (fun v x h => .got v x h) = .panic v l t' x' H') :
  ∃ ι' w' v', Steps P m1 (lone (fr.raise [{ v := v', recovered := false }]) cs w') /\ VRel ι' v v' /\ x' = x /\ St P B ι' H' w' m b t x a cs /\ Adv ι H w ι' H' w' := by
 let Q : Value -> List Nat -> Tm -> Aux -> Heap -> Prop := fun v l t1 x' H' => l = [0] \/ ∃ ι' w' v', Steps P m1 (lone (fr.raise [{ v := v', recovered := false }]) cs w') /\ VRel ι' v v' /\ x' = x /\ St P B ι' H' w' m b t x a cs /\ Adv ι H w ι' H' w'
 have G : Goes P B ι H w m b t x a cs m1 fr (fun v x h => .panic v [0] t x h) (fun _ _ _ => True) (fun _ _ _ _ => True) (fun _ _ _ => True) Q := by
  refine ⟨fun ι' H' w' a' cs' v v' x' h1 h2 h3 h4 h5 h6 => .inl rfl, fun ι' H' w' v v' h1 h2 h3 h4 => .inr ⟨ι', w', v', h1, h2, rfl, h3, h4⟩⟩
 have := op_sound G hfr hmode hk hrd C D S
 rw [exOf_turn hl, turn_pan hx] at this
 rcases this with h | h
 ·-- the mark of a value is not a panic's
  exfalso
  have hl0 : l = [] := by
   have gen : ∀ (er : Er), Wt er t x (fun v x h => .got v x h) = .panic v l t' x' H' -> l = [] := by
    intro er he
    cases er with
    | ret v0 h0 => cases he
    | panic ch h0 =>
     replace he : (match ch with
      | [(v, false)] => Rz.panic v [] t x h0
      | _ => .fail "a panic of many") = .panic v l t' x' H' := he
     grind
    | fail => cases he
    | any => cases he
   have tn : ∀ T : Ui, Yi T c t x H (fun v x h => .got v x h) ≠ .panic v l t' x' H' := by
    intro T hT
    unfold Yi at hT
    cases hv : T t H <;> rw [hv] at hT <;> cases hT
   generalize cOp P m o = co at hx
   cases co <;> first
    | (cases hx; done)
    | exact absurd hx (tn _)
    | exact gen _ hx
    | skip
   case nilCheck y =>
    replace hx : XM y.val c t x H (fun v x h => .got v x h) = .panic v l t' x' H' := hx
    unfold XM at hx
    grind
   case panic y =>
    replace hx : UA y.val c t x H (fun v x h => .got v x h) = .panic v l t' x' H' := hx
    unfold UA at hx
    grind
   case recover =>
    replace hx : WA c t x H (fun v x h => .got v x h) = .panic v l t' x' H' := hx
    unfold WA at hx
    grind
   case defer f args =>
    replace hx : Wu f.val (opds args) c t x H (fun v x h => .got v x h) = .panic v l t' x' H' := hx
    unfold Wu at hx
    grind
   case nextMap it =>
    replace hx : Zb it.val c t x H (fun v x h => .got v x h) = .panic v l t' x' H' := hx
    unfold Zb at hx
    grind
  rw [hl0] at h
  cases h
 ·exact h
end
section
variable {t : Tm} {H H' : Heap} {v : Value}
def lone1 : AObj -> Prop
 | .miter .. => False
 | _ => True
theorem fresh_turn {c : COp} {T : Ui} (hl : tnOf c = some T) (hw : c.writes = false) (h : T t H = some (v, H')) : ∃ o, (H' = H.push o /\ T t ⟨H.next, .nil⟩ = some (v, (⟨H.next, .nil⟩ : Heap).push o)) /\ lone1 o := by
 cases c <;> first | (cases hl; done) | (cases hw; done) | skip
 case alloc z => cases hl; cases h; exact ⟨_, ⟨rfl, rfl⟩, trivial⟩
 case box y =>
  cases hl
  obtain ⟨cs, h1, h2⟩ := XW h
  cases h2
  refine ⟨_, ⟨rfl, ?_⟩, trivial⟩
  show Yr none (newPtr ⟨H.next, .nil⟩) (cellsOf (y.val t)) = _
  rw [h1]; rfl
 case buildSlice z ps n =>
  cases hl
  replace h : (match Yz t (J6 ps) z with
   | some cs => some (Value.slice (some ⟨H.next, 0, none⟩) n n, H.push (.cells true cs))
   | none => none) = some (v, H') := h
  split at h
  ·rename_i cs hcs
   cases h
   refine ⟨_, ⟨rfl, ?_⟩, trivial⟩
   show (match Yz t (J6 ps) z with
    | some cs => some (Value.slice (some ⟨H.next, 0, none⟩) n n, (⟨H.next, .nil⟩ : Heap).push (.cells true cs))
    | none => none) = _
   rw [hcs]
  ·cases h
 case toBytes y =>
  cases hl
  replace h : (match y.val t with
   | .string s => some (Value.slice (some ⟨H.next, 0, WV 1⟩) (bytes s).length (bytes s).length, H.push (.cells true (Xa (bytes s))))
   | _ => none) = some (v, H') := h
  split at h
  ·rename_i s hs
   cases h
   refine ⟨_, ⟨rfl, ?_⟩, trivial⟩
   show (match y.val t with
    | .string s => some (Value.slice (some ⟨H.next, 0, WV 1⟩) (bytes s).length (bytes s).length, (⟨H.next, .nil⟩ : Heap).push (.cells true (Xa (bytes s))))
    | _ => none) = _
   rw [hs]
  ·cases h
 case mkMap sh => cases hl; cases h; exact ⟨_, ⟨rfl, rfl⟩, trivial⟩
 case mkSlice z l cp =>
  cases hl
  replace h : (match Wf (l.val t), Wf (cp.val t) with
   | some l, some c => bif XhM l c && XhK c 1000000 then some (Value.slice (some ⟨H.next, 0, none⟩) l c, H.push (.cells true (rep z c))) else none
   | _, _ => none) = some (v, H') := h
  split at h
  ·rename_i ln cn h1 h2
   cases hb : (XhM ln cn && XhK cn 1000000) with
   | false => rw [hb] at h; cases h
   | true =>
    rw [hb] at h
    cases h
    refine ⟨_, ⟨rfl, ?_⟩, trivial⟩
    show (match Wf (l.val t), Wf (cp.val t) with
     | some l, some c => bif XhM l c && XhK c 1000000 then some (Value.slice (some ⟨H.next, 0, none⟩) l c, (⟨H.next, .nil⟩ : Heap).push (.cells true (rep z c))) else none
     | _, _ => none) = _
    rw [h1, h2]
    simp only [hb, cond_true]
  ·cases h
theorem quiet_turn {c : Ctx} {x x' : Aux} (hl : YN co = none) (hw : co.writes = false) (hx : Zq co c t x H (fun v x h => .got v x h) = .got v x' H') :
  x' = x /\ ((∃ T, tnOf co = some T /\ T t H = some (v, H')) \/ (∃ y, co = .nilCheck y /\ H' = H)) := by
 have tn : ∀ T : Ui, Yi T c t x H (fun v x h => .got v x h) = .got v x' H' -> x' = x /\ T t H = some (v, H') := by
  intro T hT
  unfold Yi at hT
  cases hv : T t H with
  | none => rw [hv] at hT; cases hT
  | some r => rw [hv] at hT; cases hT; exact ⟨rfl, rfl⟩
 cases co <;> first
  | (cases hw; done)
  | (cases hl; done)
  | (cases hx; done)
  | skip
 case alloc z => obtain ⟨h1, h2⟩ := tn (XdC z) hx; exact ⟨h1, .inl ⟨_, rfl, h2⟩⟩
 case box y => obtain ⟨h1, h2⟩ := tn _ hx; exact ⟨h1, .inl ⟨_, rfl, h2⟩⟩
 case buildSlice z ps n => obtain ⟨h1, h2⟩ := tn _ hx; exact ⟨h1, .inl ⟨_, rfl, h2⟩⟩
 case toBytes y => obtain ⟨h1, h2⟩ := tn _ hx; exact ⟨h1, .inl ⟨_, rfl, h2⟩⟩
 case mkMap sh => obtain ⟨h1, h2⟩ := tn (XcE sh) hx; exact ⟨h1, .inl ⟨_, rfl, h2⟩⟩
 case mkSlice z l cp => obtain ⟨h1, h2⟩ := tn _ hx; exact ⟨h1, .inl ⟨_, rfl, h2⟩⟩
 case nilCheck y =>
  replace hx : XM y.val c t x H (fun v x h => .got v x h) = .got v x' H' := hx
  unfold XM at hx
  grind
 all_goals (first | (rename_i a b; cases b <;> cases hl; done) | (rename_i a b d; cases b <;> cases hl; done) | (rename_i a b d e f; cases d <;> cases hl; done))
theorem quiet_fresh {c : Ctx} {x x' : Aux} (hl : YN co = none) (hw : co.writes = false) (hx : Zq co c t x H (fun v x h => .got v x h) = .got v x' H') :
  x' = x /\ ∃ H1 : Heap, Zq co c t x ⟨H.next, .nil⟩ (fun v x h => .got v x h) = .got v x H1 /\ ((H' = H /\ H1 = ⟨H.next, .nil⟩) \/ ∃ o, lone1 o /\ H' = H.push o /\ H1 = (⟨H.next, .nil⟩ : Heap).push o) := by
 obtain ⟨rfl, h⟩ := quiet_turn hl hw hx
 refine ⟨rfl, ?_⟩
 rcases h with ⟨T, h1, h2⟩ | ⟨y, rfl, rfl⟩
 ·obtain ⟨o, ⟨h4, h5⟩, h3⟩ := fresh_turn h1 hw h2
  refine ⟨_, ?_, .inr ⟨o, h3, h4, rfl⟩⟩
  rw [turnOf_tn h1]
  unfold Yi
  rw [h5]
 ·refine ⟨_, ?_, .inl ⟨rfl, rfl⟩⟩
  replace hx : XM y.val c t x' H' (fun v x h => .got v x h) = .got v x' H' := hx
  show XM y.val c t x' ⟨H'.next, .nil⟩ (fun v x h => .got v x h) = .got v x' ⟨H'.next, .nil⟩
  unfold XM at hx ⊢
  split at hx
  ·cases hx; rfl
  ·cases hx; rfl
  ·split at hx
   ·grind
   ·cases hx
  ·cases hx; rfl
  ·cases hx
end
def clearT (bad : List Nat) (t : Tm) : Tm := bad.foldr (fun s t => JK s undef t) t
def XbU (bad : List Nat) (a : Array Value) : Array Value := bad.foldr (fun s a => a.setIfInBounds s undef) a
theorem clearT_get (bad : List Nat) (hb : ∀ s ∈ bad, s < 256) (t : Tm) (hn : n < 256) : Zi n (clearT bad t) = if n ∈ bad then undef else Zi n t := by
 induction bad with
 | nil => simp [clearT]
 | cons s bad ih =>
  have ih := ih fun q hq => hb q (by simp [hq])
  show Zi n (JK s undef (clearT bad t)) = _
  grind [slot_same, XcX]
theorem clearA_size (bad : List Nat) (a : Array Value) : (XbU bad a).size = a.size := by
 induction bad with
 | nil => rfl
 | cons s bad ih => show ((XbU bad a).setIfInBounds s undef).size = _; simpa using ih
theorem clearA_get (bad : List Nat) (a : Array Value) (n : Nat) : (XbU bad a).getD n undef = if n ∈ bad then undef else a.getD n undef := by
 induction bad with
 | nil => simp [XbU]
 | cons s bad ih =>
  show ((XbU bad a).setIfInBounds s undef).getD n undef = _
  by_cases e : n = s
  ·simp_all
  simp_all [Xiy, XjF, Ne.symm]
def UC (ls : List Nat) : List Nat := (List.range 256).filter fun n => !ls.contains n
theorem others_lt : ∀ s ∈ UC ls, s < 256 := by
 intro s hs
 have := (XiW.1 hs).1
 simpa using this
theorem Xc2 (hn : n < 256) : n ∈ UC ls ↔ n ∉ ls := by
 unfold UC
 rw [XiW, Xjd]
 simp [hn]
section
variable {P : Program} {B : Nat} {ι : Inj} {w : World} {m : Nat}
theorem part_rel {t : Tm} {tmps : Array Value} (hm : m <= tmps.size) (h : ∀ s ∈ ls, s < m -> s < 256 -> VRel ι (Zi s t) (tmps.getD s undef)) : TmRel ι m (clearT (UC ls) t) (XbU (UC ls) tmps) := by
 refine ⟨by rw [clearA_size]; exact hm, fun n h1 h2 => ?_⟩
 rw [clearT_get _ others_lt t h1, clearA_get]
 by_cases hn : n ∈ UC ls
 ·rw [if_pos hn, if_pos hn]; exact Xag ι
 simp_all [if_neg, Xc2, Classical.not_not]
theorem eval_part {a : Act} {x : Operand} (hx : ∀ n, x = .tmp n -> n ∈ ls) (hm : ∀ n, x = .tmp n -> n < 256) : ({ a with tmps := XbU (UC ls) a.tmps } : Act).eval x = a.eval x := by
 cases x with
 | tmp n =>
  show (XbU (UC ls) a.tmps).getD n undef = a.tmps.getD n undef
  rw [clearA_get, if_neg]
  grind [Xc2]
 | _ => rfl
theorem exec_part {a : Act} {o : Oper} (hs : ∀ cs b, o.op ≠ .select cs b) (hx : ∀ n ∈ tmpsOf o.op.operands.toList, n ∈ ls) (hm : ∀ n ∈ tmpsOf o.op.operands.toList, n < 256) : execOp ({ a with tmps := XbU (UC ls) a.tmps } : Act).eval o = execOp a.eval o := by
 refine execOp_congr o hs fun x hxm => ?_
 have mem : ∀ n, x = .tmp n -> n ∈ tmpsOf o.op.operands.toList := by
  rintro n rfl
  exact List.mem_filterMap.2 ⟨_, by simpa using hxm, rfl⟩
 grind [eval_part]
theorem val_part {t : Tm} {x : Opd} (hx : ∀ n, x = .tmp n -> n ∈ ls) (hm : ∀ n, x = .tmp n -> n < 256) : x.val (clearT (UC ls) t) = x.val t := by
 cases x with
 | tmp n =>
  show Zi n _ = Zi n t
  rw [clearT_get _ others_lt t (hm n rfl), if_neg]
  grind [Xc2]
 | const v => rfl
end
section
variable {P : Program} {B : Nat}
theorem Sim.turn {ι : Inj} {H H' : Heap} {w : World} (s : Sim P B κ H w) (h : ∀ b p o, ι b = some p -> H'.get b = some o -> κ b = some p /\ H.get b = some o) (hle : κ.le ι)
  (hb : ∀ b p, ι b = some p -> b < H'.next) (hl : ∀ b p, ι b = some p -> p.b < w.heap.size) (hk : ∀ b, H'.next <= b -> H'.get b = none) : Sim P B ι H' w := by
 refine ⟨fun b p o hp ho => ?_, fun b b' p p' o o' hne h1 h2 g1 g2 => ?_, hb, hl, hk, s.base⟩
 ·obtain ⟨k1, k2⟩ := h b p o hp ho
  refine (s.obj b p o k1 k2).stay hle (fun _ _ _ _ _ => ⟨rfl, rfl⟩) (fun _ _ _ => .refl _ _) (fun _ => rfl) ?_
  intro m ver left last pm e hm sh ver' es hg
  exact .inr ⟨(h _ _ _ (hle _ _ hm) hg).2, rfl⟩
 ·obtain ⟨k1, k2⟩ := h b p o h1 g1
  obtain ⟨k3, k4⟩ := h b' p' o' h2 g2
  exact s.apart b b' p p' o o' hne k1 k3 k2 k4
theorem Sim.bare {ι : Inj} {H : Heap} {w : World} (s : Sim P B κ H w) {N : Nat} (hb : ∀ b p, ι b = some p -> b < N) (hl : ∀ b p, ι b = some p -> p.b < w.heap.size) : Sim P B ι ⟨N, .nil⟩ w :=
 ⟨fun _ _ _ _ h => (by cases h), fun _ _ _ _ _ _ _ _ _ h => (by cases h), hb, hl, fun _ _ => rfl, s.base⟩
theorem Sim.grown {ι : Inj} {H : Heap} {w w1 : World} (s : Sim P B ι H w) (hs : w.heap.size <= w1.heap.size) (hk : ∀ k, k < w.heap.size -> w1.heap[k]? = w.heap[k]?) : Sim P B ι H w1 := by
 refine ⟨fun b p o hp ho => ?_, s.apart, s.bound, fun b p hp => Xia (s.lt b p hp) hs, s.blank, Xh4 s.base hs⟩
 refine (s.obj b p o hp ho).stay ι.le_refl (fun _ _ _ i _ => VS (hk _ (s.lt b p hp)) _) (fun _ _ _ => .of_eq (hk _ (s.lt b p hp))) (fun _ => hk _ (s.lt b p hp)) ?_
 intro m ver left last pm e hm sh ver' es hg
 exact .inr ⟨hg, hk _ (s.lt m pm hm)⟩
theorem ObjRel.shift {ι ι' : Inj} {H H' : Heap} {w w' : World} {p : Place} {o : AObj} (r : ObjRel P B ι H w p o) (h1 : lone1 o) (hι : ι.le ι') (hk : w'.heap[p.b]? = w.heap[p.b]?) : ObjRel P B ι' H' w' p o := by
 refine r.stay hι (fun _ _ _ i _ => VS hk _) (fun _ _ _ => .of_eq hk) (fun _ => hk) ?_
 rintro m ver left last pm rfl
 exact h1.elim
theorem Sim.learn {ι : Inj} {H : Heap} {w : World} (s : Sim P B ι H w) {b : Nat} {p : Place} (hn : ι b = none) (hb : b < H.next) (hp : p.b < w.heap.size) (solo : ∀ b' p', ι b' = some p' -> p'.b ≠ p.b)
  (ho : ∀ o, H.get b = some o -> ObjRel P B (ι.with b p) H w p o) : Sim P B (ι.with b p) H w := by
 have hle := Inj.with_le hn p
 refine ⟨fun c q o hc hg => ?_, fun c c' q q' o o' hne h1 h2 g1 g2 heq => ?_, fun c q hc => ?_, fun c q hc => ?_, s.blank, s.base⟩
 ·rcases Inj.with_cases hc with ⟨rfl, rfl⟩ | ⟨hne, hc'⟩
  ·exact ho o hg
  ·refine (s.obj c q o hc' hg).stay hle (fun _ _ _ _ _ => ⟨rfl, rfl⟩) (fun _ _ _ => .refl _ _) (fun _ => rfl) ?_
   simp_all
 ·rcases Inj.with_cases h1 with ⟨rfl, rfl⟩ | ⟨hn1, h1'⟩
  ·grind [Inj.with_cases]
  ·rcases Inj.with_cases h2 with ⟨rfl, rfl⟩ | ⟨hn2, h2'⟩
   ·exact absurd heq (solo _ _ h1')
   ·exact s.apart c c' q q' o o' hne h1' h2' g1 g2 heq
 ·rcases Inj.with_cases hc with ⟨rfl, rfl⟩ | ⟨hne, hc'⟩
  ·exact hb
  ·exact s.bound c q hc'
 ·rcases Inj.with_cases hc with ⟨rfl, rfl⟩ | ⟨hne, hc'⟩
  ·exact hp
  ·exact s.lt c q hc'
theorem Sim.push {ι : Inj} {H : Heap} {w : World} (s : Sim P B ι H w) (o : AObj) : Sim P B ι (H.push o) w := by
 refine s.turn (fun b p o' hp ho => ⟨hp, ?_⟩) ι.le_refl (fun b p hp => ?_) s.lt (fun b hb => ?_)
 ·rw [Heap.get_push, if_neg (by have := s.bound b p hp; omega)] at ho
  exact ho
 ·have := s.bound b p hp; simp; omega
 ·simp at hb
  rw [Heap.get_push, if_neg (by omega)]
  exact s.blank b (by omega)
end
section
variable {t t' : Tm} {c : Ctx} {x x' : Aux} {h h' : Heap} {v : Value}
theorem exBack_pan' {er : Er} {l : List Nat} {s : Tm} (hx : Wt er t x (fun v x h => .got v x h) = .panic v l s x' h') : ∃ s', Wt er t' x (fun v x h => .got v x h) = .panic v l s' x' h' := by
 cases er with
 | ret v0 h0 => cases hx
 | panic ch h0 =>
  replace hx : (match ch with
   | [(v, false)] => Rz.panic v [] t x h0
   | _ => .fail "a panic of many") = .panic v l s x' h' := hx
  split at hx
  ·cases hx; exact ⟨_, rfl⟩
  ·cases hx
 | fail => cases hx
 | any => cases hx
theorem exBack_got' {er : Er} (hx : Wt er t x (fun v x h => .got v x h) = .got v x' h') : Wt er t' x (fun v x h => .got v x h) = .got v x' h' := by
 cases er with
 | ret v0 h0 => exact hx
 | panic ch h0 =>
  replace hx : (match ch with
   | [(v, false)] => Rz.panic v [] t x h0
   | _ => .fail "a panic of many") = .got v x' h' := hx
  split at hx <;> cases hx
 | fail => cases hx
 | any => cases hx
theorem turnOf_got (hy : ∀ y ∈ co.opds, y.val t = y.val t') (hx : Zq co c t x h (fun v x h => .got v x h) = .got v x' h') : Zq co c t' x h (fun v x h => .got v x h) = .got v x' h' := by
 cases ht : tnOf co with
 | some T =>
  rw [turnOf_tn ht] at hx ⊢
  unfold Yi at hx ⊢
  rw [<- turn_local ht hy]
  exact hx
 | none =>
  cases co <;> first
   | (cases hx; done)
   | (cases ht; done)
   | skip
  case nilCheck y =>
   show XM y.val c t' x h _ = _
   replace hx : XM y.val c t x h _ = _ := hx
   unfold XM at hx ⊢
   rw [<- hy y (by simp [COp.opds])]
   exact hx
  case nextMap y =>
   show Zb y.val c t' x h _ = _
   replace hx : Zb y.val c t x h _ = _ := hx
   unfold Zb at hx ⊢
   rw [<- hy y (by simp [COp.opds])]
   exact hx
  case panic y =>
   replace hx : UA y.val c t x h (fun v x h => .got v x h) = _ := hx
   unfold UA at hx
   split at hx <;> cases hx
  case recover => exact hx
  case call f args =>
   show Wt (c.call (f.val t') (J1 t' (opds args)) h) t' x _ = _
   replace hx : Wt (c.call (f.val t) (J1 t (opds args)) h) t x _ = _ := hx
   rw [<- hy f (by simp [COp.opds]), <- Vh fun z hz => hy z (by simp [COp.opds, hz])]
   exact exBack_got' hx
  case invoke f name args =>
   show Wt (c.inv (f.val t') name (J1 t' (opds args)) h) t' x _ = _
   replace hx : Wt (c.inv (f.val t) name (J1 t (opds args)) h) t x _ = _ := hx
   rw [<- hy f (by simp [COp.opds]), <- Vh fun z hz => hy z (by simp [COp.opds, hz])]
   exact exBack_got' hx
  case defer f args =>
   show Wu f.val (opds args) c t' x h _ = _
   replace hx : Wu f.val (opds args) c t x h _ = _ := hx
   unfold Wu at hx ⊢
   rw [<- hy f (by simp [COp.opds]), <- Vh fun z hz => hy z (by simp [COp.opds, hz])]
   exact hx
theorem turnOf_pan {l : List Nat} {s : Tm} (hy : ∀ y ∈ co.opds, y.val t = y.val t') (hx : Zq co c t x h (fun v x h => .got v x h) = .panic v l s x' h') : ∃ s', Zq co c t' x h (fun v x h => .got v x h) = .panic v l s' x' h' := by
 cases ht : tnOf co with
 | some T =>
  rw [turnOf_tn ht] at hx
  unfold Yi at hx
  cases hv : T t h <;> rw [hv] at hx <;> cases hx
 | none =>
  cases co <;> first
   | (cases hx; done)
   | (cases ht; done)
   | skip
  case nilCheck y =>
   replace hx : XM y.val c t x h _ = _ := hx
   unfold XM at hx
   grind
  case nextMap y =>
   replace hx : Zb y.val c t x h _ = _ := hx
   unfold Zb at hx
   grind
  case panic y =>
   show ∃ s', UA y.val c t' x h (fun v x h => .got v x h) = _
   replace hx : UA y.val c t x h (fun v x h => .got v x h) = _ := hx
   unfold UA at hx ⊢
   rw [<- hy y (by simp [COp.opds])]
   grind
  case recover =>
   replace hx : WA c t x h _ = _ := hx
   unfold WA at hx
   grind
  case call f args =>
   show ∃ s', Wt (c.call (f.val t') (J1 t' (opds args)) h) t' x _ = _
   replace hx : Wt (c.call (f.val t) (J1 t (opds args)) h) t x _ = _ := hx
   rw [<- hy f (by simp [COp.opds]), <- Vh fun z hz => hy z (by simp [COp.opds, hz])]
   exact exBack_pan' hx
  case invoke f name args =>
   show ∃ s', Wt (c.inv (f.val t') name (J1 t' (opds args)) h) t' x _ = _
   replace hx : Wt (c.inv (f.val t) name (J1 t (opds args)) h) t x _ = _ := hx
   rw [<- hy f (by simp [COp.opds]), <- Vh fun z hz => hy z (by simp [COp.opds, hz])]
   exact exBack_pan' hx
  case defer f args =>
   replace hx : Wu f.val (opds args) c t x h _ = _ := hx
   unfold Wu at hx
   grind
end
theorem StepT.view {c : Ctx} {co : W0} {s s' : DS} {q : XeA} {v : Value} (h : StepT c co s q v s') :
  (q = .dead /\ ZV co.pre s.d = true /\ s' = s) \/
  (q = .off /\ (∃ g b, co.guard = some (g, b) /\ XaQ g b s.t = false) /\ v = undef /\ s'.t = dPut co.dst undef s.t /\ s'.x = s.x /\ s'.h = s.h /\ s'.d = s.d) \/
  (q = .look /\ Un co s.t /\ (∃ l, YN co.op = some l /\ l s.t s.h = some v /\ J5 s.g l s.t v co.un = true) /\ s'.t = dPut co.dst v s.t /\ s'.x = s.x /\ s'.h = s.h /\ s'.d = s.d) \/
  (q = .turn /\ Un co s.t /\ YN co.op = none /\ (co.op.writes && s.d.isSome) = false /\ Zq co.op c s.t s.x s.h (fun v x h => .got v x h) = .got v s'.x s'.h /\ ZG s.g s'.h co.un = true /\ s'.t = dPut co.dst v s.t /\ s'.d = s.d) \/
  (q = .panicked /\ Un co s.t /\ YN co.op = none /\ s.d = none /\ (∃ l t', Zq co.op c s.t s.x s.h (fun v x h => .got v x h) = .panic v l t' s'.x s'.h) /\ ZG s.g s'.h co.un = true /\ s'.t = s.t /\ s'.d = some (co.idx, v)) := by
 cases h with
 | dead ha => exact .inl ⟨rfl, ha, rfl⟩
 | off ha hg hw => grind
 | look ha hw hl hv hu => simp_all
 | turn ha hw hl hd hx hu => simp_all
 | panicked hw hl hx hu => simp_all
theorem pan_writes {c : Ctx} {t : Tm} {x : Aux} {h : Heap} {v : Value} {l : List Nat} {t' : Tm} {x' : Aux} {h' : Heap} (hx : Zq co c t x h (fun v x h => .got v x h) = .panic v l t' x' h') : co.writes = true := by
 have tn : ∀ T : Ui, Yi T c t x h (fun v x h => .got v x h) ≠ .panic v l t' x' h' := by
  intro T hT
  unfold Yi at hT
  cases hv : T t h <;> rw [hv] at hT <;> cases hT
 cases co <;> first
  | rfl
  | exact absurd hx (tn _)
  | (cases hx; done)
  | skip
 case nilCheck y =>
  replace hx : XM y.val c t x h (fun v x h => .got v x h) = _ := hx
  unfold XM at hx
  grind
section
variable {m : Nat} {ops : Array Oper} {cs : Array COp} {b : Array Nat}
theorem mem_idx {o : Oper} : (o, i) ∈ ops.toList.zipIdx ↔ ops[i]? = some o := by
 rw [List.mk_mem_zipIdx_iff_getElem?]
 simp
theorem fine_edges (h : J8 m ops cs b = true) {o : Oper} (ho : ops[i]? = some o) {e : Edge} (he : e ∈ o.after.toList) (hb : Region.binds .any e = true) : e.on < i := by
 unfold J8 at h
 simp only [XhN, Xjb] at h
 have := h.1.1 (o, i) (mem_idx.2 ho) e he
 simp_all
theorem fine_dst (h : J8 m ops cs b = true) {o p : Oper} {d : Nat} (ho : ops[i]? = some o) (hp : ops[j]? = some p) (h1 : o.dst = some d) (h2 : p.dst = some d) : i = j := by
 unfold J8 at h
 simp only [XhN, Xjb] at h
 have := h.1.2 (o, i) (mem_idx.2 ho)
 simp only [h1, Xjb] at this
 have := this (p, j) (mem_idx.2 hp)
 simp_all
theorem fine_looks (h : J8 m ops cs b = true) {s : Nat} {o : Oper} (ho : ops[i]? = some o) (hs : s ∈ looks ops o (cs.getD i (.bad ""))) :
  s < 256 /\ s < m /\ ∀ j p, ops[j]? = some p -> p.dst = some s -> (j < i /\ (b.getD i 0).testBit j = true) \/ i = j \/ (i < j /\ (b.getD j 0).testBit i = true) := by
 unfold J8 at h
 simp only [XhN, Xjb] at h
 obtain ⟨⟨h1, h2⟩, h3⟩ := h.2 (o, i) (mem_idx.2 ho) s hs
 rw [blt_iff] at h1 h2
 refine ⟨h1, h2, fun j p hp hd => ?_⟩
 have := h3 (p, j) (mem_idx.2 hp)
 simp only [hd, Bool.or_eq_true, XhN, beq_iff.2 rfl, Bool.not_true, Bool.false_eq_true, false_or, blt_iff] at this
 grind [beq_iff]
end
structure DrawT (P : Program) (c : Ctx) (m : Nat) (ops : Array Oper) (F : Nat -> DS) (st : Nat -> XeA) (V : Nat -> Value) : Prop where
 fine : J8 m ops (ops.map (cOp P m)) (Region.before ops) = true
 trc : Trc c (ops.toList.zipIdx.map fun (o, j) => Xd9 P m ops o j (Xf4 (ops.map (cOp P m)) (Region.before ops) j) (XaS (ops.map (cOp P m)) (Region.before ops) j)) 0 F st V
 g0 : (F 0).g = []
 d0 : (F 0).d = none
def Ahead (ops : Array Oper) (j i : Nat) : Prop := ((Region.before ops).getD i 0).testBit j = true
def GuardIs (ops : Array Oper) (o : Oper) (m : Nat) : Option (Nat × Bool) -> Prop
 | none => o.guard = none
 | some (s, w) => ∃ gi, o.guard = some (gi, w) /\ (ops[gi]?).bind (·.dst) = some s /\ s < m /\ s < 256
section
variable {P : Program} {c : Ctx} {m : Nat} {ops : Array Oper} {F : Nat -> DS} {st : Nat -> XeA} {V : Nat -> Value}
theorem getD_cs {o : Oper} (ho : ops[i]? = some o) : (ops.map (cOp P m)).getD i (.bad "") = cOp P m o := by
 simp_all
theorem DrawT.step (D : DrawT P c m ops F st V) {o : Oper} (ho : ops[i]? = some o) :
  ∃ g, StepT c { guard := g, dst := o.dst, op := cOp P m o, idx := i, un := Xf4 (ops.map (cOp P m)) (Region.before ops) i, pre := XaS (ops.map (cOp P m)) (Region.before ops) i } (F i) (st i) (V i) (F (i + 1)) /\
   (∀ d, o.dst = some d -> d < m /\ d < 256) /\ GuardIs ops o m g := by
 have hs := D.trc.step i (Xd9 P m ops o i (Xf4 (ops.map (cOp P m)) (Region.before ops) i) (XaS (ops.map (cOp P m)) (Region.before ops) i)) (by
  simp_all)
 simp only [XhT] at hs
 rcases Xc1 (P := P) m ops o i (Xf4 (ops.map (cOp P m)) (Region.before ops) i) (XaS (ops.map (cOp P m)) (Region.before ops) i) with ⟨why, hc⟩ | ⟨g, hc, hd, hg⟩
 ·rw [hc] at hs
  exfalso
  rcases hs.view with ⟨_, h, _⟩ | ⟨_, ⟨g, b, h, _⟩, _⟩ | ⟨_, _, ⟨l, h, _⟩, _⟩ | ⟨_, _, _, _, h, _⟩ | ⟨_, _, _, _, ⟨l, t', h⟩, _⟩
  ·unfold ZV at h
   split at h
   ·cases h
   ·simp at h
  ·cases h
  ·cases h
  ·cases h
  ·cases h
 ·rw [hc] at hs
  refine ⟨g, hs, hd, ?_⟩
  cases g with
  | none => exact hg
  | some q => exact hg
theorem DrawT.log (D : DrawT P c m ops F st V) {o : Oper} (hj : j < i) (hi : i <= ops.size) (ho : ops[j]? = some o) : ∃ g, LogIs { guard := g, dst := o.dst, op := cOp P m o, idx := j, un := Xf4 (ops.map (cOp P m)) (Region.before ops) j, pre := XaS (ops.map (cOp P m)) (Region.before ops) j } (F j) (st j) (V j) (Zc j (F i).g) := by
 have hget : (ops.toList.zipIdx.map fun (o, j) => Xd9 P m ops o j (Xf4 (ops.map (cOp P m)) (Region.before ops) j) (XaS (ops.map (cOp P m)) (Region.before ops) j))[j]? = some (Xd9 P m ops o j (Xf4 (ops.map (cOp P m)) (Region.before ops) j) (XaS (ops.map (cOp P m)) (Region.before ops) j)) := by
  rw [Xic, List.getElem?_zipIdx]
  simp [ho]
 have h := (log_at D.trc D.g0 ?_ i (by simpa using hi)).1 j _ hj hget
 ·rcases Xc1 (P := P) m ops o j (Xf4 (ops.map (cOp P m)) (Region.before ops) j) (XaS (ops.map (cOp P m)) (Region.before ops) j) with ⟨why, hc⟩ | ⟨g, hc, hd, hg⟩
  ·exfalso
   have hs := D.trc.step j _ hget
   simp only [XhT] at hs
   rw [hc] at hs
   rcases hs.view with ⟨_, h, _⟩ | ⟨_, ⟨g, b, h, _⟩, _⟩ | ⟨_, _, ⟨l, h, _⟩, _⟩ | ⟨_, _, _, _, h, _⟩ | ⟨_, _, _, _, ⟨l, t', h⟩, _⟩
   ·unfold ZV at h
    grind
   ·cases h
   ·cases h
   ·cases h
   ·cases h
  ·rw [hc] at h
   exact ⟨g, h⟩
 ·intro k co hk
  rw [Xic, List.getElem?_zipIdx] at hk
  obtain ⟨q, h1, rfl⟩ := Xl hk
  obtain ⟨o', h2, rfl⟩ := Xl h1
  simp only [XhT]
  rcases Xc1 (P := P) m ops o' k (Xf4 (ops.map (cOp P m)) (Region.before ops) k) (XaS (ops.map (cOp P m)) (Region.before ops) k) with ⟨why, hc⟩ | ⟨g, hc, hd, hg⟩ <;> rw [hc]
def Wr (P : Program) (m : Nat) (ops : Array Oper) (st : Nat -> XeA) (i : Nat) : Prop := (st i = .turn \/ st i = .panicked) /\ ∃ o, ops[i]? = some o /\ (cOp P m o).writes = true
theorem mem_un {o p : Oper} (hi : ops[i]? = some o) (hj : ops[j]? = some p) (hlt : i < j) (hn : ¬ Ahead ops i j)
  (h : (Xf3 (cOp P m o) = true /\ (cOp P m p).writes = true) \/ ((cOp P m o).writes = true /\ Xf3 (cOp P m p) = true) \/ ((cOp P m o).writes = true /\ (cOp P m p).writes = true)) : i ∈ Xf4 (ops.map (cOp P m)) (Region.before ops) j := by
 unfold Xf4
 rw [XiW, Xjd]
 refine ⟨hlt, ?_⟩
 rw [getD_cs hi, getD_cs hj]
 have : ((Region.before ops).getD j 0).testBit i = false := by
  cases hb : ((Region.before ops).getD j 0).testBit i with
  | false => rfl
  | true => exact absurd hb hn
 grind
variable (D : DrawT P c m ops F st V)
include D
theorem DrawT.size_of {o : Oper} (ho : ops[i]? = some o) : i < ops.size := by
 exact (Array.getElem?_eq_some_iff.1 ho).1
theorem DrawT.get (hi : i < ops.size) : ops[i]? = some ops[i] := Array.getElem?_eq_getElem hi
theorem DrawT.worder (hlt : i < j) (hi : Wr P m ops st i) (hj : Wr P m ops st j) : Ahead ops i j := by
 apply Classical.byContradiction
 intro hn
 obtain ⟨s1, o, ho, w1⟩ := hi
 obtain ⟨s2, p, hp, w2⟩ := hj
 have hun := mem_un ho hp hlt hn (.inr (.inr ⟨w1, w2⟩))
 obtain ⟨g, hlog⟩ := D.log hlt (Nat.le_of_lt (D.size_of hp)) ho
 have hwr : Zc i (F j).g = some (.wr (F i).h) := by
  rcases s1 with s1 | s1 <;> (rw [s1] at hlog; exact hlog)
 obtain ⟨g', hs, _⟩ := D.step hp
 have bad : ∀ h, ZG (F j).g h (Xf4 (ops.map (cOp P m)) (Region.before ops) j) = true -> False := by
  intro h hu
  have := unTurn_all hu hun
  rw [hwr] at this
  exact this
 rcases hs.view with ⟨q, _⟩ | ⟨q, _⟩ | ⟨q, _⟩ | ⟨q, _, _, _, _, hu, _⟩ | ⟨q, _, _, _, _, hu, _⟩
 ·simp_all
 ·simp_all
 ·simp_all
 ·exact bad _ hu
 ·exact bad _ hu
theorem DrawT.look_then {o : Oper} {l : Zj} (ho : ops[i]? = some o) (hl : YN (cOp P m o) = some l) (hs : st i = .look) (hlt : i < j) (hj : Wr P m ops st j) (hn : ¬ Ahead ops i j) : l (F i).t (F (j + 1)).h = some (V i) := by
 obtain ⟨g0, hs0, _⟩ := D.step ho
 have here : l (F i).t (F i).h = some (V i) := by
  rcases hs0.view with ⟨q, _⟩ | ⟨q, _⟩ | ⟨q, _, ⟨l', h1, h2, _⟩, _⟩ | ⟨q, _⟩ | ⟨q, _⟩ <;> first | (rw [hs] at q; cases q; done) | skip
  rw [hl] at h1
  cases h1
  exact h2
 cases hm : Xf3 (cOp P m o) with
 | false => rw [look_plain hl hm _ _ (F i).h]; exact here
 | true =>
  obtain ⟨s2, p, hp, w2⟩ := hj
  have hun := mem_un ho hp hlt hn (.inl ⟨hm, w2⟩)
  obtain ⟨g, hlog⟩ := D.log hlt (Nat.le_of_lt (D.size_of hp)) ho
  rw [hs] at hlog
  obtain ⟨l', h1, h2⟩ := hlog
  replace h1 : YN (cOp P m o) = some l' := h1
  rw [hl] at h1
  cases h1
  obtain ⟨g', hsj, _⟩ := D.step hp
  have fin : ZG (F j).g (F (j + 1)).h (Xf4 (ops.map (cOp P m)) (Region.before ops) j) = true -> l (F i).t (F (j + 1)).h = some (V i) := by
   intro hu
   have := unTurn_all hu hun
   rw [h2] at this
   exact tellsAs_eq this
  rcases hsj.view with ⟨q, _⟩ | ⟨q, _⟩ | ⟨q, _⟩ | ⟨q, _, _, _, _, hu, _⟩ | ⟨q, _, _, _, _, hu, _⟩
  ·simp_all
  ·simp_all
  ·simp_all
  ·exact fin hu
  ·exact fin hu
theorem DrawT.look_ahead {o : Oper} {l : Zj} (ho : ops[i]? = some o) (hl : YN (cOp P m o) = some l) (hs : st i = .look) (hlt : j < i) (hj : Wr P m ops st j) (hn : ¬ Ahead ops j i) : l (F i).t (F j).h = some (V i) := by
 obtain ⟨g0, hs0, _⟩ := D.step ho
 rcases hs0.view with ⟨q, _⟩ | ⟨q, _⟩ | ⟨q, _, ⟨l', h1, h2, h3⟩, _⟩ | ⟨q, _⟩ | ⟨q, _⟩ <;> first | (rw [hs] at q; cases q; done) | skip
 replace h1 : YN (cOp P m o) = some l' := h1
 rw [hl] at h1
 cases h1
 cases hm : Xf3 (cOp P m o) with
 | false => rw [look_plain hl hm _ _ (F i).h]; exact h2
 | true =>
  obtain ⟨s2, p, hp, w2⟩ := hj
  have hun := mem_un hp ho hlt hn (.inr (.inl ⟨w2, hm⟩))
  obtain ⟨g, hlog⟩ := D.log hlt (Nat.le_of_lt (D.size_of ho)) hp
  have hwr : Zc j (F i).g = some (.wr (F j).h) := by
   rcases s2 with s2 | s2 <;> (rw [s2] at hlog; exact hlog)
  grind [unLook_all, tellsAs_eq]
end
section
variable {P : Program} {B : Nat} {c : Ctx} {m : Nat} {ops : Array Oper} {F : Nat -> DS} {st : Nat -> XeA} {V : Nat -> Value} {b : Frame}
theorem wanted_of {ι : Inj} {t : Tm} {a : Act} {o : Oper} {g : Option (Nat × Bool)} {co : W0} (hco : co.guard = g) (hT : TmRel ι m t a.tmps) (hg : GuardIs ops o m g) (hw : Un co t) : Region.wanted o (yielded ops a.tmps) = true := by
 unfold Un at hw
 rw [hco] at hw
 cases g with
 | none => unfold Region.wanted; rw [show o.guard = none from hg]
 | some q =>
  obtain ⟨s, wb⟩ := q
  obtain ⟨gi, g1, g2, g3, g4⟩ := hg
  rw [wants_ok hT g1 g2 g3 g4]
  exact hw
variable (D : DrawT P c m ops F st V)
include D
theorem DrawT.ghost_step (C : Vr P B c) {o : Oper} (ho : ops[i]? = some o) {w : World} {a : Act} {cs : List Frame} (S : St P B κ (F i).h w m b (F i).t (F i).x a cs) :
  (∃ κ' w' a' cs', St P B κ' (F (i + 1)).h w' m b (F (i + 1)).t (F (i + 1)).x a' cs') /\ (F i).h.next <= (F (i + 1)).h.next /\
   (st i = .look -> ∃ κ' v', (∀ b p, κ' b = some p -> b < (F (i + 1)).h.next) /\ VRel κ' (V i) v') := by
 obtain ⟨g, hs, hd, hg⟩ := D.step ho
 rcases hs.view with ⟨q, _, e⟩ | ⟨q, _, hv, e1, e2, e3, _⟩ | ⟨q, hw, ⟨l, hl, hv, _⟩, e1, e2, e3, _⟩ | ⟨q, hw, hl, _, hx, _, e1, _⟩ | ⟨q, hw, hl, _, ⟨l, t', hx⟩, _, e1, _⟩
 ·grind
 ·rw [e1, e2, e3]
  exact ⟨⟨κ, w, _, cs, S.put hd (Xag κ)⟩, XhE _, fun h => by rw [q] at h; cases h⟩
 ·obtain ⟨v', h1, h2⟩ := look_sound S.sim S.tmps hl hv
  rw [e1, e2, e3]
  exact ⟨⟨κ, w, _, cs, S.put hd h2⟩, XhE _, fun _ => ⟨κ, v', S.sim.bound, h2⟩⟩
 ·have hwant := wanted_of rfl S.tmps hg hw
  obtain ⟨ι', w', a', cs', v', h1, h2, h3, h4, h5, h6⟩ := turn_big (b := b) (fr := b.atR a (.inRegion ops (i :: []) :: [])) C rfl rfl rfl rfl (does_op ho hwant (nd_turn hx (by simp) S.round)) S hl hx
  rw [e1]
  exact ⟨⟨ι', w', _, cs', h4.put hd h3⟩, h5.next, fun h => by rw [q] at h; cases h⟩
 ·have hwant := wanted_of rfl S.tmps hg hw
  obtain ⟨ι', w', v', h1, h2, h3, h4, h5⟩ := turn_bigP (b := b) (fr := b.atR a (.inRegion ops (i :: []) :: [])) C rfl rfl rfl rfl (does_op ho hwant (nd_turn hx (by simp) S.round)) S hl hx
  rw [e1, h3]
  exact ⟨⟨ι', w', a, cs, h4⟩, h5.next, fun h => by rw [q] at h; cases h⟩
theorem DrawT.ghost (C : Vr P B c) {w : World} {a : Act} {cs : List Frame} (S : St P B κ (F 0).h w m b (F 0).t (F 0).x a cs) : ∀ i, i <= ops.size -> ∃ κ' w' a' cs', St P B κ' (F i).h w' m b (F i).t (F i).x a' cs' := by
 intro i
 induction i with
 | zero => intro _; exact ⟨κ, w, a, cs, S⟩
 | succ i ih =>
  intro hi
  obtain ⟨κ', w', a', cs', S'⟩ := ih (by omega)
  exact (D.ghost_step C (D.get hi) S').1
theorem DrawT.tstep {o : Oper} (ho : ops[i]? = some o) : (((F (i + 1)).t = (F i).t) /\ (st i = .dead \/ st i = .panicked)) \/ ((F (i + 1)).t = dPut o.dst (V i) (F i).t /\ st i ≠ .dead /\ st i ≠ .panicked) := by
 obtain ⟨g, hs, hd, hg⟩ := D.step ho
 rcases hs.view with ⟨q, _, e⟩ | ⟨q, _, hv, e1, e2, e3, _⟩ | ⟨q, hw, ⟨l, hl, hv, _⟩, e1, e2, e3, _⟩ | ⟨q, hw, hl, _, hx, _, e1, _⟩ | ⟨q, hw, hl, _, ⟨l, t', hx⟩, _, e1, _⟩
 ·exact .inl ⟨by rw [e], .inl q⟩
 ·simp_all
 ·simp_all
 ·simp_all
 ·exact .inl ⟨e1, .inr q⟩
theorem DrawT.dst_lt {o : Oper} (ho : ops[i]? = some o) {d : Nat} (hd : o.dst = some d) : d < m /\ d < 256 := by
 obtain ⟨g, hs, h, hg⟩ := D.step ho
 exact h d hd
theorem DrawT.tbase {s : Nat} (hs : s < 256) : ∀ i, i <= ops.size -> (∀ (j : Nat) (o : Oper), j < i -> ops[j]? = some o -> o.dst ≠ some s) -> Zi s (F i).t = Zi s (F 0).t := by
 intro i
 induction i with
 | zero => intro _ _; rfl
 | succ i ih0 =>
  intro hi hn0
  have hn := fun (j : Nat) (o : Oper) (h : j < i + 1) => hn0 j o h
  have ih := fun (h : i <= ops.size) => ih0 h fun j o hj => hn0 j o (by omega)
  have ho := D.get hi
  rcases D.tstep ho with ⟨e, _⟩ | ⟨e, _⟩
  ·rw [e]; exact ih (by omega)
  ·rw [e]
   cases hd : ops[i].dst with
   | none => exact ih (by omega)
   | some d =>
    show Zi s (JK d (V i) (F i).t) = _
    rw [XcX (D.dst_lt ho hd).2 hs (fun h => hn i _ (Xh0 i) ho (by rw [hd, h]))]
    exact ih (by omega)
theorem DrawT.tslot {p : Oper} (hp : ops[j]? = some p) {d : Nat} (hd : p.dst = some d) (h1 : st j ≠ .dead) (h2 : st j ≠ .panicked) : ∀ i, j < i -> i <= ops.size -> Zi d (F i).t = V j := by
 intro i
 induction i with
 | zero => intro h; omega
 | succ i ih =>
  intro hji hi
  have ho := D.get hi
  by_cases e : j = i
  ·subst e
   rcases D.tstep hp with ⟨_, q | q⟩ | ⟨e1, _⟩
   ·exact absurd q h1
   ·exact absurd q h2
   ·rw [e1, hd]
    show Zi d (JK d (V j) (F j).t) = _
    rw [slot_same]
  ·have := ih (by omega) (by omega)
   rcases D.tstep ho with ⟨e1, _⟩ | ⟨e1, _⟩
   ·rw [e1]; exact this
   ·rw [e1]
    cases hd' : ops[i].dst with
    | none => exact this
    | some d' =>
     show Zi d (JK d' (V i) (F i).t) = _
     rw [XcX (D.dst_lt ho hd').2 (D.dst_lt hp hd).2 (fun h => e (fine_dst D.fine hp ho hd (by rw [hd', h])))]
     exact this
theorem DrawT.dpan : ∀ i, i <= ops.size -> ∀ p v, (F i).d = some (p, v) -> p < i /\ st p = .panicked /\ V p = v := by
 intro i
 induction i with
 | zero => intro _ p v h; rw [D.d0] at h; cases h
 | succ i ih =>
  intro hi p v h
  have ho := D.get hi
  obtain ⟨g, hs, hd, hg⟩ := D.step ho
  have old : (F i).d = some (p, v) -> p < i + 1 /\ st p = .panicked /\ V p = v := fun h => by
   grind
  rcases hs.view with ⟨q, _, e⟩ | ⟨q, _, hv, e1, e2, e3, e4⟩ | ⟨q, hw, ⟨l, hl, hv, _⟩, e1, e2, e3, e4⟩ | ⟨q, hw, hl, _, hx, _, e1, e4⟩ | ⟨q, hw, hl, _, ⟨l, t', hx⟩, _, e1, e4⟩
  ·rw [e] at h; exact old h
  ·rw [e4] at h; exact old h
  ·rw [e4] at h; exact old h
  ·rw [e4] at h; exact old h
  grind
theorem DrawT.dead_of {o : Oper} (ho : ops[i]? = some o) (hs : st i = .dead) : ∃ p, st p = .panicked /\ Ahead ops p i := by
 obtain ⟨g, h, hd, hg⟩ := D.step ho
 rcases h.view with ⟨q, ha, e⟩ | ⟨q, _⟩ | ⟨q, _⟩ | ⟨q, _⟩ | ⟨q, _⟩ <;> first | (rw [hs] at q; cases q; done) | skip
 unfold ZV at ha
 split at ha
 ·cases ha
 ·rename_i j v hj
  obtain ⟨h1, h2, h3⟩ := D.dpan i (Nat.le_of_lt (D.size_of ho)) j v hj
  refine ⟨j, h2, ?_⟩
  have hm : j ∈ XaS (ops.map (cOp P m)) (Region.before ops) i := by simpa using ha
  unfold XaS at hm
  have := (XiW.1 hm).2
  rw [XhN] at this
  exact this.1
theorem DrawT.pan_after (hj : j < ops.size) (hs : st j = .panicked) : ∀ i, j < i -> i <= ops.size -> (F i).d = some (j, V j) := by
 intro i
 induction i with
 | zero => intro h; omega
 | succ i ih =>
  intro hji hi
  have ho := D.get hi
  obtain ⟨g, h, hd, hg⟩ := D.step ho
  by_cases e : j = i
  ·subst e
   rcases h.view with ⟨q, _⟩ | ⟨q, _⟩ | ⟨q, _⟩ | ⟨q, _⟩ | ⟨q, hw, hl, _, _, _, e1, e4⟩ <;> first | (rw [hs] at q; cases q; done) | skip
   exact e4
  ·have := ih (by omega) (by omega)
   rcases h.view with ⟨q, _, e⟩ | ⟨q, _, hv, e1, e2, e3, e4⟩ | ⟨q, hw, ⟨l, hl, hv, _⟩, e1, e2, e3, e4⟩ | ⟨q, hw, hl, _, hx, _, e1, e4⟩ | ⟨q, hw, hl, hn, ⟨l, t', hx⟩, _, e1, e4⟩
   ·rw [e]; exact this
   ·rw [e4]; exact this
   ·rw [e4]; exact this
   ·rw [e4]; exact this
   ·rw [this] at hn; cases hn
theorem DrawT.pan_last (hs : st j = .panicked) (hj : j < ops.size) (hlt : j < i) : ¬ Wr P m ops st i := by
 rintro ⟨s2, p, hp, w2⟩
 have hd := D.pan_after hj hs i hlt (Nat.le_of_lt (D.size_of hp))
 obtain ⟨g, h, _, _⟩ := D.step hp
 rcases h.view with ⟨q, _⟩ | ⟨q, _⟩ | ⟨q, _⟩ | ⟨q, _, _, hn, _⟩ | ⟨q, _, _, hn, _⟩
 ·simp_all
 ·simp_all
 ·simp_all
 ·simp_all
 ·rw [hd] at hn; cases hn
theorem DrawT.pan_wr (hj : j < ops.size) (hs : st j = .panicked) : Wr P m ops st j := by
 obtain ⟨g, h, _, _⟩ := D.step (D.get hj)
 rcases h.view with ⟨q, _⟩ | ⟨q, _⟩ | ⟨q, _⟩ | ⟨q, _⟩ | ⟨q, hw, hl, hn, ⟨l, t', hx⟩, _⟩ <;> first | (rw [hs] at q; cases q; done) | skip
 exact ⟨.inr hs, _, D.get hj, pan_writes hx⟩
theorem DrawT.still (hi : i < ops.size) (hw : ¬ Wr P m ops st i) : (F (i + 1)).x = (F i).x /\ ((F (i + 1)).h = (F i).h \/ (st i = .turn /\ ∃ o1, lone1 o1 /\ (F (i + 1)).h = (F i).h.push o1)) := by
 have ho := D.get hi
 obtain ⟨g, h, _, _⟩ := D.step ho
 rcases h.view with ⟨q, _, e⟩ | ⟨q, _, hv, e1, e2, e3, e4⟩ | ⟨q, _, ⟨l, hl, hv, _⟩, e1, e2, e3, e4⟩ | ⟨q, _, hl, _, hx, _, e1, e4⟩ | ⟨q, _, hl, _, ⟨l, t', hx⟩, _, e1, e4⟩
 ·rw [e]; exact ⟨rfl, .inl rfl⟩
 ·exact ⟨e2, .inl e3⟩
 ·exact ⟨e2, .inl e3⟩
 ·have hnw : (cOp P m ops[i]).writes = false := by
   cases hb : (cOp P m ops[i]).writes with
   | false => rfl
   | true => exact absurd ⟨.inl q, _, ho, hb⟩ hw
  grind [quiet_fresh]
 ·exact absurd (D.pan_wr hi q) hw
end
theorem Inj.cut_mono (ι : Inj) {n' : Nat} (h : n <= n') : (ι.cut n).le (ι.cut n') := fun b p hb => Inj.cut_of (Inj.cut_some hb).2 (Xia (Inj.cut_some hb).1 h)
theorem Inj.cut_le_cut {ι ι' : Inj} (h : ι.le ι') (n : Nat) : (ι.cut n).le (ι'.cut n) := fun b p hb => Inj.cut_of (h b p (Inj.cut_some hb).2) (Inj.cut_some hb).1
theorem Inj.cut_at (ι : Inj) (n k : Nat) : ι.cut n k = if k < n then ι k else none := rfl
theorem Inj.with_at (ι : Inj) (n : Nat) (p : Place) (k : Nat) : ι.with n p k = if k = n then some p else ι k := rfl
theorem Inj.cut_none {ι : Inj} {b : Nat} (h : ι b = none) : ι.cut n b = none := by rw [Inj.cut_at, h]; split <;> rfl
theorem Inj.cut_ge {ι : Inj} {b : Nat} (h : n <= b) : ι.cut n b = none := by rw [Inj.cut_at, if_neg (by omega)]
theorem Inj.cut_succ_none {ι : Inj} (h : ι n = none) : ι.cut (n + 1) = ι.cut n := by
 funext k
 rw [Inj.cut_at, Inj.cut_at]
 grind
theorem Inj.cut_succ_some {ι : Inj} {p : Place} (h : ι n = some p) : ι.cut (n + 1) = (ι.cut n).with n p := by
 funext k
 rw [Inj.cut_at, Inj.with_at, Inj.cut_at]
 grind
section
variable {P : Program} {B : Nat}
theorem Adv.push {ι0 : Inj} {H0 H : Heap} {w0 w : World} (h : Adv ι0 H0 w0 κ H w) (o : AObj) : Adv ι0 H0 w0 κ (H.push o) w := by
 have hn := h.next
 refine ⟨h.le, h.os, h.tape, h.output, h.size, by simp; omega, h.img, h.keep, fun b hb hi => ?_, fun b o' hb hg => ?_⟩
 ·rw [Heap.get_push, if_neg (by omega)]; exact h.out b hb hi
 ·rw [Heap.get_push, if_neg (by omega)] at hg; exact h.back b o' hb hg
theorem Adv.learn {ι0 : Inj} {H0 H : Heap} {w0 w : World} (h : Adv ι0 H0 w0 κ H w) {b : Nat} {p : Place} (hk : κ b = none) (h0 : ι0 b = none) (hb : H0.next <= b) (hp : w0.heap.size <= p.b) : Adv ι0 H0 w0 (κ.with b p) H w := by
 refine ⟨Inj.le_trans h.le (Inj.with_le hk p), h.os, h.tape, h.output, h.size, h.next, fun c q hc => ?_, h.keep, h.out, h.back⟩
 rcases Inj.with_cases hc with ⟨rfl, rfl⟩ | ⟨hne, hc'⟩
 ·exact .inr ⟨h0, hb, .inl hp⟩
 ·exact h.img c q hc'
theorem Adv.grown (κ : Inj) (H : Heap) {w w1 : World} (os : w1.os = w.os) (tape : w1.tape = w.tape /\ w.drawn <= w1.drawn) (out : w1.output = w.output) (hs : w.heap.size <= w1.heap.size) (hk : ∀ k, k < w.heap.size -> w1.heap[k]? = w.heap[k]?) : Adv κ H w κ H w1 :=
 ⟨κ.le_refl, os, tape, out, hs, XhE _, fun _ _ h => .inl h, fun k h _ => hk k h, fun _ _ _ => rfl, fun _ o' _ h => ⟨o', h, id⟩⟩
end
structure Mem (P : Program) (B : Nat) (m : Nat) (ops : Array Oper) (F : Nat -> DS) (st : Nat -> XeA) (ι0 : Inj) (w0 : World) (S : Nat -> Prop) (u : Nat) (ι : Inj) (w : World) : Prop where
 un : u <= ops.size
 sn : ∀ j, S j -> j < ops.size
 wlo : ∀ j, j < u -> Wr P m ops st j -> S j
 whi : ∀ j, u <= j -> S j -> ¬ Wr P m ops st j
 core : Sim P B (ι.cut (F u).h.next) (F u).h w
 adv : Adv ι0 (F 0).h w0 (ι.cut (F u).h.next) (F u).h w
 dom : ∀ b p, ι b = some p -> b < (F 0).h.next \/ ∃ j, S j /\ (F j).h.next <= b /\ b < (F (j + 1)).h.next
 lt : ∀ b p, ι b = some p -> p.b < w.heap.size
 extra : ∀ b p, ι b = some p -> (F u).h.next <= b -> w0.heap.size <= p.b /\ (∀ b' p', ι b' = some p' -> b' ≠ b -> p'.b ≠ p.b) /\
  ∃ j o, S j /\ u <= j /\ (F j).h.next = b /\ lone1 o /\ (F (j + 1)).h = (F j).h.push o /\ ObjRel P B (ι.cut (b + 1)) (F (j + 1)).h w p o
 late : ∀ j, j < u -> ¬ S j -> st j = .turn -> ∀ b, (F j).h.next <= b -> b < (F (j + 1)).h.next -> (F u).h.get b = (F (j + 1)).h.get b
section
variable {P : Program} {B : Nat} {c : Ctx} {m : Nat} {ops : Array Oper} {F : Nat -> DS} {st : Nat -> XeA} {V : Nat -> Value} {b : Frame}
variable {ι0 : Inj} {w0 : World} {S : Nat -> Prop} {u : Nat} {ι : Inj} {w : World}
abbrev Mono (ops : Array Oper) (F : Nat -> DS) : Prop := ∀ i j, i <= j -> j <= ops.size -> (F i).h.next <= (F j).h.next
theorem Mono.one (hm : Mono ops F) {k : Nat} (hi : i < ops.size) (hj : j < ops.size) (h1 : (F i).h.next <= k) (h2 : k < (F (i + 1)).h.next) (h3 : (F j).h.next <= k) (h4 : k < (F (j + 1)).h.next) : i = j := by
 rcases Nat.lt_trichotomy i j with h | h | h
 ·have := hm (i + 1) j h (by omega); omega
 ·exact h
 ·have := hm (j + 1) i h (by omega); omega
theorem Mem.none_at (M : Mem P B m ops F st ι0 w0 S u ι w) (hm : Mono ops F) (hi : i < ops.size) (hS : ¬ S i) {k : Nat} (h1 : (F i).h.next <= k) (h2 : k < (F (i + 1)).h.next) : ι k = none := by
 cases e : ι k with
 | none => rfl
 | some p =>
  exfalso
  rcases M.dom k p e with h | ⟨j, hj, h3, h4⟩
  ·have := hm 0 i (by omega) (by omega); omega
  ·have := hm.one hi (M.sn j hj) h1 h2 h3 h4
   subst this
   exact hS hj
theorem Mem.raise (D : DrawT P c m ops F st V) (hm : Mono ops F) (h0 : ∀ b p, ι0 b = some p -> b < (F 0).h.next) (M : Mem P B m ops F st ι0 w0 S u ι w) (hu : u < ops.size) (hw : ¬ Wr P m ops st u) : Mem P B m ops F st ι0 w0 S (u + 1) ι w := by
 obtain ⟨hx, hh⟩ := D.still hu hw
 have late' : ∀ j, j < u + 1 -> ¬ S j -> st j = .turn -> ∀ b, (F j).h.next <= b -> b < (F (j + 1)).h.next -> (F (u + 1)).h.get b = (F (j + 1)).h.get b := by
  intro j hj hS hs b h1 h2
  by_cases e : j = u
  ·subst e; rfl
  ·have hbn : b < (F u).h.next := Xia h2 (hm (j + 1) u (by omega) M.un)
   rw [<- M.late j (by omega) hS hs b h1 h2]
   rcases hh with hh | ⟨_, o1, _, hh⟩
   ·rw [hh]
   ·rw [hh, Heap.get_push, if_neg (by omega)]
 have wlo' : ∀ j, j < u + 1 -> Wr P m ops st j -> S j := fun j hj hW => by
  by_cases e : j = u
  ·subst e; exact absurd hW hw
  ·exact M.wlo j (by omega) hW
 have whi' : ∀ j, u + 1 <= j -> S j -> ¬ Wr P m ops st j := fun j hj hS => M.whi j (by omega) hS
 rcases hh with hh | ⟨hst, o1, ho1, hh⟩
 ·refine ⟨by omega, M.sn, wlo', whi', by rw [hh]; exact M.core, by rw [hh]; exact M.adv, M.dom, M.lt, fun b p hp hb => ?_, late'⟩
  rw [hh] at hb
  obtain ⟨k1, k2, j, o, k3, k4, k5, k6, k7, k8⟩ := M.extra b p hp hb
  refine ⟨k1, k2, j, o, k3, ?_, k5, k6, k7, k8⟩
  by_cases e : j = u
  ·subst e
   exfalso
   have := congrArg Heap.next (hh.symm.trans k7)
   simp at this
  ·omega
 ·have hn : (F (u + 1)).h.next = (F u).h.next + 1 := by rw [hh]; rfl
  have ex : ∀ b p, ι b = some p -> (F (u + 1)).h.next <= b -> w0.heap.size <= p.b /\ (∀ b' p', ι b' = some p' -> b' ≠ b -> p'.b ≠ p.b) /\
    ∃ j o, S j /\ u + 1 <= j /\ (F j).h.next = b /\ lone1 o /\ (F (j + 1)).h = (F j).h.push o /\ ObjRel P B (ι.cut (b + 1)) (F (j + 1)).h w p o := by
   intro b p hp hb
   obtain ⟨k1, k2, j, o, k3, k4, k5, k6, k7, k8⟩ := M.extra b p hp (by omega)
   refine ⟨k1, k2, j, o, k3, ?_, k5, k6, k7, k8⟩
   by_cases e : j = u
   ·subst e; omega
   ·omega
  cases e : ι (F u).h.next with
  | none =>
   refine ⟨by omega, M.sn, wlo', whi', ?_, ?_, M.dom, M.lt, ex, late'⟩
   ·rw [hn, Inj.cut_succ_none e, hh]; exact M.core.push o1
   ·rw [hn, Inj.cut_succ_none e, hh]; exact M.adv.push o1
  | some p =>
   obtain ⟨k1, k2, j, o, k3, k4, k5, k6, k7, k8⟩ := M.extra _ p e (XhE _)
   have hju : j = u := by
    have hj := M.sn j k3
    by_cases h : j = u
    ·exact h
    ·grind
   subst hju
   have hno : ι.cut (F j).h.next (F j).h.next = none := Inj.cut_ge (XhE _)
   refine ⟨by omega, M.sn, wlo', whi', ?_, ?_, M.dom, M.lt, ex, late'⟩
   ·rw [hn, Inj.cut_succ_some e, hh]
    refine (M.core.push o1).learn hno (by simp) (M.lt _ _ e) (fun b' p' hb' => k2 b' p' (Inj.cut_some hb').2 (by have := (Inj.cut_some hb').1; omega)) ?_
    simp_all [Heap.get_push, if_pos, Inj.cut_succ_some, Inj.le_refl]
   ·rw [hn, Inj.cut_succ_some e, hh]
    refine (M.adv.push o1).learn hno ?_ (hm 0 j (by omega) (by omega)) k1
    cases e' : ι0 (F j).h.next with
    | none => rfl
    | some q =>
     have := h0 _ _ e'
     have := hm 0 j (by omega) (by omega)
     omega
theorem Mem.mark (M : Mem P B m ops F st ι0 w0 S u ι w) (h0 : ∀ b p, ι0 b = some p -> b < (F 0).h.next) (hi : i < ops.size) (hW : ¬ Wr P m ops st i) {w1 : World} (os : w1.os = w.os) (tape : w1.tape = w.tape /\ w.drawn <= w1.drawn) (out : w1.output = w.output)
  (hs : w.heap.size <= w1.heap.size) (hk : ∀ k, k < w.heap.size -> w1.heap[k]? = w.heap[k]?) : Mem P B m ops F st ι0 w0 (fun j => S j \/ j = i) u ι w1 := by
 refine ⟨M.un, fun j hj => ?_, fun j hj hw => .inl (M.wlo j hj hw), fun j hj hS => ?_, M.core.grown hs hk, Adv.trans h0 M.adv (Adv.grown _ _ os tape out hs hk), fun b p hp => ?_, fun b p hp => Xia (M.lt b p hp) hs, fun b p hp hb => ?_, fun j hj hS => M.late j hj fun h => hS (.inl h)⟩
 ·rcases hj with hj | rfl
  ·exact M.sn j hj
  ·exact hi
 ·rcases hS with hS | rfl
  ·exact M.whi j hj hS
  ·exact hW
 ·rcases M.dom b p hp with h | ⟨j, h1, h2⟩
  ·exact .inl h
  ·exact .inr ⟨j, .inl h1, h2⟩
 ·obtain ⟨k1, k2, j, o, k3, k4, k5, k6, k7, k8⟩ := M.extra b p hp hb
  exact ⟨k1, k2, j, o, .inl k3, k4, k5, k6, k7, k8.shift k6 (Inj.le_refl _) (hk _ (M.lt b p hp))⟩
theorem Mem.write (hm : Mono ops F) (h0 : ∀ b p, ι0 b = some p -> b < (F 0).h.next) (M : Mem P B m ops F st ι0 w0 S u ι w) (hu : u < ops.size) (hS : ¬ S u) {ι1 : Inj} {w1 : World} (s1 : Sim P B ι1 (F (u + 1)).h w1) (a1 : Adv (ι.cut (F u).h.next) (F u).h w ι1 (F (u + 1)).h w1) :
  ∃ ι', Mem P B m ops F st ι0 w0 (fun j => S j \/ j = u) (u + 1) ι' w1 /\ ι.le ι' /\ ι'.cut (F (u + 1)).h.next = ι1 := by
 have hnn := hm u (u + 1) (by omega) hu
 let ι' : Inj := fun b => if b < (F (u + 1)).h.next then ι1 b else ι b
 have lo : ∀ b, b < (F (u + 1)).h.next -> ι' b = ι1 b := fun b hb => if_pos hb
 have hi' : ∀ b, (F (u + 1)).h.next <= b -> ι' b = ι b := fun b hb => if_neg (by omega)
 have hcut : ι'.cut (F (u + 1)).h.next = ι1 := by
  funext k
  by_cases hk : k < (F (u + 1)).h.next
  ·unfold Inj.cut; rw [if_pos hk, lo k hk]
  ·rw [Inj.cut_ge (by omega)]
   cases e : ι1 k with
   | none => rfl
   | some p => exact absurd (s1.bound k p e) hk
 have hle : ι.le ι' := by
  intro b p hp
  by_cases h : b < (F (u + 1)).h.next
  ·rw [lo b h]
   by_cases h' : b < (F u).h.next
   ·exact a1.le b p (Inj.cut_of hp h')
   ·rw [M.none_at hm hu hS (by omega) h] at hp; cases hp
  ·rw [hi' b (by omega)]; exact hp
 refine ⟨ι', ⟨hu, fun j hj => ?_, fun j hj hw => ?_, fun j hj hSj => ?_, by rw [hcut]; exact s1, by rw [hcut]; exact Adv.trans h0 M.adv a1, fun b p hp => ?_, fun b p hp => ?_, fun b p hp hb => ?_, fun j hj hSj hst b hb1 hb2 => ?_⟩, hle, hcut⟩
 ·rcases hj with hj | rfl
  ·exact M.sn j hj
  ·exact hu
 ·by_cases e : j = u
  ·exact .inr e
  ·exact .inl (M.wlo j (by omega) hw)
 ·rcases hSj with hSj | rfl
  ·exact M.whi j (by omega) hSj
  ·omega
 ·by_cases h : b < (F (u + 1)).h.next
  ·rw [lo b h] at hp
   rcases a1.img b p hp with h1 | ⟨h1, h2, h3⟩
   ·rcases M.dom b p (Inj.cut_some h1).2 with h4 | ⟨j, h4, h5⟩
    ·exact .inl h4
    ·exact .inr ⟨j, .inl h4, h5⟩
   ·exact .inr ⟨u, .inr rfl, h2, h⟩
  ·rw [hi' b (by omega)] at hp
   rcases M.dom b p hp with h4 | ⟨j, h4, h5⟩
   ·exact .inl h4
   ·exact .inr ⟨j, .inl h4, h5⟩
 ·by_cases h : b < (F (u + 1)).h.next
  ·rw [lo b h] at hp; exact s1.lt b p hp
  ·rw [hi' b (by omega)] at hp; exact Xia (M.lt b p hp) a1.size
 ·rw [hi' b hb] at hp
  obtain ⟨k1, k2, j, o, k3, k4, k5, k6, k7, k8⟩ := M.extra b p hp (by omega)
  have hplt := M.lt b p hp
  refine ⟨k1, fun b' p' hp' hne => ?_, j, o, .inl k3, ?_, k5, k6, k7, k8.shift k6 (Inj.cut_le_cut hle _) ?_⟩
  ·by_cases h : b' < (F (u + 1)).h.next
   ·rw [lo b' h] at hp'
    rcases a1.img b' p' hp' with h1 | ⟨h1, h2, h3 | ⟨c0, q0, o0, e1, e2, e3, e4⟩⟩
    ·exact k2 b' p' (Inj.cut_some h1).2 hne
    ·omega
    ·rw [<- e4]
     exact k2 c0 q0 (Inj.cut_some e1).2 (by have := (Inj.cut_some e1).1; omega)
   grind
  ·grind
  ·refine a1.keep p.b hplt fun c0 q0 o0 e1 _ _ => ?_
   exact k2 c0 q0 (Inj.cut_some e1).2 (by have := (Inj.cut_some e1).1; omega)
 ·have hju : j ≠ u := fun e => hSj (.inr e)
  have hnS : ¬ S j := fun h => hSj (.inl h)
  have hjl : j < u := by omega
  have hbn : b < (F u).h.next := Xia hb2 (hm (j + 1) u (by omega) (by omega))
  rw [<- M.late j hjl hnS hst b hb1 hb2]
  exact a1.out b hbn (Inj.cut_none (M.none_at hm (by omega) hnS hb1 hb2))
theorem Mem.quiet (hm : Mono ops F) (h0 : ∀ b p, ι0 b = some p -> b < (F 0).h.next) (M : Mem P B m ops F st ι0 w0 S u ι w) (hi : i < ops.size) (hS : ¬ S i) (hW : ¬ Wr P m ops st i) (hst : st i = .turn) {ι1 : Inj} {w1 : World} {H1 : Heap} (s1 : Sim P B ι1 H1 w1)
  (a1 : Adv (ι.cut (F i).h.next) ⟨(F i).h.next, .nil⟩ w ι1 H1 w1) (hH : ((F (i + 1)).h = (F i).h /\ H1 = ⟨(F i).h.next, .nil⟩) \/ ∃ o, lone1 o /\ (F (i + 1)).h = (F i).h.push o /\ H1 = (⟨(F i).h.next, .nil⟩ : Heap).push o) :
  ∃ ι', Mem P B m ops F st ι0 w0 (fun j => S j \/ j = i) u ι' w1 /\ ι.le ι' /\ ι1.le (ι'.cut (F (i + 1)).h.next) := by
 have hk : ∀ k, k < w.heap.size -> w1.heap[k]? = w.heap[k]? := fun k h => a1.keep k h fun b p o _ e => (by cases e)
 have hfresh : ∀ b p, ι1 b = some p -> (ι.cut (F i).h.next) b = some p \/ ((F i).h.next <= b /\ w.heap.size <= p.b) := by
  intro b p hp
  rcases a1.img b p hp with h | ⟨_, h2, h3 | ⟨_, _, _, _, e, _⟩⟩
  ·exact .inl h
  ·exact .inr ⟨h2, h3⟩
  ·cases e
 have M1 := M.mark h0 hi hW a1.os a1.tape a1.output a1.size hk
 have hnn := hm i (i + 1) (by omega) hi
 have plain : (∀ b p, ι1 b = some p -> (ι.cut (F i).h.next) b = some p) -> ∃ ι', Mem P B m ops F st ι0 w0 (fun j => S j \/ j = i) u ι' w1 /\ ι.le ι' /\ ι1.le (ι'.cut (F (i + 1)).h.next) := by
  intro h
  exact ⟨ι, M1, ι.le_refl, fun b p hp => Inj.cut_mono ι hnn b p (h b p hp)⟩
 rcases hH with ⟨e1, e2⟩ | ⟨o, ho, e1, e2⟩
 ·refine plain fun b p hp => ?_
  rcases hfresh b p hp with h | ⟨h, _⟩
  ·exact h
  ·have := s1.bound b p hp
   grind
 ·have hn1 : (F (i + 1)).h.next = (F i).h.next + 1 := by rw [e1]; rfl
  cases e : ι1 (F i).h.next with
  | none =>
   refine plain fun b p hp => ?_
   rcases hfresh b p hp with h | ⟨h, _⟩
   ·exact h
   ·have := s1.bound b p hp
    rw [e2] at this
    simp at this
    grind
  | some p =>
   have hpf : w.heap.size <= p.b := by
    rcases hfresh _ _ e with h | ⟨_, h⟩
    ·have := (Inj.cut_some h).1; omega
    ·exact h
   have hpl : p.b < w1.heap.size := s1.lt _ _ e
   have hobj : ObjRel P B ι1 H1 w1 p o := s1.obj _ p o e (by rw [e2, Heap.get_push, if_pos rfl])
   have hno : ι (F i).h.next = none := M.none_at hm hi hS (XhE _) (by omega)
   have hle := Inj.with_le hno p
   have h1w : ∀ b q, ι1 b = some q -> (ι.with (F i).h.next p) b = some q := by
    intro b q hq
    by_cases hb : b = (F i).h.next
    ·grind [Inj.with_same]
    ·rcases hfresh b q hq with h | ⟨h, _⟩
     ·exact hle b q (Inj.cut_some h).2
     ·have := s1.bound b q hq
      rw [e2] at this
      simp at this
      omega
   have h1n : ∀ b q, ι1 b = some q -> b < (F i).h.next + 1 := by
    intro b q hq
    have := s1.bound b q hq
    rw [e2] at this
    simpa using this
   have h0n : ι0 (F i).h.next = none := by
    cases e' : ι0 (F i).h.next with
    | none => rfl
    | some q =>
     have := h0 _ _ e'
     have := hm 0 i (by omega) (by omega)
     omega
   -- the part that u sees
   have hcore : Sim P B ((ι.with (F i).h.next p).cut (F u).h.next) (F u).h w1 /\ Adv ι0 (F 0).h w0 ((ι.with (F i).h.next p).cut (F u).h.next) (F u).h w1 := by
    by_cases hiu : i < u
    ·have hlt : (F i).h.next < (F u).h.next := by
      have := hm (i + 1) u (by omega) M.un
      omega
     have hcw : (ι.with (F i).h.next p).cut (F u).h.next = (ι.cut (F u).h.next).with (F i).h.next p := by
      funext k
      unfold Inj.cut Inj.with
      by_cases hk' : k = (F i).h.next
      ·simp_all
      ·rw [if_neg hk', if_neg hk']
     have hcn : (ι.cut (F u).h.next) (F i).h.next = none := Inj.cut_none hno
     rw [hcw]
     refine ⟨M1.core.learn hcn hlt hpl (fun b' p' hb' => ?_) (fun o' ho' => ?_), M1.adv.learn hcn h0n (hm 0 i (by omega) (by omega)) (Xh4 M.adv.size hpf)⟩
     ·have := M.lt b' p' (Inj.cut_some hb').2
      omega
     ·rw [M.late i hiu hS hst _ (XhE _) (by omega), e1, Heap.get_push, if_pos rfl] at ho'
      cases ho'
      refine hobj.shift ho (fun b q hq => ?_) rfl
      rw [<- hcw]
      grind [Inj.cut_of]
    ·have hge : (F u).h.next <= (F i).h.next := hm u i (by omega) (by omega)
     have hcw : (ι.with (F i).h.next p).cut (F u).h.next = ι.cut (F u).h.next := by
      funext k
      unfold Inj.cut Inj.with
      split
      ·rw [if_neg (by omega)]
      ·rfl
     rw [hcw]
     exact ⟨M1.core, M1.adv⟩
   refine ⟨ι.with (F i).h.next p, ⟨M1.un, M1.sn, M1.wlo, M1.whi, hcore.1, hcore.2, fun b q hq => ?_, fun b q hq => ?_, fun b q hq hb => ?_, M1.late⟩, hle, fun b q hq => Inj.cut_of (h1w b q hq) (by have := h1n b q hq; omega)⟩
   ·rcases Inj.with_cases hq with ⟨rfl, rfl⟩ | ⟨hne, hq'⟩
    ·simp_all
    ·exact M1.dom b q hq'
   ·rcases Inj.with_cases hq with ⟨rfl, rfl⟩ | ⟨hne, hq'⟩
    ·exact hpl
    ·exact M1.lt b q hq'
   ·rcases Inj.with_cases hq with ⟨rfl, rfl⟩ | ⟨hne, hq'⟩
    ·have hui : u <= i := by
      apply Classical.byContradiction
      intro h
      have := hm (i + 1) u (by omega) M.un
      omega
     refine ⟨Xh4 M.adv.size hpf, fun b' p' hb' hne => ?_, i, o, .inr rfl, hui, rfl, ho, e1, hobj.shift ho (fun b q hq => Inj.cut_of (h1w b q hq) (h1n b q hq)) rfl⟩
     rcases Inj.with_cases hb' with ⟨rfl, rfl⟩ | ⟨_, hb''⟩
     ·exact absurd rfl hne
     ·have := M.lt b' p' hb''
      omega
    ·obtain ⟨k1, k2, j, o', k3, k4, k5, k6, k7, k8⟩ := M1.extra b q hq' hb
     refine ⟨k1, fun b' p' hb' hne' => ?_, j, o', k3, k4, k5, k6, k7, k8.shift k6 (Inj.cut_le_cut hle _) rfl⟩
     rcases Inj.with_cases hb' with ⟨rfl, rfl⟩ | ⟨_, hb''⟩
     ·have := M.lt b q hq'
      omega
     ·exact k2 b' p' hb'' hne'
end
section
variable {P : Program} {B : Nat} {ι : Inj} {H : Heap} {w : World} {m : Nat} {t : Tm} {a : Act} {c : Ctx} {x x' : Aux} {v : Value} {H' : Heap}
theorem nil_inv {o : Oper} {y : Opd} (hco : cOp P m o = .nilCheck y) : ∃ xo, o.op = .nilCheck xo /\ XE m xo = some y := by
 have hs := special_op (P := P) (m := m) (o := o)
 rw [hco] at hs
 replace hs := hs rfl
 unfold cOp at hco
 cases ho : o.op <;> rw [ho] at hs hco <;> first | (exact hs.elim) | skip
 all_goals simp only at hco
 case nilCheck xo =>
  cases hx : XE m xo with
  | none => rw [hx] at hco; cases hco
  | some q =>
   rw [hx] at hco
   cases hco
   exact ⟨xo, rfl, hx⟩
 case next it st =>
  cases hx : XE m it with
  | none => rw [hx] at hco; cases hco
  | some q => rw [hx] at hco; cases st <;> cases hco
 case call cl =>
  have := VV (P := P) (m := m) cl
  rw [hco] at this
  exact this.elim
 case defer cl =>
  split at hco
  ·rename_i f hcl
   cases hf : XE m f with
   | none => rw [hf] at hco; cases hco
   | some f' =>
    cases ha : Uv m cl.args with
    | none => rw [hf, ha] at hco; cases hco
    | some as => rw [hf, ha] at hco; cases hco
  ·cases hco
 case panic xo =>
  cases hx : XE m xo with
  | none => rw [hx] at hco; cases hco
  | some q => rw [hx] at hco; cases hco
theorem nil_acts (hc : c.nilOk = Xd8 P) (s : Sim P B ι H w) (hT : TmRel ι m t a.tmps) {o : Oper} {y : Opd} (hco : cOp P m o = .nilCheck y) (h : XM y.val c t x H (fun v x h => .got v x h) = .got v x' H') : Acts P B ι H w (execOp a.eval o) v H' := by
 obtain ⟨xo, ho, hx⟩ := nil_inv hco
 have hr := Xx hT hx
 have go : ∀ v, (execOp a.eval o).run P w = .ok (.value (a.eval xo)) w -> VRel ι v (a.eval xo) -> Acts P B ι H w (execOp a.eval o) v H :=
  fun v h1 h2 => ⟨ι, w, .value (a.eval xo), a.eval xo, h1, .inl rfl, h2, s, Adv.refl ι H w⟩
 unfold XM at h
 split at h
 ·rename_i ad e
  cases h
  rw [e] at hr
  refine go _ ?_ hr
  generalize hq : a.eval xo = q at hr
  cases hr
  unfold execOp; simp only [ho, hq]; rfl
 ·rename_i f first cap e
  cases h
  rw [e] at hr
  refine go _ ?_ hr
  generalize hq : a.eval xo = q at hr
  obtain ⟨f', a', c', rfl, hf, _, _⟩ := ZE hr
  cases hf
  unfold execOp; simp only [ho, hq]; rfl
 ·rename_i name first cap e
  rw [e] at hr
  split at h
  ·rename_i ty v0 rest hfirst
   cases hn : c.nilOk ty name with
   | false => rw [hn] at h; cases h
   | true =>
    rw [hn] at h
    cases h
    rw [hc] at hn
    refine go _ ?_ hr
    generalize hq : a.eval xo = q at hr
    obtain ⟨f', a', c', rfl, hf, ha, _⟩ := ZE hr
    cases hf
    rw [hfirst] at ha
    have h0 : ∃ v', a'[0]? = some (.iface ty v') := by
     obtain ⟨z, hy1, hy2⟩ := ha.get? (i := 0) (x := .iface ty v0) rfl
     cases hy2
     exact ⟨_, by simpa using hy1⟩
    obtain ⟨v', h0⟩ := h0
    have hfuel : P.types.size + Made.depth = (P.types.size + 99) + 1 := rfl
    unfold execOp
    simp_all [Sem.run_bind, run_program, Result.andThen_ok, cNilOk_run]
  ·cases h
 ·rename_i ty v0 e
  cases h
  rw [e] at hr
  refine go _ ?_ hr
  generalize hq : a.eval xo = q at hr
  cases hr
  unfold execOp; simp only [ho, hq]; rfl
 ·cases h
theorem quiet_acts (hc : c.nilOk = Xd8 P) (s : Sim P B ι H w) (hT : TmRel ι m t a.tmps) {o : Oper} (hl : YN (cOp P m o) = none) (hw : (cOp P m o).writes = false) (hx : Zq (cOp P m o) c t x H (fun v x h => .got v x h) = .got v x' H') : Acts P B ι H w (execOp a.eval o) v H' := by
 obtain ⟨_, ⟨T, h1, h2⟩ | ⟨y, h1, h2⟩⟩ := quiet_turn hl hw hx
 ·exact turn_sound s hT h1 h2
 ·rw [h1] at hx
  exact nil_acts hc s hT h1 hx
theorem wanted_part {ops : Array Oper} {o : Oper} {s gi : Nat} {wb : Bool} {tmps : Array Value} (hg : o.guard = some (gi, wb)) (hd : (ops[gi]?).bind (·.dst) = some s) (hm : s < tmps.size) (h256 : s < 256) (hs : s ∈ ls) :
  Region.wanted o (yielded ops (XbU (UC ls) tmps)) = Region.wanted o (yielded ops tmps) := by
 have get : ∀ q : Array Value, s < q.size -> q[s]? = some (q.getD s undef) := fun q hq => by simp [Xiy, hq]
 have h1 := get tmps hm
 have h2 := get (XbU (UC ls) tmps) (by rw [clearA_size]; exact hm)
 rw [clearA_get, if_neg (by rw [Xc2 h256]; exact fun h => h hs)] at h2
 unfold Region.wanted
 rw [hg]
 simp only [yielded, hd, Option.bind_some, h1, h2]
theorem wants_part {t : Tm} {s : Nat} (h256 : s < 256) (hs : s ∈ ls) (wb : Bool) : XaQ s wb (clearT (UC ls) t) = XaQ s wb t := by
 have : Zi s (clearT (UC ls) t) = Zi s t := by
  rw [clearT_get _ others_lt t h256, if_neg]
  rw [Xc2 h256]
  exact fun h => h hs
 cases wb
 ·show isFalse _ = isFalse _; rw [this]
 ·show isTrue _ = isTrue _; rw [this]
end
structure DInv (P : Program) (B : Nat) (m : Nat) (ops : Array Oper) (F : Nat -> DS) (st : Nat -> XeA) (V : Nat -> Value) (b : Frame) (ι0 : Inj) (w0 : World) (cs0 : List Frame) (S : Nat -> Prop) (u : Nat) (ι : Inj) (w : World) (a : Act) (cs : List Frame) : Prop where
 mem : Mem P B m ops F st ι0 w0 S u ι w
 cl : Closed ops S
 good : ∀ j, S j -> st j ≠ .dead /\ st j ≠ .panicked
 dsts : ∀ (j : Nat) (o : Oper) (d : Nat), S j -> ops[j]? = some o -> o.dst = some d -> VRel (ι.cut (F (j + 1)).h.next) (V j) (a.tmps.getD d undef)
 size : m <= a.tmps.size
 base : ∀ s, s < 256 -> s < m -> (∀ (j : Nat) (o : Oper), S j -> ops[j]? = some o -> o.dst ≠ some s) -> VRel (ι.cut (F 0).h.next) (Zi s (F 0).t) (a.tmps.getD s undef)
 defs : All2 (ADefRel (ι.cut (F u).h.next)) (F u).x.defers a.defers
 round : RoundRel (ι.cut (F u).h.next) (F u).x.round b
 rc : RcRel (ι.cut (F u).h.next) (F u).x.rc b cs
 csa : CsAdv b cs0 cs
section
variable {P : Program} {B : Nat} {c : Ctx} {m : Nat} {ops : Array Oper} {F : Nat -> DS} {st : Nat -> XeA} {V : Nat -> Value} {b : Frame}
variable {ι0 : Inj} {w0 : World} {cs0 : List Frame} {S : Nat -> Prop} {u : Nat} {ι : Inj} {w : World} {a : Act} {cs : List Frame}
theorem DInv.raise (D : DrawT P c m ops F st V) (hm : Mono ops F) (h0 : ∀ b p, ι0 b = some p -> b < (F 0).h.next) (I : DInv P B m ops F st V b ι0 w0 cs0 S u ι w a cs) (hu : u < ops.size) (hw : ¬ Wr P m ops st u) : DInv P B m ops F st V b ι0 w0 cs0 S (u + 1) ι w a cs := by
 have hx := (D.still hu hw).1
 have hle := Inj.cut_mono ι (hm u (u + 1) (by omega) hu)
 exact ⟨I.mem.raise D hm h0 hu hw, I.cl, I.good, I.dsts, I.size, I.base, by rw [hx]; exact All2.mono I.defs fun _ _ => ADefRel.mono hle, by rw [hx]; exact I.round.mono hle, by rw [hx]; exact I.rc.mono hle, I.csa⟩
theorem DInv.norm (D : DrawT P c m ops F st V) (hm : Mono ops F) (h0 : ∀ b p, ι0 b = some p -> b < (F 0).h.next) : ∀ (k u : Nat), ops.size - u = k -> DInv P B m ops F st V b ι0 w0 cs0 S u ι w a cs -> ∃ u', DInv P B m ops F st V b ι0 w0 cs0 S u' ι w a cs /\ (u' = ops.size \/ (u' < ops.size /\ Wr P m ops st u')) := by
 intro k
 induction k with
 | zero => intro u hk I; exact ⟨u, I, .inl (by have := I.mem.un; omega)⟩
 | succ k ih =>
  intro u hk I
  by_cases hw : Wr P m ops st u
  ·exact ⟨u, I, .inr ⟨by omega, hw⟩⟩
  ·exact ih (u + 1) (by omega) (I.raise D hm h0 (by omega) hw)
theorem DInv.rel (D : DrawT P c m ops F st V) (hm : Mono ops F) (I : DInv P B m ops F st V b ι0 w0 cs0 S u ι w a cs) {o : Oper} (ho : ops[i]? = some o) (hS : ¬ S i) (hA : ∀ j, Ahead ops j i -> S j) {s : Nat} (hs : s ∈ looks ops o (cOp P m o)) :
  s < 256 /\ s < m /\ VRel (ι.cut (F i).h.next) (Zi s (F i).t) (a.tmps.getD s undef) := by
 have hi := D.size_of ho
 have hs' : s ∈ looks ops o ((ops.map (cOp P m)).getD i (.bad "")) := by rw [getD_cs ho]; exact hs
 obtain ⟨h1, h2, h3⟩ := fine_looks D.fine ho hs'
 refine ⟨h1, h2, ?_⟩
 by_cases hd : ∃ (j : Nat) (p : Oper), S j /\ ops[j]? = some p /\ p.dst = some s
 ·obtain ⟨j, p, hS', hp, hd⟩ := hd
  have h4 : j < i := by
   rcases h3 j p hp hd with ⟨h4, _⟩ | h4 | ⟨_, h4⟩
   ·exact h4
   ·subst h4; exact absurd hS' hS
   ·exact absurd (I.cl j i hS' h4) hS
  rw [D.tslot hp hd (I.good j hS').1 (I.good j hS').2 i h4 (by omega)]
  exact (I.dsts j p s hS' hp hd).mono (Inj.cut_mono ι (hm (j + 1) i h4 (by omega)))
 ·have hn : ∀ (j : Nat) (o : Oper), S j -> ops[j]? = some o -> o.dst ≠ some s := fun j p hj hp hd' => hd ⟨j, p, hj, hp, hd'⟩
  rw [D.tbase h1 i (by omega) fun j p hj hp hd' => ?_]
  rotate_left
  ·rcases h3 j p hp hd' with ⟨_, h5⟩ | h4 | ⟨h4, _⟩
   ·exact hn j p (hA j h5) hp hd'
   ·omega
   ·omega
  exact (I.base s h1 h2 hn).mono (Inj.cut_mono ι (hm 0 i (by omega) (by omega)))
abbrev tOf (P : Program) (m : Nat) (ops : Array Oper) (F : Nat -> DS) (i : Nat) (o : Oper) : Tm := clearT (UC (looks ops o (cOp P m o))) (F i).t
abbrev aOf (P : Program) (m : Nat) (ops : Array Oper) (o : Oper) (a : Act) : Act := { a with tmps := XbU (UC (looks ops o (cOp P m o))) a.tmps }
theorem DInv.part (D : DrawT P c m ops F st V) (hm : Mono ops F) (I : DInv P B m ops F st V b ι0 w0 cs0 S u ι w a cs) {o : Oper} (ho : ops[i]? = some o) (hS : ¬ S i) (hA : ∀ j, Ahead ops j i -> S j) :
  TmRel (ι.cut (F i).h.next) m (tOf P m ops F i o) (aOf P m ops o a).tmps /\ (∀ y ∈ (cOp P m o).opds, y.val (F i).t = y.val (tOf P m ops F i o)) /\
  ((∀ cs b, o.op ≠ .select cs b) -> execOp (aOf P m ops o a).eval o = execOp a.eval o) /\
  (∀ s wb, GuardIs ops o m (some (s, wb)) -> Region.wanted o (yielded ops a.tmps) = XaQ s wb (F i).t) := by
 have hT : TmRel (ι.cut (F i).h.next) m (tOf P m ops F i o) (aOf P m ops o a).tmps := part_rel I.size fun s hs _ _ => (I.rel D hm ho hS hA hs).2.2
 refine ⟨hT, fun y hy => ?_, fun hsel => ?_, fun s wb hg => ?_⟩
 ·have mem : ∀ n, y = .tmp n -> n ∈ looks ops o (cOp P m o) := by
   rintro n rfl
   refine XiC _ (XiE _ ?_)
   exact List.mem_filterMap.2 ⟨_, hy, rfl⟩
  exact (val_part mem fun n hn => (I.rel D hm ho hS hA (mem n hn)).1).symm
 ·exact exec_part hsel (fun n hn => XiE _ hn) (fun n hn => (I.rel D hm ho hS hA (XiE _ hn)).1)
 ·obtain ⟨gi, g1, g2, g3, g4⟩ := hg
  have hmem : s ∈ looks ops o (cOp P m o) := by
   refine XiC _ (XiC _ ?_)
   unfold guardSlot
   rw [g1]
   simp only [g2]
   simp
  rw [<- wanted_part (ls := looks ops o (cOp P m o)) g1 g2 (Xia g3 I.size) g4 hmem, <- wants_part g4 hmem wb]
  exact wants_ok (a := aOf P m ops o a) hT g1 g2 g3 g4
end
theorem put_same {a : Act} {d : Nat} {v : Value} (h : d < a.tmps.size) : (a.put (some d) v).tmps.getD d undef = v := by
 show (a.tmps.setIfInBounds d v).getD d undef = v
 simp [Xiy, h]
theorem put_other {a : Act} {q : Option Tmp} {s : Nat} {v : Value} (h : q ≠ some s) : (a.put q v).tmps.getD s undef = a.tmps.getD s undef := by
 cases q with
 | none => rfl
 | some d =>
  show (a.tmps.setIfInBounds d v).getD s undef = _
  simp_all
theorem put_size {a : Act} {q : Option Tmp} {v : Value} : (a.put q v).tmps.size = a.tmps.size := by
 cases q with
 | none => rfl
 | some d => show (a.tmps.setIfInBounds d v).size = _; simp
theorem put_defers {a : Act} {q : Option Tmp} {v : Value} : (a.put q v).defers = a.defers := by
 cases q <;> rfl
section
variable {P : Program} {B : Nat} {c : Ctx} {m : Nat} {ops : Array Oper} {F : Nat -> DS} {st : Nat -> XeA} {V : Nat -> Value} {b : Frame}
variable {ι0 : Inj} {w0 : World} {cs0 : List Frame} {S : Nat -> Prop} {u : Nat} {ι : Inj} {w : World} {a : Act} {cs : List Frame}
theorem not_select {o : Oper} (h : ∀ why, cOp P m o ≠ .bad why) : ∀ cs b, o.op ≠ .select cs b := by
 intro cs b ho
 refine h "operation" ?_
 unfold cOp
 rw [ho]
theorem DInv.slots (D : DrawT P c m ops F st V) (I : DInv P B m ops F st V b ι0 w0 cs0 S u ι w a cs) {o : Oper} (ho : ops[i]? = some o) {ι' : Inj} (hle : ι.le ι') {v' : Value} (hv : VRel (ι'.cut (F (i + 1)).h.next) (V i) v') {a' : Act} (ha : a'.tmps = a.tmps) :
  (∀ (j : Nat) (p : Oper) (d : Nat), (S j \/ j = i) -> ops[j]? = some p -> p.dst = some d -> VRel (ι'.cut (F (j + 1)).h.next) (V j) ((a'.put o.dst v').tmps.getD d undef)) /\ m <= (a'.put o.dst v').tmps.size /\
  (∀ s, s < 256 -> s < m -> (∀ (j : Nat) (o : Oper), (S j \/ j = i) -> ops[j]? = some o -> o.dst ≠ some s) -> VRel (ι'.cut (F 0).h.next) (Zi s (F 0).t) ((a'.put o.dst v').tmps.getD s undef)) := by
 refine ⟨fun j p d hj hp hd => ?_, by rw [put_size, ha]; exact I.size, fun s h1 h2 hn => ?_⟩
 ·by_cases e : j = i
  ·subst e
   rw [hp] at ho
   cases ho
   rw [hd, put_same (by rw [ha]; exact Xia (D.dst_lt hp hd).1 I.size)]
   exact hv
  ·have hS : S j := hj.resolve_right e
   rw [put_other (fun h => e (fine_dst D.fine hp ho hd h)), ha]
   exact (I.dsts j p d hS hp hd).mono (Inj.cut_le_cut hle _)
 ·rw [put_other (hn i o (.inr rfl) ho), ha]
  exact (I.base s h1 h2 fun j o hj => hn j o (.inl hj)).mono (Inj.cut_le_cut hle _)
structure Ghost (P : Program) (B : Nat) (m : Nat) (ops : Array Oper) (F : Nat -> DS) (st : Nat -> XeA) (V : Nat -> Value) : Prop where
 mono : Mono ops F
 blank : ∀ i, i <= ops.size -> ∀ k, (F i).h.next <= k -> (F i).h.get k = none
 bnd : ∀ i, i < ops.size -> st i = .look -> ∃ κ v', (∀ b p, κ b = some p -> b < (F (i + 1)).h.next) /\ VRel κ (V i) v'
theorem DrawT.theGhost (D : DrawT P c m ops F st V) (C : Vr P B c) (S0 : St P B κ (F 0).h w m b (F 0).t (F 0).x a cs) : Ghost P B m ops F st V := by
 have step : ∀ i, i < ops.size -> (F i).h.next <= (F (i + 1)).h.next := by
  intro i hi
  obtain ⟨κ', w', a', cs', S'⟩ := D.ghost C S0 i (by omega)
  exact (D.ghost_step C (D.get hi) S').2.1
 refine ⟨fun i j hij hj => ?_, fun i hi => ?_, fun i hi hs => ?_⟩
 ·induction j with
  | zero => simp_all
  | succ j ih =>
   grind
 ·obtain ⟨κ', w', a', cs', S'⟩ := D.ghost C S0 i hi
  exact S'.sim.blank
 ·obtain ⟨κ', w', a', cs', S'⟩ := D.ghost C S0 i (by omega)
  exact (D.ghost_step C (D.get hi) S').2.2 hs
theorem last_wr (P : Program) (m : Nat) (ops : Array Oper) (st : Nat -> XeA) (i : Nat) : ∀ u, i <= u -> (∀ j, i <= j -> j < u -> ¬ Wr P m ops st j) \/ ∃ j, i <= j /\ j < u /\ Wr P m ops st j /\ ∀ k, j < k -> k < u -> ¬ Wr P m ops st k := by
 intro u
 induction u with
 | zero => intro _; exact .inl fun j _ h => by omega
 | succ u ih =>
  grind
theorem DrawT.still_to (D : DrawT P c m ops F st V) (hm : Mono ops F) {q : Nat} : ∀ u, q <= u -> u <= ops.size -> (∀ j, q <= j -> j < u -> ¬ Wr P m ops st j) -> (F u).x = (F q).x /\ ∀ k, k < (F q).h.next -> (F u).h.get k = (F q).h.get k := by
 intro u
 induction u with
 | zero => simp_all
 | succ u ih =>
  intro h1 h2 h3
  by_cases e : q = u + 1
  ·subst e; exact ⟨rfl, fun _ _ => rfl⟩
  ·obtain ⟨h4, h5⟩ := ih (by omega) (by omega) fun j a b => h3 j a (by omega)
   obtain ⟨h6, h7⟩ := D.still (by omega : u < ops.size) (h3 u (by omega) (by omega))
   refine ⟨h6.trans h4, fun k hk => ?_⟩
   rw [<- h5 k hk]
   rcases h7 with h7 | ⟨_, o1, _, h7⟩
   ·rw [h7]
   ·rw [h7, Heap.get_push, if_neg (by have := hm q u (by omega) (by omega); omega)]
abbrev Norm (P : Program) (m : Nat) (ops : Array Oper) (st : Nat -> XeA) (u : Nat) : Prop := u = ops.size \/ (u < ops.size /\ Wr P m ops st u)
theorem DInv.look (D : DrawT P c m ops F st V) (G : Ghost P B m ops F st V) (I : DInv P B m ops F st V b ι0 w0 cs0 S u ι w a cs) (hn : Norm P m ops st u) {o : Oper} (ho : ops[i]? = some o) (hS : ¬ S i) (hA : ∀ j, Ahead ops j i -> S j) (hs : st i = .look) :
  ∃ v', (execOp a.eval o).run P w = .ok (.value v') w /\ VRel (ι.cut (F (i + 1)).h.next) (V i) v' := by
 have hi := D.size_of ho
 have hm := G.mono
 obtain ⟨hT, hopd, hex, _⟩ := I.part D hm ho hS hA
 obtain ⟨g, hstep, hd, hg⟩ := D.step ho
 rcases hstep.view with ⟨q, _⟩ | ⟨q, _⟩ | ⟨q, hw, ⟨l, hl, hv, _⟩, e1, e2, e3, _⟩ | ⟨q, _⟩ | ⟨q, _⟩ <;> first | (rw [hs] at q; cases q; done) | skip
 replace hl : YN (cOp P m o) = some l := hl
 have hsel := not_select (P := P) (m := m) (o := o) (fun why e => by rw [e] at hl; cases hl)
 have hex := hex hsel
 have hnw : ¬ Wr P m ops st i := by
  rintro ⟨s2 | s2, _⟩ <;> rw [hs] at s2 <;> cases s2
 rw [e3]
 -- what the look tells on a part of what is known
 have on : ∀ (κ : Inj) (H : Heap), Sim P B κ H w -> (ι.cut (F i).h.next).le κ -> l (F i).t H = some (V i) -> ∃ v', (execOp a.eval o).run P w = .ok (.value v') w /\ VRel κ (V i) v' := by
  intro κ H s hle hlv
  rw [look_local hl hopd] at hlv
  obtain ⟨v', h1, h2⟩ := look_sound (a := aOf P m ops o a) s (hT.mono hle) hl hlv
  rw [hex] at h1
  exact ⟨v', h1, h2⟩
 by_cases hiu : i < u
 ·-- behind it, writers that have been
  have huS := I.mem.un
  have hq : ∃ q, i <= q /\ q <= u /\ l (F i).t (F q).h = some (V i) /\ ∀ j, q <= j -> j < u -> ¬ Wr P m ops st j := by
   rcases last_wr P m ops st i u (by omega) with h | ⟨j, h1, h2, h3, h4⟩
   ·exact ⟨i, XhE _, by omega, hv, h⟩
   ·have hij : i < j := by
     by_cases e : i = j
     ·subst e; exact absurd h3 hnw
     ·omega
    have hna : ¬ Ahead ops i j := fun h => hS (I.cl j i (I.mem.wlo j h2 h3) h)
    exact ⟨j + 1, by omega, by omega, D.look_then ho hl hs hij h3 hna, fun k h5 h6 => h4 k (by omega) h6⟩
  obtain ⟨q, hq1, hq2, hq3, hq4⟩ := hq
  obtain ⟨_, hst⟩ := D.still_to hm u hq2 huS hq4
  have hbl := G.blank q (by omega)
  have hqu := hm q u hq2 huS
  have s : Sim P B (ι.cut (F u).h.next) ⟨(F u).h.next, (F q).h.t⟩ w := by
   refine I.mem.core.turn (fun k p o' hk hg => ⟨hk, ?_⟩) (Inj.le_refl _) (fun k p hk => (Inj.cut_some hk).1) I.mem.core.lt (fun k hk => hbl k (by have : (F u).h.next <= k := hk; omega))
   replace hg : (F q).h.get k = some o' := hg
   by_cases hkq : k < (F q).h.next
   ·rw [hst k hkq]; exact hg
   ·rw [hbl k (by omega)] at hg; cases hg
  obtain ⟨v', h1, h2⟩ := on _ _ s (Inj.cut_mono ι (hm i u (by omega) huS)) (by rw [look_next hl]; exact hq3)
  obtain ⟨κ, v'', k1, k2⟩ := G.bnd i hi hs
  refine ⟨v', h1, ?_⟩
  rw [e3] at k1
  exact (h2.cut k1 k2).mono (Inj.cut_le_cut (Inj.cut_le ι _) _)
 ·-- ahead of it, a writer that has not been
  have hu : u < ops.size /\ Wr P m ops st u := by
   rcases hn with h | h
   ·omega
   ·exact h
  have hui : u < i := by
   by_cases e : u = i
   ·subst e; exact absurd hu.2 hnw
   ·omega
  have hnS : ¬ S u := fun h => I.mem.whi u (XhE _) h hu.2
  have hna : ¬ Ahead ops u i := fun h => hnS (hA u h)
  have hlv := D.look_ahead ho hl hs hui hu.2 hna
  have hui' := hm u i (by omega) (by omega)
  have s : Sim P B (ι.cut (F i).h.next) ⟨(F i).h.next, (F u).h.t⟩ w := by
   refine I.mem.core.turn (fun k p o' hk hg => ⟨?_, hg⟩) (Inj.cut_mono ι hui') (fun k p hk => (Inj.cut_some hk).1) (fun k p hk => I.mem.lt k p (Inj.cut_some hk).2) (fun k hk => I.mem.core.blank k (by have : (F i).h.next <= k := hk; omega))
   refine Inj.cut_of (Inj.cut_some hk).2 ?_
   apply Classical.byContradiction
   intro h
   replace hg : (F u).h.get k = some o' := hg
   rw [I.mem.core.blank k (by omega)] at hg
   cases hg
  exact on _ _ s (Inj.le_refl _) (by rw [look_next hl]; exact hlv)
end
section
variable {P : Program} {B : Nat} {c : Ctx} {m : Nat} {ops : Array Oper} {F : Nat -> DS} {st : Nat -> XeA} {V : Nat -> Value} {b : Frame}
variable {ι0 : Inj} {w0 : World} {cs0 : List Frame} {S : Nat -> Prop} {u : Nat} {ι : Inj} {w : World} {a : Act} {cs : List Frame}
def PanAt (P : Program) (B : Nat) (m : Nat) (ops : Array Oper) (F : Nat -> DS) (V : Nat -> Value) (b : Frame) (ι0 : Inj) (w0 : World) (cs0 : List Frame) (m1 : Machine) (i : Nat) : Prop :=
 ∃ ι' a' cs' w' todo v', Steps P m1 (lone { b.atR a' todo with mode := .panicking [{ v := v', recovered := false }] } cs' w') /\ VRel ι' (V i) v' /\ Sim P B ι' (F ops.size).h w' /\
  m <= a'.tmps.size /\ (∀ s, s < 256 -> s < m -> (∀ (j : Nat) (o : Oper), ops[j]? = some o -> o.dst ≠ some s) -> VRel ι' (Zi s (F ops.size).t) (a'.tmps.getD s undef)) /\
  All2 (ADefRel ι') (F ops.size).x.defers a'.defers /\ RoundRel ι' (F ops.size).x.round b /\ RcRel ι' (F ops.size).x.rc b cs' /\ Adv ι0 (F 0).h w0 ι' (F ops.size).h w' /\ CsAdv b cs0 cs'
theorem Mem.raise_to (D : DrawT P c m ops F st V) (hm : Mono ops F) (h0 : ∀ b p, ι0 b = some p -> b < (F 0).h.next) {S : Nat -> Prop} {ι : Inj} {w : World} {q : Nat} (M : Mem P B m ops F st ι0 w0 S q ι w) : ∀ u, q <= u -> u <= ops.size -> (∀ j, q <= j -> j < u -> ¬ Wr P m ops st j) -> Mem P B m ops F st ι0 w0 S u ι w := by
 intro u
 induction u with
 | zero => grind
 | succ u ih =>
  grind [raise]
theorem DInv.go (D : DrawT P c m ops F st V) (C : Vr P B c) (G : Ghost P B m ops F st V) (h0 : ∀ b p, ι0 b = some p -> b < (F 0).h.next) (I : DInv P B m ops F st V b ι0 w0 cs0 S u ι w a cs) (hn : Norm P m ops st u) {o : Oper} (ho : ops[i]? = some o) (hS : ¬ S i)
  (hr : ∀ e ∈ o.after.toList, Region.binds .any e = true -> S e.on) (rest : List Nat) (k : List Item) :
  (∃ u' ι' w' a' cs', Steps P (lone (b.atR a (.inRegion ops (i :: rest) :: k)) cs w) (lone (b.atR a' (.inRegion ops rest :: k)) cs' w') /\ DInv P B m ops F st V b ι0 w0 cs0 (fun j => S j \/ j = i) u' ι' w' a' cs') \/
  (st i = .panicked /\ PanAt P B m ops F V b ι0 w0 cs0 (lone (b.atR a (.inRegion ops (i :: rest) :: k)) cs w) i) := by
 have hi := D.size_of ho
 have hm := G.mono
 obtain ⟨hA, hcl⟩ := closed_step I.cl ho hr
 obtain ⟨hT, hopd, hex, hgd⟩ := I.part D hm ho hS hA
 obtain ⟨g, hstep, hd, hg⟩ := D.step ho
 -- it is wanted here as it was there
 have want : ∀ co : W0, co.guard = g -> Un co (F i).t -> Region.wanted o (yielded ops a.tmps) = true := by
  intro co hco hw
  unfold Un at hw
  rw [hco] at hw
  cases g with
  | none => unfold Region.wanted; rw [show o.guard = none from hg]
  | some q =>
   grind
 -- what does not write
 have good' : st i ≠ .dead -> st i ≠ .panicked -> ∀ j, (S j \/ j = i) -> st j ≠ .dead /\ st j ≠ .panicked := by
  rintro h1 h2 j (hj | rfl)
  ·exact I.good j hj
  ·exact ⟨h1, h2⟩
 have put : ∀ {ι' : Inj} {w1 : World} {v' : Value}, st i ≠ .dead -> st i ≠ .panicked -> Mem P B m ops F st ι0 w0 (fun j => S j \/ j = i) u ι' w1 -> ι.le ι' -> VRel (ι'.cut (F (i + 1)).h.next) (V i) v' -> DInv P B m ops F st V b ι0 w0 cs0 (fun j => S j \/ j = i) u ι' w1 (a.put o.dst v') cs := by
  intro ι' w1 v' h1 h2 M hle hv
  obtain ⟨s1, s2, s3⟩ := I.slots D ho hle hv (a' := a) rfl
  exact ⟨M, hcl, good' h1 h2, s1, s2, s3, by rw [put_defers]; exact All2.mono I.defs fun _ _ => ADefRel.mono (Inj.cut_le_cut hle _), I.round.mono (Inj.cut_le_cut hle _), I.rc.mono (Inj.cut_le_cut hle _), I.csa⟩
 have fin : ∀ v', (b.atR a (.inRegion ops (i :: rest) :: k)).finish v' = b.atR (a.put o.dst v') (.inRegion ops rest :: k) := by
  intro v'
  have := Frame.finish_atR b a ops i rest k v'
  rw [ho] at this
  exact this
 -- a writer stands where the next writer is
 have here : Wr P m ops st i -> i = u := by
  intro hw
  rcases Nat.lt_trichotomy i u with h | h | h
  ·exact absurd (I.mem.wlo i h hw) hS
  ·exact h
  ·exfalso
   have hu : u < ops.size /\ Wr P m ops st u := by
    rcases hn with h' | h'
    ·omega
    ·exact h'
   exact I.mem.whi u (XhE _) (hA u (D.worder h hu.2 hw)) hu.2
 rcases hstep.view with ⟨q, _⟩ | ⟨q, ⟨s, wb, hgs, hw⟩, hv, e1, e2, e3, _⟩ | ⟨q, hw, ⟨lk, hlk, _⟩, _⟩ | ⟨q, hw, hl, _, hx, _, e1, _⟩ | ⟨q, hw, hl, _, ⟨l, t', hx⟩, _, e1, _⟩
 ·-- behind a panic
  exfalso
  obtain ⟨p, h1, h2⟩ := D.dead_of ho q
  exact (I.good p (hA p h2)).2 h1
 ·-- not wanted
  refine .inl ⟨u, ι, w, a.put o.dst undef, cs, ?_, ?_⟩
  ·replace hgs : g = some (s, wb) := hgs
   subst hgs
   have hnw : Region.wanted o (yielded ops a.tmps) = false := by rw [hgd s wb hg]; exact hw
   have := stepR_op_skip (P := P) (b := b) (a := a) (k := k) (cs := cs) (w := w) (ops := ops) (i := i) (rest := rest) (by simp [ho, hnw])
   rw [ho] at this
   exact .one this
  ·refine put (by rw [q]; simp) (by rw [q]; simp) (I.mem.mark h0 hi ?_ rfl ⟨rfl, XhE _⟩ rfl (XhE _) fun _ _ => rfl) ι.le_refl (by rw [hv]; exact Xag _)
   rintro ⟨s2 | s2, _⟩ <;> rw [q] at s2 <;> cases s2
 ·-- a look
  obtain ⟨v', h1, h2⟩ := I.look D G hn ho hS hA q
  refine .inl ⟨u, ι, w, a.put o.dst v', cs, ?_, ?_⟩
  ·have hs := (does_op (P := P) (b := b) (a := a) (k := k) (cs := cs) (w := w) (rest := rest) ho (want _ rfl hw) (.inr (nd_look hlk))).ok (.value v') w _ _ h1 rfl
   rw [fin] at hs
   exact .one hs
  ·refine put (by rw [q]; simp) (by rw [q]; simp) (I.mem.mark h0 hi ?_ rfl ⟨rfl, XhE _⟩ rfl (XhE _) fun _ _ => rfl) ι.le_refl h2
   rintro ⟨s2 | s2, _⟩ <;> rw [q] at s2 <;> cases s2
 ·have hdo := does_op (P := P) (b := b) (a := a) (k := k) (cs := cs) (w := w) (rest := rest) ho (want _ rfl hw)
  replace hl : YN (cOp P m o) = none := hl
  replace hx : Zq (cOp P m o) c (F i).t (F i).x (F i).h (fun v x h => .got v x h) = .got (V i) (F (i + 1)).x (F (i + 1)).h := hx
  have hsel := not_select (P := P) (m := m) (o := o) (fun why e => by rw [e] at hx; cases hx)
  have hex := hex hsel
  cases hb : (cOp P m o).writes with
  | false =>
   -- it only makes a block
   obtain ⟨hxx, H1, h1, h2⟩ := quiet_fresh hl hb hx
   have hx' := turnOf_got hopd h1
   have s : Sim P B (ι.cut (F i).h.next) ⟨(F i).h.next, .nil⟩ w := I.mem.core.bare (fun k p hk => (Inj.cut_some hk).1) (fun k p hk => I.mem.lt k p (Inj.cut_some hk).2)
   obtain ⟨ι1, w1, n, v', g1, g2, g3, g4, g5⟩ := quiet_acts (a := aOf P m ops o a) C.nil s hT hl hb hx'
   rw [hex] at g1
   have hnw : ¬ Wr P m ops st i := by
    rintro ⟨_, o', ho', hw'⟩
    rw [ho] at ho'; cases ho'
    rw [hb] at hw'; cases hw'
   obtain ⟨ι', M', hle, hle1⟩ := I.mem.quiet hm h0 hi hS hnw q g4 g5 (by
    omega)
   refine .inl ⟨u, ι', w1, a.put o.dst v', cs, ?_, put (by rw [q]; simp) (by rw [q]; simp) M' hle (g3.mono hle1)⟩
   have hs : step P (lone (b.atR a (.inRegion ops (i :: rest) :: k)) cs w) = .next (lone ((b.atR a (.inRegion ops (i :: rest) :: k)).finish v') cs w1) := by
    rcases g2 with rfl | ⟨rfl, rfl⟩
    ·exact (hdo (.inr (nd_quiet hb))).ok _ _ _ _ g1 rfl
    ·exact (hdo (.inr (nd_quiet hb))).ok _ _ _ _ g1 rfl
   rw [fin] at hs
   exact .one hs
  | true =>
   have hwr : Wr P m ops st i := ⟨.inl q, o, ho, hb⟩
   have hiu := here hwr
   subst hiu
   have hx' := turnOf_got hopd hx
   have hdo' : Does P (lone (b.atR a (.inRegion ops (i :: rest) :: k)) cs w) (b.atR a (.inRegion ops (i :: rest) :: k)) cs (execOp (aOf P m ops o a).eval o) w := by rw [hex]; exact hdo (nd_turn hx (by simp) I.round)
   have S0 : St P B (ι.cut (F i).h.next) (F i).h w m b (tOf P m ops F i o) (F i).x (aOf P m ops o a) cs := ⟨I.mem.core, hT, I.defs, I.round, I.rc⟩
   obtain ⟨ι1, w1, a', cs', v', g1, g2, g3, g4, g5, g6⟩ := turn_big (a := aOf P m ops o a) (b := b) (fr := b.atR a (.inRegion ops (i :: rest) :: k)) C rfl rfl rfl rfl hdo' S0 hl hx'
   obtain ⟨ι', M', hle, hcut⟩ := I.mem.write hm h0 hi hS g4.sim g5
   have hfin : ({ b.atR a (.inRegion ops (i :: rest) :: k) with defers := a'.defers } : Frame).finish v' = b.atR (({ a with defers := a'.defers } : Act).put o.dst v') (.inRegion ops rest :: k) := by
    have := Frame.finish_atR b { a with defers := a'.defers } ops i rest k v'
    rw [ho] at this
    exact this
   rw [hfin] at g1
   obtain ⟨s1, s2, s3⟩ := I.slots D ho hle (v' := v') (by rw [hcut]; exact g3) (a' := { a with defers := a'.defers }) rfl
   refine .inl ⟨i + 1, ι', w1, ({ a with defers := a'.defers } : Act).put o.dst v', cs', g1, ⟨M', hcl, good' (by rw [q]; simp) (by rw [q]; simp), s1, s2, s3, ?_, ?_, ?_, I.csa.trans g6⟩⟩
   ·rw [put_defers, hcut]; exact g4.defs
   ·rw [hcut]; exact g4.round
   ·rw [hcut]; exact g4.rc
 ·-- it panics
  refine .inr ⟨q, ?_⟩
  have hdo := does_op (P := P) (b := b) (a := a) (k := k) (cs := cs) (w := w) (rest := rest) ho (want _ rfl hw)
  replace hl : YN (cOp P m o) = none := hl
  replace hx : Zq (cOp P m o) c (F i).t (F i).x (F i).h (fun v x h => .got v x h) = .panic (V i) l t' (F (i + 1)).x (F (i + 1)).h := hx
  have hsel := not_select (P := P) (m := m) (o := o) (fun why e => by rw [e] at hx; cases hx)
  have hex := hex hsel
  have hwr : Wr P m ops st i := D.pan_wr hi q
  have hiu := here hwr
  subst hiu
  obtain ⟨s', hx'⟩ := turnOf_pan hopd hx
  have hdo' : Does P (lone (b.atR a (.inRegion ops (i :: rest) :: k)) cs w) (b.atR a (.inRegion ops (i :: rest) :: k)) cs (execOp (aOf P m ops o a).eval o) w := by rw [hex]; exact hdo (nd_turn hx (by simp) I.round)
  have S0 : St P B (ι.cut (F i).h.next) (F i).h w m b (tOf P m ops F i o) (F i).x (aOf P m ops o a) cs := ⟨I.mem.core, hT, I.defs, I.round, I.rc⟩
  obtain ⟨ι1, w1, v', g1, g2, g3, g4, g5⟩ := turn_bigP (a := aOf P m ops o a) (b := b) (fr := b.atR a (.inRegion ops (i :: rest) :: k)) C rfl rfl rfl rfl hdo' S0 hl hx'
  obtain ⟨ι', M', hle, hcut⟩ := I.mem.write hm h0 hi hS g4.sim g5
  have hnone : ∀ j, i + 1 <= j -> j < ops.size -> ¬ Wr P m ops st j := fun j h1 h2 => D.pan_last q hi (by omega)
  have Mn := M'.raise_to D hm h0 ops.size hi (XhE _) hnone
  obtain ⟨hxn, _⟩ := D.still_to hm ops.size hi (XhE _) hnone
  have hle1 : ι1.le (ι'.cut (F ops.size).h.next) := by rw [<- hcut]; exact Inj.cut_mono ι' (hm _ _ hi (XhE _))
  rw [Frame.raise_atR] at g1
  refine ⟨ι'.cut (F ops.size).h.next, a, cs, w1, _, v', g1, g2.mono hle1, Mn.core, I.size, fun s h1 h2 h3 => ?_, ?_, ?_, ?_, Mn.adv, I.csa⟩
  ·rw [D.tbase h1 ops.size (XhE _) fun j o _ => h3 j o]
   exact (I.base s h1 h2 fun j o _ => h3 j o).mono (Inj.le_trans (Inj.cut_le_cut hle _) (Inj.cut_mono ι' (hm 0 _ (by omega) (XhE _))))
  ·rw [hxn, g3]
   exact All2.mono I.defs fun _ _ => ADefRel.mono (Inj.le_trans (Inj.cut_le_cut hle _) (Inj.cut_mono ι' (hm i _ (by omega) (XhE _))))
  ·rw [hxn, g3]; exact I.round.mono (Inj.le_trans (Inj.cut_le_cut hle _) (Inj.cut_mono ι' (hm i _ (by omega) (XhE _))))
  ·rw [hxn, g3]
   exact I.rc.mono (Inj.le_trans (Inj.cut_le_cut hle _) (Inj.cut_mono ι' (hm i _ (by omega) (XhE _))))
end
theorem filter_less {α : Type} {p q : α -> Bool} : ∀ (l : List α), (∀ x ∈ l, q x = true -> p x = true) -> (∃ x ∈ l, p x = true /\ q x = false) -> (l.filter q).length < (l.filter p).length
 | [], _, h => by obtain ⟨x, h, _⟩ := h; cases h
 | y :: l, h1, h2 => by
  have le : ∀ (l : List α), (∀ x ∈ l, q x = true -> p x = true) -> (l.filter q).length <= (l.filter p).length := by
   intro l
   induction l with
   | nil => intro _; exact XhE _
   | cons z l ih =>
    intro h
    have := ih fun x hx => h x (by simp [hx])
    by_cases hq : q z = true
    ·rw [Xji hq, Xji (h z (by simp) hq)]
     simp only [Xh8]; omega
    ·rw [Xjx hq]
     by_cases hp : p z = true
     ·rw [Xji hp]; simp only [Xh8]; omega
     ·rw [Xjx hp]; exact this
  have tl := le l fun x hx => h1 x (by simp [hx])
  by_cases hq : q y = true
  ·have hp := h1 y (by simp) hq
   rw [Xji hq, Xji hp]
   obtain ⟨x, hx, hx1, hx2⟩ := h2
   rcases List.mem_cons.1 hx with rfl | hx
   ·rw [hq] at hx2; cases hx2
   ·have := filter_less l (fun x hx => h1 x (by simp [hx])) ⟨x, hx, hx1, hx2⟩
    simp only [Xh8]; omega
  ·rw [Xjx hq]
   by_cases hp : p y = true
   ·rw [Xji hp]; simp only [Xh8]; omega
   ·rw [Xjx hp]
    obtain ⟨x, hx, hx1, hx2⟩ := h2
    rcases List.mem_cons.1 hx with rfl | hx
    ·exact absurd hx1 hp
    ·exact filter_less l (fun x hx => h1 x (by simp [hx])) ⟨x, hx, hx1, hx2⟩
section
variable {P : Program} {B : Nat} {c : Ctx} {m : Nat} {ops : Array Oper} {F : Nat -> DS} {st : Nat -> XeA} {V : Nat -> Value} {b : Frame}
variable {ι0 : Inj} {w0 : World} {cs0 : List Frame}
def NorAt (P : Program) (B : Nat) (m : Nat) (ops : Array Oper) (F : Nat -> DS) (b : Frame) (ι0 : Inj) (w0 : World) (cs0 : List Frame) (k : List Item) (m1 : Machine) : Prop :=
 ∃ ι' a' cs' w', Steps P m1 (lone (b.atR a' k) cs' w') /\ St P B ι' (F ops.size).h w' m b (F ops.size).t (F ops.size).x a' cs' /\ Adv ι0 (F 0).h w0 ι' (F ops.size).h w' /\ CsAdv b cs0 cs'
theorem DInv.finish (D : DrawT P c m ops F st V) (hm : Mono ops F) (h0 : ∀ b p, ι0 b = some p -> b < (F 0).h.next) {S : Nat -> Prop} {u : Nat} {ι : Inj} {w : World} {a : Act} {cs : List Frame} (I : DInv P B m ops F st V b ι0 w0 cs0 S u ι w a cs) (all : ∀ j, j < ops.size -> S j) (k : List Item) :
  (F ops.size).d = none /\ NorAt P B m ops F b ι0 w0 cs0 k (lone (b.atR a (.inRegion ops [] :: k)) cs w) := by
 refine ⟨?_, ?_⟩
 ·cases e : (F ops.size).d with
  | none => rfl
  | some q =>
   obtain ⟨p, v⟩ := q
   obtain ⟨h1, h2, _⟩ := D.dpan ops.size (XhE _) p v e
   exact absurd h2 (I.good p (all p h1)).2
 ·obtain ⟨u', I', hu⟩ := I.norm D hm h0 _ u rfl
  have hu' : u' = ops.size := by
   rcases hu with h | ⟨h1, h2⟩
   ·exact h
   ·exact absurd h2 (I'.mem.whi u' (XhE _) (all u' h1))
  subst hu'
  refine ⟨ι.cut (F ops.size).h.next, a, cs, w, .one stepR_region_end, ⟨I'.mem.core, ⟨I'.size, fun s h1 h2 => ?_⟩, I'.defs, I'.round, I'.rc⟩, I'.mem.adv, I'.csa⟩
  by_cases hd : ∃ (j : Nat) (p : Oper), ops[j]? = some p /\ p.dst = some s
  ·obtain ⟨j, p, hp, hd⟩ := hd
   have hj := D.size_of hp
   rw [D.tslot hp hd (I'.good j (all j hj)).1 (I'.good j (all j hj)).2 ops.size hj (XhE _)]
   exact (I'.dsts j p s (all j hj) hp hd).mono (Inj.cut_mono ι (hm (j + 1) _ hj (XhE _)))
  ·have hn : ∀ (j : Nat) (o : Oper), ops[j]? = some o -> o.dst ≠ some s := fun j p hp hd' => hd ⟨j, p, hp, hd'⟩
   rw [D.tbase h1 ops.size (XhE _) fun j o _ => hn j o]
   exact (I'.base s h1 h2 fun j o _ => hn j o).mono (Inj.cut_mono ι (hm 0 _ (by omega) (XhE _)))
def DRes (P : Program) (B : Nat) (m : Nat) (ops : Array Oper) (F : Nat -> DS) (V : Nat -> Value) (b : Frame) (ι0 : Inj) (w0 : World) (cs0 : List Frame) (k : List Item) (m1 : Machine) : Prop :=
 ((F ops.size).d = none /\ NorAt P B m ops F b ι0 w0 cs0 k m1) \/ ∃ i, (F ops.size).d = some (i, V i) /\ PanAt P B m ops F V b ι0 w0 cs0 m1 i
theorem DRes.ahead {k : List Item} {m1 m2 : Machine} (hs : Steps P m1 m2) (h : DRes P B m ops F V b ι0 w0 cs0 k m2) : DRes P B m ops F V b ι0 w0 cs0 k m1 := by
 rcases h with ⟨h1, ι', a', cs', w', h2, h3⟩ | ⟨i, h1, ι', a', cs', w', todo, v', h2, h3⟩
 ·exact .inl ⟨h1, ι', a', cs', w', hs.trans h2, h3⟩
 ·exact .inr ⟨i, h1, ι', a', cs', w', todo, v', hs.trans h2, h3⟩
theorem mem_ready {listed : Array Bool} : i ∈ Region.ready .any ops listed ↔ i < ops.size /\ listed.getD i true = false /\ ∃ o, ops[i]? = some o /\ ∀ e ∈ o.after.toList, Region.binds .any e = true -> listed.getD e.on false = true := by
 unfold Region.ready
 rw [XiW, Xjd, XhN]
 refine and_congr Iff.rfl (and_congr (by cases listed.getD i true <;> simp) ?_)
 cases ho : ops[i]? with
 | none => simp
 | some o =>
  simp only [Option.map_some, Option.getD_some, Option.some.injEq, exists_eq_left']
  rw [<- Array.all_toList, Xjb]
  grind
theorem getD_same {listed : Array Bool} (hj : j < listed.size) (x y : Bool) : listed.getD j x = listed.getD j y := by
 simp_all
theorem draw_go (D : DrawT P c m ops F st V) (C : Vr P B c) (G : Ghost P B m ops F st V) (h0 : ∀ b p, ι0 b = some p -> b < (F 0).h.next) (k : List Item) : ∀ (fuel T : Nat) (listed : Array Bool) {S : Nat -> Prop} {u : Nat} {ι : Inj} {w : World} {a : Act} {cs : List Frame},
  DInv P B m ops F st V b ι0 w0 cs0 S u ι w a cs -> listed.size = ops.size -> (∀ j, S j ↔ j < ops.size /\ listed.getD j true = true) -> ((List.range ops.size).filter fun i => !listed.getD i true).length <= fuel ->
  DRes P B m ops F V b ι0 w0 cs0 k (lone (b.atR a (.inRegion ops (Region.linearise.go .any ops fuel T listed []) :: k)) cs w) := by
 intro fuel
 induction fuel with
 | zero =>
  intro T listed S u ι w a cs I hsz hS hlen
  have all : ∀ j, j < ops.size -> S j := by
   intro j hj
   rw [hS]
   refine ⟨hj, ?_⟩
   cases e : listed.getD j true with
   | true => rfl
   | false =>
    simp_all
  have := I.finish D G.mono h0 all k
  simp only [Region.linearise.go, List.reverse_nil]
  exact .inl this
 | succ fuel ih =>
  intro T listed S u ι w a cs I hsz hS hlen
  simp only [Region.linearise.go]
  change DRes P B m ops F V b ι0 w0 cs0 k (lone (b.atR a (.inRegion ops (match (Region.ready .any ops listed)[T % (Region.ready .any ops listed).length]? with
   | some i => Region.linearise.go .any ops fuel (T / (Region.ready .any ops listed).length) (listed.setIfInBounds i true) [i]
   | none => [].reverse) :: k)) cs w)
  cases hi : (Region.ready .any ops listed)[T % (Region.ready .any ops listed).length]? with
  | none =>
   have hnil : Region.ready .any ops listed = [] := by
    cases hr : Region.ready .any ops listed with
    | nil => rfl
    | cons x xs =>
     grind [Nat.mod_lt]
   have all : ∀ j, j < ops.size -> S j := by
    intro j
    induction j using Nat.strongRecOn with
    | ind j ihj =>
     intro hj
     rw [hS]
     refine ⟨hj, ?_⟩
     cases e : listed.getD j true with
     | true => rfl
     | false =>
      exfalso
      have ho := D.get hj
      have : j ∈ Region.ready .any ops listed := mem_ready.2 ⟨hj, e, _, ho, fun ed hed hb => by
       have hlt := fine_edges D.fine ho hed hb
       grind⟩
      rw [hnil] at this
      cases this
   have := I.finish D G.mono h0 all k
   simp only [List.reverse_nil]
   exact .inl this
  | some i =>
   simp only []
   obtain ⟨hin, hli, o, ho, hr⟩ := mem_ready.1 (Xh5 hi)
   rw [linearise_go_acc, List.reverse_singleton, List.singleton_append]
   have hnS : ¬ S i := fun h => by rw [((hS i).1 h).2] at hli; cases hli
   have hr' : ∀ e ∈ o.after.toList, Region.binds .any e = true -> S e.on := by
    intro e he hb
    have := hr e he hb
    have hlt := fine_edges D.fine ho he hb
    rw [hS]
    refine ⟨by omega, ?_⟩
    rw [getD_same (by omega) true false]; exact this
   obtain ⟨u', I', hn⟩ := I.norm D G.mono h0 _ u rfl
   rcases I'.go D C G h0 hn ho hnS hr' (Region.linearise.go .any ops fuel (T / (Region.ready .any ops listed).length) (listed.setIfInBounds i true) []) k with ⟨u2, ι2, w2, a2, cs2, g1, g2⟩ | ⟨g1, g2⟩
   ·refine DRes.ahead g1 (ih _ _ g2 (by simpa using hsz) (fun j => ?_) ?_)
    ·by_cases e : j = i
     ·simp_all
     ·rw [Xiy, XjF (fun h => e h.symm), <- Xiy, <- hS]
      simp_all
    ·refine Nat.le_of_lt_succ (Xia (filter_less _ (fun j _ hj => ?_) ⟨i, by simpa using hin, by rw [hli]; rfl, ?_⟩) hlen)
     ·by_cases e : j = i
      ·subst e; rw [hli]; rfl
      ·rw [Xiy, XjF (fun h => e h.symm), <- Xiy] at hj
       exact hj
     simp_all
   ·exact .inr ⟨i, D.pan_after hin g1 ops.size hin (XhE _), g2⟩
theorem DrawT.one (D : DrawT P c m ops F st V) {o : Oper} (ho : ops[j]? = some o) : (Xd9 P m ops o j (Xf4 (ops.map (cOp P m)) (Region.before ops) j) (XaS (ops.map (cOp P m)) (Region.before ops) j)).dst = o.dst := by
 have hs := D.trc.step j (Xd9 P m ops o j (Xf4 (ops.map (cOp P m)) (Region.before ops) j) (XaS (ops.map (cOp P m)) (Region.before ops) j)) (by
  simp_all)
 rcases Xc1 (P := P) m ops o j (Xf4 (ops.map (cOp P m)) (Region.before ops) j) (XaS (ops.map (cOp P m)) (Region.before ops) j) with ⟨why, hc⟩ | ⟨g, hc, hd, hg⟩
 ·rw [hc] at hs
  exfalso
  rcases hs.view with ⟨_, h, _⟩ | ⟨_, ⟨g, b, h, _⟩, _⟩ | ⟨_, _, ⟨l, h, _⟩, _⟩ | ⟨_, _, _, _, h, _⟩ | ⟨_, _, _, _, ⟨l, t', h⟩, _⟩
  ·unfold ZV at h
   split at h
   ·cases h
   ·simp at h
  ·cases h
  ·cases h
  ·cases h
  ·cases h
 ·rw [hc]
theorem draw_ok (hmix : P.follows .mixedOrders = true) (C : Vr P B c) : Xai P B c := by
 intro id ops k ι H w m b t x a cs S
 have hco : cOpers P m true ops = cOpersD P m ops (ops.map (cOp P m)) (Region.before ops) := rfl
 rw [hco]
 unfold cOpersD
 by_cases hf : J8 m ops (ops.map (cOp P m)) (Region.before ops) = true
 ·rw [if_pos hf]
  generalize hos : (ops.toList.zipIdx.map fun (o, j) => Xd9 P m ops o j (Xf4 (ops.map (cOp P m)) (Region.before ops) j) (XaS (ops.map (cOp P m)) (Region.before ops) j)) = os
  show Rz.all _ _ _ _ (dRun (dstsOf os) os c ⟨t, x, H, none, []⟩)
  rcases trace (dstsOf os) c os 0 ⟨t, x, H, none, []⟩ with ⟨why, h⟩ | ⟨F, st, V, h1, h2, h3⟩
  ·rw [h]; trivial
  ·have hlen : os.length = ops.size := by rw [<- hos]; simp
   rw [h3, hlen, XhT]
   rw [<- hos] at h1
   have D : DrawT P c m ops F st V := ⟨hf, h1, by rw [h2], by rw [h2]⟩
   have e0 : (F 0).h = H := by rw [h2]
   have S0 : St P B ι (F 0).h w m b (F 0).t (F 0).x a cs := by rw [h2]; exact S
   have G : Ghost P B m ops F st V := D.theGhost C S0
   have hb0 : ∀ b p, ι b = some p -> b < (F 0).h.next := S0.sim.bound
   have hcut : ι.cut (F 0).h.next = ι := by
    funext j
    rw [Inj.cut_at]
    split
    ·rfl
    ·cases e : ι j with
     | none => rfl
     | some p => exact absurd (hb0 j p e) ‹_›
   have I : DInv P B m ops F st V b ι w cs (fun _ => False) 0 ι { w with drawn := w.drawn + 1 } a cs := by
    refine ⟨⟨Nat.zero_le _, fun _ h => h.elim, fun j h => by omega, fun _ _ h => h.elim, ?_, ?_, fun b p h => .inl (hb0 b p h), S.sim.lt, fun b p h h' => ?_, fun j h => by omega⟩, fun _ _ h => h.elim, fun _ h => h.elim, fun _ _ _ h => h.elim, S.tmps.1, fun s h1 h2 _ => ?_, ?_, ?_, ?_, .refl _ _⟩
    ·rw [hcut]; exact S0.sim.drew _
    ·rw [hcut]; exact Adv.drew _ _ _ _ (Nat.le_succ _)
    ·have := hb0 b p h; omega
    ·rw [hcut]; exact S0.tmps.2 s h1 h2
    ·rw [hcut]; exact S0.defs
    ·rw [hcut]; exact S0.round
    ·rw [hcut]; exact S0.rc
   refine From.head stepR_region_draw ?_
   have hres := draw_go D C G hb0 k ops.size (w.tape w.drawn (.order b.fn id)) (Array.replicate ops.size false) I (by simp) (fun j => ?_) ?_
   ·have hsch : Region.schedule (P.follows .mixedOrders) ops (w.tape w.drawn (.order b.fn id)) = Region.linearise.go .any ops ops.size (w.tape w.drawn (.order b.fn id)) (Array.replicate ops.size false) [] := by
     rw [hmix]; rfl
    rw [hsch]
    show Rz.all _ _ _ _ (dEnd (dstsOf os) (F ops.size).g (F ops.size).d c (F ops.size).t (F ops.size).x (F ops.size).h)
    rcases hres with ⟨hd, ι', a', cs', w', g1, g2, g3, g4⟩ | ⟨i, hd, ι', a', cs', w', todo, v', g1, g2, g3, g4, g5, g6, g7, g8, g9, g10⟩
    ·rw [hd]
     rw [e0] at g3
     exact ⟨ι', a', cs', w', g1, g2, g3, g4⟩
    ·rw [hd]
     rw [e0] at g9
     refine ⟨ι', a', cs', w', todo, v', g1, g2, g3, ⟨g4, fun s h1 h2 h3 => g5 s h1 h2 fun j o ho hdst => h3 ?_⟩, g6, g7, g8, g9, g10⟩
     unfold dstsOf
     rw [List.mem_filterMap]
     have hget : os[j]? = some (Xd9 P m ops o j (Xf4 (ops.map (cOp P m)) (Region.before ops) j) (XaS (ops.map (cOp P m)) (Region.before ops) j)) := by
      rw [<- hos, Xic, List.getElem?_zipIdx]
      simp [ho]
     exact ⟨_, Xh5 hget, (D.one ho).trans hdst⟩
   ·simp_all
   grind
 ·rw [if_neg hf]
  trivial
end
open Go.RowKit
def below (f : Nat -> Bool) (n : Nat) : Bool := Nat.rec (motive := fun _ => Bool) true (fun k ih => ih && f k) n
theorem below_all {f : Nat -> Bool} : ∀ {n : Nat}, below f n = true -> ∀ j, j < n -> f j = true
 | 0, _, j, h => by omega
 | n + 1, h, j, hj => by
  replace h : (below f n && f n) = true := h
  rw [XhN] at h
  by_cases e : j = n
  ·rw [e]; exact h.2
  ·exact below_all h.1 j (by omega)
def Er.sure (r : Er) : Bool :=
 Er.rec (motive := fun _ => Bool) (fun v _ => isTrue v) (fun _ _ => false) (fun _ => false) (fun n _ ih => below ih n) r
theorem isTrue_eq {v : Value} (h : isTrue v = true) : v = .bool true := by
 cases v <;> first | (cases h; done) | skip
 rename_i b
 cases b
 ·cases h
 ·rfl
theorem Er.sure_all {A : Value -> Heap -> Prop} {C : List (Value × Bool) -> Heap -> Prop} {r : Er} (hs : r.sure = true) (h : r.all A C) : ∃ H, A (.bool true) H := by
 induction r with
 | ret v h' => exact ⟨h', by rw [<- isTrue_eq hs]; exact h⟩
 | panic c h' => cases hs
 | fail w => cases hs
 | any n k ih =>
  obtain ⟨j, h1, h2⟩ := h
  exact ih j (below_all hs j h1) h2
def Tr.allP {α : Type} (p : Nat -> α -> Prop) : Tr α -> (Nat -> Nat) -> Prop
 | .nil, _ => True
 | .node v l r, φ => (match v with
  | none => True
  | some a => p (φ 0) a) /\ Tr.allP p l (fun n => φ (2 * n + 1)) /\ Tr.allP p r (fun n => φ (2 * n + 2))
theorem Tr.allP_get {α : Type} {p : Nat -> α -> Prop} : ∀ {t : Tr α} {φ : Nat -> Nat}, Tr.allP p t φ -> ∀ n a, t.get n = some a -> p (φ n) a
 | .nil, φ, _, n, a, h => by cases h
 | .node v l r, φ, hp, n, a, h => by
  obtain ⟨h1, h2, h3⟩ := hp
  cases n with
  | zero =>
   replace h : v = some a := h
   rw [h] at h1
   exact h1
  | succ n =>
   replace h : (Xh3 (motive := fun _ => Option α) (r.get (n / 2)) (l.get (n / 2)) (XhD (n % 2) 0)) = some a := h
   cases hb : XhD (n % 2) 0 with
   | true =>
    rw [hb] at h
    have := Tr.allP_get h2 (n / 2) a h
    rw [beq_iff] at hb
    have e : 2 * (n / 2) + 1 = n + 1 := by omega
    rw [e] at this
    exact this
   | false =>
    rw [hb] at h
    have := Tr.allP_get h3 (n / 2) a h
    have hne : n % 2 ≠ 0 := fun e => by rw [beq_iff.2 e] at hb; cases hb
    have e : 2 * (n / 2) + 2 = n + 1 := by omega
    rw [e] at this
    exact this
def Tr.re {α : Type} (f : Nat -> Option α) : Tr α -> (Nat -> Nat) -> Tr α
 | .nil, _ => .nil
 | .node v l r, φ => .node (v.bind fun _ => f (φ 0)) (Tr.re f l fun n => φ (2 * n + 1)) (Tr.re f r fun n => φ (2 * n + 2))
theorem Tr.allP_re {α : Type} {f : Nat -> Option α} : ∀ {t : Tr α} {φ : Nat -> Nat}, Tr.re f t φ = t -> Tr.allP (fun n k => f n = some k) t φ
 | .nil, _, _ => trivial
 | .node none l r, φ, h => by
  injection h with h1 h2 h3
  exact ⟨trivial, Tr.allP_re h2, Tr.allP_re h3⟩
 | .node (some a) l r, φ, h => by
  injection h with h1 h2 h3
  exact ⟨h1, Tr.allP_re h2, Tr.allP_re h3⟩
section
variable {P : Program} {E : Env}
theorem Adv.isBelow {w w' : World} {ι : Inj} {H' : Heap} {B : Nat} {ι0 : Inj} {H0 : Heap} (s : Sim P B ι0 H0 w) (h : Adv ι0 H0 w ι H' w') : Below B w w' :=
 ⟨h.os, h.tape.1, h.output, h.size, Adv.below s h⟩
theorem calls_sure (hmix : P.follows .mixedOrders = true) {w : World} {B : Nat} (hE : Xez P B E) (n : Nat) {f : Nat} {k : XI} (hk : E.fn f = some k) {ι : Inj} {H : Heap} (s : Sim P B ι H w) {args : List Value} {args' : Array Value} (ha : LRel ι args args'.toList)
  (h : (J7 E (ctx E n) k args H).sure = true) : Calls P f args' w fun e w' => e = .returned (.bool true) /\ Below B w w' := by
 have hd : ∀ c, Vr P B c -> Xai P B c := fun c C => draw_ok hmix C
 have C := ctx_ok hE hd n
 intro cs
 have := enterK_sound hE C (hd _ C) (hE.fn f k hk) s ha cs
 obtain ⟨H', ι', w', v', F, h1, h2, h3, h4, h5, h6⟩ := Er.sure_all h this
 cases h4
 exact ⟨.returned (.bool true), w', F, ⟨rfl, Adv.isBelow s h6⟩, h1, h2, h3⟩
end
open Go.RowKit
def Er.gives (v : Value) (r : Er) : Bool :=
 Er.rec (motive := fun _ => Bool) (fun v' _ => sameV 20 v' v) (fun _ _ => false) (fun _ => false) (fun n _ ih => below ih n) r
theorem Er.gives_all {A : Value -> Heap -> Prop} {C : List (Value × Bool) -> Heap -> Prop} {v : Value} {r : Er} (hs : r.gives v = true) (h : r.all A C) : ∃ H, A v H := by
 induction r with
 | ret v' h' => exact ⟨h', by rw [<- sameV_eq 20 v' v hs]; exact h⟩
 | panic c h' => cases hs
 | fail w => cases hs
 | any n k ih =>
  obtain ⟨j, h1, h2⟩ := h
  exact ih j (below_all hs j h1) h2
def tabFind (T : List (List Value × Value)) (cs : List Value) : Option Value :=
 List.rec (motive := fun _ => Option Value) none (fun e _ ih => Xh3 (motive := fun _ => Option Value) ih (some e.2) (sameV 1 (.agg ⟨cs⟩) (.agg ⟨e.1⟩))) T
theorem tabFind_mem {cs : List Value} {v : Value} : ∀ {T : List (List Value × Value)}, tabFind T cs = some v -> (cs, v) ∈ T
 | [], h => by cases h
 | e :: T, h => by
  replace h : (Xh3 (motive := fun _ => Option Value) (tabFind T cs) (some e.2) (sameV 1 (.agg ⟨cs⟩) (.agg ⟨e.1⟩))) = some v := h
  cases hb : sameV 1 (.agg ⟨cs⟩) (.agg ⟨e.1⟩) with
  | false => rw [hb] at h; exact List.mem_cons_of_mem _ (tabFind_mem h)
  | true =>
   rw [hb] at h
   have h1 := sameV_eq 1 _ _ hb
   have h2 : cs = e.1 := by cases h1; rfl
   have h3 : e.2 = v := by cases h; rfl
   rw [h2, <- h3]
   exact List.mem_cons_self
def tabSum (T : List (List Value × Value)) : Summ := fun args h => match args with
 | [.slice (some a) n c] => match h.get a.block with
  | some (.cells _ xs) => match XU n (XY a.off xs) with
   | some cs => bif (match a.spot with
     | none => XhM (Nat.add a.off c) (Wy xs)
     | some z => XhD z 1) && XhK 0 n then Yr none (fun v => some (v, h)) (tabFind T cs) else none
   | none => none
  | _ => none
 | _ => none
def tabRow (E : Env) (d f : Nat) (e : List Value × Value) : Bool :=
 Xd6 e.1 && Jh e.2 && (enter E (ctx E d) f [.slice (some ⟨0, 0, some 1⟩) (Wy e.1) (Wy e.1)] ⟨1, .node (some (.cells false e.1)) .nil .nil⟩).gives e.2
theorem takeN_get {off : Nat} {xs cs : List Value} (h : XU n (XY off xs) = some cs) : cs.length = n /\ ∀ i, i < n -> cs[i]? = xs[off + i]? := by
 rw [VR, UZ] at h
 grind
theorem plain1_same {ι : Inj} {x v' : Value} (h : plain1 x = true) (r : VRel ι x v') : v' = x := by
 unfold plain1 at h
 split at h <;> first | (cases h; done) | (cases r; rfl)
theorem plainL_mem {xs : List Value} (h : Xd6 xs = true) : ∀ x ∈ xs, plain1 x = true := by
 induction xs with
 | nil => intro x hx; cases hx
 | cons y xs ih =>
  simp only [Xd6, XhN] at h
  simp_all
theorem plainL_same {ι : Inj} {xs ys : List Value} (h : Xd6 xs = true) (r : LRel ι xs ys) : ys = xs := by
 induction r with
 | nil => rfl
 | cons hx _ ih =>
  simp only [Xd6, XhN] at h
  rw [plain1_same h.1 hx, ih h.2]
theorem plainV_same {ι : Inj} {v v' : Value} (h : Jh v = true) (r : VRel ι v v') : v' = v := by
 unfold Jh at h
 grind [Uk, plainL_same, Xiq, plain1_same]
section
variable {P : Program} {B : Nat} {E : Env}
theorem tab_sound (hmix : P.follows .mixedOrders = true) (hE : Xez P B E) (d f : Nat) {T : List (List Value × Value)} (hT : ∀ e ∈ T, tabRow E d f e = true) {ι : Inj} {H : Heap} {w : World} {args args' : List Value} {v : Value} {H' : Heap} (s : Sim P B ι H w) (hr : LRel ι args args') (h : tabSum T args H = some (v, H')) :
  CallOK P B ι H w (callFunc f args'.toArray) (.ret v H') := by
 unfold tabSum at h
 split at h
 ·rename_i a n c
  split at h
  ·rename_i wr xs hg
   split at h
   ·rename_i cs hcs
    cases hb : ((match a.spot with
     | none => XhM (Nat.add a.off c) (Wy xs)
     | some z => XhD z 1) && XhK 0 n) with
    | false => rw [hb] at h; cases h
    | true =>
     rw [hb] at h
     obtain ⟨v0, hf, h2⟩ := XW h
     cases h2
     rw [XhN, blt_iff] at hb
     obtain ⟨hcap, hn0⟩ := hb
     have hrow := hT _ (tabFind_mem hf)
     unfold tabRow at hrow
     simp only [XhN] at hrow
     obtain ⟨⟨hp1, hp2⟩, hrun⟩ := hrow
     cases hr with
     | cons hv ht =>
      cases ht
      cases hv with
      | sempty he => omega
      | @slice _ p _ _ c' hp he hc hn hl =>
       obtain ⟨o1, o2, o3, o4⟩ := s.obj _ _ _ hp hg
       have hlen : Wy cs = n /\ ∀ i, i < n -> cs[i]? = xs[a.off + i]? := by
        rw [ZD]
        exact takeN_get hcs
       obtain ⟨hl1, hl2⟩ := hlen
       have hcells : ∀ i, i < c' -> a.off + i < p.L := by
        intro i hi
        cases hs : a.spot with
        | none =>
         grind [ble_iff, ZD]
        | some z =>
         grind [beq_iff]
       let ι0 : Inj := fun b => if b = 0 then some ⟨p.b, p.d + a.off, c'⟩ else none
       have hι : ι0 0 = some ⟨p.b, p.d + a.off, c'⟩ := rfl
       have only : ∀ b q, ι0 b = some q -> b = 0 /\ q = ⟨p.b, p.d + a.off, c'⟩ := by
        intro b q hq
        by_cases hb : b = 0
        ·subst hb; cases hq; exact ⟨rfl, rfl⟩
        ·grind
       have s0 : Sim P B ι0 ⟨1, .node (some (.cells false cs)) .nil .nil⟩ w := by
        refine ⟨fun b q o hq ho => ?_, fun b b' q q' o o' hne h1 h2 => ?_, fun b q hq => ?_, fun b q hq => ?_, fun b hb => ?_, s.base⟩
        ·obtain ⟨rfl, rfl⟩ := only b q hq
         cases ho
         refine ⟨by rw [<- ZD, hl1]; show n <= c'; omega, fun i hi => ?_, fun i x hx => ?_, fun h => by cases h⟩
         ·grind
         grind [List.getElem?_eq_some_iff, ZD, plainL_mem, Xh5, plain1_same, Nat.add_assoc, plain1_rel]
        ·simp_all
        ·simp_all
        ·obtain ⟨_, rfl⟩ := only b q hq; exact s.lt a.block p hp
        ·cases b with
         | zero => exact absurd (show 1 <= 0 from hb) (by omega)
         | succ b =>
          show (Tr.node (some (AObj.cells false cs)) .nil .nil).get (b + 1) = none
          show (Xh3 (motive := fun _ => Option AObj) ((Tr.nil : Tr AObj).get (b / 2)) ((Tr.nil : Tr AObj).get (b / 2)) (XhD (b % 2) 0)) = none
          cases XhD (b % 2) 0 <;> rfl
       have hd : ∀ c, Vr P B c -> Xai P B c := fun c C => draw_ok hmix C
       have C := ctx_ok hE hd d
       have harg : VRel ι0 (.slice (some ⟨0, 0, some 1⟩) (Wy cs) (Wy cs)) (.slice (some ⟨p.b, p.d + a.off, none⟩) n c') := by
        rw [hl1]
        exact .slice (a := ⟨0, 0, some 1⟩) (p := ⟨p.b, p.d + a.off, c'⟩) hι (fun h => by cases h) (by omega) (XhE _) (fun z hz => by cases hz; show 0 + c' * 1 <= c'; omega)
       have hcall := XaV hE C (hd _ C) (f := f) s0 (.cons harg .nil)
       intro fr cs0 m0 hm D
       obtain ⟨H1, ι1, w1, v', g1, g2, g3, g4⟩ := Er.gives_all hrun (hcall fr cs0 m0 hm D)
       have := plainV_same hp2 g2
       subst this
       have hk : ∀ k, k < w.heap.size -> w1.heap[k]? = w.heap[k]? := by
        intro k hk
        refine g4.keep k hk fun b q o hq ho hw => ?_
        obtain ⟨rfl, _⟩ := only b q hq
        cases ho
        cases hw
       exact ⟨ι, w1, _, g1, XcZ hp2, s.grown g4.size hk, Adv.grown _ _ g4.os g4.tape g4.output g4.size hk⟩
   ·cases h
  ·cases h
 ·cases h
end
open Go.RowKit Go.WideShapes
def XcG : Summ := fun args h => match args with
 | [] => some (.bool true, h)
 | _ => none
section
variable {P : Program} {B : Nat} {E : Env}
theorem closed_sound (hmix : P.follows .mixedOrders = true) (hE : Xez P B E) (d f : Nat) (hrun : (enter E (ctx E d) f [] ⟨0, .nil⟩).gives (.bool true) = true) {ι : Inj} {H : Heap} {w : World} {args args' : List Value} {v : Value} {H' : Heap} (s : Sim P B ι H w) (hr : LRel ι args args') (h : XcG args H = some (v, H')) :
  CallOK P B ι H w (callFunc f args'.toArray) (.ret v H') := by
 unfold XcG at h
 split at h
 ·cases h
  cases hr
  have s0 : Sim P B (fun _ => none) ⟨0, .nil⟩ w :=
   ⟨(fun b p o h => by cases h), (fun b b' p p' o o' _ h => by cases h), (fun b p h => by cases h), (fun b p h => by cases h), fun b _ => rfl, s.base⟩
  have hd : ∀ c, Vr P B c -> Xai P B c := fun c C => draw_ok hmix C
  have C := ctx_ok hE hd d
  have hcall := XaV hE C (hd _ C) (f := f) s0 (args := []) (args' := []) .nil
  intro fr cs0 m0 hm D
  obtain ⟨H1, ι1, w1, v', g1, g2, g3, g4⟩ := Er.gives_all hrun (hcall fr cs0 m0 hm D)
  cases g2
  have hk : ∀ k, k < w.heap.size -> w1.heap[k]? = w.heap[k]? := fun k hk => g4.keep k hk fun b q o hq _ _ => by cases hq
  exact ⟨ι, w1, _, g1, .bool true, s.grown g4.size hk, Adv.grown _ _ g4.os g4.tape g4.output g4.size hk⟩
 ·cases h
end
open Go.RowKit Go.WideShapes
theorem cell_lt {w : World} {a : Addr} {v : Value} (h : w.cell? a = some v) : a.spot = none /\ a.block < w.heap.size := by
 refine ⟨World.cell?_spot h, ?_⟩
 rcases Nat.lt_or_ge a.block w.heap.size with h' | h'
 ·exact h'
 ·simp [World.cell?, Array.getElem?_eq_none h'] at h
open Go.RowKit
section
variable {P : Program} {B : Nat}
theorem Sim.more {ι : Inj} {H : Heap} {w : World} (s : Sim P B ι H w) {o : AObj} {p : Place} (hp : p.b < w.heap.size) (hap : ∀ b p' o', ι b = some p' -> H.get b = some o' -> Apart o' o p' p /\ Apart o o' p p')
  (ho : ObjRel P B (ι.with H.next p) (H.push o) w p o) : Sim P B (ι.with H.next p) (H.push o) w := by
 have hn := s.next_none
 have hle := Inj.with_le hn p
 have blw : ∀ c q, ι c = some q -> c ≠ H.next := fun c q h e => by rw [e, hn] at h; cases h
 refine ⟨fun c q o' hc hg => ?_, fun c c' q q' o1 o2 hne h1 h2 g1 g2 => ?_, fun c q hc => ?_, fun c q hc => ?_, fun c hc => ?_, s.base⟩
 ·rcases Inj.with_cases hc with ⟨rfl, rfl⟩ | ⟨hne, hc'⟩
  ·simp_all [Heap.get_push, if_pos]
  ·rw [Heap.get_push, if_neg hne] at hg
   refine (s.obj c q o' hc' hg).stay hle (fun _ _ _ _ _ => ⟨rfl, rfl⟩) (fun _ _ _ => .refl _ _) (fun _ => rfl) ?_
   simp_all [Heap.get_push, if_neg]
 ·rcases Inj.with_cases h1 with ⟨rfl, rfl⟩ | ⟨hn1, h1'⟩
  ·rcases Inj.with_cases h2 with ⟨rfl, rfl⟩ | ⟨hn2, h2'⟩
   ·exact absurd rfl hne
   ·rw [Heap.get_push, if_pos rfl] at g1
    rw [Heap.get_push, if_neg hn2] at g2
    cases g1
    exact (hap _ _ _ h2' g2).2
  ·rcases Inj.with_cases h2 with ⟨rfl, rfl⟩ | ⟨hn2, h2'⟩
   ·rw [Heap.get_push, if_pos rfl] at g2
    rw [Heap.get_push, if_neg hn1] at g1
    cases g2
    exact (hap _ _ _ h1' g1).1
   ·rw [Heap.get_push, if_neg hn1] at g1
    rw [Heap.get_push, if_neg hn2] at g2
    exact s.apart c c' q q' o1 o2 hne h1' h2' g1 g2
 ·rcases Inj.with_cases hc with ⟨rfl, rfl⟩ | ⟨hne, hc'⟩
  ·exact Xh0 _
  ·exact Nat.lt_succ_of_lt (s.bound c q hc')
 ·rcases Inj.with_cases hc with ⟨rfl, rfl⟩ | ⟨hne, hc'⟩
  ·exact hp
  ·exact s.lt c q hc'
 ·replace hc : H.next + 1 <= c := hc
  rw [Heap.get_push, if_neg (by omega)]
  exact s.blank c (by omega)
end
open Go.RowKit
end Go.Eng
end
