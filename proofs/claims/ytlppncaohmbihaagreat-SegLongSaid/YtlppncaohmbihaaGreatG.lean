/-
  How a function is gone through on the abstract machine, step by step. Conditions: those that each lemma states.
-/
import Derived.Test.YtlppncaohmbihaaGreatF

set_option linter.unusedSimpArgs false
set_option linter.unusedSectionVars false
set_option linter.unusedVariables false
/- What is known of a run of the abstract machine: it ends so, whatever way it goes. -/
namespace Go.Eng
set_option linter.unusedVariables false

def Er.Wp (r : Er) (Q : Value → Heap → Prop) : Prop := ∃ v h, r = .ret v h ∧ Q v h
def Rz.Wp (r : Rz) (N : Tm → Aux → Heap → Prop) (X : Nat → Tm → Aux → Heap → Prop) (R : Tm → Aux → Heap → Prop) : Prop :=
  match r with
  | .norm t x h => N t x h
  | .exit i t x h => X i t x h
  | .ret t x h => R t x h
  | _ => False

theorem Er.Wp.mono {r : Er} {Q Q' : Value → Heap → Prop} (h : r.Wp Q) (hq : ∀ v h, Q v h → Q' v h) : r.Wp Q' := by
  obtain ⟨v, h', e, q⟩ := h
  exact ⟨v, h', e, hq _ _ q⟩
theorem Rz.Wp.mono {r : Rz} {N N' : Tm → Aux → Heap → Prop} {X X' : Nat → Tm → Aux → Heap → Prop} {R R' : Tm → Aux → Heap → Prop} (h : r.Wp N X R) (hn : ∀ t x h, N t x h → N' t x h) (hx : ∀ i t x h, X i t x h → X' i t x h) (hr : ∀ t x h, R t x h → R' t x h) : r.Wp N' X' R' := by
  cases r <;> first | exact hn _ _ _ h | exact hx _ _ _ _ h | exact hr _ _ _ h | exact h.elim
theorem Er.Wp.sure {r : Er} (h : r.Wp fun v _ => v = .bool true) : r.sure = true := by
  obtain ⟨v, h', rfl, rfl⟩ := h
  rfl

section
variable {N : Tm → Aux → Heap → Prop} {X : Nat → Tm → Aux → Heap → Prop} {R : Tm → Aux → Heap → Prop} {c : Ctx} {t : Tm} {x : Aux} {h : Heap}

/-! ### Code -/
theorem wp_seq {a b : KB} (H : (a c t x h).Wp (fun t x h => (b c t x h).Wp N X R) X R) : (kSeq a b c t x h).Wp N X R := by
  unfold kSeq
  cases e : a c t x h <;> rw [e] at H <;> first | exact H | exact H.elim
theorem wp_skip (H : N t x h) : (kSkip c t x h).Wp N X R := H
theorem wp_ret (H : R t x h) : (kRet c t x h).Wp N X R := H
theorem wp_exit {id : Nat} (H : X id t x h) : (kExit id c t x h).Wp N X R := H
theorem wp_end (H : N t x h) : (oEnd c t x h).Wp N X R := H
theorem wp_cond {g : OpdF} {a b : KB} {p : Bool} (hg : g t = .bool p) (H1 : p = true → (a c t x h).Wp N X R) (H0 : p = false → (b c t x h).Wp N X R) : (kCond g a b c t x h).Wp N X R := by
  unfold kCond
  rw [hg]
  cases p with
  | true => exact H1 rfl
  | false => exact H0 rfl
theorem wp_block {id : Nat} {a : KB} (H : (a c t x h).Wp N (fun i t x h => bif Nat.beq i id then N t x h else X i t x h) R) : (kBlock id a c t x h).Wp N X R := by
  unfold kBlock
  cases e : a c t x h <;> rw [e] at H <;> try first | exact H | exact H.elim
  rename_i i t' x' h'
  replace H : bif Nat.beq i id then N t' x' h' else X i t' x' h' := H
  show Rz.Wp (Bool.rec (motive := fun _ => Rz) (.exit i t' x' h') (.norm t' x' h') (Nat.beq i id)) N X R
  cases hb : Nat.beq i id <;> rw [hb] at H <;> exact H
theorem wp_loop {a : KB} (I : Nat → Tm → Aux → Heap → Prop) (m : Nat) (h0 : I m t x h) (hf : m < c.fuel)
    (step : ∀ m t x h, I m t x h → (a c t x h).Wp (fun t x h => ∃ m', m' < m ∧ I m' t x h) X R) : (kLoop a c t x h).Wp N X R := by
  unfold kLoop
  generalize c.fuel = f at hf ⊢
  induction f generalizing m t x h with
  | zero => omega
  | succ f ih =>
    have := step m t x h h0
    show Rz.Wp ((a c t x h).then _) N X R
    cases e : a c t x h <;> rw [e] at this <;> try first | exact this | exact this.elim
    obtain ⟨m', h1, h2⟩ := this
    exact ih m' h2 (by omega)

/-! ### Operations -/
theorem wp_look {l : Look} {p : Value → Tm → Tm} {rest : KB} {v : Value} (hl : l t h = some v) (H : (rest c (p v t) x h).Wp N X R) : (oSet (xLook l) p rest c t x h).Wp N X R := by
  unfold oSet xLook
  rw [hl]
  exact H
theorem wp_lookDo {l : Look} {rest : KB} {v : Value} (hl : l t h = some v) (H : (rest c t x h).Wp N X R) : (oDo (xLook l) rest c t x h).Wp N X R := by
  unfold oDo xLook
  rw [hl]
  exact H
theorem wp_turn {l : Turn} {p : Value → Tm → Tm} {rest : KB} {v : Value} {h' : Heap} (hl : l t h = some (v, h')) (H : (rest c (p v t) x h').Wp N X R) : (oSet (xTurn l) p rest c t x h).Wp N X R := by
  unfold oSet xTurn
  rw [hl]
  exact H
theorem wp_turnDo {l : Turn} {rest : KB} {v : Value} {h' : Heap} (hl : l t h = some (v, h')) (H : (rest c t x h').Wp N X R) : (oDo (xTurn l) rest c t x h).Wp N X R := by
  unfold oDo xTurn
  rw [hl]
  exact H
theorem wp_move {g : OpdF} {p : Value → Tm → Tm} {rest : KB} {v : Value} (hv : g t = v) (H : (rest c (p v t) x h).Wp N X R) : (oSet (xMove g) p rest c t x h).Wp N X R := by
  subst hv; exact H
theorem wp_if {want : Tm → Bool} {ex : ExF} {p : Value → Tm → Tm} {rest : KB} {b : Bool} (hw : want t = b) (H1 : b = true → (oSet ex p rest c t x h).Wp N X R) (H0 : b = false → (rest c (p undef t) x h).Wp N X R) : (oSetIf want ex p rest c t x h).Wp N X R := by
  unfold oSetIf
  rw [hw]
  cases b with
  | true => exact H1 rfl
  | false => exact H0 rfl
theorem wp_ifDo {want : Tm → Bool} {ex : ExF} {rest : KB} {b : Bool} (hw : want t = b) (H1 : b = true → (oDo ex rest c t x h).Wp N X R) (H0 : b = false → (rest c t x h).Wp N X R) : (oDoIf want ex rest c t x h).Wp N X R := by
  unfold oDoIf
  rw [hw]
  cases b with
  | true => exact H1 rfl
  | false => exact H0 rfl
theorem wp_nil {o : OpdF} {p : Value → Tm → Tm} {rest : KB} {a : Addr} (ho : o t = .pointer (some a)) (H : (rest c (p (.pointer (some a)) t) x h).Wp N X R) : (oSet (xNil o) p rest c t x h).Wp N X R := by
  unfold oSet xNil
  rw [ho]
  exact H
theorem wp_nilDo {o : OpdF} {rest : KB} {a : Addr} (ho : o t = .pointer (some a)) (H : (rest c t x h).Wp N X R) : (oDo (xNil o) rest c t x h).Wp N X R := by
  unfold oDo xNil
  rw [ho]
  exact H

/-! ### Calls -/
theorem wp_callIn {f : OpdF} {args : List OpdF} {p : Value → Tm → Tm} {rest : KB} {Q : Value → Heap → Prop} (hc : (c.call (f t) (vals t args) h).Wp Q) (H : ∀ v h', Q v h' → (rest c (p v t) x h').Wp N X R) : (oSet (xCall f args) p rest c t x h).Wp N X R := by
  obtain ⟨v, h', e, q⟩ := hc
  unfold oSet xCall
  rw [e]
  exact H v h' q
theorem wp_callDo {f : OpdF} {args : List OpdF} {rest : KB} {Q : Value → Heap → Prop} (hc : (c.call (f t) (vals t args) h).Wp Q) (H : ∀ v h', Q v h' → (rest c t x h').Wp N X R) : (oDo (xCall f args) rest c t x h).Wp N X R := by
  obtain ⟨v, h', e, q⟩ := hc
  unfold oDo xCall
  rw [e]
  exact H v h' q
theorem wp_func {E : Env} {n f : Nat} {first captured : Array Value} {args as : List Value} {Q : Value → Heap → Prop} (ha : first.toList ++ (args ++ captured.toList) = as) (H : (enter E (ctx E n) f as h).Wp Q) : ((ctx E (n + 1)).call (.func (.func f) first captured) args h).Wp Q := by
  show (callV E (ctx E n) (.func (.func f) first captured) args h).Wp Q
  unfold callV
  simp only [app_eq, ha]
  exact H
theorem wp_enter {E : Env} {f : Nat} {k : KFun} {args : List Value} {Q : Value → Heap → Prop} (hs : E.sum f = none) (hf : E.fn f = some k) (H : (enterK E c k args h).Wp Q) : (enter E c f args h).Wp Q := by
  unfold enter
  rw [hs, hf]
  exact H
theorem wp_sum {E : Env} {f : Nat} {s : Summ} {args : List Value} {v : Value} {h' : Heap} {Q : Value → Heap → Prop} (hs : E.sum f = some s) (hv : s args h = some (v, h')) (H : Q v h') : (enter E c f args h).Wp Q := by
  unfold enter
  rw [hs]
  show (optV (.fail "summary") (fun r => Er.ret r.1 r.2) (s args h)).Wp Q
  rw [hv]
  exact ⟨_, _, rfl, H⟩
theorem wp_fn {E : Env} {fn : KFun} {args : List Value} {Q : Value → Heap → Prop} (hl : args.length ≤ 255)
    (H : (fn.body c (initTmps args 0 Tm.empty) ⟨[], none, none⟩ h).Wp (fun t x h => x.defers = [] ∧ ∃ vs, readRes fn.res [] t h = some vs ∧ Q (single vs) h) (fun _ _ _ _ => False) (fun t x h => x.defers = [] ∧ ∃ vs, readRes fn.res [] t h = some vs ∧ Q (single vs) h)) : (enterK E c fn args h).Wp Q := by
  unfold enterK
  have : Nat.ble (lenL args) 255 = true := by rw [lenL_eq, ble_iff]; exact hl
  rw [this]
  have fin : ∀ t (x : Aux) h, (x.defers = [] ∧ ∃ vs, readRes fn.res [] t h = some vs ∧ Q (single vs) h) → (finish E c fn.res [] t x.defers .returning h).Wp Q := by
    rintro t x h ⟨h1, vs, h2, h3⟩
    rw [h1]
    refine ⟨single vs, h, ?_, h3⟩
    show (match readRes fn.res [] t h with
      | some vs => Er.ret (single vs) h
      | none => .fail "results") = _
    rw [h2]
  show (Rz.toEr _ _ _ _ _).Wp Q
  cases e : fn.body c (initTmps args 0 Tm.empty) ⟨[], none, none⟩ h <;> rw [e] at H <;> first | exact H.elim | exact fin _ _ _ H

/-! ### Regions that draw their order -/
theorem wp_draw {d : KD} (H : (d [] none c t x h).Wp N X R) : (kDraw d c t x h).Wp N X R := H
theorem wp_dEnd {lost : List Nat} {log : List (Nat × LogE)} (H : N t x h) : (dEnd lost log none c t x h).Wp N X R := H
theorem wp_dLook {idx : Nat} {un pre : List Nat} {l : Look} {p : Value → Tm → Tm} {rest : KD} {log : List (Nat × LogE)} {v : Value} (hl : l t h = some v) (hu : unLook log l t v un = true)
    (H : (rest ((idx, .ld fun now => tellsAs (l t now) v) :: log) none c (p v t) x h).Wp N X R) : (dLook idx un pre l p rest log none c t x h).Wp N X R := by
  unfold dLook
  show Rz.Wp (match l t h with
    | some v => bif unLook log l t v un then rest ((idx, .ld fun now => tellsAs (l t now) v) :: log) none c (p v t) x h else .fail "a look beside a writer"
    | none => .fail "look") N X R
  rw [hl]
  dsimp only
  rw [hu]
  exact H
theorem wp_dTurn {idx : Nat} {un pre : List Nat} {w : Bool} {l : Turn} {p : Value → Tm → Tm} {rest : KD} {log : List (Nat × LogE)} {v : Value} {h' : Heap} (hl : l t h = some (v, h')) (hu : unTurn log h' un = true)
    (H : (rest ((idx, .wr h) :: log) none c (p v t) x h').Wp N X R) : (dTurn idx un pre w (xTurn l) p rest log none c t x h).Wp N X R := by
  unfold dTurn xTurn
  simp only [isAfter, Option.isSome, Bool.and_false, cond_false, hl]
  rw [hu]
  exact H
theorem wp_dCall {idx : Nat} {un pre : List Nat} {w : Bool} {f : OpdF} {args : List OpdF} {p : Value → Tm → Tm} {rest : KD} {log : List (Nat × LogE)} {Q : Value → Heap → Prop} (hc : (c.call (f t) (vals t args) h).Wp Q)
    (hu : ∀ v h', Q v h' → unTurn log h' un = true) (H : ∀ v h', Q v h' → (rest ((idx, .wr h) :: log) none c (p v t) x h').Wp N X R) : (dTurn idx un pre w (xCall f args) p rest log none c t x h).Wp N X R := by
  obtain ⟨v, h', e, q⟩ := hc
  unfold dTurn xCall
  simp only [isAfter, Option.isSome, Bool.and_false, cond_false, e]
  show Rz.Wp (bif unTurn log h' un then _ else _) N X R
  rw [hu v h' q]
  exact H v h' q
theorem wp_dIf {pre : List Nat} {want : Tm → Bool} {p : Value → Tm → Tm} {yes rest : KD} {log : List (Nat × LogE)} {b : Bool} (hw : want t = b) (H1 : b = true → (yes log none c t x h).Wp N X R) (H0 : b = false → (rest log none c (p undef t) x h).Wp N X R) :
    (dIf pre want p yes rest log none c t x h).Wp N X R := by
  unfold dIf
  simp only [isAfter, cond_false, hw]
  cases b with
  | true => exact H1 rfl
  | false => exact H0 rfl
end

/-! ### Memory that has grown -/
/-- All that was there is there. -/
structure Heap.Le (h h' : Heap) : Prop where
  next : h.next ≤ h'.next
  get : ∀ b, b < h.next → h'.get b = h.get b
  blank : (∀ b, h.next ≤ b → h.get b = none) → ∀ b, h'.next ≤ b → h'.get b = none

theorem Heap.Le.refl (h : Heap) : h.Le h := ⟨Nat.le_refl _, fun _ _ => rfl, fun k => k⟩
theorem Heap.Le.trans {a b d : Heap} (h1 : a.Le b) (h2 : b.Le d) : a.Le d := ⟨Nat.le_trans h1.next h2.next, fun k hk => (h2.get k (Nat.lt_of_lt_of_le hk h1.next)).trans (h1.get k hk), fun k => h2.blank (h1.blank k)⟩
theorem Heap.Le.push (h : Heap) (o : AObj) : h.Le (h.push o) := by
  refine ⟨Nat.le_succ _, fun b hb => ?_, fun k b hb => ?_⟩
  · rw [Heap.get_push, if_neg (by omega)]
  · replace hb : h.next + 1 ≤ b := hb
    rw [Heap.get_push, if_neg (by omega)]; exact k b (by omega)
theorem Heap.get_new (h : Heap) (o : AObj) : (h.push o).get h.next = some o := by rw [Heap.get_push, if_pos rfl]
theorem Heap.load_of {h : Heap} {b off n : Nat} {w : Bool} {xs cs : List Value} (hb : h.get b = some (.cells w xs)) (hc : takeN n (dropN off xs) = some cs) : h.load b off n = some cs := by
  unfold Heap.load; rw [hb]; exact hc
theorem Heap.load1_of {h : Heap} {b off : Nat} {w : Bool} {xs : List Value} {v : Value} (hb : h.get b = some (.cells w xs)) (hc : nth off xs = some v) : h.load1 b off = some v := by
  unfold Heap.load1; rw [hb]; exact hc
theorem lkLoad1_of {g : OpdF} {t : Tm} {h : Heap} {a : Addr} {v : Value} (hg : g t = .pointer (some a)) (hc : h.load1 a.block a.off = some v) : lkLoad1 g t h = some v := by
  unfold lkLoad1; rw [hg]; exact hc
theorem lkLoadN_of {n : Nat} {g : OpdF} {t : Tm} {h : Heap} {a : Addr} {cs : List Value} (hg : g t = .pointer (some a)) (hc : h.load a.block a.off n = some cs) : lkLoadN n g t h = some (.agg ⟨cs⟩) := by
  unfold lkLoadN; rw [hg]; show optV none _ (h.load a.block a.off n) = _; rw [hc]; rfl
end Go.Eng

/- Operations, each told by what its operands are. -/
namespace Go.Eng
set_option linter.unusedVariables false
section
variable {N : Tm → Aux → Heap → Prop} {X : Nat → Tm → Aux → Heap → Prop} {R : Tm → Aux → Heap → Prop} {c : Ctx} {t : Tm} {x : Aux} {h : Heap} {g g' : OpdF}

/-! ### Looks -/
theorem l_bool {b : Bool} (hg : g t = .bool b) : lkMove g t h = some (.bool b) := congrArg some hg
theorem l_fieldAddr {off : Nat} {a : Addr} (hg : g t = .pointer (some a)) : lkFieldAddr off g t h = some (.pointer (some ⟨a.block, a.off + off, none⟩)) := by unfold lkFieldAddr; rw [hg]; rfl
theorem l_load1 {a : Addr} {w : Bool} {xs : List Value} {v : Value} (hg : g t = .pointer (some a)) (hb : h.get a.block = some (.cells w xs)) (hv : nth a.off xs = some v) : lkLoad1 g t h = some v := lkLoad1_of hg (Heap.load1_of hb hv)
theorem l_loadN {n : Nat} {a : Addr} {w : Bool} {xs cs : List Value} (hg : g t = .pointer (some a)) (hb : h.get a.block = some (.cells w xs)) (hv : takeN n (dropN a.off xs) = some cs) : lkLoadN n g t h = some (.agg ⟨cs⟩) := lkLoadN_of hg (Heap.load_of hb hv)
theorem l_lss {a b : ByteArray} (h1 : g t = .string a) (h2 : g' t = .string b) : lkBin .lss g g' t h = some (.bool (ltBytes (bytes a) (bytes b))) := by unfold lkBin; rw [h1, h2]; rfl
theorem l_gtr {a b : ByteArray} (h1 : g t = .string a) (h2 : g' t = .string b) : lkBin .gtr g g' t h = some (.bool !(ltBytes (bytes a) (bytes b) || eqBytes (bytes a) (bytes b))) := by unfold lkBin; rw [h1, h2]; rfl
theorem l_leq {a b : ByteArray} (h1 : g t = .string a) (h2 : g' t = .string b) : lkBin .leq g g' t h = some (.bool (ltBytes (bytes a) (bytes b) || eqBytes (bytes a) (bytes b))) := by unfold lkBin; rw [h1, h2]; rfl
theorem l_geq {a b : ByteArray} (h1 : g t = .string a) (h2 : g' t = .string b) : lkBin .geq g g' t h = some (.bool !(ltBytes (bytes a) (bytes b))) := by unfold lkBin; rw [h1, h2]; rfl
theorem l_eqS {a b : ByteArray} (h1 : g t = .string a) (h2 : g' t = .string b) : lkEq false .str g g' t h = some (.bool (eqBytes (bytes a) (bytes b))) := by unfold lkEq; rw [h1, h2]; rfl
theorem l_neS {a b : ByteArray} (h1 : g t = .string a) (h2 : g' t = .string b) : lkEq true .str g g' t h = some (.bool !(eqBytes (bytes a) (bytes b))) := by unfold lkEq; rw [h1, h2]; rfl
theorem l_eqB {a b : Bool} (h1 : g t = .bool a) (h2 : g' t = .bool b) : lkEq false .bool g g' t h = some (.bool (a == b)) := by unfold lkEq; rw [h1, h2]; rfl
theorem l_neB {a b : Bool} (h1 : g t = .bool a) (h2 : g' t = .bool b) : lkEq true .bool g g' t h = some (.bool !(a == b)) := by unfold lkEq; rw [h1, h2]; rfl
theorem eqInt_eq (a b : Int) : eqInt a b = decide (a = b) := by
  have nbeq : ∀ m n : Nat, Nat.beq m n = decide (m = n) := fun m n => by
    by_cases e : m = n
    · rw [beq_iff.2 e]; simp [e]
    · rw [show Nat.beq m n = false from (by cases hb : Nat.beq m n; rfl; exact absurd (beq_iff.1 hb) e)]; simp [e]
  cases a with
  | ofNat m => cases b with
    | ofNat n => show Nat.beq m n = _; rw [nbeq]; exact decide_eq_decide.2 ⟨fun h => by rw [h], fun h => Int.ofNat.inj h⟩
    | negSucc n => symm; exact decide_eq_false (fun h => by cases h)
  | negSucc m => cases b with
    | ofNat n => symm; exact decide_eq_false (fun h => by cases h)
    | negSucc n => show Nat.beq m n = _; rw [nbeq]; exact decide_eq_decide.2 ⟨fun h => by rw [h], fun h => Int.negSucc.inj h⟩
theorem ltInt_eq (a b : Int) : ltInt a b = decide (a < b) := by
  have blt : ∀ m n : Nat, Nat.blt m n = decide (m < n) := fun m n => by
    by_cases e : m < n
    · rw [blt_iff.2 e]; simp [e]
    · rw [show Nat.blt m n = false from (by cases hb : Nat.blt m n; rfl; exact absurd (blt_iff.1 hb) e)]; simp [e]
  cases a with
  | ofNat m => cases b with
    | ofNat n => show Nat.blt m n = _; rw [blt]; exact decide_eq_decide.2 ⟨fun h => Int.ofNat_lt.2 h, fun h => Int.ofNat_lt.1 h⟩
    | negSucc n =>
      symm; refine decide_eq_false (fun h => ?_)
      have := Int.negSucc_lt_zero n; have : (0 : Int) ≤ Int.ofNat m := Int.natCast_nonneg m; omega
  | negSucc m => cases b with
    | ofNat n =>
      symm; refine decide_eq_true ?_
      have := Int.negSucc_lt_zero m; have : (0 : Int) ≤ Int.ofNat n := Int.natCast_nonneg n; omega
    | negSucc n =>
      show Nat.blt n m = _; rw [blt]
      refine decide_eq_decide.2 ⟨fun h => ?_, fun h => ?_⟩
      · have := Int.negSucc_eq m; have := Int.negSucc_eq n; omega
      · have := Int.negSucc_eq m; have := Int.negSucc_eq n; omega
theorem l_lssI {k k' : IntKind} {a b : Int} (h1 : g t = .int k a) (h2 : g' t = .int k' b) (hk : sameKind k k' = true) : lkBin .lss g g' t h = some (.bool (decide (a < b))) := by
  unfold lkBin; rw [h1, h2, ← ltInt_eq]; show (bif sameKind k k' then _ else _) = _; rw [hk]; rfl
theorem l_gtrI {k k' : IntKind} {a b : Int} (h1 : g t = .int k a) (h2 : g' t = .int k' b) (hk : sameKind k k' = true) : lkBin .gtr g g' t h = some (.bool (decide (b < a))) := by
  unfold lkBin; rw [h1, h2, ← ltInt_eq]; show (bif sameKind k k' then _ else _) = _; rw [hk]; rfl
theorem l_leqI {k k' : IntKind} {a b : Int} (h1 : g t = .int k a) (h2 : g' t = .int k' b) (hk : sameKind k k' = true) : lkBin .leq g g' t h = some (.bool (decide (a ≤ b))) := by
  have e : decide (a ≤ b) = !ltInt b a := by rw [ltInt_eq]; by_cases h : a ≤ b <;> simp [h] <;> omega
  unfold lkBin; rw [h1, h2, e]; show (bif sameKind k k' then _ else _) = _; rw [hk]; rfl
theorem l_geqI {k k' : IntKind} {a b : Int} (h1 : g t = .int k a) (h2 : g' t = .int k' b) (hk : sameKind k k' = true) : lkBin .geq g g' t h = some (.bool (decide (b ≤ a))) := by
  have e : decide (b ≤ a) = !ltInt a b := by rw [ltInt_eq]; by_cases h : b ≤ a <;> simp [h] <;> omega
  unfold lkBin; rw [h1, h2, e]; show (bif sameKind k k' then _ else _) = _; rw [hk]; rfl
theorem l_addI {k k' : IntKind} {a b : Int} (h1 : g t = .int k a) (h2 : g' t = .int k' b) (hk : sameKind k k' = true) : lkBin .add g g' t h = some (.int k (k.wrap (a + b))) := by
  unfold lkBin; rw [h1, h2]; show (bif sameKind k k' then _ else _) = _; rw [hk]; rfl
theorem l_subI {k k' : IntKind} {a b : Int} (h1 : g t = .int k a) (h2 : g' t = .int k' b) (hk : sameKind k k' = true) : lkBin .sub g g' t h = some (.int k (k.wrap (a - b))) := by
  unfold lkBin; rw [h1, h2]; show (bif sameKind k k' then _ else _) = _; rw [hk]; rfl
theorem l_eqI {k k' : IntKind} {a b : Int} (h1 : g t = .int k a) (h2 : g' t = .int k' b) (hk : sameKind k k' = true) : lkEq false .int g g' t h = some (.bool (decide (a = b))) := by
  unfold lkEq predEq; rw [h1, h2]; dsimp only; rw [hk, ← eqInt_eq]; rfl
theorem l_neI {k k' : IntKind} {a b : Int} (h1 : g t = .int k a) (h2 : g' t = .int k' b) (hk : sameKind k k' = true) : lkEq true .int g g' t h = some (.bool !(decide (a = b))) := by
  unfold lkEq predEq; rw [h1, h2]; dsimp only; rw [hk, ← eqInt_eq]; rfl
theorem l_not {b : Bool} (hg : g t = .bool b) : lkUn .not g t h = some (.bool !b) := by unfold lkUn; rw [hg]; rfl
theorem l_pick1 {g'' : OpdF} {v : Value} (hg : g t = .bool true) (h1 : g' t = v) : lkPick g g' g'' t h = some v := by unfold lkPick; rw [hg, ← h1]; rfl
theorem l_pick0 {g'' : OpdF} {v : Value} (hg : g t = .bool false) (h1 : g'' t = v) : lkPick g g' g'' t h = some v := by unfold lkPick; rw [hg, ← h1]; rfl
theorem l_lenSl {a : Option Addr} {n m : Nat} (hg : g t = .slice a n m) : lkLen .sl g t h = some (.int .i64 n) := by unfold lkLen; dsimp only; rw [hg]; rfl
theorem l_lenStr {s : ByteArray} (hg : g t = .string s) : lkLen .str g t h = some (.int .i64 (bytes s).length) := by unfold lkLen; dsimp only; rw [hg]; rfl
theorem l_ixSl {size n m : Nat} {a : Addr} {i : Nat} {k : IntKind} (hg : g t = .slice (some a) n m) (hi : g' t = .int k i) (hlt : i < n) : lkIxSl size g g' t h = some (.pointer (some ⟨a.block, a.off + i * size, none⟩)) := by
  unfold lkIxSl; rw [hg, hi]; show (bif Nat.blt i n then _ else _) = _; rw [blt_iff.2 hlt]; rfl
theorem l_extract {i : Nat} {vs : List Value} {v : Value} (hg : g t = .tuple ⟨vs⟩) (hv : nth i vs = some v) : lkExtract i g t h = some v := by unfold lkExtract; rw [hg]; exact hv
theorem l_eqFlat {ls : List Leaf} {a b : List Value} {r : Bool} (h1 : g t = .agg ⟨a⟩) (h2 : g' t = .agg ⟨b⟩) (hr : leavesEq ls a b = some r) : lkEq false (.flat ls) g g' t h = some (.bool r) := by
  unfold lkEq predEq; rw [h1, h2]; show optV none _ (leavesEq ls a b) = _; rw [hr]; rfl
theorem l_neFlat {ls : List Leaf} {a b : List Value} {r : Bool} (h1 : g t = .agg ⟨a⟩) (h2 : g' t = .agg ⟨b⟩) (hr : leavesEq ls a b = some r) : lkEq true (.flat ls) g g' t h = some (.bool !r) := by
  unfold lkEq predEq; rw [h1, h2]; show optV none _ (leavesEq ls a b) = _; rw [hr]; rfl

theorem wrap64' {a : Int} (h1 : -9223372036854775808 ≤ a) (h2 : a ≤ 9223372036854775807) : IntKind.i64.wrap a = a := by
  have e : IntKind.i64.wrap a = if (true && decide (a % 18446744073709551616 ≥ (9223372036854775808 : Int))) = true then a % 18446744073709551616 - 18446744073709551616 else a % 18446744073709551616 := rfl
  rw [e]
  simp only [Bool.true_and, decide_eq_true_eq]
  split <;> omega
theorem l_addN {a b : Nat} (h1 : g t = .int .i64 (Int.ofNat a)) (h2 : g' t = .int .i64 (Int.ofNat b)) (hb : a + b ≤ 9223372036854775807) : lkBin .add g g' t h = some (.int .i64 (Int.ofNat (a + b))) := by
  rw [l_addI h1 h2 rfl, wrap64' (by show -9223372036854775808 ≤ (a : Int) + b; omega) (by show (a : Int) + b ≤ _; omega)]
  rfl
theorem l_subN {a b : Nat} (h1 : g t = .int .i64 (Int.ofNat a)) (h2 : g' t = .int .i64 (Int.ofNat b)) (hb : b ≤ a) (ha : a ≤ 9223372036854775807) : lkBin .sub g g' t h = some (.int .i64 (Int.ofNat (a - b))) := by
  rw [l_subI h1 h2 rfl, wrap64' (by show -9223372036854775808 ≤ (a : Int) - b; omega) (by show (a : Int) - b ≤ _; omega)]
  congr 2
  show (a : Int) - b = ((a - b : Nat) : Int)
  omega
theorem l_incN {a : Nat} (h1 : g t = .int .i64 (Int.ofNat a)) (h2 : g' t = .int .i64 (Int.ofNat 1)) (hb : a < 9223372036854775807) : lkBin .add g g' t h = some (.int .i64 (Int.ofNat (a + 1))) := l_addN h1 h2 (by omega)
theorem l_decN {a : Nat} (h1 : g t = .int .i64 (Int.ofNat a)) (h2 : g' t = .int .i64 (Int.ofNat 1)) (ha : 1 ≤ a) (hb : a ≤ 9223372036854775807) : lkBin .sub g g' t h = some (.int .i64 (Int.ofNat (a - 1))) := l_subN h1 h2 ha hb
/-! ### Turns -/
theorem tn_boxAgg {cs : List Value} (hg : g t = .agg ⟨cs⟩) : tnBox g t h = some (.pointer (some ⟨h.next, 0, none⟩), h.push (.cells true cs)) := by unfold tnBox; rw [hg]; rfl
theorem tn_box1 {v : Value} (hg : g t = v) (h1 : cellsOf v = some [v]) : tnBox g t h = some (.pointer (some ⟨h.next, 0, none⟩), h.push (.cells true [v])) := by unfold tnBox; rw [hg, h1]; rfl
theorem tn_alloc {z : List Value} : tnAlloc z t h = some (.pointer (some ⟨h.next, 0, none⟩), h.push (.cells true z)) := rfl
theorem tn_buildSlice {z cs : List Value} {ps : List (Nat × Nat × OpdF)} {n : Nat} (hf : fillParts t ps z = some cs) : tnBuildSlice z ps n t h = some (.slice (some ⟨h.next, 0, none⟩) n n, h.push (.cells true cs)) := by unfold tnBuildSlice; rw [hf]

/-! ### Numbers -/
theorem wrap64 {a : Int} (h1 : -9223372036854775808 ≤ a) (h2 : a ≤ 9223372036854775807) : IntKind.i64.wrap a = a := by
  have e : IntKind.i64.wrap a = if (true && decide (a % 18446744073709551616 ≥ (9223372036854775808 : Int))) = true then a % 18446744073709551616 - 18446744073709551616 else a % 18446744073709551616 := rfl
  rw [e]
  simp only [Bool.true_and, decide_eq_true_eq]
  split <;> omega
end
end Go.Eng

/- Operations under a guard, gone through without parting the ways. -/
namespace Go.Eng
set_option linter.unusedVariables false
section
variable {N : Tm → Aux → Heap → Prop} {X : Nat → Tm → Aux → Heap → Prop} {R : Tm → Aux → Heap → Prop} {c : Ctx} {t : Tm} {x : Aux} {h : Heap} {g g' : OpdF}

theorem wantT_of {b : Bool} (hg : g t = .bool b) : wantT g t = b := by unfold wantT; rw [hg]; cases b <;> rfl
theorem wantF_of {b : Bool} (hg : g t = .bool b) : wantF g t = !b := by unfold wantF; rw [hg]; cases b <;> rfl

/-- What a guarded operation leaves: its value where it is wanted. -/
def orUndef (b : Bool) (v : Value) : Value := bif b then v else undef

theorem wp_gLook {want : Tm → Bool} {l : Look} {p : Value → Tm → Tm} {rest : KB} {b : Bool} {v : Value} (hw : want t = b) (hl : b = true → l t h = some v) (H : (rest c (p (orUndef b v) t) x h).Wp N X R) : (oSetIf want (xLook l) p rest c t x h).Wp N X R := by
  refine wp_if hw (fun hb => ?_) (fun hb => ?_)
  · subst hb; exact wp_look (hl rfl) H
  · subst hb; exact H
theorem wp_gMove {want : Tm → Bool} {a : OpdF} {p : Value → Tm → Tm} {rest : KB} {b : Bool} {v : Value} (hw : want t = b) (hl : a t = v) (H : (rest c (p (orUndef b v) t) x h).Wp N X R) : (oSetIf want (xMove a) p rest c t x h).Wp N X R := by
  refine wp_if hw (fun hb => ?_) (fun hb => ?_)
  · subst hb; exact wp_move hl H
  · subst hb; exact H
theorem wp_gTurn {want : Tm → Bool} {l : Turn} {p : Value → Tm → Tm} {rest : KB} {b : Bool} {Q : Value → Heap → Prop} (hw : want t = b) (hl : b = true → ∃ v h', l t h = some (v, h') ∧ Q v h') (H1 : ∀ v h', (b = true → Q v h') → (b = false → v = undef ∧ h' = h) → (rest c (p v t) x h').Wp N X R) : (oSetIf want (xTurn l) p rest c t x h).Wp N X R := by
  refine wp_if hw (fun hb => ?_) (fun hb => ?_)
  · obtain ⟨v, h', e, q⟩ := hl hb
    exact wp_turn e (H1 v h' (fun _ => q) (fun k => by rw [hb] at k; cases k))
  · exact H1 _ _ (fun k => by rw [hb] at k; cases k) (fun _ => ⟨rfl, rfl⟩)
theorem wp_gCall {want : Tm → Bool} {f : OpdF} {args : List OpdF} {p : Value → Tm → Tm} {rest : KB} {b : Bool} {Q : Value → Heap → Prop} (hw : want t = b) (hc : b = true → (c.call (f t) (vals t args) h).Wp Q) (H1 : ∀ v h', (b = true → Q v h') → (b = false → v = undef ∧ h' = h) → (rest c (p v t) x h').Wp N X R) : (oSetIf want (xCall f args) p rest c t x h).Wp N X R := by
  refine wp_if hw (fun hb => ?_) (fun hb => ?_)
  · exact wp_callIn (hc hb) fun v h' q => H1 v h' (fun _ => q) (fun k => by rw [hb] at k; cases k)
  · exact H1 _ _ (fun k => by rw [hb] at k; cases k) (fun _ => ⟨rfl, rfl⟩)
/-- A call that answers yes or no, and leaves memory that was there: under a guard. -/
theorem wp_gAsk {want : Tm → Bool} {f : OpdF} {args : List OpdF} {p : Value → Tm → Tm} {rest : KB} {b r : Bool} (hw : want t = b) (hc : b = true → (c.call (f t) (vals t args) h).Wp fun v h' => v = .bool r ∧ h.Le h') (H1 : ∀ h', h.Le h' → (rest c (p (orUndef b (.bool r)) t) x h').Wp N X R) : (oSetIf want (xCall f args) p rest c t x h).Wp N X R := by
  refine wp_gCall hw hc fun v h' h1 h0 => ?_
  cases b with
  | true => obtain ⟨rfl, hle⟩ := h1 rfl; exact H1 h' hle
  | false => obtain ⟨rfl, rfl⟩ := h0 rfl; exact H1 _ (Heap.Le.refl _)
theorem wp_ask {f : OpdF} {args : List OpdF} {p : Value → Tm → Tm} {rest : KB} {r : Bool} (hc : (c.call (f t) (vals t args) h).Wp fun v h' => v = .bool r ∧ h.Le h') (H1 : ∀ h', h.Le h' → (rest c (p (.bool r) t) x h').Wp N X R) : (oSet (xCall f args) p rest c t x h).Wp N X R :=
  wp_callIn hc fun v h' q => by obtain ⟨rfl, hle⟩ := q; exact H1 h' hle
/-- a && b -/
theorem l_and {g'' : OpdF} {b r : Bool} (hg : g t = .bool b) (h1 : g' t = orUndef b (.bool r)) (h0 : g'' t = .bool false) : lkPick g g' g'' t h = some (.bool (b && r)) := by
  unfold lkPick; rw [hg, h0, h1]; cases b <;> rfl
/-- a || b -/
theorem l_or {g'' : OpdF} {b r : Bool} (hg : g t = .bool b) (h1 : g' t = .bool true) (h0 : g'' t = orUndef (!b) (.bool r)) : lkPick g g' g'' t h = some (.bool (b || r)) := by
  unfold lkPick; rw [hg, h0, h1]; cases b <;> rfl
theorem wp_name {p : Value → Tm → Tm} {rest : KB} {e : Bool} (hv : g t = .bool e) (H : ∀ b, b = e → (rest c (p (.bool b) t) x h).Wp N X R) : (oSet (xMove g) p rest c t x h).Wp N X R := wp_move hv (H e rfl)
theorem exit_here {A B : Prop} {b : Bool} (hb : b = true) (h : A) : (bif b then A else B) := by rw [hb]; exact h
theorem exit_past {A B : Prop} {b : Bool} (hb : b = false) (h : B) : (bif b then A else B) := by rw [hb]; exact h
theorem wp_say {p : Value → Tm → Tm} {rest : KB} {e b : Bool} (hv : g t = .bool e) (he : e = b) (H : (rest c (p (.bool b) t) x h).Wp N X R) : (oSet (xMove g) p rest c t x h).Wp N X R := wp_move (he ▸ hv) H
theorem wp_yes {want : Tm → Bool} {ex : ExF} {p : Value → Tm → Tm} {rest : KB} (hw : want t = true) (H : (oSet ex p rest c t x h).Wp N X R) : (oSetIf want ex p rest c t x h).Wp N X R := wp_if hw (fun _ => H) (fun h => nomatch h)
theorem wp_no {want : Tm → Bool} {ex : ExF} {p : Value → Tm → Tm} {rest : KB} (hw : want t = false) (H : (rest c (p undef t) x h).Wp N X R) : (oSetIf want ex p rest c t x h).Wp N X R := wp_if hw (fun h => nomatch h) (fun _ => H)
theorem wp_condT {a b : KB} {e : Bool} (hg : g t = .bool e) (he : e = true) (H : (a c t x h).Wp N X R) : (kCond g a b c t x h).Wp N X R := wp_cond hg (fun _ => H) (fun k => by rw [he] at k; cases k)
theorem wp_condF {a b : KB} {e : Bool} (hg : g t = .bool e) (he : e = false) (H : (b c t x h).Wp N X R) : (kCond g a b c t x h).Wp N X R := wp_cond hg (fun k => by rw [he] at k; cases k) (fun _ => H)
theorem wp_dSay {idx : Nat} {un pre : List Nat} {p : Value → Tm → Tm} {rest : KD} {log : List (Nat × LogE)} {e b : Bool} (hv : g t = .bool e) (he : e = b) (hu : unLook log (lkMove g) t (.bool b) un = true)
    (H : ∀ log, (rest log none c (p (.bool b) t) x h).Wp N X R) : (dLook idx un pre (lkMove g) p rest log none c t x h).Wp N X R := wp_dLook (congrArg some (he ▸ hv)) hu (H _)
theorem wp_dYes {pre : List Nat} {want : Tm → Bool} {p : Value → Tm → Tm} {yes rest : KD} {log : List (Nat × LogE)} (hw : want t = true) (H : (yes log none c t x h).Wp N X R) : (dIf pre want p yes rest log none c t x h).Wp N X R := wp_dIf hw (fun _ => H) (fun h => nomatch h)
theorem wp_dNo {pre : List Nat} {want : Tm → Bool} {p : Value → Tm → Tm} {yes rest : KD} {log : List (Nat × LogE)} (hw : want t = false) (H : (rest log none c (p undef t) x h).Wp N X R) : (dIf pre want p yes rest log none c t x h).Wp N X R := wp_dIf hw (fun h => nomatch h) (fun _ => H)
theorem orUndef_true (v : Value) : orUndef true v = v := rfl

/-! ### The same, in a region that draws its order -/
theorem wp_dMove {idx : Nat} {un pre : List Nat} {p : Value → Tm → Tm} {rest : KD} {log : List (Nat × LogE)} {v : Value} (hv : g t = v) (hu : unLook log (lkMove g) t v un = true)
    (H : (rest ((idx, .ld fun now => tellsAs (lkMove g t now) v) :: log) none c (p v t) x h).Wp N X R) : (dLook idx un pre (lkMove g) p rest log none c t x h).Wp N X R := wp_dLook (congrArg some hv) hu H
theorem wp_dName {idx : Nat} {un pre : List Nat} {p : Value → Tm → Tm} {rest : KD} {log : List (Nat × LogE)} {e : Bool} (hv : g t = .bool e) (hu : unLook log (lkMove g) t (.bool e) un = true)
    (H : ∀ b, b = e → (rest ((idx, .ld fun now => tellsAs (lkMove g t now) (.bool b)) :: log) none c (p (.bool b) t) x h).Wp N X R) : (dLook idx un pre (lkMove g) p rest log none c t x h).Wp N X R := wp_dLook (congrArg some hv) hu (H e rfl)
theorem wp_dNil {idx : Nat} {un pre : List Nat} {w : Bool} {o : OpdF} {p : Value → Tm → Tm} {rest : KD} {log : List (Nat × LogE)} {a : Addr} (ho : o t = .pointer (some a)) (hu : unTurn log h un = true)
    (H : (rest ((idx, .wr h) :: log) none c (p (.pointer (some a)) t) x h).Wp N X R) : (dTurn idx un pre w (xNil o) p rest log none c t x h).Wp N X R := by
  unfold dTurn xNil
  simp only [isAfter, Option.isSome, Bool.and_false, cond_false, ho]
  rw [hu]
  exact H
/-- A look that is gone through only if it is wanted: the log is longer, or not. -/
theorem wp_dgLook {pre pre' un : List Nat} {idx : Nat} {want : Tm → Bool} {l : Look} {p : Value → Tm → Tm} {rest : KD} {log : List (Nat × LogE)} {b : Bool} {v : Value} (hw : want t = b) (hl : b = true → l t h = some v) (hu : un = [])
    (H : ∀ log, (rest log none c (p (orUndef b v) t) x h).Wp N X R) : (dIf pre want p (dLook idx un pre' l p rest) rest log none c t x h).Wp N X R := by
  subst hu
  refine wp_dIf hw (fun hb => ?_) (fun hb => ?_)
  · subst hb; exact wp_dLook (hl rfl) rfl (H _)
  · subst hb; exact H _
theorem wp_dgMove {pre pre' un : List Nat} {idx : Nat} {want : Tm → Bool} {p : Value → Tm → Tm} {rest : KD} {log : List (Nat × LogE)} {b : Bool} {v : Value} (hw : want t = b) (hl : g t = v) (hu : un = [])
    (H : ∀ log, (rest log none c (p (orUndef b v) t) x h).Wp N X R) : (dIf pre want p (dLook idx un pre' (lkMove g) p rest) rest log none c t x h).Wp N X R := wp_dgLook hw (fun _ => congrArg some hl) hu H

theorem Heap.get_push_ne {h : Heap} {o : AObj} {b : Nat} (hb : b ≠ h.next) : (h.push o).get b = h.get b := by rw [Heap.get_push, if_neg hb]
theorem Heap.get_put_ne {h : Heap} {r : Nat} {o : Option AObj} {b : Nat} (hb : b ≠ r) : (h.put r o).get b = h.get b := by rw [Heap.get_put, if_neg hb]
theorem Heap.get_put_eq (h : Heap) (r : Nat) (o : Option AObj) : (h.put r o).get r = o := by rw [Heap.get_put, if_pos rfl]
end
end Go.Eng
namespace Go.Eng
theorem l_remI {t : Tm} {h : Heap} {g g' : OpdF} {a b : Int} (h1 : g t = .int .i64 a) (h2 : g' t = .int .i64 b) (hb : b ≠ 0) : lkBin .rem g g' t h = some (.int .i64 (a.tmod b)) := by
  unfold lkBin
  rw [h1, h2]
  show (bif eqInt b 0 then none else some (Value.int .i64 (a.tmod b))) = _
  rw [eqInt_eq, decide_eq_false hb]; rfl
end Go.Eng
