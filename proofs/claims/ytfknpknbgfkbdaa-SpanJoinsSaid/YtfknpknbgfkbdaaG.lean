/-
  How a function is gone through on the abstract machine, step by step; byte strings in order; spans of keys, joined: plain laws. Conditions: those that each lemma states.
-/
import Derived.Test.YtfknpknbgfkbdaaF

set_option linter.unusedSimpArgs false
set_option linter.unusedSectionVars false
set_option linter.unusedVariables false
/- What is known of a run of the abstract machine: it ends so, whatever way it goes. -/
namespace Go.Eng
set_option linter.unusedVariables false

def Er.Wp (r : Er) (Q : Value → Heap → Prop) : Prop := ∃ v h, r = .ret v h ∧ Q v h
def Rz.Wp (r : Rz) (N : Tm → Aux → Heap → Prop) (X : Nat → Tm → Aux → Heap → Prop) (R : Tm → Aux → Heap → Prop) : Prop :=
  match r with
  | .norm t x h => N t x h
  | .exit i t x h => X i t x h
  | .ret t x h => R t x h
  | _ => False

theorem Er.Wp.mono {r : Er} {Q Q' : Value → Heap → Prop} (h : r.Wp Q) (hq : ∀ v h, Q v h → Q' v h) : r.Wp Q' := by
  obtain ⟨v, h', e, q⟩ := h
  exact ⟨v, h', e, hq _ _ q⟩
theorem Rz.Wp.mono {r : Rz} {N N' : Tm → Aux → Heap → Prop} {X X' : Nat → Tm → Aux → Heap → Prop} {R R' : Tm → Aux → Heap → Prop} (h : r.Wp N X R) (hn : ∀ t x h, N t x h → N' t x h) (hx : ∀ i t x h, X i t x h → X' i t x h) (hr : ∀ t x h, R t x h → R' t x h) : r.Wp N' X' R' := by
  cases r <;> first | exact hn _ _ _ h | exact hx _ _ _ _ h | exact hr _ _ _ h | exact h.elim
theorem Er.Wp.sure {r : Er} (h : r.Wp fun v _ => v = .bool true) : r.sure = true := by
  obtain ⟨v, h', rfl, rfl⟩ := h
  rfl

section
variable {N : Tm → Aux → Heap → Prop} {X : Nat → Tm → Aux → Heap → Prop} {R : Tm → Aux → Heap → Prop} {c : Ctx} {t : Tm} {x : Aux} {h : Heap}

/-! ### Code -/
theorem wp_seq {a b : KB} (H : (a c t x h).Wp (fun t x h => (b c t x h).Wp N X R) X R) : (kSeq a b c t x h).Wp N X R := by
  unfold kSeq
  cases e : a c t x h <;> rw [e] at H <;> first | exact H | exact H.elim
theorem wp_skip (H : N t x h) : (kSkip c t x h).Wp N X R := H
theorem wp_ret (H : R t x h) : (kRet c t x h).Wp N X R := H
theorem wp_exit {id : Nat} (H : X id t x h) : (kExit id c t x h).Wp N X R := H
theorem wp_end (H : N t x h) : (oEnd c t x h).Wp N X R := H
theorem wp_cond {g : OpdF} {a b : KB} {p : Bool} (hg : g t = .bool p) (H1 : p = true → (a c t x h).Wp N X R) (H0 : p = false → (b c t x h).Wp N X R) : (kCond g a b c t x h).Wp N X R := by
  unfold kCond
  rw [hg]
  cases p with
  | true => exact H1 rfl
  | false => exact H0 rfl
theorem wp_block {id : Nat} {a : KB} (H : (a c t x h).Wp N (fun i t x h => bif Nat.beq i id then N t x h else X i t x h) R) : (kBlock id a c t x h).Wp N X R := by
  unfold kBlock
  cases e : a c t x h <;> rw [e] at H <;> try first | exact H | exact H.elim
  rename_i i t' x' h'
  replace H : bif Nat.beq i id then N t' x' h' else X i t' x' h' := H
  show Rz.Wp (Bool.rec (motive := fun _ => Rz) (.exit i t' x' h') (.norm t' x' h') (Nat.beq i id)) N X R
  cases hb : Nat.beq i id <;> rw [hb] at H <;> exact H
theorem wp_loop {a : KB} (I : Nat → Tm → Aux → Heap → Prop) (m : Nat) (h0 : I m t x h) (hf : m < c.fuel)
    (step : ∀ m t x h, I m t x h → (a c t x h).Wp (fun t x h => ∃ m', m' < m ∧ I m' t x h) X R) : (kLoop a c t x h).Wp N X R := by
  unfold kLoop
  generalize c.fuel = f at hf ⊢
  induction f generalizing m t x h with
  | zero => omega
  | succ f ih =>
    have := step m t x h h0
    show Rz.Wp ((a c t x h).then _) N X R
    cases e : a c t x h <;> rw [e] at this <;> try first | exact this | exact this.elim
    obtain ⟨m', h1, h2⟩ := this
    exact ih m' h2 (by omega)

/-! ### Operations -/
theorem wp_look {l : Look} {p : Value → Tm → Tm} {rest : KB} {v : Value} (hl : l t h = some v) (H : (rest c (p v t) x h).Wp N X R) : (oSet (xLook l) p rest c t x h).Wp N X R := by
  unfold oSet xLook
  rw [hl]
  exact H
theorem wp_lookDo {l : Look} {rest : KB} {v : Value} (hl : l t h = some v) (H : (rest c t x h).Wp N X R) : (oDo (xLook l) rest c t x h).Wp N X R := by
  unfold oDo xLook
  rw [hl]
  exact H
theorem wp_turn {l : Turn} {p : Value → Tm → Tm} {rest : KB} {v : Value} {h' : Heap} (hl : l t h = some (v, h')) (H : (rest c (p v t) x h').Wp N X R) : (oSet (xTurn l) p rest c t x h).Wp N X R := by
  unfold oSet xTurn
  rw [hl]
  exact H
theorem wp_turnDo {l : Turn} {rest : KB} {v : Value} {h' : Heap} (hl : l t h = some (v, h')) (H : (rest c t x h').Wp N X R) : (oDo (xTurn l) rest c t x h).Wp N X R := by
  unfold oDo xTurn
  rw [hl]
  exact H
theorem wp_move {g : OpdF} {p : Value → Tm → Tm} {rest : KB} {v : Value} (hv : g t = v) (H : (rest c (p v t) x h).Wp N X R) : (oSet (xMove g) p rest c t x h).Wp N X R := by
  subst hv; exact H
theorem wp_if {want : Tm → Bool} {ex : ExF} {p : Value → Tm → Tm} {rest : KB} {b : Bool} (hw : want t = b) (H1 : b = true → (oSet ex p rest c t x h).Wp N X R) (H0 : b = false → (rest c (p undef t) x h).Wp N X R) : (oSetIf want ex p rest c t x h).Wp N X R := by
  unfold oSetIf
  rw [hw]
  cases b with
  | true => exact H1 rfl
  | false => exact H0 rfl
theorem wp_ifDo {want : Tm → Bool} {ex : ExF} {rest : KB} {b : Bool} (hw : want t = b) (H1 : b = true → (oDo ex rest c t x h).Wp N X R) (H0 : b = false → (rest c t x h).Wp N X R) : (oDoIf want ex rest c t x h).Wp N X R := by
  unfold oDoIf
  rw [hw]
  cases b with
  | true => exact H1 rfl
  | false => exact H0 rfl
theorem wp_nil {o : OpdF} {p : Value → Tm → Tm} {rest : KB} {a : Addr} (ho : o t = .pointer (some a)) (H : (rest c (p (.pointer (some a)) t) x h).Wp N X R) : (oSet (xNil o) p rest c t x h).Wp N X R := by
  unfold oSet xNil
  rw [ho]
  exact H
theorem wp_nilDo {o : OpdF} {rest : KB} {a : Addr} (ho : o t = .pointer (some a)) (H : (rest c t x h).Wp N X R) : (oDo (xNil o) rest c t x h).Wp N X R := by
  unfold oDo xNil
  rw [ho]
  exact H

/-! ### Calls -/
theorem wp_callIn {f : OpdF} {args : List OpdF} {p : Value → Tm → Tm} {rest : KB} {Q : Value → Heap → Prop} (hc : (c.call (f t) (vals t args) h).Wp Q) (H : ∀ v h', Q v h' → (rest c (p v t) x h').Wp N X R) : (oSet (xCall f args) p rest c t x h).Wp N X R := by
  obtain ⟨v, h', e, q⟩ := hc
  unfold oSet xCall
  rw [e]
  exact H v h' q
theorem wp_callDo {f : OpdF} {args : List OpdF} {rest : KB} {Q : Value → Heap → Prop} (hc : (c.call (f t) (vals t args) h).Wp Q) (H : ∀ v h', Q v h' → (rest c t x h').Wp N X R) : (oDo (xCall f args) rest c t x h).Wp N X R := by
  obtain ⟨v, h', e, q⟩ := hc
  unfold oDo xCall
  rw [e]
  exact H v h' q
theorem wp_func {E : Env} {n f : Nat} {first captured : Array Value} {args as : List Value} {Q : Value → Heap → Prop} (ha : first.toList ++ (args ++ captured.toList) = as) (H : (enter E (ctx E n) f as h).Wp Q) : ((ctx E (n + 1)).call (.func (.func f) first captured) args h).Wp Q := by
  show (callV E (ctx E n) (.func (.func f) first captured) args h).Wp Q
  unfold callV
  simp only [app_eq, ha]
  exact H
theorem wp_enter {E : Env} {f : Nat} {k : KFun} {args : List Value} {Q : Value → Heap → Prop} (hs : E.sum f = none) (hf : E.fn f = some k) (H : (enterK E c k args h).Wp Q) : (enter E c f args h).Wp Q := by
  unfold enter
  rw [hs, hf]
  exact H
theorem wp_sum {E : Env} {f : Nat} {s : Summ} {args : List Value} {v : Value} {h' : Heap} {Q : Value → Heap → Prop} (hs : E.sum f = some s) (hv : s args h = some (v, h')) (H : Q v h') : (enter E c f args h).Wp Q := by
  unfold enter
  rw [hs]
  show (optV (.fail "summary") (fun r => Er.ret r.1 r.2) (s args h)).Wp Q
  rw [hv]
  exact ⟨_, _, rfl, H⟩
theorem wp_fn {E : Env} {fn : KFun} {args : List Value} {Q : Value → Heap → Prop} (hl : args.length ≤ 255)
    (H : (fn.body c (initTmps args 0 Tm.empty) ⟨[], none, none⟩ h).Wp (fun t x h => x.defers = [] ∧ ∃ vs, readRes fn.res [] t h = some vs ∧ Q (single vs) h) (fun _ _ _ _ => False) (fun t x h => x.defers = [] ∧ ∃ vs, readRes fn.res [] t h = some vs ∧ Q (single vs) h)) : (enterK E c fn args h).Wp Q := by
  unfold enterK
  have : Nat.ble (lenL args) 255 = true := by rw [lenL_eq, ble_iff]; exact hl
  rw [this]
  have fin : ∀ t (x : Aux) h, (x.defers = [] ∧ ∃ vs, readRes fn.res [] t h = some vs ∧ Q (single vs) h) → (finish E c fn.res [] t x.defers .returning h).Wp Q := by
    rintro t x h ⟨h1, vs, h2, h3⟩
    rw [h1]
    refine ⟨single vs, h, ?_, h3⟩
    show (match readRes fn.res [] t h with
      | some vs => Er.ret (single vs) h
      | none => .fail "results") = _
    rw [h2]
  show (Rz.toEr _ _ _ _ _).Wp Q
  cases e : fn.body c (initTmps args 0 Tm.empty) ⟨[], none, none⟩ h <;> rw [e] at H <;> first | exact H.elim | exact fin _ _ _ H

/-! ### Regions that draw their order -/
theorem wp_draw {d : KD} (H : (d [] none c t x h).Wp N X R) : (kDraw d c t x h).Wp N X R := H
theorem wp_dEnd {lost : List Nat} {log : List (Nat × LogE)} (H : N t x h) : (dEnd lost log none c t x h).Wp N X R := H
theorem wp_dLook {idx : Nat} {un pre : List Nat} {l : Look} {p : Value → Tm → Tm} {rest : KD} {log : List (Nat × LogE)} {v : Value} (hl : l t h = some v) (hu : unLook log l t v un = true)
    (H : (rest ((idx, .ld fun now => tellsAs (l t now) v) :: log) none c (p v t) x h).Wp N X R) : (dLook idx un pre l p rest log none c t x h).Wp N X R := by
  unfold dLook
  show Rz.Wp (match l t h with
    | some v => bif unLook log l t v un then rest ((idx, .ld fun now => tellsAs (l t now) v) :: log) none c (p v t) x h else .fail "a look beside a writer"
    | none => .fail "look") N X R
  rw [hl]
  dsimp only
  rw [hu]
  exact H
theorem wp_dTurn {idx : Nat} {un pre : List Nat} {w : Bool} {l : Turn} {p : Value → Tm → Tm} {rest : KD} {log : List (Nat × LogE)} {v : Value} {h' : Heap} (hl : l t h = some (v, h')) (hu : unTurn log h' un = true)
    (H : (rest ((idx, .wr h) :: log) none c (p v t) x h').Wp N X R) : (dTurn idx un pre w (xTurn l) p rest log none c t x h).Wp N X R := by
  unfold dTurn xTurn
  simp only [isAfter, Option.isSome, Bool.and_false, cond_false, hl]
  rw [hu]
  exact H
theorem wp_dCall {idx : Nat} {un pre : List Nat} {w : Bool} {f : OpdF} {args : List OpdF} {p : Value → Tm → Tm} {rest : KD} {log : List (Nat × LogE)} {Q : Value → Heap → Prop} (hc : (c.call (f t) (vals t args) h).Wp Q)
    (hu : ∀ v h', Q v h' → unTurn log h' un = true) (H : ∀ v h', Q v h' → (rest ((idx, .wr h) :: log) none c (p v t) x h').Wp N X R) : (dTurn idx un pre w (xCall f args) p rest log none c t x h).Wp N X R := by
  obtain ⟨v, h', e, q⟩ := hc
  unfold dTurn xCall
  simp only [isAfter, Option.isSome, Bool.and_false, cond_false, e]
  show Rz.Wp (bif unTurn log h' un then _ else _) N X R
  rw [hu v h' q]
  exact H v h' q
theorem wp_dIf {pre : List Nat} {want : Tm → Bool} {p : Value → Tm → Tm} {yes rest : KD} {log : List (Nat × LogE)} {b : Bool} (hw : want t = b) (H1 : b = true → (yes log none c t x h).Wp N X R) (H0 : b = false → (rest log none c (p undef t) x h).Wp N X R) :
    (dIf pre want p yes rest log none c t x h).Wp N X R := by
  unfold dIf
  simp only [isAfter, cond_false, hw]
  cases b with
  | true => exact H1 rfl
  | false => exact H0 rfl
end

/-! ### Memory that has grown -/
/-- All that was there is there. -/
structure Heap.Le (h h' : Heap) : Prop where
  next : h.next ≤ h'.next
  get : ∀ b, b < h.next → h'.get b = h.get b
  blank : (∀ b, h.next ≤ b → h.get b = none) → ∀ b, h'.next ≤ b → h'.get b = none

theorem Heap.Le.refl (h : Heap) : h.Le h := ⟨Nat.le_refl _, fun _ _ => rfl, fun k => k⟩
theorem Heap.Le.trans {a b d : Heap} (h1 : a.Le b) (h2 : b.Le d) : a.Le d := ⟨Nat.le_trans h1.next h2.next, fun k hk => (h2.get k (Nat.lt_of_lt_of_le hk h1.next)).trans (h1.get k hk), fun k => h2.blank (h1.blank k)⟩
theorem Heap.Le.push (h : Heap) (o : AObj) : h.Le (h.push o) := by
  refine ⟨Nat.le_succ _, fun b hb => ?_, fun k b hb => ?_⟩
  · rw [Heap.get_push, if_neg (by omega)]
  · replace hb : h.next + 1 ≤ b := hb
    rw [Heap.get_push, if_neg (by omega)]; exact k b (by omega)
theorem Heap.get_new (h : Heap) (o : AObj) : (h.push o).get h.next = some o := by rw [Heap.get_push, if_pos rfl]
theorem Heap.load_of {h : Heap} {b off n : Nat} {w : Bool} {xs cs : List Value} (hb : h.get b = some (.cells w xs)) (hc : takeN n (dropN off xs) = some cs) : h.load b off n = some cs := by
  unfold Heap.load; rw [hb]; exact hc
theorem Heap.load1_of {h : Heap} {b off : Nat} {w : Bool} {xs : List Value} {v : Value} (hb : h.get b = some (.cells w xs)) (hc : nth off xs = some v) : h.load1 b off = some v := by
  unfold Heap.load1; rw [hb]; exact hc
theorem lkLoad1_of {g : OpdF} {t : Tm} {h : Heap} {a : Addr} {v : Value} (hg : g t = .pointer (some a)) (hc : h.load1 a.block a.off = some v) : lkLoad1 g t h = some v := by
  unfold lkLoad1; rw [hg]; exact hc
theorem lkLoadN_of {n : Nat} {g : OpdF} {t : Tm} {h : Heap} {a : Addr} {cs : List Value} (hg : g t = .pointer (some a)) (hc : h.load a.block a.off n = some cs) : lkLoadN n g t h = some (.agg ⟨cs⟩) := by
  unfold lkLoadN; rw [hg]; show optV none _ (h.load a.block a.off n) = _; rw [hc]; rfl
end Go.Eng

/- Operations, each told by what its operands are. -/
namespace Go.Eng
set_option linter.unusedVariables false
section
variable {N : Tm → Aux → Heap → Prop} {X : Nat → Tm → Aux → Heap → Prop} {R : Tm → Aux → Heap → Prop} {c : Ctx} {t : Tm} {x : Aux} {h : Heap} {g g' : OpdF}

/-! ### Looks -/
theorem l_bool {b : Bool} (hg : g t = .bool b) : lkMove g t h = some (.bool b) := congrArg some hg
theorem l_fieldAddr {off : Nat} {a : Addr} (hg : g t = .pointer (some a)) : lkFieldAddr off g t h = some (.pointer (some ⟨a.block, a.off + off, none⟩)) := by unfold lkFieldAddr; rw [hg]; rfl
theorem l_load1 {a : Addr} {w : Bool} {xs : List Value} {v : Value} (hg : g t = .pointer (some a)) (hb : h.get a.block = some (.cells w xs)) (hv : nth a.off xs = some v) : lkLoad1 g t h = some v := lkLoad1_of hg (Heap.load1_of hb hv)
theorem l_loadN {n : Nat} {a : Addr} {w : Bool} {xs cs : List Value} (hg : g t = .pointer (some a)) (hb : h.get a.block = some (.cells w xs)) (hv : takeN n (dropN a.off xs) = some cs) : lkLoadN n g t h = some (.agg ⟨cs⟩) := lkLoadN_of hg (Heap.load_of hb hv)
theorem l_lss {a b : ByteArray} (h1 : g t = .string a) (h2 : g' t = .string b) : lkBin .lss g g' t h = some (.bool (ltBytes (bytes a) (bytes b))) := by unfold lkBin; rw [h1, h2]; rfl
theorem l_gtr {a b : ByteArray} (h1 : g t = .string a) (h2 : g' t = .string b) : lkBin .gtr g g' t h = some (.bool !(ltBytes (bytes a) (bytes b) || eqBytes (bytes a) (bytes b))) := by unfold lkBin; rw [h1, h2]; rfl
theorem l_leq {a b : ByteArray} (h1 : g t = .string a) (h2 : g' t = .string b) : lkBin .leq g g' t h = some (.bool (ltBytes (bytes a) (bytes b) || eqBytes (bytes a) (bytes b))) := by unfold lkBin; rw [h1, h2]; rfl
theorem l_geq {a b : ByteArray} (h1 : g t = .string a) (h2 : g' t = .string b) : lkBin .geq g g' t h = some (.bool !(ltBytes (bytes a) (bytes b))) := by unfold lkBin; rw [h1, h2]; rfl
theorem l_eqS {a b : ByteArray} (h1 : g t = .string a) (h2 : g' t = .string b) : lkEq false .str g g' t h = some (.bool (eqBytes (bytes a) (bytes b))) := by unfold lkEq; rw [h1, h2]; rfl
theorem l_neS {a b : ByteArray} (h1 : g t = .string a) (h2 : g' t = .string b) : lkEq true .str g g' t h = some (.bool !(eqBytes (bytes a) (bytes b))) := by unfold lkEq; rw [h1, h2]; rfl
theorem l_eqB {a b : Bool} (h1 : g t = .bool a) (h2 : g' t = .bool b) : lkEq false .bool g g' t h = some (.bool (a == b)) := by unfold lkEq; rw [h1, h2]; rfl
theorem l_neB {a b : Bool} (h1 : g t = .bool a) (h2 : g' t = .bool b) : lkEq true .bool g g' t h = some (.bool !(a == b)) := by unfold lkEq; rw [h1, h2]; rfl
theorem eqInt_eq (a b : Int) : eqInt a b = decide (a = b) := by
  have nbeq : ∀ m n : Nat, Nat.beq m n = decide (m = n) := fun m n => by
    by_cases e : m = n
    · rw [beq_iff.2 e]; simp [e]
    · rw [show Nat.beq m n = false from (by cases hb : Nat.beq m n; rfl; exact absurd (beq_iff.1 hb) e)]; simp [e]
  cases a with
  | ofNat m => cases b with
    | ofNat n => show Nat.beq m n = _; rw [nbeq]; exact decide_eq_decide.2 ⟨fun h => by rw [h], fun h => Int.ofNat.inj h⟩
    | negSucc n => symm; exact decide_eq_false (fun h => by cases h)
  | negSucc m => cases b with
    | ofNat n => symm; exact decide_eq_false (fun h => by cases h)
    | negSucc n => show Nat.beq m n = _; rw [nbeq]; exact decide_eq_decide.2 ⟨fun h => by rw [h], fun h => Int.negSucc.inj h⟩
theorem ltInt_eq (a b : Int) : ltInt a b = decide (a < b) := by
  have blt : ∀ m n : Nat, Nat.blt m n = decide (m < n) := fun m n => by
    by_cases e : m < n
    · rw [blt_iff.2 e]; simp [e]
    · rw [show Nat.blt m n = false from (by cases hb : Nat.blt m n; rfl; exact absurd (blt_iff.1 hb) e)]; simp [e]
  cases a with
  | ofNat m => cases b with
    | ofNat n => show Nat.blt m n = _; rw [blt]; exact decide_eq_decide.2 ⟨fun h => Int.ofNat_lt.2 h, fun h => Int.ofNat_lt.1 h⟩
    | negSucc n =>
      symm; refine decide_eq_false (fun h => ?_)
      have := Int.negSucc_lt_zero n; have : (0 : Int) ≤ Int.ofNat m := Int.natCast_nonneg m; omega
  | negSucc m => cases b with
    | ofNat n =>
      symm; refine decide_eq_true ?_
      have := Int.negSucc_lt_zero m; have : (0 : Int) ≤ Int.ofNat n := Int.natCast_nonneg n; omega
    | negSucc n =>
      show Nat.blt n m = _; rw [blt]
      refine decide_eq_decide.2 ⟨fun h => ?_, fun h => ?_⟩
      · have := Int.negSucc_eq m; have := Int.negSucc_eq n; omega
      · have := Int.negSucc_eq m; have := Int.negSucc_eq n; omega
theorem l_lssI {k k' : IntKind} {a b : Int} (h1 : g t = .int k a) (h2 : g' t = .int k' b) (hk : sameKind k k' = true) : lkBin .lss g g' t h = some (.bool (decide (a < b))) := by
  unfold lkBin; rw [h1, h2, ← ltInt_eq]; show (bif sameKind k k' then _ else _) = _; rw [hk]; rfl
theorem l_gtrI {k k' : IntKind} {a b : Int} (h1 : g t = .int k a) (h2 : g' t = .int k' b) (hk : sameKind k k' = true) : lkBin .gtr g g' t h = some (.bool (decide (b < a))) := by
  unfold lkBin; rw [h1, h2, ← ltInt_eq]; show (bif sameKind k k' then _ else _) = _; rw [hk]; rfl
theorem l_leqI {k k' : IntKind} {a b : Int} (h1 : g t = .int k a) (h2 : g' t = .int k' b) (hk : sameKind k k' = true) : lkBin .leq g g' t h = some (.bool (decide (a ≤ b))) := by
  have e : decide (a ≤ b) = !ltInt b a := by rw [ltInt_eq]; by_cases h : a ≤ b <;> simp [h] <;> omega
  unfold lkBin; rw [h1, h2, e]; show (bif sameKind k k' then _ else _) = _; rw [hk]; rfl
theorem l_geqI {k k' : IntKind} {a b : Int} (h1 : g t = .int k a) (h2 : g' t = .int k' b) (hk : sameKind k k' = true) : lkBin .geq g g' t h = some (.bool (decide (b ≤ a))) := by
  have e : decide (b ≤ a) = !ltInt a b := by rw [ltInt_eq]; by_cases h : b ≤ a <;> simp [h] <;> omega
  unfold lkBin; rw [h1, h2, e]; show (bif sameKind k k' then _ else _) = _; rw [hk]; rfl
theorem l_addI {k k' : IntKind} {a b : Int} (h1 : g t = .int k a) (h2 : g' t = .int k' b) (hk : sameKind k k' = true) : lkBin .add g g' t h = some (.int k (k.wrap (a + b))) := by
  unfold lkBin; rw [h1, h2]; show (bif sameKind k k' then _ else _) = _; rw [hk]; rfl
theorem l_subI {k k' : IntKind} {a b : Int} (h1 : g t = .int k a) (h2 : g' t = .int k' b) (hk : sameKind k k' = true) : lkBin .sub g g' t h = some (.int k (k.wrap (a - b))) := by
  unfold lkBin; rw [h1, h2]; show (bif sameKind k k' then _ else _) = _; rw [hk]; rfl
theorem l_eqI {k k' : IntKind} {a b : Int} (h1 : g t = .int k a) (h2 : g' t = .int k' b) (hk : sameKind k k' = true) : lkEq false .int g g' t h = some (.bool (decide (a = b))) := by
  unfold lkEq predEq; rw [h1, h2]; dsimp only; rw [hk, ← eqInt_eq]; rfl
theorem l_neI {k k' : IntKind} {a b : Int} (h1 : g t = .int k a) (h2 : g' t = .int k' b) (hk : sameKind k k' = true) : lkEq true .int g g' t h = some (.bool !(decide (a = b))) := by
  unfold lkEq predEq; rw [h1, h2]; dsimp only; rw [hk, ← eqInt_eq]; rfl
theorem l_not {b : Bool} (hg : g t = .bool b) : lkUn .not g t h = some (.bool !b) := by unfold lkUn; rw [hg]; rfl
theorem l_pick1 {g'' : OpdF} {v : Value} (hg : g t = .bool true) (h1 : g' t = v) : lkPick g g' g'' t h = some v := by unfold lkPick; rw [hg, ← h1]; rfl
theorem l_pick0 {g'' : OpdF} {v : Value} (hg : g t = .bool false) (h1 : g'' t = v) : lkPick g g' g'' t h = some v := by unfold lkPick; rw [hg, ← h1]; rfl
theorem l_lenSl {a : Option Addr} {n m : Nat} (hg : g t = .slice a n m) : lkLen .sl g t h = some (.int .i64 n) := by unfold lkLen; dsimp only; rw [hg]; rfl
theorem l_lenStr {s : ByteArray} (hg : g t = .string s) : lkLen .str g t h = some (.int .i64 (bytes s).length) := by unfold lkLen; dsimp only; rw [hg]; rfl
theorem l_ixSl {size n m : Nat} {a : Addr} {i : Nat} {k : IntKind} (hg : g t = .slice (some a) n m) (hi : g' t = .int k i) (hlt : i < n) : lkIxSl size g g' t h = some (.pointer (some ⟨a.block, a.off + i * size, none⟩)) := by
  unfold lkIxSl; rw [hg, hi]; show (bif Nat.blt i n then _ else _) = _; rw [blt_iff.2 hlt]; rfl
theorem l_extract {i : Nat} {vs : List Value} {v : Value} (hg : g t = .tuple ⟨vs⟩) (hv : nth i vs = some v) : lkExtract i g t h = some v := by unfold lkExtract; rw [hg]; exact hv
theorem l_eqFlat {ls : List Leaf} {a b : List Value} {r : Bool} (h1 : g t = .agg ⟨a⟩) (h2 : g' t = .agg ⟨b⟩) (hr : leavesEq ls a b = some r) : lkEq false (.flat ls) g g' t h = some (.bool r) := by
  unfold lkEq predEq; rw [h1, h2]; show optV none _ (leavesEq ls a b) = _; rw [hr]; rfl
theorem l_neFlat {ls : List Leaf} {a b : List Value} {r : Bool} (h1 : g t = .agg ⟨a⟩) (h2 : g' t = .agg ⟨b⟩) (hr : leavesEq ls a b = some r) : lkEq true (.flat ls) g g' t h = some (.bool !r) := by
  unfold lkEq predEq; rw [h1, h2]; show optV none _ (leavesEq ls a b) = _; rw [hr]; rfl

theorem wrap64' {a : Int} (h1 : -9223372036854775808 ≤ a) (h2 : a ≤ 9223372036854775807) : IntKind.i64.wrap a = a := by
  have e : IntKind.i64.wrap a = if (true && decide (a % 18446744073709551616 ≥ (9223372036854775808 : Int))) = true then a % 18446744073709551616 - 18446744073709551616 else a % 18446744073709551616 := rfl
  rw [e]
  simp only [Bool.true_and, decide_eq_true_eq]
  split <;> omega
theorem l_addN {a b : Nat} (h1 : g t = .int .i64 (Int.ofNat a)) (h2 : g' t = .int .i64 (Int.ofNat b)) (hb : a + b ≤ 9223372036854775807) : lkBin .add g g' t h = some (.int .i64 (Int.ofNat (a + b))) := by
  rw [l_addI h1 h2 rfl, wrap64' (by show -9223372036854775808 ≤ (a : Int) + b; omega) (by show (a : Int) + b ≤ _; omega)]
  rfl
theorem l_subN {a b : Nat} (h1 : g t = .int .i64 (Int.ofNat a)) (h2 : g' t = .int .i64 (Int.ofNat b)) (hb : b ≤ a) (ha : a ≤ 9223372036854775807) : lkBin .sub g g' t h = some (.int .i64 (Int.ofNat (a - b))) := by
  rw [l_subI h1 h2 rfl, wrap64' (by show -9223372036854775808 ≤ (a : Int) - b; omega) (by show (a : Int) - b ≤ _; omega)]
  congr 2
  show (a : Int) - b = ((a - b : Nat) : Int)
  omega
theorem l_incN {a : Nat} (h1 : g t = .int .i64 (Int.ofNat a)) (h2 : g' t = .int .i64 (Int.ofNat 1)) (hb : a < 9223372036854775807) : lkBin .add g g' t h = some (.int .i64 (Int.ofNat (a + 1))) := l_addN h1 h2 (by omega)
theorem l_decN {a : Nat} (h1 : g t = .int .i64 (Int.ofNat a)) (h2 : g' t = .int .i64 (Int.ofNat 1)) (ha : 1 ≤ a) (hb : a ≤ 9223372036854775807) : lkBin .sub g g' t h = some (.int .i64 (Int.ofNat (a - 1))) := l_subN h1 h2 ha hb
/-! ### Turns -/
theorem tn_boxAgg {cs : List Value} (hg : g t = .agg ⟨cs⟩) : tnBox g t h = some (.pointer (some ⟨h.next, 0, none⟩), h.push (.cells true cs)) := by unfold tnBox; rw [hg]; rfl
theorem tn_box1 {v : Value} (hg : g t = v) (h1 : cellsOf v = some [v]) : tnBox g t h = some (.pointer (some ⟨h.next, 0, none⟩), h.push (.cells true [v])) := by unfold tnBox; rw [hg, h1]; rfl
theorem tn_alloc {z : List Value} : tnAlloc z t h = some (.pointer (some ⟨h.next, 0, none⟩), h.push (.cells true z)) := rfl
theorem tn_buildSlice {z cs : List Value} {ps : List (Nat × Nat × OpdF)} {n : Nat} (hf : fillParts t ps z = some cs) : tnBuildSlice z ps n t h = some (.slice (some ⟨h.next, 0, none⟩) n n, h.push (.cells true cs)) := by unfold tnBuildSlice; rw [hf]

/-! ### Numbers -/
theorem wrap64 {a : Int} (h1 : -9223372036854775808 ≤ a) (h2 : a ≤ 9223372036854775807) : IntKind.i64.wrap a = a := by
  have e : IntKind.i64.wrap a = if (true && decide (a % 18446744073709551616 ≥ (9223372036854775808 : Int))) = true then a % 18446744073709551616 - 18446744073709551616 else a % 18446744073709551616 := rfl
  rw [e]
  simp only [Bool.true_and, decide_eq_true_eq]
  split <;> omega
end
end Go.Eng

/- Operations under a guard, gone through without parting the ways. -/
namespace Go.Eng
set_option linter.unusedVariables false
section
variable {N : Tm → Aux → Heap → Prop} {X : Nat → Tm → Aux → Heap → Prop} {R : Tm → Aux → Heap → Prop} {c : Ctx} {t : Tm} {x : Aux} {h : Heap} {g g' : OpdF}

theorem wantT_of {b : Bool} (hg : g t = .bool b) : wantT g t = b := by unfold wantT; rw [hg]; cases b <;> rfl
theorem wantF_of {b : Bool} (hg : g t = .bool b) : wantF g t = !b := by unfold wantF; rw [hg]; cases b <;> rfl

/-- What a guarded operation leaves: its value where it is wanted. -/
def orUndef (b : Bool) (v : Value) : Value := bif b then v else undef

theorem wp_gLook {want : Tm → Bool} {l : Look} {p : Value → Tm → Tm} {rest : KB} {b : Bool} {v : Value} (hw : want t = b) (hl : b = true → l t h = some v) (H : (rest c (p (orUndef b v) t) x h).Wp N X R) : (oSetIf want (xLook l) p rest c t x h).Wp N X R := by
  refine wp_if hw (fun hb => ?_) (fun hb => ?_)
  · subst hb; exact wp_look (hl rfl) H
  · subst hb; exact H
theorem wp_gMove {want : Tm → Bool} {a : OpdF} {p : Value → Tm → Tm} {rest : KB} {b : Bool} {v : Value} (hw : want t = b) (hl : a t = v) (H : (rest c (p (orUndef b v) t) x h).Wp N X R) : (oSetIf want (xMove a) p rest c t x h).Wp N X R := by
  refine wp_if hw (fun hb => ?_) (fun hb => ?_)
  · subst hb; exact wp_move hl H
  · subst hb; exact H
theorem wp_gTurn {want : Tm → Bool} {l : Turn} {p : Value → Tm → Tm} {rest : KB} {b : Bool} {Q : Value → Heap → Prop} (hw : want t = b) (hl : b = true → ∃ v h', l t h = some (v, h') ∧ Q v h') (H1 : ∀ v h', (b = true → Q v h') → (b = false → v = undef ∧ h' = h) → (rest c (p v t) x h').Wp N X R) : (oSetIf want (xTurn l) p rest c t x h).Wp N X R := by
  refine wp_if hw (fun hb => ?_) (fun hb => ?_)
  · obtain ⟨v, h', e, q⟩ := hl hb
    exact wp_turn e (H1 v h' (fun _ => q) (fun k => by rw [hb] at k; cases k))
  · exact H1 _ _ (fun k => by rw [hb] at k; cases k) (fun _ => ⟨rfl, rfl⟩)
theorem wp_gCall {want : Tm → Bool} {f : OpdF} {args : List OpdF} {p : Value → Tm → Tm} {rest : KB} {b : Bool} {Q : Value → Heap → Prop} (hw : want t = b) (hc : b = true → (c.call (f t) (vals t args) h).Wp Q) (H1 : ∀ v h', (b = true → Q v h') → (b = false → v = undef ∧ h' = h) → (rest c (p v t) x h').Wp N X R) : (oSetIf want (xCall f args) p rest c t x h).Wp N X R := by
  refine wp_if hw (fun hb => ?_) (fun hb => ?_)
  · exact wp_callIn (hc hb) fun v h' q => H1 v h' (fun _ => q) (fun k => by rw [hb] at k; cases k)
  · exact H1 _ _ (fun k => by rw [hb] at k; cases k) (fun _ => ⟨rfl, rfl⟩)
/-- A call that answers yes or no, and leaves memory that was there: under a guard. -/
theorem wp_gAsk {want : Tm → Bool} {f : OpdF} {args : List OpdF} {p : Value → Tm → Tm} {rest : KB} {b r : Bool} (hw : want t = b) (hc : b = true → (c.call (f t) (vals t args) h).Wp fun v h' => v = .bool r ∧ h.Le h') (H1 : ∀ h', h.Le h' → (rest c (p (orUndef b (.bool r)) t) x h').Wp N X R) : (oSetIf want (xCall f args) p rest c t x h).Wp N X R := by
  refine wp_gCall hw hc fun v h' h1 h0 => ?_
  cases b with
  | true => obtain ⟨rfl, hle⟩ := h1 rfl; exact H1 h' hle
  | false => obtain ⟨rfl, rfl⟩ := h0 rfl; exact H1 _ (Heap.Le.refl _)
theorem wp_ask {f : OpdF} {args : List OpdF} {p : Value → Tm → Tm} {rest : KB} {r : Bool} (hc : (c.call (f t) (vals t args) h).Wp fun v h' => v = .bool r ∧ h.Le h') (H1 : ∀ h', h.Le h' → (rest c (p (.bool r) t) x h').Wp N X R) : (oSet (xCall f args) p rest c t x h).Wp N X R :=
  wp_callIn hc fun v h' q => by obtain ⟨rfl, hle⟩ := q; exact H1 h' hle
/-- a && b -/
theorem l_and {g'' : OpdF} {b r : Bool} (hg : g t = .bool b) (h1 : g' t = orUndef b (.bool r)) (h0 : g'' t = .bool false) : lkPick g g' g'' t h = some (.bool (b && r)) := by
  unfold lkPick; rw [hg, h0, h1]; cases b <;> rfl
/-- a || b -/
theorem l_or {g'' : OpdF} {b r : Bool} (hg : g t = .bool b) (h1 : g' t = .bool true) (h0 : g'' t = orUndef (!b) (.bool r)) : lkPick g g' g'' t h = some (.bool (b || r)) := by
  unfold lkPick; rw [hg, h0, h1]; cases b <;> rfl
theorem wp_name {p : Value → Tm → Tm} {rest : KB} {e : Bool} (hv : g t = .bool e) (H : ∀ b, b = e → (rest c (p (.bool b) t) x h).Wp N X R) : (oSet (xMove g) p rest c t x h).Wp N X R := wp_move hv (H e rfl)
theorem exit_here {A B : Prop} {b : Bool} (hb : b = true) (h : A) : (bif b then A else B) := by rw [hb]; exact h
theorem exit_past {A B : Prop} {b : Bool} (hb : b = false) (h : B) : (bif b then A else B) := by rw [hb]; exact h
theorem wp_say {p : Value → Tm → Tm} {rest : KB} {e b : Bool} (hv : g t = .bool e) (he : e = b) (H : (rest c (p (.bool b) t) x h).Wp N X R) : (oSet (xMove g) p rest c t x h).Wp N X R := wp_move (he ▸ hv) H
theorem wp_yes {want : Tm → Bool} {ex : ExF} {p : Value → Tm → Tm} {rest : KB} (hw : want t = true) (H : (oSet ex p rest c t x h).Wp N X R) : (oSetIf want ex p rest c t x h).Wp N X R := wp_if hw (fun _ => H) (fun h => nomatch h)
theorem wp_no {want : Tm → Bool} {ex : ExF} {p : Value → Tm → Tm} {rest : KB} (hw : want t = false) (H : (rest c (p undef t) x h).Wp N X R) : (oSetIf want ex p rest c t x h).Wp N X R := wp_if hw (fun h => nomatch h) (fun _ => H)
theorem wp_condT {a b : KB} {e : Bool} (hg : g t = .bool e) (he : e = true) (H : (a c t x h).Wp N X R) : (kCond g a b c t x h).Wp N X R := wp_cond hg (fun _ => H) (fun k => by rw [he] at k; cases k)
theorem wp_condF {a b : KB} {e : Bool} (hg : g t = .bool e) (he : e = false) (H : (b c t x h).Wp N X R) : (kCond g a b c t x h).Wp N X R := wp_cond hg (fun k => by rw [he] at k; cases k) (fun _ => H)
theorem wp_dSay {idx : Nat} {un pre : List Nat} {p : Value → Tm → Tm} {rest : KD} {log : List (Nat × LogE)} {e b : Bool} (hv : g t = .bool e) (he : e = b) (hu : unLook log (lkMove g) t (.bool b) un = true)
    (H : ∀ log, (rest log none c (p (.bool b) t) x h).Wp N X R) : (dLook idx un pre (lkMove g) p rest log none c t x h).Wp N X R := wp_dLook (congrArg some (he ▸ hv)) hu (H _)
theorem wp_dYes {pre : List Nat} {want : Tm → Bool} {p : Value → Tm → Tm} {yes rest : KD} {log : List (Nat × LogE)} (hw : want t = true) (H : (yes log none c t x h).Wp N X R) : (dIf pre want p yes rest log none c t x h).Wp N X R := wp_dIf hw (fun _ => H) (fun h => nomatch h)
theorem wp_dNo {pre : List Nat} {want : Tm → Bool} {p : Value → Tm → Tm} {yes rest : KD} {log : List (Nat × LogE)} (hw : want t = false) (H : (rest log none c (p undef t) x h).Wp N X R) : (dIf pre want p yes rest log none c t x h).Wp N X R := wp_dIf hw (fun h => nomatch h) (fun _ => H)
theorem orUndef_true (v : Value) : orUndef true v = v := rfl

/-! ### The same, in a region that draws its order -/
theorem wp_dMove {idx : Nat} {un pre : List Nat} {p : Value → Tm → Tm} {rest : KD} {log : List (Nat × LogE)} {v : Value} (hv : g t = v) (hu : unLook log (lkMove g) t v un = true)
    (H : (rest ((idx, .ld fun now => tellsAs (lkMove g t now) v) :: log) none c (p v t) x h).Wp N X R) : (dLook idx un pre (lkMove g) p rest log none c t x h).Wp N X R := wp_dLook (congrArg some hv) hu H
theorem wp_dName {idx : Nat} {un pre : List Nat} {p : Value → Tm → Tm} {rest : KD} {log : List (Nat × LogE)} {e : Bool} (hv : g t = .bool e) (hu : unLook log (lkMove g) t (.bool e) un = true)
    (H : ∀ b, b = e → (rest ((idx, .ld fun now => tellsAs (lkMove g t now) (.bool b)) :: log) none c (p (.bool b) t) x h).Wp N X R) : (dLook idx un pre (lkMove g) p rest log none c t x h).Wp N X R := wp_dLook (congrArg some hv) hu (H e rfl)
theorem wp_dNil {idx : Nat} {un pre : List Nat} {w : Bool} {o : OpdF} {p : Value → Tm → Tm} {rest : KD} {log : List (Nat × LogE)} {a : Addr} (ho : o t = .pointer (some a)) (hu : unTurn log h un = true)
    (H : (rest ((idx, .wr h) :: log) none c (p (.pointer (some a)) t) x h).Wp N X R) : (dTurn idx un pre w (xNil o) p rest log none c t x h).Wp N X R := by
  unfold dTurn xNil
  simp only [isAfter, Option.isSome, Bool.and_false, cond_false, ho]
  rw [hu]
  exact H
/-- A look that is gone through only if it is wanted: the log is longer, or not. -/
theorem wp_dgLook {pre pre' un : List Nat} {idx : Nat} {want : Tm → Bool} {l : Look} {p : Value → Tm → Tm} {rest : KD} {log : List (Nat × LogE)} {b : Bool} {v : Value} (hw : want t = b) (hl : b = true → l t h = some v) (hu : un = [])
    (H : ∀ log, (rest log none c (p (orUndef b v) t) x h).Wp N X R) : (dIf pre want p (dLook idx un pre' l p rest) rest log none c t x h).Wp N X R := by
  subst hu
  refine wp_dIf hw (fun hb => ?_) (fun hb => ?_)
  · subst hb; exact wp_dLook (hl rfl) rfl (H _)
  · subst hb; exact H _
theorem wp_dgMove {pre pre' un : List Nat} {idx : Nat} {want : Tm → Bool} {p : Value → Tm → Tm} {rest : KD} {log : List (Nat × LogE)} {b : Bool} {v : Value} (hw : want t = b) (hl : g t = v) (hu : un = [])
    (H : ∀ log, (rest log none c (p (orUndef b v) t) x h).Wp N X R) : (dIf pre want p (dLook idx un pre' (lkMove g) p rest) rest log none c t x h).Wp N X R := wp_dgLook hw (fun _ => congrArg some hl) hu H

theorem Heap.get_push_ne {h : Heap} {o : AObj} {b : Nat} (hb : b ≠ h.next) : (h.push o).get b = h.get b := by rw [Heap.get_push, if_neg hb]
theorem Heap.get_put_ne {h : Heap} {r : Nat} {o : Option AObj} {b : Nat} (hb : b ≠ r) : (h.put r o).get b = h.get b := by rw [Heap.get_put, if_neg hb]
theorem Heap.get_put_eq (h : Heap) (r : Nat) (o : Option AObj) : (h.put r o).get r = o := by rw [Heap.get_put, if_pos rfl]
end
end Go.Eng

/- Byte strings in their order. -/
namespace Go.Eng
set_option linter.unusedVariables false

theorem ltB_nil_nil : ltBytes [] [] = false := rfl
theorem ltB_nil_cons (y : UInt8) (ys : List UInt8) : ltBytes [] (y :: ys) = true := rfl
theorem ltB_cons_nil (x : UInt8) (xs : List UInt8) : ltBytes (x :: xs) [] = false := rfl
theorem ltB_cons (x y : UInt8) (xs ys : List UInt8) : ltBytes (x :: xs) (y :: ys) = (bif Nat.blt x.toNat y.toNat then true else bif Nat.beq x.toNat y.toNat then ltBytes xs ys else false) := rfl
theorem ltB_cons_iff (x y : UInt8) (xs ys : List UInt8) : ltBytes (x :: xs) (y :: ys) = true ↔ x.toNat < y.toNat ∨ (x = y ∧ ltBytes xs ys = true) := by
  rw [ltB_cons]
  by_cases h : x.toNat < y.toNat
  · rw [blt_iff.2 h]; simp [h]
  · rw [show Nat.blt x.toNat y.toNat = false from by cases e : Nat.blt x.toNat y.toNat; rfl; exact absurd (blt_iff.1 e) h]
    by_cases k : x = y
    · subst k; rw [beq_iff.2 rfl]; simp
    · rw [show Nat.beq x.toNat y.toNat = false from by cases e : Nat.beq x.toNat y.toNat; rfl; exact absurd (UInt8.toNat_inj.1 (beq_iff.1 e)) k]; simp [h, k]
theorem eqB_iff (a b : List UInt8) : eqBytes a b = true ↔ a = b := by rw [eqBytes_eq]; exact beq_iff_eq
theorem ltB_irrefl (a : List UInt8) : ltBytes a a = false := by
  induction a with
  | nil => rfl
  | cons x xs ih =>
    cases h : ltBytes (x :: xs) (x :: xs) with
    | false => rfl
    | true =>
      rcases (ltB_cons_iff _ _ _ _).1 h with h | ⟨_, h⟩
      · omega
      · rw [ih] at h; cases h
theorem ltB_trans {a b d : List UInt8} (h1 : ltBytes a b = true) (h2 : ltBytes b d = true) : ltBytes a d = true := by
  induction a generalizing b d with
  | nil => cases b with
    | nil => cases h1
    | cons y ys => cases d with
      | nil => cases h2
      | cons z zs => rfl
  | cons x xs ih => cases b with
    | nil => cases h1
    | cons y ys => cases d with
      | nil => cases h2
      | cons z zs =>
        rw [ltB_cons_iff] at h1 h2 ⊢
        rcases h1 with h1 | ⟨rfl, h1⟩ <;> rcases h2 with h2 | ⟨rfl, h2⟩
        · exact .inl (by omega)
        · exact .inl h1
        · exact .inl h2
        · exact .inr ⟨rfl, ih h1 h2⟩
theorem ltB_total (a b : List UInt8) : ltBytes a b = true ∨ a = b ∨ ltBytes b a = true := by
  induction a generalizing b with
  | nil => cases b with
    | nil => exact .inr (.inl rfl)
    | cons y ys => exact .inl rfl
  | cons x xs ih => cases b with
    | nil => exact .inr (.inr rfl)
    | cons y ys =>
      simp only [ltB_cons_iff]
      rcases Nat.lt_trichotomy x.toNat y.toNat with h | h | h
      · exact .inl (.inl h)
      · have := UInt8.toNat_inj.1 h
        subst this
        rcases ih ys with h | rfl | h
        · exact .inl (.inr ⟨rfl, h⟩)
        · exact .inr (.inl rfl)
        · exact .inr (.inr (.inr ⟨rfl, h⟩))
      · exact .inr (.inr (.inl h))
/-- Behind a string comes itself with a zero, at once. -/
theorem ltB_succ (a k : List UInt8) : ltBytes a (k ++ [0]) = true ↔ ltBytes a k = true ∨ a = k := by
  induction a generalizing k with
  | nil => cases k with
    | nil => exact ⟨fun _ => .inr rfl, fun _ => rfl⟩
    | cons y ys => exact ⟨fun _ => .inl rfl, fun _ => rfl⟩
  | cons x xs ih => cases k with
    | nil =>
      show ltBytes (x :: xs) [0] = true ↔ _
      rw [ltB_cons_iff]
      constructor
      · rintro (h | ⟨rfl, h⟩)
        · exact absurd h (Nat.not_lt_zero _)
        · cases xs <;> cases h
      · rintro (h | h) <;> cases h
    | cons y ys =>
      show ltBytes (x :: xs) (y :: (ys ++ [0])) = true ↔ _
      rw [ltB_cons_iff, ltB_cons_iff, ih]
      constructor
      · rintro (h | ⟨rfl, h | rfl⟩)
        · exact .inl (.inl h)
        · exact .inl (.inr ⟨rfl, h⟩)
        · exact .inr rfl
      · rintro ((h | ⟨rfl, h⟩) | h)
        · exact .inl h
        · exact .inr ⟨rfl, .inl h⟩
        · cases h; exact .inr ⟨rfl, .inr rfl⟩
theorem ltB_nil_iff (a : List UInt8) : ltBytes [] a = true ↔ a ≠ [] := by
  cases a with
  | nil => exact Iff.intro (fun h => by cases h) (fun h => absurd rfl h)
  | cons y ys => exact Iff.intro (fun _ h => by cases h) (fun _ => rfl)
theorem ltB_to_nil (a : List UInt8) : ltBytes a [] = false := by cases a <;> rfl

/-! ### Ranks: where a string stands among some -/
noncomputable def rankB : List (List UInt8) → List UInt8 → Nat
  | [], _ => 0
  | s :: S, a => (if ltBytes s a = true then 1 else 0) + rankB S a
theorem rank_mono {S : List (List UInt8)} {a b : List UInt8} (h : ∀ s, ltBytes s a = true → ltBytes s b = true) : rankB S a ≤ rankB S b := by
  induction S with
  | nil => exact Nat.le_refl _
  | cons s S ih =>
    unfold rankB
    by_cases k : ltBytes s a = true
    · rw [if_pos k, if_pos (h s k)]; omega
    · rw [if_neg k]; omega
theorem rank_lt {S : List (List UInt8)} {a b : List UInt8} (ha : a ∈ S) : ltBytes a b = true ↔ rankB S a < rankB S b := by
  constructor
  · intro h
    have sub : ∀ s, ltBytes s a = true → ltBytes s b = true := fun s hs => ltB_trans hs h
    induction S with
    | nil => cases ha
    | cons s S ih =>
      unfold rankB
      have le := rank_mono (S := S) sub
      rcases List.mem_cons.1 ha with rfl | hm
      · rw [if_neg (by rw [ltB_irrefl]; exact Bool.noConfusion), if_pos h]; omega
      · have := ih hm
        by_cases k : ltBytes s a = true
        · rw [if_pos k, if_pos (sub s k)]; omega
        · rw [if_neg k]; omega
  · intro h
    rcases ltB_total a b with k | rfl | k
    · exact k
    · omega
    · have := rank_mono (S := S) (fun s hs => ltB_trans hs k); omega
theorem rank_eq {S : List (List UInt8)} {a b : List UInt8} (ha : a ∈ S) (hb : b ∈ S) : a = b ↔ rankB S a = rankB S b := by
  constructor
  · rintro rfl; rfl
  · intro h
    rcases ltB_total a b with k | k | k
    · have := (rank_lt ha).1 k; omega
    · exact k
    · have := (rank_lt hb).1 k; omega
end Go.Eng

/- Spans of numbers, joined. -/
namespace Go.Eng.SpanN
set_option linter.unusedVariables false
abbrev NS := Nat × Nat
def has (s : NS) (k : Nat) : Prop := s.1 ≤ k ∧ k < s.2
def hasL (l : List NS) (k : Nat) : Prop := ∃ s ∈ l, has s k
def go (last : NS) : List NS → List NS
  | [] => [last]
  | s :: l => if s.1 ≤ last.2 then go (last.1, max last.2 s.2) l else last :: go s l
def join : List NS → List NS
  | [] => []
  | s :: l => go s l
/-- Rising by the low end, from one on. -/
def Up : Nat → List NS → Prop
  | _, [] => True
  | n, s :: l => n ≤ s.1 ∧ s.1 < s.2 ∧ Up s.1 l
/-- Joined: rising, apart; all from n on. -/
def Canon : Nat → List NS → Prop
  | _, [] => True
  | n, s :: l => n ≤ s.1 ∧ s.1 < s.2 ∧ Canon (s.2 + 1) l

theorem Up.mono {n m : Nat} (h : m ≤ n) : ∀ {l : List NS}, Up n l → Up m l
  | [], _ => trivial
  | s :: l, ⟨h1, h2, h3⟩ => ⟨Nat.le_trans h h1, h2, h3⟩
theorem Canon.mono {n m : Nat} (h : m ≤ n) : ∀ {l : List NS}, Canon n l → Canon m l
  | [], _ => trivial
  | s :: l, ⟨h1, h2, h3⟩ => ⟨Nat.le_trans h h1, h2, h3⟩
theorem hasL_nil (k : Nat) : hasL [] k ↔ False := ⟨fun ⟨_, h, _⟩ => (nomatch h), False.elim⟩
theorem hasL_cons (s : NS) (l : List NS) (k : Nat) : hasL (s :: l) k ↔ has s k ∨ hasL l k := by
  constructor
  · rintro ⟨x, hx, hk⟩
    rcases List.mem_cons.1 hx with rfl | hx
    · exact .inl hk
    · exact .inr ⟨x, hx, hk⟩
  · rintro (h | ⟨x, hx, hk⟩)
    · exact ⟨s, List.mem_cons_self .., h⟩
    · exact ⟨x, List.mem_cons_of_mem _ hx, hk⟩

theorem go_has (l : List NS) : ∀ (last : NS), last.1 < last.2 → Up last.1 l → ∀ k, hasL (go last l) k ↔ has last k ∨ hasL l k := by
  induction l with
  | nil => intro last h1 h2 k; show hasL [last] k ↔ _; rw [hasL_cons]
  | cons s l ih =>
    intro last h1 ⟨h2, h3, h4⟩ k
    unfold go
    split
    · rename_i h
      rw [ih (last.1, max last.2 s.2) (show last.1 < max last.2 s.2 by omega) (Up.mono h2 h4), hasL_cons]
      unfold has
      constructor
      · rintro (⟨a, b⟩ | h)
        · replace b : k < max last.2 s.2 := b
          replace a : last.1 ≤ k := a
          by_cases hk : k < last.2
          · exact .inl ⟨a, hk⟩
          · exact .inr (.inl ⟨by omega, by omega⟩)
        · exact .inr (.inr h)
      · rintro (⟨a, b⟩ | ⟨a, b⟩ | h)
        · exact .inl ⟨a, show k < max last.2 s.2 by omega⟩
        · exact .inl ⟨show last.1 ≤ k by omega, show k < max last.2 s.2 by omega⟩
        · exact .inr h
    · rw [hasL_cons, hasL_cons, ih s h3 h4]

theorem go_canon (l : List NS) : ∀ (last : NS), last.1 < last.2 → Up last.1 l → Canon last.1 (go last l) := by
  induction l with
  | nil => intro last h1 _; exact ⟨Nat.le_refl _, h1, trivial⟩
  | cons s l ih =>
    intro last h1 ⟨h2, h3, h4⟩
    unfold go
    split
    · exact ih (last.1, max last.2 s.2) (show last.1 < max last.2 s.2 by omega) (Up.mono h2 h4)
    · exact ⟨Nat.le_refl _, h1, Canon.mono (by omega) (ih s h3 h4)⟩

theorem join_has {l : List NS} {n : Nat} (h : Up n l) (k : Nat) : hasL (join l) k ↔ hasL l k := by
  cases l with
  | nil => exact Iff.rfl
  | cons s l => rw [hasL_cons]; exact go_has l s h.2.1 h.2.2 k
theorem join_canon {l : List NS} {n : Nat} (h : Up n l) : Canon n (join l) := by
  cases l with
  | nil => exact trivial
  | cons s l => exact Canon.mono h.1 (go_canon l s h.2.1 h.2.2)

theorem Canon.above {n : Nat} {l : List NS} (h : Canon n l) {k : Nat} (hk : hasL l k) : n ≤ k := by
  induction l generalizing n with
  | nil => rw [hasL_nil] at hk; exact hk.elim
  | cons s l ih =>
    rw [hasL_cons] at hk
    obtain ⟨h1, h2, h3⟩ := h
    rcases hk with ⟨a, b⟩ | hk
    · omega
    · have := ih h3 hk; omega

/-- Joined spans are told by which keys they have. -/
theorem canon_eq {l : List NS} : ∀ {m : List NS} {n n' : Nat}, Canon n l → Canon n' m → (∀ k, hasL l k ↔ hasL m k) → l = m := by
  induction l with
  | nil =>
    intro m n n' _ hm he
    cases m with
    | nil => rfl
    | cons t m =>
      have := (he t.1).2 (by rw [hasL_cons]; exact .inl ⟨Nat.le_refl _, hm.2.1⟩)
      rw [hasL_nil] at this; exact this.elim
  | cons s l ih =>
    intro m n n' hl hm he
    cases m with
    | nil =>
      have := (he s.1).1 (by rw [hasL_cons]; exact .inl ⟨Nat.le_refl _, hl.2.1⟩)
      rw [hasL_nil] at this; exact this.elim
    | cons t m =>
      obtain ⟨a1, a2, a3⟩ := hl
      obtain ⟨b1, b2, b3⟩ := hm
      have up1 : ∀ k, hasL l k → s.2 + 1 ≤ k := fun k hk => Canon.above a3 hk
      have up2 : ∀ k, hasL m k → t.2 + 1 ≤ k := fun k hk => Canon.above b3 hk
      have e1 : s.1 = t.1 := by
        have h1 := (he s.1).1 (by rw [hasL_cons]; exact .inl ⟨Nat.le_refl _, a2⟩)
        have h2 := (he t.1).2 (by rw [hasL_cons]; exact .inl ⟨Nat.le_refl _, b2⟩)
        rw [hasL_cons] at h1 h2
        have l1 : t.1 ≤ s.1 := by
          rcases h1 with h1 | h1
          · exact h1.1
          · have := up2 _ h1; omega
        have l2 : s.1 ≤ t.1 := by
          rcases h2 with h2 | h2
          · exact h2.1
          · have := up1 _ h2; omega
        omega
      have e2 : s.2 = t.2 := by
        rcases Nat.lt_trichotomy s.2 t.2 with h | h | h
        · have := (he s.2).2 (by rw [hasL_cons]; exact .inl ⟨by omega, h⟩)
          rw [hasL_cons] at this
          rcases this with ⟨_, h⟩ | h
          · omega
          · have := up1 _ h; omega
        · exact h
        · have := (he t.2).1 (by rw [hasL_cons]; exact .inl ⟨by omega, h⟩)
          rw [hasL_cons] at this
          rcases this with ⟨_, h⟩ | h
          · omega
          · have := up2 _ h; omega
      have e : s = t := Prod.ext e1 e2
      subst e
      congr 1
      refine ih a3 b3 fun k => ?_
      have := he k
      rw [hasL_cons, hasL_cons] at this
      constructor
      · intro h
        rcases this.1 (.inr h) with ⟨_, h'⟩ | h'
        · have := up1 k h; omega
        · exact h'
      · intro h
        rcases this.2 (.inr h) with ⟨_, h'⟩ | h'
        · have := up2 k h; omega
        · exact h'

/-- Each one that went in lies in one that comes out. -/
theorem go_covers (l : List NS) : ∀ (last : NS), Up last.1 l → (∃ x ∈ go last l, x.1 ≤ last.1 ∧ last.2 ≤ x.2) ∧ ∀ s ∈ l, ∃ x ∈ go last l, x.1 ≤ s.1 ∧ s.2 ≤ x.2 := by
  induction l with
  | nil => intro last _; exact ⟨⟨last, List.mem_cons_self .., Nat.le_refl _, Nat.le_refl _⟩, fun s h => by cases h⟩
  | cons s l ih =>
    intro last ⟨h2, h3, h4⟩
    unfold go
    split
    · rename_i h
      obtain ⟨⟨x, k1, k2, k3⟩, k4⟩ := ih (last.1, max last.2 s.2) (Up.mono h2 h4)
      replace k2 : x.1 ≤ last.1 := k2
      replace k3 : max last.2 s.2 ≤ x.2 := k3
      refine ⟨⟨x, k1, k2, by omega⟩, fun s' hs' => ?_⟩
      rcases List.mem_cons.1 hs' with rfl | hs'
      · exact ⟨x, k1, by omega, by omega⟩
      · exact k4 s' hs'
    · obtain ⟨⟨x, k1, k2, k3⟩, k4⟩ := ih s h4
      refine ⟨⟨last, List.mem_cons_self .., Nat.le_refl _, Nat.le_refl _⟩, fun s' hs' => ?_⟩
      rcases List.mem_cons.1 hs' with rfl | hs'
      · exact ⟨x, List.mem_cons_of_mem _ k1, k2, k3⟩
      · obtain ⟨y, j1, j2⟩ := k4 s' hs'
        exact ⟨y, List.mem_cons_of_mem _ j1, j2⟩
theorem join_covers {l : List NS} {n : Nat} (h : Up n l) : ∀ s ∈ l, ∃ x ∈ join l, x.1 ≤ s.1 ∧ s.2 ≤ x.2 := by
  cases l with
  | nil => intro s h; cases h
  | cons s l =>
    intro s' hs'
    obtain ⟨k1, k2⟩ := go_covers l s h.2.2
    rcases List.mem_cons.1 hs' with rfl | hs'
    · exact k1
    · exact k2 s' hs'
end Go.Eng.SpanN

/- Spans of keys, joined: told by numbers. -/
namespace Go.Eng
set_option linter.unusedVariables false
open SpanN
abbrev Str := List UInt8
abbrev Sp := Str × Str
noncomputable def inS (s : Sp) (k : Str) : Bool := !(ltBytes k s.1) && (eqBytes s.2 [] || ltBytes k s.2)
noncomputable def emptyS (s : Sp) : Bool := !(eqBytes s.2 [] || ltBytes s.1 s.2)
noncomputable def hasS (l : List Sp) (k : Str) : Bool := l.any fun s => inS s k
/-- The last one, beside one more. -/
noncomputable def meltS (last s : Sp) : Sp := if (!(eqBytes last.2 []) && (eqBytes s.2 [] || ltBytes last.2 s.2)) = true then (last.1, s.2) else last
noncomputable def goS (last : Sp) : List Sp → List Sp
  | [] => [last]
  | s :: l => if (eqBytes last.2 [] || !(ltBytes last.2 s.1)) = true then goS (meltS last s) l else last :: goS s l
noncomputable def mergeS : List Sp → List Sp
  | [] => []
  | s :: l => goS s l

theorem rank_le (S : List Str) (a : Str) : rankB S a ≤ S.length := by
  induction S with
  | nil => exact Nat.le_refl _
  | cons s S ih => unfold rankB; rw [List.length_cons]; split <;> omega

noncomputable def toN (S : List Str) (s : Sp) : NS := (rankB S s.1, if s.2 = [] then S.length + 1 else rankB S s.2)
def Among (S : List Str) (s : Sp) : Prop := s.1 ∈ S ∧ s.2 ∈ S

section
variable {S : List Str}
theorem toN_lo (s : Sp) : (toN S s).1 = rankB S s.1 := rfl
theorem toN_hi (s : Sp) : (toN S s).2 = if s.2 = [] then S.length + 1 else rankB S s.2 := rfl
theorem lt_hi {s : Sp} {k : Str} (hk : k ∈ S) : (eqBytes s.2 [] || ltBytes k s.2) = true ↔ rankB S k < (toN S s).2 := by
  rw [toN_hi, Bool.or_eq_true, eqB_iff]
  have := rank_le S k
  by_cases h : s.2 = []
  · rw [if_pos h]; simp [h]; omega
  · rw [if_neg h, rank_lt hk]; simp [h]
theorem inS_iff {s : Sp} {k : Str} (hs : Among S s) (hk : k ∈ S) : inS s k = true ↔ has (toN S s) (rankB S k) := by
  unfold inS has
  rw [Bool.and_eq_true, Bool.not_eq_true', lt_hi hk, toN_lo]
  have : ltBytes k s.1 = false ↔ rankB S s.1 ≤ rankB S k := by
    rw [← Bool.not_eq_true, rank_lt hk]; omega
  rw [this]
theorem empty_iff {s : Sp} (hs : Among S s) : emptyS s = false ↔ (toN S s).1 < (toN S s).2 := by
  unfold emptyS
  rw [Bool.not_eq_false', lt_hi hs.1, toN_lo]
theorem toN_inj {s t : Sp} (hs : Among S s) (ht : Among S t) (h : toN S s = toN S t) : s = t := by
  have h1 : rankB S s.1 = rankB S t.1 := congrArg Prod.fst h
  have h2 : (toN S s).2 = (toN S t).2 := congrArg Prod.snd h
  have e1 := (rank_eq hs.1 ht.1).2 h1
  rw [toN_hi, toN_hi] at h2
  have l1 := rank_le S s.2
  have l2 := rank_le S t.2
  refine Prod.ext e1 ?_
  by_cases a : s.2 = [] <;> by_cases b : t.2 = []
  · rw [a, b]
  · rw [if_pos a, if_neg b] at h2; omega
  · rw [if_neg a, if_pos b] at h2; omega
  · rw [if_neg a, if_neg b] at h2; exact (rank_eq hs.2 ht.2).2 h2
theorem melt_among {a b : Sp} (ha : Among S a) (hb : Among S b) : Among S (meltS a b) := by
  unfold meltS
  split
  · exact ⟨ha.1, hb.2⟩
  · exact ha
theorem melt_toN {a b : Sp} (ha : Among S a) (hb : Among S b) : toN S (meltS a b) = ((toN S a).1, max (toN S a).2 (toN S b).2) := by
  have l1 := rank_le S a.2
  have l2 := rank_le S b.2
  have key : (!(eqBytes a.2 []) && (eqBytes b.2 [] || ltBytes a.2 b.2)) = true ↔ (toN S a).2 < (toN S b).2 := by
    rw [Bool.and_eq_true, Bool.not_eq_true', lt_hi ha.2, toN_hi, toN_hi, ← Bool.not_eq_true, eqB_iff]
    by_cases h : a.2 = []
    · simp only [h, if_true]
      constructor
      · intro k; exact absurd trivial k.1
      · intro k; split at k <;> omega
    · rw [if_neg h]
      exact ⟨fun k => k.2, fun k => ⟨h, k⟩⟩
  unfold meltS
  by_cases h : (!(eqBytes a.2 []) && (eqBytes b.2 [] || ltBytes a.2 b.2)) = true
  · rw [if_pos h]
    have := key.1 h
    refine Prod.ext rfl ?_
    show (toN S (a.1, b.2)).2 = max _ _
    rw [show (toN S (a.1, b.2)).2 = (toN S b).2 from rfl]
    omega
  · rw [if_neg h]
    have : ¬ _ := fun k => h (key.2 k)
    refine Prod.ext rfl ?_
    show (toN S a).2 = max _ _
    omega
theorem joins_iff {last s : Sp} (hl : Among S last) (hs : Among S s) : (eqBytes last.2 [] || !(ltBytes last.2 s.1)) = true ↔ (toN S s).1 ≤ (toN S last).2 := by
  rw [Bool.or_eq_true, eqB_iff, Bool.not_eq_true', ← Bool.not_eq_true, rank_lt hl.2, toN_hi, toN_lo]
  have := rank_le S s.1
  by_cases h : last.2 = []
  · rw [if_pos h]; simp [h]; omega
  · rw [if_neg h]; simp [h]
theorem go_toN (l : List Sp) : ∀ (last : Sp), Among S last → (∀ s ∈ l, Among S s) → (goS last l).map (toN S) = go (toN S last) (l.map (toN S)) ∧ ∀ s ∈ goS last l, Among S s := by
  induction l with
  | nil => intro last h _; exact ⟨rfl, fun s hs => by rcases List.mem_singleton.1 hs with rfl; exact h⟩
  | cons s l ih =>
    intro last h1 h2
    have hs := h2 s (List.mem_cons_self ..)
    have hl := fun x hx => h2 x (List.mem_cons_of_mem _ hx)
    unfold goS
    rw [List.map_cons]
    unfold go
    by_cases k : (eqBytes last.2 [] || !(ltBytes last.2 s.1)) = true
    · rw [if_pos k, if_pos ((joins_iff h1 hs).1 k)]
      have := ih (meltS last s) (melt_among h1 hs) hl
      rw [melt_toN h1 hs] at this
      exact this
    · rw [if_neg k, if_neg (fun c => k ((joins_iff h1 hs).2 c)), List.map_cons]
      obtain ⟨j1, j2⟩ := ih s hs hl
      refine ⟨by rw [j1], fun x hx => ?_⟩
      rcases List.mem_cons.1 hx with rfl | hx
      · exact h1
      · exact j2 x hx
theorem merge_toN {l : List Sp} (h : ∀ s ∈ l, Among S s) : (mergeS l).map (toN S) = join (l.map (toN S)) ∧ ∀ s ∈ mergeS l, Among S s := by
  cases l with
  | nil => exact ⟨rfl, fun s h => by cases h⟩
  | cons s l => exact go_toN l s (h s (List.mem_cons_self ..)) fun x hx => h x (List.mem_cons_of_mem _ hx)
theorem map_inj {l m : List Sp} (hl : ∀ s ∈ l, Among S s) (hm : ∀ s ∈ m, Among S s) (h : l.map (toN S) = m.map (toN S)) : l = m := by
  induction l generalizing m with
  | nil => cases m with
    | nil => rfl
    | cons t m => cases h
  | cons s l ih => cases m with
    | nil => cases h
    | cons t m =>
      rw [List.map_cons, List.map_cons] at h
      injection h with h1 h2
      rw [toN_inj (hl s (List.mem_cons_self ..)) (hm t (List.mem_cons_self ..)) h1, ih (fun x hx => hl x (List.mem_cons_of_mem _ hx)) (fun x hx => hm x (List.mem_cons_of_mem _ hx)) h2]
theorem hasL_iff {l : List Sp} (hl : ∀ s ∈ l, Among S s) {k : Str} (hk : k ∈ S) : hasS l k = true ↔ hasL (l.map (toN S)) (rankB S k) := by
  unfold hasS hasL
  rw [List.any_eq_true]
  constructor
  · rintro ⟨s, h1, h2⟩; exact ⟨_, List.mem_map_of_mem h1, (inS_iff (hl s h1) hk).1 h2⟩
  · rintro ⟨x, h1, h2⟩
    obtain ⟨s, h3, rfl⟩ := List.mem_map.1 h1
    exact ⟨s, h3, (inS_iff (hl s h3) hk).2 h2⟩
/-- Rising by Lo, none empty. -/
def UpS : List Sp → Prop
  | [] => True
  | s :: l => emptyS s = false ∧ (∀ t ∈ l, ltBytes t.1 s.1 = false) ∧ UpS l
theorem up_toN {l : List Sp} (hl : ∀ s ∈ l, Among S s) (h : UpS l) : Up 0 (l.map (toN S)) := by
  have : ∀ (l : List Sp) (n : Nat), (∀ s ∈ l, Among S s) → UpS l → (∀ s ∈ l, n ≤ (toN S s).1) → Up n (l.map (toN S)) := by
    intro l
    induction l with
    | nil => intros; trivial
    | cons s l ih =>
      intro n hl ⟨h1, h2, h3⟩ hn
      have hs := hl s (List.mem_cons_self ..)
      refine ⟨hn s (List.mem_cons_self ..), (empty_iff hs).1 h1, ih _ (fun x hx => hl x (List.mem_cons_of_mem _ hx)) h3 fun t ht => ?_⟩
      have := h2 t ht
      rw [← Bool.not_eq_true, rank_lt (hl t (List.mem_cons_of_mem _ ht)).1] at this
      rw [toN_lo, toN_lo]; omega
  exact this l 0 hl h fun _ _ => Nat.zero_le _
end

/-- All ends of some spans. -/
def ends : List Sp → List Str
  | [] => []
  | s :: l => s.1 :: s.2 :: ends l
theorem ends_among : ∀ {l : List Sp} {S : List Str}, (∀ x ∈ ends l, x ∈ S) → ∀ s ∈ l, Among S s
  | [], _, _, s, h => by cases h
  | t :: l, S, hS, s, h => by
    rcases List.mem_cons.1 h with rfl | h
    · exact ⟨hS _ (List.mem_cons_self ..), hS _ (List.mem_cons_of_mem _ (List.mem_cons_self ..))⟩
    · exact ends_among (fun x hx => hS x (List.mem_cons_of_mem _ (List.mem_cons_of_mem _ hx))) s h

theorem merge_has {l : List Sp} (h : UpS l) (k : Str) : hasS (mergeS l) k = hasS l k := by
  let S := k :: ends l
  have hk : k ∈ S := List.mem_cons_self ..
  have hl : ∀ s ∈ l, Among S s := ends_among fun x hx => List.mem_cons_of_mem _ hx
  obtain ⟨m1, m2⟩ := merge_toN hl
  rw [Bool.eq_iff_iff, hasL_iff m2 hk, hasL_iff hl hk, m1, join_has (up_toN hl h)]
/-- The same spans, in whatever order: joined they are the same. -/
theorem merge_same {l m : List Sp} (hl : UpS l) (hm : UpS m) (h : ∀ s, s ∈ l ↔ s ∈ m) : mergeS l = mergeS m := by
  let S := ends l ++ ends m
  have al : ∀ s ∈ l, Among S s := ends_among fun x hx => List.mem_append_left _ hx
  have am : ∀ s ∈ m, Among S s := ends_among fun x hx => List.mem_append_right _ hx
  obtain ⟨l1, l2⟩ := merge_toN al
  obtain ⟨m1, m2⟩ := merge_toN am
  refine map_inj l2 m2 ?_
  rw [l1, m1]
  refine canon_eq (join_canon (up_toN al hl)) (join_canon (up_toN am hm)) fun k => ?_
  rw [join_has (up_toN al hl), join_has (up_toN am hm)]
  unfold hasL
  constructor
  · rintro ⟨x, h1, h2⟩
    obtain ⟨s, h3, rfl⟩ := List.mem_map.1 h1
    exact ⟨_, List.mem_map_of_mem ((h s).1 h3), h2⟩
  · rintro ⟨x, h1, h2⟩
    obtain ⟨s, h3, rfl⟩ := List.mem_map.1 h1
    exact ⟨_, List.mem_map_of_mem ((h s).2 h3), h2⟩
/-- Joined: none is empty, they rise, they lie apart. -/
def CanonS : List Sp → Prop
  | [] => True
  | s :: l => emptyS s = false ∧ (∀ t ∈ l, s.2 ≠ [] ∧ ltBytes s.2 t.1 = true) ∧ CanonS l
theorem canon_mem {n : Nat} {l : List NS} (h : Canon n l) : ∀ t ∈ l, n ≤ t.1 := by
  induction l generalizing n with
  | nil => intro t h; cases h
  | cons s l ih =>
    intro t ht
    obtain ⟨h1, h2, h3⟩ := h
    rcases List.mem_cons.1 ht with rfl | ht
    · exact h1
    · have := ih h3 t ht; omega
theorem canon_toS {S : List Str} : ∀ {l : List Sp} {n : Nat}, (∀ s ∈ l, Among S s) → Canon n (l.map (toN S)) → CanonS l
  | [], _, _, _ => trivial
  | s :: l, n, hl, ⟨h1, h2, h3⟩ => by
    have hs := hl s (List.mem_cons_self ..)
    refine ⟨(empty_iff hs).2 h2, fun t ht => ?_, canon_toS (fun x hx => hl x (List.mem_cons_of_mem _ hx)) h3⟩
    have ht' := hl t (List.mem_cons_of_mem _ ht)
    have := canon_mem h3 _ (List.mem_map_of_mem ht)
    rw [toN_hi, toN_lo] at this
    have l1 := rank_le S t.1
    by_cases e : s.2 = []
    · rw [if_pos e] at this; omega
    · rw [if_neg e] at this
      exact ⟨e, (rank_lt hs.2).2 (by omega)⟩
theorem merge_canon {l : List Sp} (h : UpS l) : CanonS (mergeS l) := by
  have al : ∀ s ∈ l, Among (ends l) s := ends_among fun x hx => hx
  obtain ⟨m1, m2⟩ := merge_toN al
  refine canon_toS m2 (n := 0) ?_
  rw [m1]
  exact join_canon (up_toN al h)
theorem merge_covers {l : List Sp} (h : UpS l) : ∀ s ∈ l, ∃ x ∈ mergeS l, ltBytes s.1 x.1 = false ∧ (eqBytes x.2 [] || (!(eqBytes s.2 []) && !(ltBytes x.2 s.2))) = true := by
  have al : ∀ s ∈ l, Among (ends l) s := ends_among fun x hx => hx
  obtain ⟨m1, m2⟩ := merge_toN al
  intro s hs
  obtain ⟨y, h1, h2, h3⟩ := join_covers (up_toN al h) (toN (ends l) s) (List.mem_map_of_mem hs)
  rw [← m1] at h1
  obtain ⟨x, hx, rfl⟩ := List.mem_map.1 h1
  have ax := m2 x hx
  have as' := al s hs
  refine ⟨x, hx, ?_, ?_⟩
  · rw [← Bool.not_eq_true, rank_lt as'.1]; rw [toN_lo, toN_lo] at h2; omega
  · rw [toN_hi, toN_hi] at h3
    rw [Bool.or_eq_true, Bool.and_eq_true, Bool.not_eq_true', Bool.not_eq_true', ← Bool.not_eq_true, ← Bool.not_eq_true, eqB_iff, eqB_iff, rank_lt ax.2]
    have l1 := rank_le (ends l) x.2
    by_cases a : x.2 = []
    · exact .inl a
    · rw [if_neg a] at h3
      by_cases b : s.2 = []
      · rw [if_pos b] at h3; omega
      · rw [if_neg b] at h3; exact .inr ⟨b, by omega⟩
end Go.Eng

/- Spans joined: sorted first. -/
namespace Go.Eng
set_option linter.unusedVariables false
open SpanN
/-- Ahead: by Lo, then by Hi. -/
noncomputable def ltSp (a b : Sp) : Bool := ltBytes a.1 b.1 || (eqBytes a.1 b.1 && ltBytes a.2 b.2)
noncomputable def insS (s : Sp) : List Sp → List Sp
  | [] => [s]
  | t :: l => if ltSp t s = true then t :: insS s l else s :: t :: l
noncomputable def sortS : List Sp → List Sp
  | [] => []
  | s :: l => insS s (sortS l)
theorem ltSp_irrefl (a : Sp) : ltSp a a = false := by unfold ltSp; rw [ltB_irrefl, ltB_irrefl]; simp
theorem ltSp_iff (a b : Sp) : ltSp a b = true ↔ ltBytes a.1 b.1 = true ∨ (a.1 = b.1 ∧ ltBytes a.2 b.2 = true) := by
  unfold ltSp; rw [Bool.or_eq_true, Bool.and_eq_true, eqB_iff]
theorem ltSp_trans {a b d : Sp} (h1 : ltSp a b = true) (h2 : ltSp b d = true) : ltSp a d = true := by
  rw [ltSp_iff] at *
  rcases h1 with h1 | ⟨e1, h1⟩ <;> rcases h2 with h2 | ⟨e2, h2⟩
  · exact .inl (ltB_trans h1 h2)
  · exact .inl (e2 ▸ h1)
  · exact .inl (e1 ▸ h2)
  · exact .inr ⟨e1.trans e2, ltB_trans h1 h2⟩
theorem ltSp_total (a b : Sp) : ltSp a b = true ∨ a = b ∨ ltSp b a = true := by
  rw [ltSp_iff, ltSp_iff]
  rcases ltB_total a.1 b.1 with h | h | h
  · exact .inl (.inl h)
  · rcases ltB_total a.2 b.2 with k | k | k
    · exact .inl (.inr ⟨h, k⟩)
    · exact .inr (.inl (Prod.ext h k))
    · exact .inr (.inr (.inr ⟨h.symm, k⟩))
  · exact .inr (.inr (.inl h))
theorem ins_mem (s x : Sp) (l : List Sp) : x ∈ insS s l ↔ x = s ∨ x ∈ l := by
  induction l with
  | nil => simp [insS]
  | cons t l ih =>
    unfold insS
    split
    · rw [List.mem_cons, ih, List.mem_cons]
      constructor
      · rintro (h | h | h)
        · exact .inr (.inl h)
        · exact .inl h
        · exact .inr (.inr h)
      · rintro (h | h | h)
        · exact .inr (.inl h)
        · exact .inl h
        · exact .inr (.inr h)
    · rw [List.mem_cons]
theorem ins_perm (s : Sp) (l : List Sp) : (insS s l).Perm (s :: l) := by
  induction l with
  | nil => exact .refl _
  | cons t l ih =>
    unfold insS
    split
    · exact (ih.cons t).trans (.swap s t l)
    · exact .refl _
theorem sort_perm (l : List Sp) : (sortS l).Perm l := by
  induction l with
  | nil => exact .refl _
  | cons s l ih => exact (ins_perm s _).trans (ih.cons s)
theorem sort_mem (x : Sp) (l : List Sp) : x ∈ sortS l ↔ x ∈ l := (sort_perm l).mem_iff
/-- None is ahead of one that stands ahead of it. -/
def Sorted : List Sp → Prop
  | [] => True
  | s :: l => (∀ t ∈ l, ltSp t s = false) ∧ Sorted l
theorem ins_sorted (s : Sp) (l : List Sp) (h : Sorted l) : Sorted (insS s l) := by
  induction l with
  | nil => exact ⟨fun t h => (nomatch h), trivial⟩
  | cons t l ih =>
    unfold insS
    split
    · rename_i k
      refine ⟨fun x hx => ?_, ih h.2⟩
      rw [ins_mem] at hx
      rcases hx with rfl | hx
      · cases e : ltSp x t with
        | false => rfl
        | true => have := ltSp_trans k e; rw [ltSp_irrefl] at this; cases this
      · exact h.1 x hx
    · rename_i k
      rw [Bool.not_eq_true] at k
      refine ⟨fun x hx => ?_, h⟩
      rcases List.mem_cons.1 hx with rfl | hx
      · exact k
      · cases e : ltSp x s with
        | false => rfl
        | true =>
          have h1 := h.1 x hx
          rcases ltSp_total s t with j | rfl | j
          · have := ltSp_trans e j; rw [h1] at this; cases this
          · rw [h1] at e; cases e
          · rw [k] at j; cases j
theorem sort_sorted (l : List Sp) : Sorted (sortS l) := by
  induction l with
  | nil => trivial
  | cons s l ih => exact ins_sorted s _ ih
/-- Sorted, and the same: there is but one order. -/
theorem sorted_unique : ∀ {l m : List Sp}, Sorted l → Sorted m → l.Perm m → l = m
  | [], m, _, _, h => (List.nil_perm.1 h).symm
  | s :: l, m, hl, hm, h => by
    cases m with
    | nil => exact absurd h.length_eq (by simp)
    | cons t m =>
      have hs : s ∈ t :: m := h.mem_iff.1 (List.mem_cons_self ..)
      have ht : t ∈ s :: l := h.mem_iff.2 (List.mem_cons_self ..)
      have e : s = t := by
        rcases List.mem_cons.1 hs with e | hs
        · exact e
        · rcases List.mem_cons.1 ht with e | ht
          · exact e.symm
          · have a := hl.1 t ht
            have b := hm.1 s hs
            rcases ltSp_total s t with k | k | k
            · rw [b] at k; cases k
            · exact k
            · rw [a] at k; cases k
      subst e
      rw [sorted_unique hl.2 hm.2 ((List.perm_cons s).1 h)]
theorem up_of {l : List Sp} (h : Sorted l) (he : ∀ s ∈ l, emptyS s = false) : UpS l := by
  induction l with
  | nil => trivial
  | cons s l ih =>
    refine ⟨he s (List.mem_cons_self ..), fun t ht => ?_, ih h.2 fun x hx => he x (List.mem_cons_of_mem _ hx)⟩
    have := h.1 t ht
    cases e : ltBytes t.1 s.1 with
    | false => rfl
    | true => rw [(ltSp_iff _ _).2 (.inl e)] at this; cases this

noncomputable def fullS (l : List Sp) : List Sp := l.filter fun s => !(emptyS s)
noncomputable def joinS (l : List Sp) : List Sp := mergeS (sortS (fullS l))
theorem full_mem (l : List Sp) (s : Sp) : s ∈ fullS l ↔ s ∈ l ∧ emptyS s = false := by unfold fullS; rw [List.mem_filter, Bool.not_eq_true']
theorem full_up (l : List Sp) : UpS (sortS (fullS l)) := up_of (sort_sorted _) fun s hs => ((full_mem l s).1 ((sort_mem s _).1 hs)).2
theorem empty_has {s : Sp} (h : emptyS s = true) (k : Str) : inS s k = false := by
  let S := [k, s.1, s.2]
  have hk : k ∈ S := List.mem_cons_self ..
  have hs : Among S s := ⟨List.mem_cons_of_mem _ (List.mem_cons_self ..), List.mem_cons_of_mem _ (List.mem_cons_of_mem _ (List.mem_cons_self ..))⟩
  cases e : inS s k with
  | false => rfl
  | true =>
    have h1 := (inS_iff hs hk).1 e
    have h2 : ¬ emptyS s = false := by rw [h]; exact Bool.noConfusion
    rw [empty_iff hs] at h2
    unfold has at h1
    omega
theorem has_iff (l : List Sp) (k : Str) : hasS l k = true ↔ ∃ s ∈ l, inS s k = true := List.any_eq_true
theorem join_has' (l : List Sp) (k : Str) : hasS (joinS l) k = hasS l k := by
  unfold joinS
  rw [merge_has (full_up l), Bool.eq_iff_iff, has_iff, has_iff]
  constructor
  · rintro ⟨s, h1, h2⟩; exact ⟨s, ((full_mem l s).1 ((sort_mem s _).1 h1)).1, h2⟩
  · rintro ⟨s, h1, h2⟩
    refine ⟨s, (sort_mem s _).2 ((full_mem l s).2 ⟨h1, ?_⟩), h2⟩
    cases e : emptyS s with
    | false => rfl
    | true => rw [empty_has e] at h2; cases h2
theorem join_same {l m : List Sp} (h : ∀ s, s ∈ l ↔ s ∈ m) : joinS l = joinS m :=
  merge_same (full_up l) (full_up m) fun s => by rw [sort_mem, sort_mem, full_mem, full_mem, h]
theorem join_canonS (l : List Sp) : CanonS (joinS l) := merge_canon (full_up l)
theorem canon_full {l : List Sp} (h : CanonS l) : ∀ s ∈ l, emptyS s = false := by
  induction l with
  | nil => intro s h; cases h
  | cons s l ih =>
    intro x hx
    rcases List.mem_cons.1 hx with rfl | hx
    · exact h.1
    · exact ih h.2.2 x hx
theorem empty_lt {s : Sp} (h : emptyS s = false) : s.2 = [] ∨ ltBytes s.1 s.2 = true := by
  unfold emptyS at h
  rw [Bool.not_eq_false', Bool.or_eq_true, eqB_iff] at h
  exact h
theorem canon_up {l : List Sp} (h : CanonS l) : UpS l := by
  induction l with
  | nil => trivial
  | cons s l ih =>
    refine ⟨h.1, fun t ht => ?_, ih h.2.2⟩
    obtain ⟨h1, h2⟩ := h.2.1 t ht
    rcases empty_lt h.1 with k | k
    · exact absurd k h1
    · cases e : ltBytes t.1 s.1 with
      | false => rfl
      | true => have := ltB_trans (ltB_trans k h2) e; rw [ltB_irrefl] at this; cases this
theorem go_of_canon (l : List Sp) : ∀ s, CanonS (s :: l) → goS s l = s :: l := by
  induction l with
  | nil => intro s _; rfl
  | cons t l ih =>
    intro s ⟨h1, h2, h3⟩
    obtain ⟨k1, k2⟩ := h2 t (List.mem_cons_self ..)
    unfold goS
    rw [if_neg, ih t h3]
    rw [k2, show eqBytes s.2 [] = false from by cases e : eqBytes s.2 []; rfl; exact absurd ((eqB_iff _ _).1 e) k1]
    decide
theorem merge_of_canon {l : List Sp} (h : CanonS l) : mergeS l = l := by
  cases l with
  | nil => rfl
  | cons s l => exact go_of_canon l s h
theorem join_of_canon {l : List Sp} (h : CanonS l) : joinS l = l := by
  have : joinS l = mergeS l := merge_same (full_up l) (canon_up h) fun s => by
    rw [sort_mem, full_mem]
    exact ⟨fun k => k.1, fun k => ⟨k, canon_full h s k⟩⟩
  rw [this, merge_of_canon h]
/-- Joined again it is the same. -/
theorem join_again (l : List Sp) : joinS (joinS l) = joinS l := join_of_canon (join_canonS l)
noncomputable def coversS (j : List Sp) (s : Sp) : Bool := j.any fun x => !(ltBytes s.1 x.1) && (eqBytes x.2 [] || (!(eqBytes s.2 []) && !(ltBytes x.2 s.2)))
theorem join_coversS (l : List Sp) {s : Sp} (hs : s ∈ l) : emptyS s = true ∨ coversS (joinS l) s = true := by
  cases e : emptyS s with
  | true => exact .inl rfl
  | false =>
    right
    obtain ⟨x, h1, h2, h3⟩ := merge_covers (full_up l) s ((sort_mem s _).2 ((full_mem l s).2 ⟨hs, e⟩))
    unfold coversS
    rw [List.any_eq_true]
    exact ⟨x, h1, by rw [h2, h3]; rfl⟩
theorem canon_apart : ∀ {l : List Sp}, CanonS l → ∀ i s t, l[i]? = some s → l[i + 1]? = some t → s.2 ≠ [] ∧ ltBytes s.2 t.1 = true
  | [], _, i, s, t, h, _ => by cases h
  | x :: l, h, i, s, t, h1, h2 => by
    cases i with
    | zero =>
      cases h1
      exact h.2.1 t (List.mem_of_getElem? h2)
    | succ i => exact canon_apart h.2.2 i s t h1 h2
/-- The end of one has no key of any. -/
theorem canon_gap : ∀ {l : List Sp}, CanonS l → ∀ i s t, l[i]? = some s → l[i + 1]? = some t → hasS l s.2 = false := by
  intro l h i s t h1 h2
  cases e : hasS l s.2 with
  | false => rfl
  | true =>
    exfalso
    obtain ⟨x, hx, hk⟩ := (has_iff _ _).1 e
    obtain ⟨n, hn⟩ := List.getElem?_of_mem hx
    have hne := (canon_apart h i s t h1 h2).1
    unfold inS at hk
    rw [Bool.and_eq_true, Bool.not_eq_true', Bool.or_eq_true, eqB_iff] at hk
    have up : ∀ {l : List Sp}, CanonS l → ∀ (a b : Nat) (x y : Sp), a < b → l[a]? = some x → l[b]? = some y → x.2 ≠ [] ∧ ltBytes x.2 y.1 = true := by
      intro l
      induction l with
      | nil => intro _ a b x y _ h; cases h
      | cons z l ih =>
        intro h a b x y hab ha hb
        cases b with
        | zero => omega
        | succ b =>
          cases a with
          | zero => cases ha; exact h.2.1 y (List.mem_of_getElem? hb)
          | succ a => exact ih h.2.2 a b x y (by omega) ha hb
    have hx0 := canon_full h x hx
    have hs0 := canon_full h s (List.mem_of_getElem? h1)
    rcases Nat.lt_trichotomy n i with hi | hi | hi
    · obtain ⟨a, b⟩ := up h n i x s hi hn h1
      rcases hk.2 with c | c
      · exact a c
      · rcases empty_lt hs0 with d | d
        · exact hne d
        · have := ltB_trans (ltB_trans c b) d; rw [ltB_irrefl] at this; cases this
    · subst hi
      rw [hn] at h1; cases h1
      rcases hk.2 with c | c
      · exact hne c
      · rw [ltB_irrefl] at c; cases c
    · obtain ⟨a, b⟩ := up h i n s x hi h1 hn
      rw [b] at hk; cases hk.1

/-! ### The document's own sorting: by Lo alone, each behind those that are not greater -/
noncomputable def insR (s : Sp) : List Sp → List Sp
  | [] => [s]
  | t :: l => if ltBytes s.1 t.1 = true then s :: t :: l else t :: insR s l
noncomputable def sortR (out : List Sp) : List Sp → List Sp
  | [] => out
  | s :: l => sortR (if emptyS s = true then out else insR s out) l
theorem insR_mem (s x : Sp) (l : List Sp) : x ∈ insR s l ↔ x = s ∨ x ∈ l := by
  induction l with
  | nil => simp [insR]
  | cons t l ih =>
    unfold insR
    split
    · rw [List.mem_cons]
    · rw [List.mem_cons, ih, List.mem_cons]
      constructor
      · rintro (h | h | h)
        · exact .inr (.inl h)
        · exact .inl h
        · exact .inr (.inr h)
      · rintro (h | h | h)
        · exact .inr (.inl h)
        · exact .inl h
        · exact .inr (.inr h)
theorem insR_up {s : Sp} (hs : emptyS s = false) : ∀ {l : List Sp}, UpS l → UpS (insR s l)
  | [], _ => ⟨hs, fun t h => (nomatch h), trivial⟩
  | t :: l, h => by
    unfold insR
    split
    · rename_i k
      refine ⟨hs, fun x hx => ?_, h⟩
      rcases List.mem_cons.1 hx with rfl | hx
      · cases e : ltBytes x.1 s.1 with
        | false => rfl
        | true => have := ltB_trans k e; rw [ltB_irrefl] at this; cases this
      · cases e : ltBytes x.1 s.1 with
        | false => rfl
        | true => have := ltB_trans e k; rw [h.2.1 x hx] at this; cases this
    · rename_i k
      rw [Bool.not_eq_true] at k
      refine ⟨h.1, fun x hx => ?_, insR_up hs h.2.2⟩
      rw [insR_mem] at hx
      rcases hx with rfl | hx
      · exact k
      · exact h.2.1 x hx
theorem sortR_up : ∀ {l out : List Sp}, UpS out → UpS (sortR out l)
  | [], out, h => h
  | s :: l, out, h => by
    unfold sortR
    refine sortR_up ?_
    cases e : emptyS s with
    | true => exact h
    | false => exact insR_up e h
theorem sortR_mem (x : Sp) : ∀ (l out : List Sp), x ∈ sortR out l ↔ x ∈ out ∨ (x ∈ l ∧ emptyS x = false)
  | [], out => ⟨.inl, fun h => h.elim id fun h => (nomatch h.1)⟩
  | s :: l, out => by
    unfold sortR
    rw [sortR_mem x l, List.mem_cons]
    cases e : emptyS s with
    | true =>
      simp only [if_true]
      constructor
      · rintro (h | h)
        · exact .inl h
        · exact .inr ⟨.inr h.1, h.2⟩
      · rintro (h | ⟨rfl | h, h2⟩)
        · exact .inl h
        · rw [e] at h2; cases h2
        · exact .inr ⟨h, h2⟩
    | false =>
      simp only [Bool.false_eq_true, if_false]
      rw [insR_mem]
      constructor
      · rintro ((rfl | h) | h)
        · exact .inr ⟨.inl rfl, e⟩
        · exact .inl h
        · exact .inr ⟨.inr h.1, h.2⟩
      · rintro (h | ⟨rfl | h, h2⟩)
        · exact .inl (.inr h)
        · exact .inl (.inl rfl)
        · exact .inr ⟨h, h2⟩
/-- The document's answer is the same. -/
theorem ref_join (l : List Sp) : mergeS (sortR [] l) = joinS l := by
  refine merge_same (sortR_up trivial) (full_up l) fun s => ?_
  rw [sortR_mem, sort_mem, full_mem]
  exact ⟨fun h => h.elim (fun h => (nomatch h)) id, .inr⟩
end Go.Eng

/- Slices of pairs of texts, as memory has them. -/
namespace Go.Eng
set_option linter.unusedVariables false

def sv (s : List UInt8) : Value := .string ⟨⟨s⟩⟩
def svs (s : Sp) : List Value := [sv s.1, sv s.2]
/-- A slice that reads as those spans. -/
def Reads (h : Heap) (ao : Option Addr) (l : List Sp) : Prop := ∀ i s, l[i]? = some s → ∃ a w cs, ao = some a ∧ h.get a.block = some (.cells w cs) ∧ a.block < h.next ∧ takeN 2 (dropN (a.off + i * 2) cs) = some (svs s)
theorem Reads.le {h h' : Heap} {ao : Option Addr} {l : List Sp} (r : Reads h ao l) (k : h.Le h') : Reads h' ao l := by
  intro i s hi
  obtain ⟨a, w, cs, h1, h2, h3, h4⟩ := r i s hi
  exact ⟨a, w, cs, h1, (k.get _ h3).trans h2, Nat.lt_of_lt_of_le h3 k.next, h4⟩
theorem Reads.nil (h : Heap) (ao : Option Addr) : Reads h ao [] := fun i s hi => by cases hi

section
variable {N : Tm → Aux → Heap → Prop} {X : Nat → Tm → Aux → Heap → Prop} {R : Tm → Aux → Heap → Prop} {c : Ctx} {t : Tm} {x : Aux} {h : Heap} {g g' : OpdF}
/-- The element's place, and the element. -/
theorem Reads.at {ao : Option Addr} {l : List Sp} (r : Reads h ao l) {i n cap : Nat} {k : IntKind} {s : Sp} (hi : l[i]? = some s) (hn : l.length = n) (hg : g t = .slice ao n cap) (hg' : g' t = .int k i) :
    ∃ a w cs, lkIxSl 2 g g' t h = some (.pointer (some a)) ∧ h.get a.block = some (.cells w cs) ∧ a.block < h.next ∧ takeN 2 (dropN a.off cs) = some (svs s) := by
  obtain ⟨a, w, cs, rfl, h2, h3, h4⟩ := r i s hi
  have hlt : i < n := by rw [← hn]; exact (List.getElem?_eq_some_iff.1 hi).1
  exact ⟨⟨a.block, a.off + i * 2, none⟩, w, cs, l_ixSl hg hg' hlt, h2, h3, h4⟩
theorem Reads.load {b : Addr} {w : Bool} {cs ys : List Value} (hb : h.get b.block = some (.cells w cs)) (hy : takeN 2 (dropN b.off cs) = some ys) (hg : g t = .pointer (some b)) : lkLoadN 2 g t h = some (.agg ⟨ys⟩) := l_loadN hg hb hy
end
theorem flat_eq (a b : Sp) : leavesEq [.str, .str] (svs a) (svs b) = some (decide (a = b)) := by
  show (match (some (eqBytes a.1 b.1) : Option Bool) with
    | some true => (match (some (eqBytes a.2 b.2) : Option Bool) with
      | some true => some true
      | some false => some false
      | none => none)
    | some false => some false
    | none => none) = _
  cases h1 : eqBytes a.1 b.1 with
  | false =>
    have : ¬ a = b := fun e => by rw [(eqB_iff _ _).2 (congrArg Prod.fst e)] at h1; cases h1
    rw [decide_eq_false this]
  | true => cases h2 : eqBytes a.2 b.2 with
    | false =>
      have : ¬ a = b := fun e => by rw [(eqB_iff _ _).2 (congrArg Prod.snd e)] at h2; cases h2
      rw [decide_eq_false this]
    | true => rw [decide_eq_true (Prod.ext ((eqB_iff _ _).1 h1) ((eqB_iff _ _).1 h2))]
theorem ctx_fuel (E : Env) (n : Nat) : (ctx E n).fuel = n := by cases n <;> rfl
/-- The place of the first one of which p holds. -/
def firstP (p : Sp → Bool) (l : List Sp) : Int := match l.findIdx? p with
  | some i => i
  | none => -1
theorem firstP_at {p : Sp → Bool} {l : List Sp} {i : Nat} {s : Sp} (hs : l[i]? = some s) (hp : p s = true) (hb : ∀ (j : Nat) (s : Sp), j < i → l[j]? = some s → p s = false) : firstP p l = i := by
  unfold firstP
  have : l.findIdx? p = some i := by
    obtain ⟨hi, rfl⟩ := List.getElem?_eq_some_iff.1 hs
    rw [List.findIdx?_eq_some_iff_getElem]
    refine ⟨hi, hp, fun j hj => ?_⟩
    rw [hb j _ hj (List.getElem?_eq_getElem (by omega))]
    decide
  rw [this]
theorem firstP_none {p : Sp → Bool} {l : List Sp} (hb : ∀ (j : Nat) (s : Sp), l[j]? = some s → p s = false) : firstP p l = -1 := by
  unfold firstP
  have : l.findIdx? p = none := by
    rw [List.findIdx?_eq_none_iff]
    intro x hx
    obtain ⟨j, hj⟩ := List.getElem?_of_mem hx
    exact hb j x hj
  rw [this]
theorem firstP_any (p : Sp → Bool) (l : List Sp) : decide (0 ≤ firstP p l) = l.any p := by
  unfold firstP
  cases h : l.findIdx? p with
  | none =>
    rw [List.findIdx?_eq_none_iff] at h
    have : l.any p = false := by rw [List.any_eq_false]; intro x hx; rw [h x hx]; decide
    rw [this]; rfl
  | some i =>
    obtain ⟨hi, hp, _⟩ := List.findIdx?_eq_some_iff_getElem.1 h
    have : l.any p = true := List.any_eq_true.2 ⟨_, List.getElem_mem hi, hp⟩
    rw [this]; exact decide_eq_true (Int.natCast_nonneg i)
end Go.Eng

/- Rows of pairs of texts of which a call is the owner. -/
namespace Go.Eng
set_option linter.unusedVariables false

def flatS : List Sp → List Value
  | [] => []
  | s :: l => sv s.1 :: sv s.2 :: flatS l
theorem flatS_append (l m : List Sp) : flatS (l ++ m) = flatS l ++ flatS m := by
  induction l with
  | nil => rfl
  | cons s l ih => show _ :: _ :: flatS (l ++ m) = _; rw [ih]; rfl
theorem flatS_length (l : List Sp) : (flatS l).length = l.length * 2 := by
  induction l with
  | nil => rfl
  | cons s l ih => show (flatS l).length + 1 + 1 = (l.length + 1) * 2; rw [ih]; omega
theorem flatS_get (l : List Sp) (rest : List Value) {i : Nat} {s : Sp} (h : l[i]? = some s) : takeN 2 (dropN (0 + i * 2) (flatS l ++ rest)) = some (svs s) := by
  rw [Nat.zero_add]
  induction l generalizing i with
  | nil => cases h
  | cons x l ih =>
    cases i with
    | zero => cases h; rfl
    | succ i =>
      rw [show (i + 1) * 2 = i * 2 + 1 + 1 by omega]
      exact ih (i := i) h
theorem takeN_flat (l : List Sp) (rest : List Value) : takeN (l.length * 2) (flatS l ++ rest) = some (flatS l) := by
  rw [takeN_eq, ← flatS_length, if_pos (by simp), List.take_left']
  rfl
/-- Memory of one's own, that reads so from its beginning. -/
def Owns (h : Heap) (b : Nat) (l : List Sp) (rest : List Value) : Prop := h.get b = some (.cells true (flatS l ++ rest)) ∧ b < h.next
theorem Owns.reads {h : Heap} {b : Nat} {l : List Sp} {rest : List Value} (o : Owns h b l rest) (sp : Option Nat) : Reads h (some ⟨b, 0, sp⟩) l := fun i s hi => ⟨_, true, _, rfl, o.1, o.2, flatS_get l rest hi⟩
theorem Owns.le {h h' : Heap} {b : Nat} {l : List Sp} {rest : List Value} (o : Owns h b l rest) (k : h.Le h') : Owns h' b l rest := ⟨(k.get _ o.2).trans o.1, Nat.lt_of_lt_of_le o.2 k.next⟩
theorem Heap.Le.put {h0 h : Heap} (k : h0.Le h) {b : Nat} (hb : h0.next ≤ b) (hb' : b < h.next) (o : Option AObj) : h0.Le (h.put b o) := by
  refine ⟨k.next, fun b' hb'' => ?_, fun z b' hb'' => ?_⟩
  · rw [Heap.get_put, if_neg (by omega)]; exact k.get b' hb''
  · replace hb'' : h.next ≤ b' := hb''
    rw [Heap.get_put, if_neg (by omega)]; exact k.blank z b' hb''
/-- All of them at once. -/
theorem Reads.load_all {h : Heap} {a : Addr} {l : List Sp} (r : Reads h (some a) l) (hl : l ≠ []) : h.load a.block a.off (l.length * 2) = some (flatS l) := by
  obtain ⟨s0, hs0⟩ : ∃ s, l[0]? = some s := by cases l with
    | nil => exact absurd rfl hl
    | cons s l => exact ⟨s, rfl⟩
  obtain ⟨a', w, cs, e, h2, h3, h4⟩ := r 0 s0 hs0
  cases e
  refine Heap.load_of h2 ?_
  have each : ∀ i s, l[i]? = some s → takeN 2 (dropN (a.off + i * 2) cs) = some (svs s) := by
    intro i s hi
    obtain ⟨a', w', cs', e, k2, k3, k4⟩ := r i s hi
    cases e
    rw [h2] at k2
    cases k2
    exact k4
  clear r h2 h3 h4 hs0 s0 hl
  generalize a.off = o at each
  induction l generalizing o with
  | nil => show takeN 0 _ = _; rw [takeN_eq, if_pos (Nat.zero_le _)]; rfl
  | cons s l ih =>
    have h0 := each 0 s rfl
    rw [Nat.zero_mul, Nat.add_zero, dropN_eq, takeN_eq] at h0
    have ih' := ih (o := o + 2) fun i s hi => by
      have := each (i + 1) s hi
      rw [show o + 2 + i * 2 = o + (i + 1) * 2 by omega]; exact this
    rw [dropN_eq, takeN_eq] at ih' ⊢
    split at h0
    · rename_i g0
      split at ih'
      · rename_i g1
        rw [if_pos (by simp at g0 g1 ⊢; omega)]
        injection h0 with h0
        injection ih' with ih'
        congr 1
        rw [show (s :: l).length * 2 = 2 + l.length * 2 by simp; omega, List.take_add, h0, List.drop_drop, ih']
        rfl
      · cases ih'
    · cases h0

section
variable {c : Ctx} {t : Tm} {x : Aux} {h : Heap} {g g' : OpdF}
theorem l_sliceTo {size : Nat} {hi : OpdF} {a : Addr} {len cap n : Nat} {k : IntKind} (hg : g t = .slice (some a) len cap) (hh : hi t = .int k n) (hn : n ≤ cap) (hc : 0 < cap) (hs : a.spot = none ∨ a.spot = some size) : lkSliceSl size g none (some hi) none t h = some (.slice (some a) n cap) := by
  unfold lkSliceSl
  rw [hg]
  dsimp only
  show (match optNat t 0 none, optNat t len (some hi), optNat t cap none with
    | some l, some h, some m => bif Option.isSome none && Option.isNone (some hi) then none else sliceOf size (some a) cap l h m (Option.isSome none)
    | _, _, _ => none) = _
  have e : optNat t len (some hi) = some n := by unfold optNat; show asNat (hi t) = _; rw [hh]; rfl
  rw [e]
  show sliceOf size (some a) cap 0 n cap false = _
  unfold sliceOf
  rw [show Nat.ble 0 n = true from ble_iff.2 (Nat.zero_le _), show Nat.ble n cap = true from ble_iff.2 hn, show Nat.ble cap cap = true from ble_iff.2 (Nat.le_refl _)]
  show (bif Nat.beq cap 0 then _ else _) = _
  rw [show Nat.beq cap 0 = false from by cases e : Nat.beq cap 0; rfl; rw [beq_iff] at e; omega]
  show (match a.spot with
    | none => some (Value.slice (some ⟨a.block, Nat.add a.off (Nat.mul 0 size), none⟩) (Nat.sub n 0) (Nat.sub cap 0))
    | some z => bif Nat.beq z size then some (Value.slice (some ⟨a.block, Nat.add a.off (Nat.mul 0 size), some z⟩) (Nat.sub n 0) (Nat.sub cap 0)) else none) = _
  obtain ⟨b, o, sp⟩ := a
  rcases hs with hs | hs <;> subst hs
  · show some (Value.slice (some ⟨b, o + 0 * size, none⟩) n cap) = _
    rw [Nat.zero_mul]; rfl
  · show (bif Nat.beq size size then some (Value.slice (some ⟨b, o + 0 * size, some size⟩) n cap) else none) = _
    rw [Nat.zero_mul, Nat.beq_refl]; rfl
theorem Heap.store_of {b off n : Nat} {cs ys : List Value} (hb : h.get b = some (.cells true cs)) (hn : off + n ≤ cs.length) : h.store b off n ys = some (h.put b (some (.cells true (putAt ys off cs)))) := by
  unfold Heap.store
  rw [hb]
  show (bif Nat.ble (off + n) (lenL cs) then _ else _) = _
  rw [lenL_eq, ble_iff.2 hn]
  rfl
theorem tn_store {n : Nat} {a : Addr} {ys : List Value} {v : Value} {cs : List Value} (hg : g t = .pointer (some a)) (hv : g' t = v) (hy : cellsOf v = some ys) (hb : h.get a.block = some (.cells true cs)) (hl : ys.length = n) (hn : a.off + n ≤ cs.length) :
    tnStore n g g' t h = some (undef, h.put a.block (some (.cells true (putAt ys a.off cs)))) := by
  unfold tnStore
  rw [hg, hv, hy]
  show optV none _ (some a) = _
  show (bif Nat.beq (lenL ys) n then optV none (fun h' => some (undef, h')) (h.store a.block a.off n ys) else none) = _
  rw [lenL_eq, hl, Nat.beq_refl, Heap.store_of hb hn]
  rfl
end
theorem putAt_flat1 (l : List Sp) (rest : List Value) (s : Sp) {i : Nat} (hi : i < l.length) : putAt (svs s) (0 + i * 2) (flatS l ++ rest) = flatS (l.set i s) ++ rest := by
  rw [Nat.zero_add]
  induction l generalizing i with
  | nil => simp at hi
  | cons x l ih =>
    cases i with
    | zero => rfl
    | succ i =>
      rw [show (i + 1) * 2 = i * 2 + 1 + 1 by omega]
      show sv x.1 :: sv x.2 :: putAt (svs s) (i * 2) (flatS l ++ rest) = _
      rw [ih (by simpa using hi)]
      rfl

/-! ### append -/
section
variable {c : Ctx} {t : Tm} {x : Aux} {h : Heap} {g g' : OpdF}
theorem tn_append {size n : Nat} {s v : Value} {new : List Value} {r : Value × Heap} (hg : g t = s) (hv : g' t = v) (hl : lenV v = some n) (he : h.elems size n v = some new) (ha : h.appendL size s n new = some r) : tnAppend size g g' t h = some r := by
  unfold tnAppend Heap.append
  rw [hg, hv, hl]
  show (match h.elems size n v with
    | some new => h.appendL size s n new
    | none => none) = _
  rw [he]
  exact ha
theorem append_nil {size n : Nat} {new : List Value} (hn : 0 < n) (hb : n < 100000000) : h.appendL size (.slice none 0 0) n new = some (.slice (some ⟨h.next, 0, some size⟩) n n, h.push (.cells true new)) := by
  obtain ⟨m, rfl⟩ : ∃ m, n = m + 1 := ⟨n - 1, by omega⟩
  show (bif Nat.blt m 100000000 then _ else _) = _
  rw [blt_iff.2 (by omega)]
  rfl
theorem append_nil0 {size : Nat} {new : List Value} : h.appendL size (.slice none 0 0) 0 new = some (.slice none 0 0, h) := rfl
theorem append_fresh {size n : Nat} {new : List Value} {a : Addr} {w : Bool} {cs : List Value} (ha : h.get a.block = some (.cells w cs)) (hs : a.spot = none) (hn : 0 < n) (hb : n < 100000000) :
    h.appendL size (.slice (some a) 0 0) n new = some (.slice (some ⟨h.next, 0, some size⟩) n n, h.push (.cells true new)) := by
  have e : h.load a.block a.off (Nat.mul 0 size) = some [] := by
    refine Heap.load_of ha ?_
    show takeN (0 * size) _ = _
    rw [Nat.zero_mul]; rfl
  unfold Heap.appendL
  dsimp only
  rw [e]
  dsimp only
  rw [show Nat.add 0 n = n from Nat.zero_add n, blt_iff.2 (show n < 100000000 from hb)]
  rw [show Nat.ble n 0 = false from by cases e : Nat.ble n 0; rfl; rw [ble_iff] at e; omega, hs]
  rfl
theorem append_fresh0 {size : Nat} {new : List Value} {a : Addr} {w : Bool} {cs : List Value} (ha : h.get a.block = some (.cells w cs)) :
    h.appendL size (.slice (some a) 0 0) 0 new = some (.slice (some a) 0 0, h) := by
  have e : h.load a.block a.off (Nat.mul 0 size) = some [] := by
    refine Heap.load_of ha ?_
    show takeN (0 * size) _ = _
    rw [Nat.zero_mul]; rfl
  unfold Heap.appendL
  dsimp only
  rw [e]
  rfl
theorem append_more {size n len : Nat} {new old : List Value} {b : Nat} (ha : h.load b 0 (len * size) = some old) (hb' : ∃ cs, h.get b = some (.cells true cs)) (hl : 0 < len) (hn : 0 < n) (hb : len + n < 100000000) :
    h.appendL size (.slice (some ⟨b, 0, some size⟩) len len) n new = some (.slice (some ⟨h.next, 0, some size⟩) (len + n) (len + n), (h.put b none).push (.cells true (old ++ new))) := by
  obtain ⟨cs, hb'⟩ := hb'
  unfold Heap.appendL
  dsimp only
  rw [show Nat.mul len size = len * size from rfl, ha]
  dsimp only
  rw [show Nat.add len n = len + n from rfl, blt_iff.2 hb]
  rw [show Nat.ble (len + n) len = false from by cases e : Nat.ble (len + n) len; rfl; rw [ble_iff] at e; omega]
  show (bif Nat.beq len 0 || !(Nat.beq size size) then _ else _) = _
  rw [Nat.beq_refl, show Nat.beq len 0 = false from by cases e : Nat.beq len 0; rfl; rw [beq_iff] at e; omega, hb', app_eq]
  rfl
end

theorem putAt_eq (ys xs : List Value) (n : Nat) (h : n + ys.length ≤ xs.length) : putAt ys n xs = xs.take n ++ (ys ++ xs.drop (n + ys.length)) := by
  induction n generalizing xs with
  | zero =>
    show over ys xs = _
    rw [List.take_zero, Nat.zero_add, List.nil_append]
    induction ys generalizing xs with
    | nil => rfl
    | cons y ys ih =>
      cases xs with
      | nil => simp at h
      | cons x xs =>
        show y :: over ys xs = _
        rw [ih xs (by simpa using h)]
        rfl
  | succ n ih =>
    cases xs with
    | nil => simp at h
    | cons x xs =>
      show x :: putAt ys n xs = _
      rw [ih xs (by simp at h ⊢; omega), show n + 1 + ys.length = (n + ys.length) + 1 by omega]
      rfl
theorem take_flat (l : List Sp) (rest : List Value) {i : Nat} (h : i ≤ l.length) : (flatS l ++ rest).take (i * 2) = flatS (l.take i) := by
  induction l generalizing i with
  | nil => simp at h; subst h; rfl
  | cons s l ih =>
    cases i with
    | zero => rfl
    | succ i =>
      rw [show (i + 1) * 2 = i * 2 + 1 + 1 by omega]
      show sv s.1 :: sv s.2 :: (flatS l ++ rest).take (i * 2) = _
      rw [ih (by simpa using h)]; rfl
section
variable {c : Ctx} {t : Tm} {x : Aux} {h : Heap} {g g' : OpdF}
theorem l_sliceFrom {size : Nat} {lo : OpdF} {b o len cap n : Nat} {sp : Option Nat} {k : IntKind} (hg : g t = .slice (some ⟨b, o, sp⟩) len cap) (hh : lo t = .int k n) (hn : n ≤ len) (hl : len ≤ cap) (hc : n < cap) (hs : sp = none ∨ sp = some size) : lkSliceSl size g (some lo) none none t h = some (.slice (some ⟨b, o + n * size, sp⟩) (len - n) (cap - n)) := by
  unfold lkSliceSl
  rw [hg]
  dsimp only
  have e : optNat t 0 (some lo) = some n := by unfold optNat; show asNat (lo t) = _; rw [hh]; rfl
  rw [e]
  show sliceOf size (some ⟨b, o, sp⟩) cap n len cap false = _
  unfold sliceOf
  rw [show Nat.ble n len = true from ble_iff.2 hn, show Nat.ble len cap = true from ble_iff.2 hl, show Nat.ble cap cap = true from ble_iff.2 (Nat.le_refl _)]
  show (bif Nat.beq cap n then _ else _) = _
  rw [show Nat.beq cap n = false from by cases e : Nat.beq cap n; rfl; rw [beq_iff] at e; omega]
  rcases hs with hs | hs <;> subst hs
  · rfl
  · show (bif Nat.beq size size then some (Value.slice (some ⟨b, o + n * size, some size⟩) (len - n) (cap - n)) else none) = _
    rw [Nat.beq_refl]; rfl
theorem tn_clear {z : List Value} {b o n cap : Nat} {sp : Option Nat} {cs : List Value} (hg : g t = .slice (some ⟨b, o, sp⟩) n cap) (hn : 0 < n) (hz : 0 < z.length) (hb : h.get b = some (.cells true cs)) (hl : o + n * z.length ≤ cs.length) :
    tnClear z g t h = some (.tuple ⟨[]⟩, h.put b (some (.cells true (putAt (rep z n) o cs)))) := by
  unfold tnClear
  rw [hg]
  dsimp only
  rw [show Nat.beq n 0 = false from by cases e : Nat.beq n 0; rfl; rw [beq_iff] at e; omega, lenL_eq, show Nat.beq z.length 0 = false from by cases e : Nat.beq z.length 0; rfl; rw [beq_iff] at e; omega]
  show (match h.store b o (n * z.length) (rep z n) with
    | some h' => some (Value.tuple ⟨[]⟩, h')
    | none => none) = _
  rw [Heap.store_of hb hl]
end
end Go.Eng

/- Spans joined one by one. -/
namespace Go.Eng
set_option linter.unusedVariables false
theorem leq_eq (a b : Str) : (ltBytes a b || eqBytes a b) = !(ltBytes b a) := by
  rcases ltB_total a b with h | h | h
  · cases e : ltBytes b a with
    | false => rw [h]; rfl
    | true => have := ltB_trans h e; rw [ltB_irrefl] at this; cases this
  · subst h; rw [ltB_irrefl, (eqB_iff a a).2 rfl]; rfl
  · rw [h]
    cases e : ltBytes a b with
    | true => have := ltB_trans h e; rw [ltB_irrefl] at this; cases this
    | false => cases e2 : eqBytes a b with
      | false => rfl
      | true => rw [(eqB_iff _ _).1 e2, ltB_irrefl] at h; cases h
noncomputable def stepS (O : List Sp) (s : Sp) : List Sp := match O.getLast? with
  | none => [s]
  | some last => if (eqBytes last.2 [] || !(ltBytes last.2 s.1)) = true then O.set (O.length - 1) (meltS last s) else O ++ [s]
theorem stepS_nil (s : Sp) : stepS [] s = [s] := rfl
theorem stepS_some {O : List Sp} {last s : Sp} (h : O[O.length - 1]? = some last) (hO : O ≠ []) : stepS O s = if (eqBytes last.2 [] || !(ltBytes last.2 s.1)) = true then O.set (O.length - 1) (meltS last s) else O ++ [s] := by
  unfold stepS
  rw [List.getLast?_eq_getElem?, h]
theorem stepS_cons (x : Sp) (O : List Sp) (s : Sp) (hO : O ≠ []) : stepS (x :: O) s = x :: stepS O s := by
  obtain ⟨last, hl⟩ : ∃ last, O[O.length - 1]? = some last := ⟨_, List.getElem?_eq_getElem (by have := List.length_pos_iff.2 hO; omega)⟩
  have hp := List.length_pos_iff.2 hO
  have hl' : (x :: O)[(x :: O).length - 1]? = some last := by
    rw [List.length_cons, show O.length + 1 - 1 = (O.length - 1) + 1 by omega, List.getElem?_cons_succ]; exact hl
  rw [stepS_some hl' (by simp), stepS_some hl hO]
  split
  · rw [List.length_cons, show O.length + 1 - 1 = (O.length - 1) + 1 by omega]; rfl
  · rfl
theorem goS_ne (l : List Sp) : ∀ last, goS last l ≠ [] := by
  induction l with
  | nil => intro last; simp [goS]
  | cons s l ih =>
    intro last
    unfold goS
    split
    · exact ih _
    · simp
theorem goS_snoc (l : List Sp) (s : Sp) : ∀ last, goS last (l ++ [s]) = stepS (goS last l) s := by
  induction l with
  | nil =>
    intro last
    show goS last [s] = stepS [last] s
    rw [stepS_some (last := last) rfl (by simp)]
    unfold goS
    split <;> rfl
  | cons x l ih =>
    intro last
    show goS last (x :: (l ++ [s])) = stepS (goS last (x :: l)) s
    unfold goS
    split
    · exact ih _
    · rw [ih, stepS_cons _ _ _ (goS_ne l x)]
theorem merge_snoc (l : List Sp) (s : Sp) : mergeS (l ++ [s]) = stepS (mergeS l) s := by
  cases l with
  | nil => rfl
  | cons x l => exact goS_snoc l s x
theorem flatS_lo (l : List Sp) (rest : List Value) {i : Nat} {s : Sp} (h : l[i]? = some s) : nth (0 + i * 2 + 0) (flatS l ++ rest) = some (sv s.1) := by
  rw [Nat.zero_add, Nat.add_zero, nth_eq]
  induction l generalizing i with
  | nil => cases h
  | cons x l ih =>
    cases i with
    | zero => cases h; rfl
    | succ i => rw [show (i + 1) * 2 = i * 2 + 1 + 1 by omega]; exact ih (i := i) h
theorem flatS_hi (l : List Sp) (rest : List Value) {i : Nat} {s : Sp} (h : l[i]? = some s) : nth (0 + i * 2 + 1) (flatS l ++ rest) = some (sv s.2) := by
  rw [Nat.zero_add, nth_eq]
  induction l generalizing i with
  | nil => cases h
  | cons x l ih =>
    cases i with
    | zero => cases h; rfl
    | succ i => rw [show (i + 1) * 2 + 1 = i * 2 + 1 + 1 + 1 by omega]; exact ih (i := i) h
theorem putAt_hi (l : List Sp) (rest : List Value) (y : Str) {i : Nat} {s : Sp} (h : l[i]? = some s) : putAt [sv y] (0 + i * 2 + 1) (flatS l ++ rest) = flatS (l.set i (s.1, y)) ++ rest := by
  rw [Nat.zero_add]
  induction l generalizing i with
  | nil => cases h
  | cons x l ih =>
    cases i with
    | zero => cases h; rfl
    | succ i =>
      rw [show (i + 1) * 2 + 1 = (i * 2 + 1) + 1 + 1 by omega]
      show sv x.1 :: sv x.2 :: putAt [sv y] (i * 2 + 1) (flatS l ++ rest) = _
      rw [ih (i := i) h]
      rfl

/-! ### Sorting, told -/
def parseS : Nat → List Value → Option (List Sp)
  | 0, _ => some []
  | n + 1, .string a :: .string b :: cs => match parseS n cs with
    | some l => some ((bytes a, bytes b) :: l)
    | none => none
  | _ + 1, _ => none
theorem parse_flat (l : List Sp) (rest : List Value) : parseS l.length (flatS l ++ rest) = some l := by
  induction l with
  | nil => rfl
  | cons s l ih =>
    show (match parseS l.length (flatS l ++ rest) with
      | some l => some ((bytes ⟨⟨s.1⟩⟩, bytes ⟨⟨s.2⟩⟩) :: l)
      | none => none) = _
    rw [ih]; rfl
/-- What a sorting of a row by a function of ours does. -/
noncomputable def sortSum (f : Nat) : Summ := fun args h => match args with
  | [.slice ao n _, .func (.func f') ⟨[]⟩ ⟨[]⟩] => bif !(Nat.beq f f') then none else bif Nat.beq n 0 then some (.tuple ⟨[]⟩, h) else bif !(Nat.blt n 1000000) then none else match ao with
    | some a => match h.get a.block with
      | some (.cells true cs) => match parseS n (dropN a.off cs) with
        | some l => some (.tuple ⟨[]⟩, h.put a.block (some (.cells true (putAt (flatS (sortS l)) a.off cs))))
        | none => none
      | _ => none
    | none => none
  | _ => none
theorem sortS_length (l : List Sp) : (sortS l).length = l.length := (sort_perm l).length_eq
theorem sortSum_own {f : Nat} {h : Heap} {b cap : Nat} {l : List Sp} {rest : List Value} (o : Owns h b l rest) (hl : l ≠ []) (hbig : l.length < 1000000) :
    sortSum f [.slice (some ⟨b, 0, some 2⟩) l.length cap, .func (.func f) ⟨[]⟩ ⟨[]⟩] h = some (.tuple ⟨[]⟩, h.put b (some (.cells true (flatS (sortS l) ++ rest)))) := by
  unfold sortSum
  dsimp only
  rw [Nat.beq_refl, show Nat.beq l.length 0 = false from by cases e : Nat.beq l.length 0; rfl; rw [beq_iff] at e; exact absurd (List.eq_nil_of_length_eq_zero e) hl, blt_iff.2 hbig]
  show (match h.get b with
      | some (.cells true cs) => match parseS l.length (dropN 0 cs) with
        | some l => some (Value.tuple ⟨[]⟩, h.put b (some (.cells true (putAt (flatS (sortS l)) 0 cs))))
        | none => none
      | _ => none) = _
  rw [o.1]
  show (match parseS l.length (flatS l ++ rest) with
        | some l' => some (Value.tuple ⟨[]⟩, h.put b (some (.cells true (putAt (flatS (sortS l')) 0 (flatS l ++ rest)))))
        | none => none) = _
  rw [parse_flat]
  show some (Value.tuple ⟨[]⟩, h.put b (some (.cells true (putAt (flatS (sortS l)) 0 (flatS l ++ rest))))) = _
  rw [putAt_eq _ _ _ (by rw [List.length_append, flatS_length, flatS_length, sortS_length]; omega), List.take_zero, List.nil_append, Nat.zero_add, flatS_length, sortS_length, ← flatS_length, List.drop_left']
  rfl
theorem sortSum_none {f : Nat} {h : Heap} {ao : Option Addr} {cap : Nat} : sortSum f [.slice ao 0 cap, .func (.func f) ⟨[]⟩ ⟨[]⟩] h = some (.tuple ⟨[]⟩, h) := by
  unfold sortSum
  dsimp only
  rw [Nat.beq_refl]
  rfl
end Go.Eng

namespace Go.Eng
set_option linter.unusedVariables false
noncomputable def maxB (a b : Str) : Str := if ltBytes a b = true then b else a
section
variable {c : Ctx} {t : Tm} {x : Aux} {h : Heap} {g g' : OpdF}
theorem l_max {a b : Str} (h1 : g t = sv a) (h2 : g' t = sv b) : lkMax g [g'] t h = some (sv (maxB a b)) := by
  show foldV max2 (g t) [g' t] = _
  rw [h1, h2]
  show some (Value.string (bif ltBytes a b then ⟨⟨b⟩⟩ else ⟨⟨a⟩⟩)) = _
  unfold maxB sv
  cases ltBytes a b <;> rfl
theorem l_cat {a b : Str} (h1 : g t = sv a) (h2 : g' t = sv b) (hl : a.length + b.length ≤ 9223372036854775807) : lkBin .add g g' t h = some (sv (a ++ b)) := by
  unfold lkBin
  rw [h1, h2]
  show (bif Nat.ble (a.length + b.length) 9223372036854775807 then some (Value.string ⟨⟨a ++ b⟩⟩) else none) = _
  rw [ble_iff.2 hl]; rfl
end
/-- The lesser end. -/
noncomputable def leastB (a b : Str) : Str := if (eqBytes a [] || (!(eqBytes b []) && ltBytes b a)) = true then b else a
end Go.Eng

/- Steps that leave memory told by what it holds. -/
namespace Go.Eng
set_option linter.unusedVariables false
section
variable {N : Tm → Aux → Heap → Prop} {X : Nat → Tm → Aux → Heap → Prop} {R : Tm → Aux → Heap → Prop} {c : Ctx} {t : Tm} {x : Aux} {h : Heap} {g g' : OpdF}
theorem wp_boxH {p : Value → Tm → Tm} {rest : KB} {cs : List Value} (hg : g t = .agg ⟨cs⟩) (H : ∀ h' b, h.Le h' → h'.get b = some (.cells true cs) → b < h'.next → (rest c (p (.pointer (some ⟨b, 0, none⟩)) t) x h').Wp N X R) : (oSet (xTurn (tnBox g)) p rest c t x h).Wp N X R :=
  wp_turn (tn_boxAgg hg) (H _ _ (Heap.Le.push _ _) (Heap.get_new _ _) (Nat.lt_succ_self _))
theorem wp_buildH {p : Value → Tm → Tm} {rest : KB} {z cs : List Value} {ps : List (Nat × Nat × OpdF)} {n : Nat} (hf : fillParts t ps z = some cs) (H : ∀ h' b, h.Le h' → h'.get b = some (.cells true cs) → b < h'.next → (rest c (p (.slice (some ⟨b, 0, none⟩) n n) t) x h').Wp N X R) : (oSet (xTurn (tnBuildSlice z ps n)) p rest c t x h).Wp N X R :=
  wp_turn (tn_buildSlice hf) (H _ _ (Heap.Le.push _ _) (Heap.get_new _ _) (Nat.lt_succ_self _))
theorem wp_allocH {p : Value → Tm → Tm} {rest : KB} {z : List Value} (H : ∀ h' b, h.Le h' → h'.get b = some (.cells true z) → b < h'.next → b = h.next → (rest c (p (.pointer (some ⟨b, 0, none⟩)) t) x h').Wp N X R) : (oSet (xTurn (tnAlloc z)) p rest c t x h).Wp N X R :=
  wp_turn tn_alloc (H _ _ (Heap.Le.push _ _) (Heap.get_new _ _) (Nat.lt_succ_self _) rfl)
theorem wp_dAllocH {idx : Nat} {un pre : List Nat} {w : Bool} {z : List Value} {p : Value → Tm → Tm} {rest : KD} {log : List (Nat × LogE)} (hu : ∀ h', unTurn log h' un = true)
    (H : ∀ h' b, h.Le h' → h'.get b = some (.cells true z) → b < h'.next → b = h.next → (rest ((idx, .wr h) :: log) none c (p (.pointer (some ⟨b, 0, none⟩)) t) x h').Wp N X R) : (dTurn idx un pre w (xTurn (tnAlloc z)) p rest log none c t x h).Wp N X R :=
  wp_dTurn tn_alloc (hu _) (H _ _ (Heap.Le.push _ _) (Heap.get_new _ _) (Nat.lt_succ_self _) rfl)
theorem wp_dStoreH {idx : Nat} {un pre : List Nat} {w : Bool} {n : Nat} {a : Addr} {ys : List Value} {v : Value} {cs : List Value} {p : Value → Tm → Tm} {rest : KD} {log : List (Nat × LogE)} (hg : g t = .pointer (some a)) (hv : g' t = v) (hy : cellsOf v = some ys) (hb : h.get a.block = some (.cells true cs)) (hl : ys.length = n) (hn : a.off + n ≤ cs.length) (hu : ∀ h', unTurn log h' un = true)
    (H : ∀ h', h'.next = h.next → h'.get a.block = some (.cells true (putAt ys a.off cs)) → (∀ b, b ≠ a.block → h'.get b = h.get b) → (rest ((idx, .wr h) :: log) none c (p undef t) x h').Wp N X R) : (dTurn idx un pre w (xTurn (tnStore n g g')) p rest log none c t x h).Wp N X R :=
  wp_dTurn (tn_store hg hv hy hb hl hn) (hu _) (H _ rfl (Heap.get_put_eq _ _ _) fun b hb => Heap.get_put_ne hb)
/-- A bool that is known, its look kept in the log. -/
theorem wp_dKnow {idx : Nat} {un pre : List Nat} {p : Value → Tm → Tm} {rest : KD} {log : List (Nat × LogE)} {e b : Bool} (hv : g t = .bool e) (he : e = b) (hu : unLook log (lkMove g) t (.bool b) un = true)
    (H : (rest ((idx, .ld fun now => tellsAs (lkMove g t now) (.bool b)) :: log) none c (p (.bool b) t) x h).Wp N X R) : (dLook idx un pre (lkMove g) p rest log none c t x h).Wp N X R := wp_dLook (congrArg some (he ▸ hv)) hu H
theorem unLook_wr {log : List (Nat × LogE)} {i : Nat} {l : Look} {v : Value} {before : Heap} {un : List Nat} (hf : findLog i log = some (.wr before)) (h1 : tellsAs (l t before) v = true) (h2 : unLook log l t v un = true) : unLook log l t v (i :: un) = true := by
  show ((match findLog i log with
      | none => true
      | some (.wr before) => tellsAs (l t before) v
      | some (.ld _) => false) && unLook log l t v un) = true
  rw [hf, h2]
  show (tellsAs (l t before) v && true) = true
  rw [h1]; rfl
theorem unLook_none {log : List (Nat × LogE)} {i : Nat} {l : Look} {v : Value} {un : List Nat} (hf : findLog i log = none) (h2 : unLook log l t v un = true) : unLook log l t v (i :: un) = true := by
  show ((match findLog i log with
      | none => true
      | some (.wr before) => tellsAs (l t before) v
      | some (.ld _) => false) && unLook log l t v un) = true
  rw [hf, h2]; rfl
theorem unTurn_ld {log : List (Nat × LogE)} {i : Nat} {f : Heap → Bool} {now : Heap} {un : List Nat} (hf : findLog i log = some (.ld f)) (h1 : f now = true) (h2 : unTurn log now un = true) : unTurn log now (i :: un) = true := by
  show ((match findLog i log with
      | none => true
      | some (.wr _) => false
      | some (.ld again) => again now) && unTurn log now un) = true
  rw [hf, h2]
  show (f now && true) = true
  rw [h1]; rfl
theorem tells_str {l : Look} {hp : Heap} {s : Str} (hl : l t hp = some (sv s)) : tellsAs (l t hp) (sv s) = true := by
  rw [hl]
  show ((⟨⟨s⟩⟩ : ByteArray) == ⟨⟨s⟩⟩) = true
  rw [← eqBytes_bytes, (eqB_iff _ _).2 rfl]
theorem tells_sp {l : Look} {hp : Heap} {s : Sp} (hl : l t hp = some (.agg ⟨svs s⟩)) : tellsAs (l t hp) (.agg ⟨svs s⟩) = true := by
  rw [hl]
  show (((⟨⟨s.1⟩⟩ : ByteArray) == ⟨⟨s.1⟩⟩) && (((⟨⟨s.2⟩⟩ : ByteArray) == ⟨⟨s.2⟩⟩) && true)) = true
  rw [← eqBytes_bytes, ← eqBytes_bytes, (eqB_iff _ _).2 rfl, (eqB_iff _ _).2 rfl]; rfl
end
/-- A summary of a call that is true. -/
theorem wp_true {E : Env} {n f : Nat} {h : Heap} (hs : E.sum f = some trueSum) : (enter E (ctx E n) f [] h).Wp fun v h' => v = .bool true ∧ h' = h := wp_sum hs rfl ⟨rfl, rfl⟩
theorem reads_two {h : Heap} {b : Nat} {l : List Sp} (hb : h.get b = some (.cells true (flatS l))) (hn : b < h.next) : Reads h (some ⟨b, 0, none⟩) l := Owns.reads (rest := []) ⟨by rw [List.append_nil]; exact hb, hn⟩ none
end Go.Eng
namespace Go.Eng
section
variable {N : Tm → Aux → Heap → Prop} {X : Nat → Tm → Aux → Heap → Prop} {R : Tm → Aux → Heap → Prop} {c : Ctx} {t : Tm} {x : Aux} {h : Heap} {g g' : OpdF}
theorem wp_callS {f : OpdF} {args : List OpdF} {p : Value → Tm → Tm} {rest : KB} {v0 : Value} (hc : (c.call (f t) (vals t args) h).Wp fun v h' => v = v0 ∧ h' = h) (H : (rest c (p v0 t) x h).Wp N X R) : (oSet (xCall f args) p rest c t x h).Wp N X R :=
  wp_callIn hc fun v h' q => by obtain ⟨rfl, e⟩ := q; rw [e]; exact H
theorem wp_callL {f : OpdF} {args : List OpdF} {p : Value → Tm → Tm} {rest : KB} {v0 : Value} (hc : (c.call (f t) (vals t args) h).Wp fun v h' => v = v0 ∧ h.Le h') (H : ∀ h', h.Le h' → (rest c (p v0 t) x h').Wp N X R) : (oSet (xCall f args) p rest c t x h).Wp N X R :=
  wp_callIn hc fun v h' q => by obtain ⟨rfl, e⟩ := q; exact H h' e
theorem wp_dCallS {idx : Nat} {un pre : List Nat} {w : Bool} {f : OpdF} {args : List OpdF} {p : Value → Tm → Tm} {rest : KD} {log : List (Nat × LogE)} {v0 : Value} (hc : (c.call (f t) (vals t args) h).Wp fun v h' => v = v0 ∧ h' = h) (hu : unTurn log h un = true)
    (H : (rest ((idx, .wr h) :: log) none c (p v0 t) x h).Wp N X R) : (dTurn idx un pre w (xCall f args) p rest log none c t x h).Wp N X R :=
  wp_dCall hc (fun v h' q => by obtain ⟨_, e⟩ := q; rw [e]; exact hu) fun v h' q => by obtain ⟨rfl, e⟩ := q; rw [e]; exact H
theorem wp_dCallL {idx : Nat} {un pre : List Nat} {w : Bool} {f : OpdF} {args : List OpdF} {p : Value → Tm → Tm} {rest : KD} {log : List (Nat × LogE)} {v0 : Value} (hc : (c.call (f t) (vals t args) h).Wp fun v h' => v = v0 ∧ h.Le h') (hu : ∀ h', h.Le h' → unTurn log h' un = true)
    (H : ∀ h', h.Le h' → (rest ((idx, .wr h) :: log) none c (p v0 t) x h').Wp N X R) : (dTurn idx un pre w (xCall f args) p rest log none c t x h).Wp N X R :=
  wp_dCall hc (fun v h' q => hu h' q.2) fun v h' q => by obtain ⟨rfl, e⟩ := q; exact H h' e
end
end Go.Eng

/- What spans and keys are to one another. -/
namespace Go.Eng
set_option linter.unusedVariables false
open SpanN
noncomputable def uptoB (s : Sp) (k : Str) : Sp := if (eqBytes s.2 [] || ltBytes (k ++ [0]) s.2) = true then (s.1, k ++ [0]) else s
section
variable {S : List Str}
theorem rank_max {a b : Str} (ha : a ∈ S) (hb : b ∈ S) : rankB S (maxB a b) = max (rankB S a) (rankB S b) := by
  unfold maxB
  by_cases h : ltBytes a b = true
  · rw [if_pos h]; have := (rank_lt ha).1 h; omega
  · rw [if_neg h]
    have : ¬ rankB S a < rankB S b := fun k => h ((rank_lt ha).2 k)
    omega
theorem max_mem {a b : Str} (ha : a ∈ S) (hb : b ∈ S) : maxB a b ∈ S := by unfold maxB; split <;> assumption
theorem hi_least {c c' c'' a b : Str} (ha : a ∈ S) (hb : b ∈ S) : (toN S (c, leastB a b)).2 = min (toN S (c', a)).2 (toN S (c'', b)).2 := by
  have l1 := rank_le S a
  have l2 := rank_le S b
  simp only [toN_hi]
  unfold leastB
  by_cases h : eqBytes a [] = true
  · rw [h]
    have e := (eqB_iff _ _).1 h
    subst e
    simp
    split <;> omega
  · have h' : a ≠ [] := fun e => h ((eqB_iff _ _).2 e)
    rw [Bool.not_eq_true] at h
    rw [h]
    by_cases k : eqBytes b [] = true
    · rw [k]
      have e := (eqB_iff _ _).1 k
      subst e
      simp [h']; omega
    · have k' : b ≠ [] := fun e => k ((eqB_iff _ _).2 e)
      rw [Bool.not_eq_true] at k
      rw [k]
      by_cases j : ltBytes b a = true
      · rw [j]
        have := (rank_lt hb).1 j
        simp [h', k']; omega
      · have : ¬ rankB S b < rankB S a := fun q => j ((rank_lt hb).2 q)
        rw [Bool.not_eq_true] at j
        rw [j]
        simp [h', k']; omega
end
theorem meets_ref (x y : Sp) : (inS x (maxB x.1 y.1) && inS y (maxB x.1 y.1)) = !(emptyS (maxB x.1 y.1, leastB x.2 y.2)) := by
  let S := [x.1, x.2, y.1, y.2, leastB x.2 y.2]
  have m1 : x.1 ∈ S := by simp [S]
  have m2 : x.2 ∈ S := by simp [S]
  have m3 : y.1 ∈ S := by simp [S]
  have m4 : y.2 ∈ S := by simp [S]
  have m5 : leastB x.2 y.2 ∈ S := by simp [S]
  have mm := max_mem m1 m3
  have r := rank_max m1 m3
  have hl := hi_least (S := S) (c := maxB x.1 y.1) (c' := x.1) (c'' := y.1) m2 m4
  rw [Bool.eq_iff_iff, Bool.and_eq_true, Bool.not_eq_true', inS_iff ⟨m1, m2⟩ mm, inS_iff ⟨m3, m4⟩ mm, empty_iff ⟨mm, m5⟩]
  unfold has
  rw [hl]
  simp only [toN_lo, r]
  have e1 : (toN S (x.1, x.2)).2 = (toN S x).2 := rfl
  have e2 : (toN S (y.1, y.2)).2 = (toN S y).2 := rfl
  rw [e1, e2]
  omega
noncomputable def meetsB (x y : Sp) : Bool := inS x (maxB x.1 y.1) && inS y (maxB x.1 y.1)
theorem meets_iff {S : List Str} {x y : Sp} (hx : Among S x) (hy : Among S y) : meetsB x y = true ↔ max (rankB S x.1) (rankB S y.1) < (toN S x).2 ∧ max (rankB S x.1) (rankB S y.1) < (toN S y).2 := by
  have mm := max_mem hx.1 hy.1
  unfold meetsB
  rw [Bool.and_eq_true, inS_iff hx mm, inS_iff hy mm]
  unfold has
  simp only [toN_lo, rank_max hx.1 hy.1]
  omega
theorem meets_swap (x y : Sp) : meetsB x y = meetsB y x := by
  let S := [x.1, x.2, y.1, y.2]
  have hx : Among S x := ⟨by simp [S], by simp [S]⟩
  have hy : Among S y := ⟨by simp [S], by simp [S]⟩
  rw [Bool.eq_iff_iff, meets_iff hx hy, meets_iff hy hx]
  omega
theorem meets_of {x y : Sp} {k : Str} (h1 : inS x k = true) (h2 : inS y k = true) : meetsB x y = true := by
  let S := [x.1, x.2, y.1, y.2, k]
  have hx : Among S x := ⟨by simp [S], by simp [S]⟩
  have hy : Among S y := ⟨by simp [S], by simp [S]⟩
  have hk : k ∈ S := by simp [S]
  rw [inS_iff hx hk] at h1
  rw [inS_iff hy hk] at h2
  rw [meets_iff hx hy]
  unfold has at h1 h2
  simp only [toN_lo] at h1 h2
  omega
theorem empty_meets (x : Sp) : (!(emptyS x == meetsB x x)) = true := by
  let S := [x.1, x.2]
  have hx : Among S x := ⟨by simp [S], by simp [S]⟩
  have h1 := empty_iff hx
  have h2 := meets_iff hx hx
  rw [toN_lo] at h1
  cases e1 : emptyS x <;> cases e2 : meetsB x x
  · rw [e1] at h1; rw [e2] at h2
    have := h1.1 rfl
    have := h2.2 (by omega)
    cases this
  · rfl
  · rfl
  · rw [e1] at h1; rw [e2] at h2
    have := h2.1 rfl
    have := h1.2 (by omega)
    cases this
theorem empty_in (x : Sp) : (!(emptyS x == inS x x.1)) = true := by
  let S := [x.1, x.2]
  have hx : Among S x := ⟨by simp [S], by simp [S]⟩
  have h1 := empty_iff hx
  have h2 := inS_iff hx hx.1
  unfold has at h2
  rw [toN_lo] at h1 h2
  cases e1 : emptyS x <;> cases e2 : inS x x.1
  · rw [e1] at h1; rw [e2] at h2
    have := h1.1 rfl
    have := h2.2 (by omega)
    cases this
  · rfl
  · rfl
  · rw [e1] at h1; rw [e2] at h2
    have := h2.1 rfl
    have := h1.2 (by omega)
    cases this
theorem rank_succ {S : List Str} {k a : Str} (ha : a ∈ S) (hk : k ∈ S) : rankB S a < rankB S (k ++ [0]) ↔ rankB S a ≤ rankB S k := by
  rw [← rank_lt ha, ltB_succ, rank_lt ha, rank_eq ha hk]
  omega
theorem one_in (k : Str) : inS (k, k ++ [0]) k = true := by
  let S := [k, k ++ [0]]
  have hk : k ∈ S := by simp [S]
  have ho : Among S (k, k ++ [0]) := ⟨by simp [S], by simp [S]⟩
  rw [inS_iff ho hk]
  unfold has
  rw [toN_lo, toN_hi, if_neg (by simp)]
  exact ⟨Nat.le_refl _, (rank_succ hk hk).2 (Nat.le_refl _)⟩
theorem one_other (k o : Str) : inS (k, k ++ [0]) o = decide (k = o) := by
  let S := [k, k ++ [0], o]
  have hk : k ∈ S := by simp [S]
  have hoo : o ∈ S := by simp [S]
  have ho : Among S (k, k ++ [0]) := ⟨by simp [S], by simp [S]⟩
  rw [Bool.eq_iff_iff, inS_iff ho hoo, decide_eq_true_eq]
  unfold has
  rw [toN_lo, toN_hi, if_neg (by simp)]
  show rankB S k ≤ rankB S o ∧ rankB S o < rankB S (k ++ [0]) ↔ _
  rw [rank_succ hoo hk, rank_eq hk hoo]
  omega
theorem upto_in (s : Sp) (k o : Str) : inS (uptoB s k) o = (inS s o && !(ltBytes k o)) := by
  let S := [s.1, s.2, k, k ++ [0], o]
  have hk : k ∈ S := by simp [S]
  have hk0 : k ++ [0] ∈ S := by simp [S]
  have hoo : o ∈ S := by simp [S]
  have hs : Among S s := ⟨by simp [S], by simp [S]⟩
  have hu : Among S (s.1, k ++ [0]) := ⟨hs.1, hk0⟩
  have sc := rank_succ (S := S) hoo hk
  have h1 := inS_iff hs hoo
  have h2 := inS_iff hu hoo
  have h3 := rank_lt (S := S) (b := o) hk
  have h4 := rank_lt (S := S) (b := s.2) hk0
  unfold has at h1 h2
  rw [toN_lo, toN_hi] at h1
  rw [toN_lo, toN_hi, if_neg (by simp)] at h2
  have l1 := rank_le S o
  have l2 := rank_le S (k ++ [0])
  rw [Bool.eq_iff_iff, Bool.and_eq_true, Bool.not_eq_true', h1]
  have h3' : ltBytes k o = false ↔ rankB S o ≤ rankB S k := by rw [← Bool.not_eq_true, h3]; omega
  rw [h3']
  unfold uptoB
  by_cases c : (eqBytes s.2 [] || ltBytes (k ++ [0]) s.2) = true
  · rw [if_pos c, h2]
    show rankB S s.1 ≤ rankB S o ∧ rankB S o < rankB S (k ++ [0]) ↔ _
    rw [Bool.or_eq_true, eqB_iff, h4] at c
    by_cases e : s.2 = []
    · rw [if_pos e]; omega
    · rw [if_neg e]
      rcases c with c | c
      · exact absurd c e
      · omega
  · rw [if_neg c, h1]
    rw [Bool.or_eq_true, eqB_iff, h4] at c
    have e : s.2 ≠ [] := fun e => c (.inl e)
    have e' : ¬ rankB S (k ++ [0]) < rankB S s.2 := fun q => c (.inr q)
    rw [if_neg e]
    omega
end Go.Eng

/- Slices of spans that came in, or were made. -/
namespace Go.Eng
set_option linter.unusedVariables false
def Backed' (h : Heap) (a : Option Addr) : Prop := ∀ x, a = some x → ∃ w cs, h.get x.block = some (.cells w cs) ∧ x.block < h.next
structure Sl (h : Heap) (ao : Option Addr) (n ca : Nat) (l : List Sp) : Prop where
  len : l.length = n
  rd : Reads h ao l
  bk : Backed' h ao
  nil : ao = none → ca = 0
  cap : n ≤ ca
  spot : ∀ x, ao = some x → ca = 0 ∨ x.spot = none ∨ x.spot = some 2
theorem Sl.le {h h' : Heap} {ao : Option Addr} {n ca : Nat} {l : List Sp} (s : Sl h ao n ca l) (k : h.Le h') : Sl h' ao n ca l :=
  ⟨s.len, s.rd.le k, fun x hx => by obtain ⟨w, cs, h1, h2⟩ := s.bk x hx; exact ⟨w, cs, (k.get _ h2).trans h1, Nat.lt_of_lt_of_le h2 k.next⟩, s.nil, s.cap, s.spot⟩
theorem Sl.zero {h : Heap} {ao : Option Addr} {n ca : Nat} {l : List Sp} (s : Sl h ao n ca l) (e : ao = none) : n = 0 := by have := s.nil e; have := s.cap; omega
section
variable {c : Ctx} {t : Tm} {x : Aux} {h : Heap} {g g' : OpdF}
theorem sliceOf_eq {size : Nat} {a : Option Addr} {cap l hi : Nat} (h1 : l ≤ hi) (h2 : hi ≤ cap) : sliceOf size a cap l hi cap false = match a with
    | none => some (.slice none (hi - l) (cap - l))
    | some a => bif Nat.beq cap l then some (.slice (some a) 0 0) else match a.spot with
      | none => some (.slice (some ⟨a.block, a.off + l * size, none⟩) (hi - l) (cap - l))
      | some z => bif Nat.beq z size then some (.slice (some ⟨a.block, a.off + l * size, some z⟩) (hi - l) (cap - l)) else none := by
  unfold sliceOf
  rw [ble_iff.2 h1, ble_iff.2 h2, show Nat.ble cap cap = true from ble_iff.2 (Nat.le_refl _)]
  rfl
theorem l_from {lo : OpdF} {ao : Option Addr} {n ca r : Nat} {l : List Sp} (s : Sl h ao n ca l) (hg : g t = .slice ao n ca) (hl : lo t = .int .i64 (Int.ofNat r)) (hr : r ≤ n) : ∃ ao' ca', lkSliceSl 2 g (some lo) none none t h = some (.slice ao' (n - r) ca') ∧ Sl h ao' (n - r) ca' (l.drop r) := by
  have e0 : lkSliceSl 2 g (some lo) none none t h = sliceOf 2 ao ca r n ca false := by
    unfold lkSliceSl
    rw [hg]
    dsimp only
    have e : optNat t 0 (some lo) = some r := by unfold optNat; show asNat (lo t) = _; rw [hl]; rfl
    rw [e]; rfl
  have hc := s.cap
  rw [e0, sliceOf_eq hr hc]
  cases ao with
  | none =>
    have hca := s.nil rfl
    have hn : n = 0 := by omega
    have hl0 : l = [] := List.eq_nil_of_length_eq_zero (s.len.trans hn)
    subst hl0
    refine ⟨none, ca - r, rfl, by rw [List.drop_nil]; simp; omega, by rw [List.drop_nil]; exact Reads.nil _ _, fun x hx => (nomatch hx), fun _ => by omega, by omega, fun x hx => (nomatch hx)⟩
  | some a =>
    dsimp only
    by_cases hcr : ca = r
    · rw [beq_iff.2 hcr]
      have hnr : n - r = 0 := by omega
      have hd : l.drop r = [] := List.drop_eq_nil_of_le (by rw [s.len]; omega)
      refine ⟨some a, 0, by rw [hnr]; rfl, by rw [hd, hnr]; rfl, by rw [hd]; exact Reads.nil _ _, s.bk, fun h => (nomatch h), by omega, fun x hx => .inl rfl⟩
    · rw [show Nat.beq ca r = false from by cases e : Nat.beq ca r; rfl; exact absurd (beq_iff.1 e) hcr]
      have rd : ∀ sp, Reads h (some ⟨a.block, a.off + r * 2, sp⟩) (l.drop r) := by
        intro sp i y hi
        rw [List.getElem?_drop] at hi
        obtain ⟨a', w, cs, e, h2, h3, h4⟩ := s.rd _ _ hi
        cases e
        refine ⟨_, w, cs, rfl, h2, h3, ?_⟩
        show takeN 2 (dropN (a.off + r * 2 + i * 2) cs) = _
        rw [show a.off + r * 2 + i * 2 = a.off + (r + i) * 2 by omega]; exact h4
      have bk : ∀ sp, Backed' h (some ⟨a.block, a.off + r * 2, sp⟩) := fun sp x hx => by
        cases hx
        obtain ⟨w, cs, h1, h2⟩ := s.bk a rfl
        exact ⟨w, cs, h1, h2⟩
      rcases s.spot a rfl with h | h | h
      · omega
      · rw [h]
        refine ⟨_, ca - r, rfl, by rw [List.length_drop, s.len], rd _, bk _, fun h => (nomatch h), by omega, fun x hx => by cases hx; exact .inr (.inl rfl)⟩
      · rw [h]
        refine ⟨_, ca - r, rfl, by rw [List.length_drop, s.len], rd _, bk _, fun h => (nomatch h), by omega, fun x hx => by cases hx; exact .inr (.inr rfl)⟩
theorem l_upto {hi : OpdF} {ao : Option Addr} {n ca r : Nat} {l : List Sp} (s : Sl h ao n ca l) (hg : g t = .slice ao n ca) (hl : hi t = .int .i64 (Int.ofNat r)) (hr : r ≤ n) : ∃ ao' ca', lkSliceSl 2 g none (some hi) none t h = some (.slice ao' r ca') ∧ Sl h ao' r ca' (l.take r) := by
  have e0 : lkSliceSl 2 g none (some hi) none t h = sliceOf 2 ao ca 0 r ca false := by
    unfold lkSliceSl
    rw [hg]
    dsimp only
    have e : optNat t n (some hi) = some r := by unfold optNat; show asNat (hi t) = _; rw [hl]; rfl
    rw [e]; rfl
  have hc := s.cap
  rw [e0, sliceOf_eq (Nat.zero_le _) (by omega)]
  have hlen : (l.take r).length = r := by rw [List.length_take, s.len]; omega
  have rd : ∀ b, Reads h b l → Reads h b (l.take r) := fun b q i y hi => by
    rw [List.getElem?_take] at hi
    split at hi
    · exact q i y hi
    · cases hi
  cases ao with
  | none =>
    have hca := s.nil rfl
    exact ⟨none, ca - 0, rfl, hlen, rd _ s.rd, fun x hx => (nomatch hx), fun _ => by omega, by omega, fun x hx => (nomatch hx)⟩
  | some a =>
    dsimp only
    by_cases hcr : ca = 0
    · rw [beq_iff.2 hcr]
      have hr0 : r = 0 := by omega
      refine ⟨some a, 0, by rw [hr0]; rfl, hlen, rd _ s.rd, s.bk, fun h => (nomatch h), by omega, fun x hx => .inl rfl⟩
    · rw [show Nat.beq ca 0 = false from by cases e : Nat.beq ca 0; rfl; exact absurd (beq_iff.1 e) hcr]
      have ea : ∀ sp, a.spot = sp → (⟨a.block, a.off + 0 * 2, sp⟩ : Addr) = a := by
        rintro sp rfl
        obtain ⟨b, o, sp⟩ := a
        simp
      rcases s.spot a rfl with h | h | h
      · omega
      · rw [h]
        refine ⟨some a, ca, ?_, hlen, rd _ s.rd, s.bk, fun h => (nomatch h), by omega, s.spot⟩
        show some (Value.slice (some (⟨a.block, a.off + 0 * 2, none⟩ : Addr)) (r - 0) (ca - 0)) = _
        rw [ea none h]; rfl
      · rw [h]
        refine ⟨some a, ca, ?_, hlen, rd _ s.rd, s.bk, fun h => (nomatch h), by omega, s.spot⟩
        show some (Value.slice (some (⟨a.block, a.off + 0 * 2, some 2⟩ : Addr)) (r - 0) (ca - 0)) = _
        rw [ea (some 2) h]; rfl
theorem Sl.elems {ao : Option Addr} {n ca : Nat} {l : List Sp} (s : Sl h ao n ca l) : h.elems 2 n (.slice ao n ca) = some (flatS l) := by
  by_cases hl : l = []
  · subst hl
    have hn : n = 0 := s.len.symm
    subst hn
    cases ao with
    | none => rfl
    | some a =>
      obtain ⟨w, cs, h1, _⟩ := s.bk a rfl
      show h.load a.block a.off (Nat.mul 0 2) = _
      exact Heap.load_of h1 (by show takeN 0 _ = _; rw [takeN_eq, if_pos (Nat.zero_le _)]; rfl)
  · obtain ⟨s0, hs0⟩ : ∃ s, l[0]? = some s := by cases l with
      | nil => exact absurd rfl hl
      | cons s1 l => exact ⟨s1, rfl⟩
    obtain ⟨a, w, cs, rfl, _⟩ := s.rd 0 s0 hs0
    show h.load a.block a.off (Nat.mul n 2) = _
    rw [← s.len]
    exact s.rd.load_all hl
end
/-- A copy. -/
def CopySl (h h' : Heap) (v : Value) (l : List Sp) : Prop :=
  (l = [] ∧ ∃ b, v = .slice (some ⟨b, 0, none⟩) 0 0 ∧ h'.get b = some (.cells true []) ∧ h.next ≤ b ∧ b < h'.next) ∨ (l ≠ [] ∧ ∃ b, v = .slice (some ⟨b, 0, some 2⟩) l.length l.length ∧ Owns h' b l [] ∧ h.next ≤ b)
theorem CopySl.sl {h h' : Heap} {v : Value} {l : List Sp} (k : CopySl h h' v l) : ∃ ao ca, v = .slice ao l.length ca ∧ Sl h' ao l.length ca l := by
  rcases k with ⟨rfl, b, rfl, h1, h2, h3⟩ | ⟨h1, b, rfl, h2, h3⟩
  · exact ⟨_, 0, rfl, rfl, Reads.nil _ _, fun x hx => by cases hx; exact ⟨_, _, h1, h3⟩, fun h => (nomatch h), Nat.le_refl _, fun x hx => .inl rfl⟩
  · exact ⟨_, l.length, rfl, rfl, h2.reads _, fun x hx => by cases hx; exact ⟨_, _, h2.1, h2.2⟩, fun h => (nomatch h), Nat.le_refl _, fun x hx => by cases hx; exact .inr (.inr rfl)⟩
theorem CopySl.le {h h' h'' : Heap} {v : Value} {l : List Sp} (k : CopySl h h' v l) (le : h'.Le h'') : CopySl h h'' v l := by
  rcases k with ⟨h0, b, h1, h2, h3, h4⟩ | ⟨h1, b, h2, h3, h4⟩
  · exact .inl ⟨h0, b, h1, (le.get _ h4).trans h2, h3, Nat.lt_of_lt_of_le h4 le.next⟩
  · exact .inr ⟨h1, b, h2, h3.le le, h4⟩
theorem append_keep {h : Heap} {size len cap : Nat} {new : List Value} {a : Addr} {old : List Value} (ha : h.load a.block a.off (len * size) = some old) (hb : len < 100000000) (hc : len ≤ cap) : h.appendL size (.slice (some a) len cap) 0 new = some (.slice (some a) len cap, h) := by
  unfold Heap.appendL
  cases len with
  | zero =>
    cases cap with
    | zero => dsimp only; rw [show Nat.mul 0 size = 0 * size from rfl, ha]; rfl
    | succ cap => dsimp only; rw [show Nat.mul 0 size = 0 * size from rfl, ha]; rfl
  | succ len =>
    dsimp only
    rw [show Nat.mul (len + 1) size = (len + 1) * size from rfl, ha]
    dsimp only
    rw [show Nat.add (len + 1) 0 = len + 1 from rfl, blt_iff.2 hb, ble_iff.2 hc]
    rfl
/-- Something behind a copy. -/
theorem append_copy {t : Tm} {h0 h : Heap} {g g' : OpdF} {v : Value} {A B : List Sp} {ao : Option Addr} {n ca : Nat} (k : CopySl h0 h v A) (s : Sl h ao n ca B) (hg : g t = v) (hg' : g' t = .slice ao n ca) (h0h : h0.Le h) (hA : A.length < 1000000) (hB : B.length < 1000000) :
    ∃ v' h', tnAppend 2 g g' t h = some (v', h') ∧ h0.Le h' ∧ CopySl h0 h' v' (A ++ B) := by
  have hn := s.len
  rcases k with ⟨rfl, b, rfl, h1, h2, h3⟩ | ⟨h1, b, rfl, h2, h3⟩
  · by_cases hB0 : B = []
    · subst hB0
      have hz : n = 0 := hn.symm
      subst hz
      exact ⟨_, _, tn_append hg hg' rfl s.elems (append_fresh0 h1), h0h, .inl ⟨rfl, b, rfl, h1, h2, h3⟩⟩
    · have hp : 0 < n := by rw [← hn]; exact List.length_pos_iff.2 hB0
      refine ⟨_, _, tn_append hg hg' rfl s.elems (append_fresh h1 rfl hp (by omega)), h0h.trans (Heap.Le.push _ _), .inr ⟨by simpa using hB0, h.next, ?_, ⟨?_, ?_⟩, h0h.next⟩⟩
      · rw [List.nil_append, hn]
      · rw [List.nil_append, List.append_nil]; exact Heap.get_new _ _
      · exact Nat.lt_succ_self _
  · have hload : h.load b 0 (A.length * 2) = some (flatS A) := Heap.load_of h2.1 (takeN_flat A [])
    by_cases hB0 : B = []
    · subst hB0
      have hz : n = 0 := hn.symm
      subst hz
      refine ⟨_, _, tn_append hg hg' rfl s.elems (append_keep (a := ⟨b, 0, some 2⟩) hload (by omega) (Nat.le_refl _)), h0h, .inr ⟨by simpa using h1, b, ?_, ?_, h3⟩⟩
      · rw [List.append_nil]
      · rw [List.append_nil]; exact h2
    · have hp : 0 < n := by rw [← hn]; exact List.length_pos_iff.2 hB0
      have hpA := List.length_pos_iff.2 h1
      refine ⟨_, _, tn_append hg hg' rfl s.elems (append_more hload ⟨_, h2.1⟩ hpA hp (by omega)), (h0h.put h3 h2.2 _).trans (Heap.Le.push _ _), .inr ⟨by simp [h1], h.next, ?_, ⟨?_, ?_⟩, ?_⟩⟩
      · rw [List.length_append, hn]
      · rw [List.append_nil, flatS_append]; exact Heap.get_new (h.put b none) _
      · exact Nat.lt_succ_self _
      · exact h0h.next
theorem l_remI {t : Tm} {h : Heap} {g g' : OpdF} {a b : Int} (h1 : g t = .int .i64 a) (h2 : g' t = .int .i64 b) (hb : b ≠ 0) : lkBin .rem g g' t h = some (.int .i64 (a.tmod b)) := by
  unfold lkBin
  rw [h1, h2]
  show (bif eqInt b 0 then none else some (Value.int .i64 (a.tmod b))) = _
  rw [eqInt_eq, decide_eq_false hb]; rfl
end Go.Eng

namespace Go.Eng
set_option linter.unusedVariables false
section
variable {N : Tm → Aux → Heap → Prop} {X : Nat → Tm → Aux → Heap → Prop} {R : Tm → Aux → Heap → Prop} {c : Ctx} {t : Tm} {x : Aux} {h : Heap} {g g' : OpdF}
theorem wp_dFrom {idx : Nat} {un pre : List Nat} {lo : OpdF} {p : Value → Tm → Tm} {rest : KD} {log : List (Nat × LogE)} {ao : Option Addr} {n ca r : Nat} {l : List Sp} (s : Sl h ao n ca l) (hg : g t = .slice ao n ca) (hl : lo t = .int .i64 (Int.ofNat r)) (hr : r ≤ n) (hu : un = [])
    (H : ∀ ao' ca' log, Sl h ao' (n - r) ca' (l.drop r) → (rest log none c (p (.slice ao' (n - r) ca') t) x h).Wp N X R) : (dLook idx un pre (lkSliceSl 2 g (some lo) none none) p rest log none c t x h).Wp N X R := by
  subst hu
  obtain ⟨ao', ca', e, s'⟩ := l_from s hg hl hr
  exact wp_dLook e rfl (H ao' ca' _ s')
theorem wp_dUpto {idx : Nat} {un pre : List Nat} {hi : OpdF} {p : Value → Tm → Tm} {rest : KD} {log : List (Nat × LogE)} {ao : Option Addr} {n ca r : Nat} {l : List Sp} (s : Sl h ao n ca l) (hg : g t = .slice ao n ca) (hl : hi t = .int .i64 (Int.ofNat r)) (hr : r ≤ n) (hu : un = [])
    (H : ∀ ao' ca' log, Sl h ao' r ca' (l.take r) → (rest log none c (p (.slice ao' r ca') t) x h).Wp N X R) : (dLook idx un pre (lkSliceSl 2 g none (some hi) none) p rest log none c t x h).Wp N X R := by
  subst hu
  obtain ⟨ao', ca', e, s'⟩ := l_upto s hg hl hr
  exact wp_dLook e rfl (H ao' ca' _ s')
theorem wp_dAppC {idx : Nat} {un pre : List Nat} {w : Bool} {p : Value → Tm → Tm} {rest : KD} {log : List (Nat × LogE)} {h0 : Heap} {v : Value} {A B : List Sp} {ao : Option Addr} {n ca : Nat} (k : CopySl h0 h v A) (s : Sl h ao n ca B) (hg : g t = v) (hg' : g' t = .slice ao n ca) (h0h : h0.Le h) (hA : A.length < 1000000) (hB : B.length < 1000000) (hu : un = [])
    (H : ∀ v' h' log, h0.Le h' → CopySl h0 h' v' (A ++ B) → (rest log none c (p v' t) x h').Wp N X R) : (dTurn idx un pre w (xTurn (tnAppend 2 g g')) p rest log none c t x h).Wp N X R := by
  subst hu
  obtain ⟨v', h', e1, e2, e3⟩ := append_copy k s hg hg' h0h hA hB
  exact wp_dTurn e1 rfl (H v' h' _ e2 e3)
end
end Go.Eng
