/-
  The library's slices.Insert as a summary, sound for elements of any size and whatever room there is. Conditions: those that each lemma states.
-/
import Derived.Test.YtfcicokigdebpaaGreatDoorF
set_option linter.unusedSimpArgs false
set_option linter.unusedVariables false
namespace Go.Eng
set_option linter.unusedVariables false
/-- However it goes on where the machine leaves open how it goes on (s: it leaves nothing open). -/
def Er.Wp (r : Er) (s : Bool) (Q : Value → Heap → Prop) : Prop :=
  Er.rec (motive := fun _ => Prop) (fun v h => Q v h) (fun _ _ => False) (fun _ => False) (fun n _ ih => s = false ∧ ∀ i, i < n → ih i) r
def Rz.Wp (r : Rz) (s : Bool) (N : Tm → Aux → Heap → Prop) (X : Nat → Tm → Aux → Heap → Prop) (R : Tm → Aux → Heap → Prop) : Prop :=
  Rz.rec (motive := fun _ => Prop) (fun t x h => N t x h) (fun i t x h => X i t x h) (fun t x h => R t x h) (fun _ _ _ _ _ => False) (fun _ _ _ => False) (fun _ => False) (fun n _ ih => s = false ∧ ∀ i, i < n → ih i) r
theorem Er.Wp.mono {sg : Bool} {r : Er} {Q Q' : Value → Heap → Prop} (h : r.Wp sg Q) (hq : ∀ v h, Q v h → Q' v h) : r.Wp sg Q' := by
  induction r with
  | ret v h' => exact hq _ _ h
  | panic _ _ => exact h.elim
  | fail _ => exact h.elim
  | any n k ih => exact ⟨h.1, fun i hi => ih i (h.2 i hi)⟩
theorem Rz.Wp.mono {sg : Bool} {r : Rz} {N N' : Tm → Aux → Heap → Prop} {X X' : Nat → Tm → Aux → Heap → Prop} {R R' : Tm → Aux → Heap → Prop} (h : r.Wp sg N X R) (hn : ∀ t x h, N t x h → N' t x h) (hx : ∀ i t x h, X i t x h → X' i t x h) (hr : ∀ t x h, R t x h → R' t x h) : r.Wp sg N' X' R' := by
  induction r with
  | norm => exact hn _ _ _ h
  | exit => exact hx _ _ _ _ h
  | ret => exact hr _ _ _ h
  | panic => exact h.elim
  | got => exact h.elim
  | fail => exact h.elim
  | any n k ih => exact ⟨h.1, fun i hi => ih i (h.2 i hi)⟩
theorem wp_then {sg : Bool} {r : Rz} {k : Tm → Aux → Heap → Rz} {N : Tm → Aux → Heap → Prop} {X : Nat → Tm → Aux → Heap → Prop} {R : Tm → Aux → Heap → Prop} (H : r.Wp sg (fun t x h => (k t x h).Wp sg N X R) X R) : (r.then k).Wp sg N X R := by
  induction r with
  | norm => exact H
  | exit => exact H
  | ret => exact H
  | panic => exact H.elim
  | got => exact H.elim
  | fail => exact H.elim
  | any n k' ih => exact ⟨H.1, fun i hi => ih i (H.2 i hi)⟩
theorem wp_back {sg : Bool} {r : Er} {t : Tm} {x : Aux} {k : Cont} {N : Tm → Aux → Heap → Prop} {X : Nat → Tm → Aux → Heap → Prop} {R : Tm → Aux → Heap → Prop} (H : r.Wp sg fun v h => (k v x h).Wp sg N X R) : (exBack r t x k).Wp sg N X R := by
  induction r with
  | ret => exact H
  | panic => exact H.elim
  | fail => exact H.elim
  | any n k' ih => exact ⟨H.1, fun i hi => ih i (H.2 i hi)⟩
section
variable {sg : Bool} {N : Tm → Aux → Heap → Prop} {X : Nat → Tm → Aux → Heap → Prop} {R : Tm → Aux → Heap → Prop} {c : Ctx} {t : Tm} {x : Aux} {h : Heap}
theorem wp_seq {a b : KB} (H : (a c t x h).Wp sg (fun t x h => (b c t x h).Wp sg N X R) X R) : (kSeq a b c t x h).Wp sg N X R := by
  exact wp_then H
theorem wp_skip (H : N t x h) : (kSkip c t x h).Wp sg N X R := H
theorem wp_ret (H : R t x h) : (kRet c t x h).Wp sg N X R := H
theorem wp_exit {id : Nat} (H : X id t x h) : (kExit id c t x h).Wp sg N X R := H
theorem wp_end (H : N t x h) : (oEnd c t x h).Wp sg N X R := H
theorem wp_cond {g : OpdF} {a b : KB} {p : Bool} (hg : g t = .bool p) (H1 : p = true → (a c t x h).Wp sg N X R) (H0 : p = false → (b c t x h).Wp sg N X R) : (kCond g a b c t x h).Wp sg N X R := by
  unfold kCond
  rw [hg]
  cases p with
  | true => exact H1 rfl
  | false => exact H0 rfl
theorem wp_block {id : Nat} {a : KB} (H : (a c t x h).Wp sg N (fun i t x h => bif Nat.beq i id then N t x h else X i t x h) R) : (kBlock id a c t x h).Wp sg N X R := by
  unfold kBlock
  generalize a c t x h = r at H
  induction r with
  | norm => exact H
  | exit i t' x' h' =>
    replace H : bif Nat.beq i id then N t' x' h' else X i t' x' h' := H
    show Rz.Wp (Bool.rec (motive := fun _ => Rz) (.exit i t' x' h') (.norm t' x' h') (Nat.beq i id)) sg N X R
    cases hb : Nat.beq i id <;> rw [hb] at H <;> exact H
  | ret => exact H
  | panic => exact H.elim
  | got => exact H.elim
  | fail => exact H.elim
  | any n k' ih => exact ⟨H.1, fun i hi => ih i (H.2 i hi)⟩
theorem wp_loop {a : KB} (I : Nat → Tm → Aux → Heap → Prop) (m : Nat) (h0 : I m t x h) (hf : m < c.fuel)
    (step : ∀ m t x h, I m t x h → (a c t x h).Wp sg (fun t x h => ∃ m', m' < m ∧ I m' t x h) X R) : (kLoop a c t x h).Wp sg N X R := by
  unfold kLoop
  generalize c.fuel = f at hf ⊢
  induction f generalizing m t x h with
  | zero => omega
  | succ f ih =>
    show Rz.Wp ((a c t x h).then _) sg N X R
    refine wp_then ((step m t x h h0).mono (fun t x h hh => ?_) (fun _ _ _ _ k => k) (fun _ _ _ k => k))
    obtain ⟨m', h1, h2⟩ := hh
    exact ih m' h2 (by omega)
theorem wp_look {l : Look} {p : Value → Tm → Tm} {rest : KB} {v : Value} (hl : l t h = some v) (H : (rest c (p v t) x h).Wp sg N X R) : (oSet (xLook l) p rest c t x h).Wp sg N X R := by
  unfold oSet xLook
  rw [hl]
  exact H
theorem wp_turn {l : Turn} {p : Value → Tm → Tm} {rest : KB} {v : Value} {h' : Heap} (hl : l t h = some (v, h')) (H : (rest c (p v t) x h').Wp sg N X R) : (oSet (xTurn l) p rest c t x h).Wp sg N X R := by
  unfold oSet xTurn
  rw [hl]
  exact H
theorem wp_move {g : OpdF} {p : Value → Tm → Tm} {rest : KB} {v : Value} (hv : g t = v) (H : (rest c (p v t) x h).Wp sg N X R) : (oSet (xMove g) p rest c t x h).Wp sg N X R := by
  subst hv; exact H
theorem wp_callIn {f : OpdF} {args : List OpdF} {p : Value → Tm → Tm} {rest : KB} {Q : Value → Heap → Prop} (hc : (c.call (f t) (vals t args) h).Wp sg Q) (H : ∀ v h', Q v h' → (rest c (p v t) x h').Wp sg N X R) : (oSet (xCall f args) p rest c t x h).Wp sg N X R :=
  wp_back (k := fun v x h => rest c (p v t) x h) (hc.mono H)
theorem wp_func {E : Env} {n f : Nat} {first captured : Array Value} {args as : List Value} {Q : Value → Heap → Prop} (ha : first.toList ++ (args ++ captured.toList) = as) (H : (enter E (ctx E n) f as h).Wp sg Q) : ((ctx E (n + 1)).call (.func (.func f) first captured) args h).Wp sg Q := by
  show (callV E (ctx E n) (.func (.func f) first captured) args h).Wp sg Q
  unfold callV
  simp only [app_eq, ha]
  exact H
theorem wp_enter {E : Env} {f : Nat} {k : KFun} {args : List Value} {Q : Value → Heap → Prop} (hs : E.sum f = none) (hf : E.fn f = some k) (H : (enterK E c k args h).Wp sg Q) : (enter E c f args h).Wp sg Q := by
  unfold enter
  rw [hs, hf]
  exact H
theorem wp_fn {E : Env} {fn : KFun} {args : List Value} {Q : Value → Heap → Prop} (hl : args.length ≤ 255)
    (H : (fn.body c (initTmps args 0 Tm.empty) ⟨[], none, none⟩ h).Wp sg (fun t x h => x.defers = [] ∧ ∃ vs, readRes fn.res [] t h = some vs ∧ Q (single vs) h) (fun _ _ _ _ => False) (fun t x h => x.defers = [] ∧ ∃ vs, readRes fn.res [] t h = some vs ∧ Q (single vs) h)) : (enterK E c fn args h).Wp sg Q := by
  unfold enterK
  have : Nat.ble (lenL args) 255 = true := by rw [lenL_eq, ble_iff]; exact hl
  rw [this]
  have fin : ∀ t (x : Aux) h, (x.defers = [] ∧ ∃ vs, readRes fn.res [] t h = some vs ∧ Q (single vs) h) → (finish E c fn.res [] t x.defers .returning h).Wp sg Q := by
    rintro t x h ⟨h1, vs, h2, h3⟩
    rw [h1]
    show Er.Wp (match readRes fn.res [] t h with
      | some vs => Er.ret (single vs) h
      | none => .fail "results") sg Q
    rw [h2]
    exact h3
  show (Rz.toEr _ _ _ _ _).Wp sg Q
  generalize fn.body c (initTmps args 0 Tm.empty) ⟨[], none, none⟩ h = r at H
  induction r with
  | norm => exact fin _ _ _ H
  | exit => exact H.elim
  | ret => exact fin _ _ _ H
  | panic => exact H.elim
  | got => exact H.elim
  | fail => exact H.elim
  | any n k ih => exact ⟨H.1, fun i hi => ih i (H.2 i hi)⟩
theorem wp_draw {d : KD} (H : (d [] none c t x h).Wp sg N X R) : (kDraw d c t x h).Wp sg N X R := H
theorem wp_dEnd {lost : List Nat} {log : List (Nat × LogE)} (H : N t x h) : (dEnd lost log none c t x h).Wp sg N X R := H
theorem wp_dLook {idx : Nat} {un pre : List Nat} {l : Look} {p : Value → Tm → Tm} {rest : KD} {log : List (Nat × LogE)} {v : Value} (hl : l t h = some v) (hu : unLook log l t v un = true)
    (H : (rest ((idx, .ld fun now => tellsAs (l t now) v) :: log) none c (p v t) x h).Wp sg N X R) : (dLook idx un pre l p rest log none c t x h).Wp sg N X R := by
  unfold dLook
  show Rz.Wp (match l t h with
    | some v => bif unLook log l t v un then rest ((idx, .ld fun now => tellsAs (l t now) v) :: log) none c (p v t) x h else .fail "a look beside a writer"
    | none => .fail "look") sg N X R
  rw [hl]
  dsimp only
  rw [hu]
  exact H
theorem wp_dTurn {idx : Nat} {un pre : List Nat} {w : Bool} {l : Turn} {p : Value → Tm → Tm} {rest : KD} {log : List (Nat × LogE)} {v : Value} {h' : Heap} (hl : l t h = some (v, h')) (hu : unTurn log h' un = true)
    (H : (rest ((idx, .wr h) :: log) none c (p v t) x h').Wp sg N X R) : (dTurn idx un pre w (xTurn l) p rest log none c t x h).Wp sg N X R := by
  unfold dTurn xTurn
  simp only [isAfter, Option.isSome, Bool.and_false, cond_false, hl]
  rw [hu]
  exact H
end
/-- All that was there is there. -/
structure Heap.Le (h h' : Heap) : Prop where
  next : h.next ≤ h'.next
  get : ∀ b, b < h.next → h'.get b = h.get b
  blank : (∀ b, h.next ≤ b → h.get b = none) → ∀ b, h'.next ≤ b → h'.get b = none
theorem Heap.Le.push (h : Heap) (o : AObj) : h.Le (h.push o) := by
  refine ⟨Nat.le_succ _, fun b hb => ?_, fun k b hb => ?_⟩
  · rw [Heap.get_push, if_neg (by omega)]
  · replace hb : h.next + 1 ≤ b := hb
    rw [Heap.get_push, if_neg (by omega)]; exact k b (by omega)
theorem Heap.get_new (h : Heap) (o : AObj) : (h.push o).get h.next = some o := by rw [Heap.get_push, if_pos rfl]
theorem Heap.load_of {h : Heap} {b off n : Nat} {w : Bool} {xs cs : List Value} (hb : h.get b = some (.cells w xs)) (hc : takeN n (dropN off xs) = some cs) : h.load b off n = some cs := by
  unfold Heap.load; rw [hb]; exact hc
theorem Heap.load1_of {h : Heap} {b off : Nat} {w : Bool} {xs : List Value} {v : Value} (hb : h.get b = some (.cells w xs)) (hc : nth off xs = some v) : h.load1 b off = some v := by
  unfold Heap.load1; rw [hb]; exact hc
theorem lkLoad1_of {g : OpdF} {t : Tm} {h : Heap} {a : Addr} {v : Value} (hg : g t = .pointer (some a)) (hc : h.load1 a.block a.off = some v) : lkLoad1 g t h = some v := by
  unfold lkLoad1; rw [hg]; exact hc
theorem lkLoadN_of {n : Nat} {g : OpdF} {t : Tm} {h : Heap} {a : Addr} {cs : List Value} (hg : g t = .pointer (some a)) (hc : h.load a.block a.off n = some cs) : lkLoadN n g t h = some (.agg ⟨cs⟩) := by
  unfold lkLoadN; rw [hg]; show optV none _ (h.load a.block a.off n) = _; rw [hc]; rfl
end Go.Eng
namespace Go.Eng
set_option linter.unusedVariables false
section
variable {sg : Bool} {N : Tm → Aux → Heap → Prop} {X : Nat → Tm → Aux → Heap → Prop} {R : Tm → Aux → Heap → Prop} {c : Ctx} {t : Tm} {x : Aux} {h : Heap} {g g' : OpdF}
theorem eqInt_eq (a b : Int) : eqInt a b = decide (a = b) := by
  have nbeq : ∀ m n : Nat, Nat.beq m n = decide (m = n) := fun m n => by
    by_cases e : m = n
    · rw [beq_iff.2 e]; simp [e]
    · rw [show Nat.beq m n = false from (by cases hb : Nat.beq m n; rfl; exact absurd (beq_iff.1 hb) e)]; simp [e]
  cases a with
  | ofNat m => cases b with
    | ofNat n => show Nat.beq m n = _; rw [nbeq]; exact decide_eq_decide.2 ⟨fun h => by rw [h], fun h => Int.ofNat.inj h⟩
    | negSucc n => symm; exact decide_eq_false (fun h => by cases h)
  | negSucc m => cases b with
    | ofNat n => symm; exact decide_eq_false (fun h => by cases h)
    | negSucc n => show Nat.beq m n = _; rw [nbeq]; exact decide_eq_decide.2 ⟨fun h => by rw [h], fun h => Int.negSucc.inj h⟩
theorem ltInt_eq (a b : Int) : ltInt a b = decide (a < b) := by
  have blt : ∀ m n : Nat, Nat.blt m n = decide (m < n) := fun m n => by
    by_cases e : m < n
    · rw [blt_iff.2 e]; simp [e]
    · rw [show Nat.blt m n = false from (by cases hb : Nat.blt m n; rfl; exact absurd (blt_iff.1 hb) e)]; simp [e]
  cases a with
  | ofNat m => cases b with
    | ofNat n => show Nat.blt m n = _; rw [blt]; exact decide_eq_decide.2 ⟨fun h => Int.ofNat_lt.2 h, fun h => Int.ofNat_lt.1 h⟩
    | negSucc n =>
      symm; refine decide_eq_false (fun h => ?_)
      have := Int.negSucc_lt_zero n; have : (0 : Int) ≤ Int.ofNat m := Int.natCast_nonneg m; omega
  | negSucc m => cases b with
    | ofNat n =>
      symm; refine decide_eq_true ?_
      have := Int.negSucc_lt_zero m; have : (0 : Int) ≤ Int.ofNat n := Int.natCast_nonneg n; omega
    | negSucc n =>
      show Nat.blt n m = _; rw [blt]
      refine decide_eq_decide.2 ⟨fun h => ?_, fun h => ?_⟩
      · have := Int.negSucc_eq m; have := Int.negSucc_eq n; omega
      · have := Int.negSucc_eq m; have := Int.negSucc_eq n; omega
theorem l_lssI {k k' : IntKind} {a b : Int} (h1 : g t = .int k a) (h2 : g' t = .int k' b) (hk : sameKind k k' = true) : lkBin .lss g g' t h = some (.bool (decide (a < b))) := by
  unfold lkBin; rw [h1, h2, ← ltInt_eq]; show (bif sameKind k k' then _ else _) = _; rw [hk]; rfl
theorem l_gtrI {k k' : IntKind} {a b : Int} (h1 : g t = .int k a) (h2 : g' t = .int k' b) (hk : sameKind k k' = true) : lkBin .gtr g g' t h = some (.bool (decide (b < a))) := by
  unfold lkBin; rw [h1, h2, ← ltInt_eq]; show (bif sameKind k k' then _ else _) = _; rw [hk]; rfl
theorem l_addI {k k' : IntKind} {a b : Int} (h1 : g t = .int k a) (h2 : g' t = .int k' b) (hk : sameKind k k' = true) : lkBin .add g g' t h = some (.int k (k.wrap (a + b))) := by
  unfold lkBin; rw [h1, h2]; show (bif sameKind k k' then _ else _) = _; rw [hk]; rfl
theorem l_subI {k k' : IntKind} {a b : Int} (h1 : g t = .int k a) (h2 : g' t = .int k' b) (hk : sameKind k k' = true) : lkBin .sub g g' t h = some (.int k (k.wrap (a - b))) := by
  unfold lkBin; rw [h1, h2]; show (bif sameKind k k' then _ else _) = _; rw [hk]; rfl
theorem l_eqI {k k' : IntKind} {a b : Int} (h1 : g t = .int k a) (h2 : g' t = .int k' b) (hk : sameKind k k' = true) : lkEq false .int g g' t h = some (.bool (decide (a = b))) := by
  unfold lkEq predEq; rw [h1, h2]; dsimp only; rw [hk, ← eqInt_eq]; rfl
theorem l_not {b : Bool} (hg : g t = .bool b) : lkUn .not g t h = some (.bool !b) := by unfold lkUn; rw [hg]; rfl
theorem l_lenSl {a : Option Addr} {n m : Nat} (hg : g t = .slice a n m) : lkLen .sl g t h = some (.int .i64 n) := by unfold lkLen; dsimp only; rw [hg]; rfl
theorem l_ixSl {size n m : Nat} {a : Addr} {i : Nat} {k : IntKind} (hg : g t = .slice (some a) n m) (hi : g' t = .int k i) (hlt : i < n) : lkIxSl size g g' t h = some (.pointer (some ⟨a.block, a.off + i * size, none⟩)) := by
  unfold lkIxSl; rw [hg, hi]; show (bif Nat.blt i n then _ else _) = _; rw [blt_iff.2 hlt]; rfl
theorem wrap64' {a : Int} (h1 : -9223372036854775808 ≤ a) (h2 : a ≤ 9223372036854775807) : IntKind.i64.wrap a = a := by
  have e : IntKind.i64.wrap a = if (true && decide (a % 18446744073709551616 ≥ (9223372036854775808 : Int))) = true then a % 18446744073709551616 - 18446744073709551616 else a % 18446744073709551616 := rfl
  rw [e]
  simp only [Bool.true_and, decide_eq_true_eq]
  split <;> omega
theorem l_addN {a b : Nat} (h1 : g t = .int .i64 (Int.ofNat a)) (h2 : g' t = .int .i64 (Int.ofNat b)) (hb : a + b ≤ 9223372036854775807) : lkBin .add g g' t h = some (.int .i64 (Int.ofNat (a + b))) := by
  rw [l_addI h1 h2 rfl, wrap64' (by show -9223372036854775808 ≤ (a : Int) + b; omega) (by show (a : Int) + b ≤ _; omega)]
  rfl
theorem l_subN {a b : Nat} (h1 : g t = .int .i64 (Int.ofNat a)) (h2 : g' t = .int .i64 (Int.ofNat b)) (hb : b ≤ a) (ha : a ≤ 9223372036854775807) : lkBin .sub g g' t h = some (.int .i64 (Int.ofNat (a - b))) := by
  rw [l_subI h1 h2 rfl, wrap64' (by show -9223372036854775808 ≤ (a : Int) - b; omega) (by show (a : Int) - b ≤ _; omega)]
  congr 2
  show (a : Int) - b = ((a - b : Nat) : Int)
  omega
theorem l_incN {a : Nat} (h1 : g t = .int .i64 (Int.ofNat a)) (h2 : g' t = .int .i64 (Int.ofNat 1)) (hb : a < 9223372036854775807) : lkBin .add g g' t h = some (.int .i64 (Int.ofNat (a + 1))) := l_addN h1 h2 (by omega)
theorem l_decN {a : Nat} (h1 : g t = .int .i64 (Int.ofNat a)) (h2 : g' t = .int .i64 (Int.ofNat 1)) (ha : 1 ≤ a) (hb : a ≤ 9223372036854775807) : lkBin .sub g g' t h = some (.int .i64 (Int.ofNat (a - 1))) := l_subN h1 h2 ha hb
end
end Go.Eng
namespace Go.Eng
set_option linter.unusedVariables false
section
variable {sg : Bool} {N : Tm → Aux → Heap → Prop} {X : Nat → Tm → Aux → Heap → Prop} {R : Tm → Aux → Heap → Prop} {c : Ctx} {t : Tm} {x : Aux} {h : Heap} {g g' : OpdF}
theorem exit_here {A B : Prop} {b : Bool} (hb : b = true) (h : A) : (bif b then A else B) := by rw [hb]; exact h
theorem wp_condT {a b : KB} {e : Bool} (hg : g t = .bool e) (he : e = true) (H : (a c t x h).Wp sg N X R) : (kCond g a b c t x h).Wp sg N X R := wp_cond hg (fun _ => H) (fun k => by rw [he] at k; cases k)
theorem wp_condF {a b : KB} {e : Bool} (hg : g t = .bool e) (he : e = false) (H : (b c t x h).Wp sg N X R) : (kCond g a b c t x h).Wp sg N X R := wp_cond hg (fun k => by rw [he] at k; cases k) (fun _ => H)
theorem wp_dMove {idx : Nat} {un pre : List Nat} {p : Value → Tm → Tm} {rest : KD} {log : List (Nat × LogE)} {v : Value} (hv : g t = v) (hu : unLook log (lkMove g) t v un = true)
    (H : (rest ((idx, .ld fun now => tellsAs (lkMove g t now) v) :: log) none c (p v t) x h).Wp sg N X R) : (dLook idx un pre (lkMove g) p rest log none c t x h).Wp sg N X R := wp_dLook (congrArg some hv) hu H
theorem Heap.get_put_ne {h : Heap} {r : Nat} {o : Option AObj} {b : Nat} (hb : b ≠ r) : (h.put r o).get b = h.get b := by rw [Heap.get_put, if_neg hb]
theorem Heap.get_put_eq (h : Heap) (r : Nat) (o : Option AObj) : (h.put r o).get r = o := by rw [Heap.get_put, if_pos rfl]
end
end Go.Eng
namespace Go.Eng
set_option linter.unusedVariables false
theorem ctx_fuel (E : Env) (n : Nat) : (ctx E n).fuel = n := by cases n <;> rfl
end Go.Eng
namespace Go.Eng
set_option linter.unusedVariables false
section
variable {c : Ctx} {t : Tm} {x : Aux} {h : Heap} {g g' : OpdF}
theorem Heap.store_of {b off n : Nat} {cs ys : List Value} (hb : h.get b = some (.cells true cs)) (hn : off + n ≤ cs.length) : h.store b off n ys = some (h.put b (some (.cells true (putAt ys off cs)))) := by
  unfold Heap.store
  rw [hb]
  show (bif Nat.ble (off + n) (lenL cs) then _ else _) = _
  rw [lenL_eq, ble_iff.2 hn]
  rfl
theorem tn_store {n : Nat} {a : Addr} {ys : List Value} {v : Value} {cs : List Value} (hg : g t = .pointer (some a)) (hv : g' t = v) (hy : cellsOf v = some ys) (hb : h.get a.block = some (.cells true cs)) (hl : ys.length = n) (hn : a.off + n ≤ cs.length) :
    tnStore n g g' t h = some (undef, h.put a.block (some (.cells true (putAt ys a.off cs)))) := by
  unfold tnStore
  rw [hg, hv, hy]
  show optV none _ (some a) = _
  show (bif Nat.beq (lenL ys) n then optV none (fun h' => some (undef, h')) (h.store a.block a.off n ys) else none) = _
  rw [lenL_eq, hl, Nat.beq_refl, Heap.store_of hb hn]
  rfl
end
section
variable {c : Ctx} {t : Tm} {x : Aux} {h : Heap} {g g' : OpdF}
theorem tn_append {size n : Nat} {s v : Value} {new : List Value} {r : Value × Heap} (hg : g t = s) (hv : g' t = v) (hl : lenV v = some n) (he : h.elems size n v = some new) (ha : h.appendL size s n new = some r) : tnAppend size g g' t h = some r := by
  unfold tnAppend Heap.append
  rw [hg, hv, hl]
  show (match h.elems size n v with
    | some new => h.appendL size s n new
    | none => none) = _
  rw [he]
  exact ha
end
theorem putAt_eq (ys xs : List Value) (n : Nat) (h : n + ys.length ≤ xs.length) : putAt ys n xs = xs.take n ++ (ys ++ xs.drop (n + ys.length)) := by
  induction n generalizing xs with
  | zero =>
    show over ys xs = _
    rw [List.take_zero, Nat.zero_add, List.nil_append]
    induction ys generalizing xs with
    | nil => rfl
    | cons y ys ih =>
      cases xs with
      | nil => simp at h
      | cons x xs =>
        show y :: over ys xs = _
        rw [ih xs (by simpa using h)]
        rfl
  | succ n ih =>
    cases xs with
    | nil => simp at h
    | cons x xs =>
      show x :: putAt ys n xs = _
      rw [ih xs (by simp at h ⊢; omega), show n + 1 + ys.length = (n + ys.length) + 1 by omega]
      rfl
end Go.Eng
namespace Go.Eng
set_option linter.unusedVariables false
section
variable {c : Ctx} {t : Tm} {x : Aux} {h : Heap} {g g' : OpdF}
theorem sliceOf_eq {size : Nat} {a : Option Addr} {cap l hi : Nat} (h1 : l ≤ hi) (h2 : hi ≤ cap) : sliceOf size a cap l hi cap false = match a with
    | none => some (.slice none (hi - l) (cap - l))
    | some a => bif Nat.beq cap l then some (.slice (some a) 0 0) else match a.spot with
      | none => some (.slice (some ⟨a.block, a.off + l * size, none⟩) (hi - l) (cap - l))
      | some z => bif Nat.beq z size then some (.slice (some ⟨a.block, a.off + l * size, some z⟩) (hi - l) (cap - l)) else none := by
  unfold sliceOf
  rw [ble_iff.2 h1, ble_iff.2 h2, show Nat.ble cap cap = true from ble_iff.2 (Nat.le_refl _)]
  rfl
end
end Go.Eng
namespace Go.Eng
set_option linter.unusedVariables false
/-- Memory has grown; what was there is there, but for the blocks S. -/
structure Ext (S : List Nat) (h h' : Heap) : Prop where
  next : h.next ≤ h'.next
  get : ∀ b, b < h.next → b ∉ S → h'.get b = h.get b
theorem Ext.refl (h : Heap) : Ext [] h h := ⟨Nat.le_refl _, fun _ _ _ => rfl⟩
theorem Ext.of {h h' : Heap} (k : h.Le h') : Ext [] h h' := ⟨k.next, fun b hb _ => k.get b hb⟩
theorem Ext.trans {S T : List Nat} {a b c : Heap} (k : Ext S a b) (l : Ext T b c) (q : ∀ s ∈ T, s ∈ S ∨ a.next ≤ s) : Ext S a c :=
  ⟨Nat.le_trans k.next l.next, fun x hx hs => (l.get x (Nat.lt_of_lt_of_le hx k.next) fun ht => (q x ht).elim hs fun h => absurd hx (Nat.not_lt.2 h)).trans (k.get x hx hs)⟩
theorem Ext.trans1 {a b c : Heap} {s : Nat} (k : Ext [] a b) (l : Ext [s] b c) (q : a.next ≤ s) : Ext [] a c := k.trans l fun x hx => by rw [List.mem_singleton] at hx; subst hx; exact .inr q
theorem Ext.same {a b c : Heap} {S : List Nat} (k : Ext S a b) (l : Ext S b c) : Ext S a c := k.trans l fun s hs => .inl hs
theorem Ext.mono {S T : List Nat} {a b : Heap} (k : Ext S a b) (q : ∀ s ∈ S, s ∈ T ∨ a.next ≤ s) : Ext T a b :=
  ⟨k.next, fun x hx hs => k.get x hx fun h => (q x h).elim hs fun h' => absurd hx (Nat.not_lt.2 h')⟩
theorem Ext.get0 {h h' : Heap} (k : Ext [] h h') {b : Nat} {o : Option AObj} (hb : b < h.next) (g : h.get b = o) : h'.get b = o := (k.get b hb (fun h => nomatch h)).trans g
theorem Ext.get1 {h h' : Heap} {s : Nat} (k : Ext [s] h h') {b : Nat} {o : Option AObj} (hb : b < h.next) (hs : b ≠ s) (g : h.get b = o) : h'.get b = o := (k.get b hb (fun h => hs (List.mem_singleton.1 h))).trans g
theorem Ext.getS {S : List Nat} {h h' : Heap} (k : Ext S h h') {b : Nat} {o : Option AObj} (hb : b < h.next) (hs : b ∉ S) (g : h.get b = o) : h'.get b = o := (k.get b hb hs).trans g
theorem Ext.push (h : Heap) (o : AObj) : Ext [] h (h.push o) := .of (Heap.Le.push h o)
theorem Ext.put (h : Heap) (b : Nat) (o : Option AObj) : Ext [b] h (h.put b o) := ⟨Nat.le_refl _, fun x _ hs => Heap.get_put_ne fun e => hs (List.mem_singleton.2 e)⟩
section
variable {sg : Bool} {N : Tm → Aux → Heap → Prop} {X : Nat → Tm → Aux → Heap → Prop} {R : Tm → Aux → Heap → Prop} {c : Ctx} {t : Tm} {x : Aux} {h : Heap} {g g' : OpdF}
theorem wp_dStoreE {idx : Nat} {un pre : List Nat} {w : Bool} {n : Nat} {b o : Nat} {sp : Option Nat} {ys : List Value} {v : Value} {cs : List Value} {p : Value → Tm → Tm} {rest : KD} {log : List (Nat × LogE)} (hg : g t = .pointer (some ⟨b, o, sp⟩)) (hv : g' t = v) (hy : cellsOf v = some ys) (hb : h.get b = some (.cells true cs)) (hl : ys.length = n) (hn : o + n ≤ cs.length) (hu : ∀ h', unTurn log h' un = true)
    (H : ∀ h', Ext [b] h h' → h'.next = h.next → h'.get b = some (.cells true (putAt ys o cs)) → (rest ((idx, .wr h) :: log) none c (p undef t) x h').Wp sg N X R) : (dTurn idx un pre w (xTurn (tnStore n g g')) p rest log none c t x h).Wp sg N X R :=
  wp_dTurn (tn_store (a := ⟨b, o, sp⟩) hg hv hy hb hl hn) (hu _) (H _ (.put _ _ _) rfl (Heap.get_put_eq _ _ _))
theorem readRes_nil {t : Tm} {h : Heap} : readRes [] [] t h = some [] := rfl
theorem readRes_cons {r : ResF} {rs : List ResF} {t : Tm} {h : Heap} {v vs : List Value} (h1 : r [] t h = some v) (h2 : readRes rs [] t h = some vs) : readRes (r :: rs) [] t h = some (app v vs) := by
  show (match r [] t h, readRes rs [] t h with
    | some v, some vs => some (app v vs)
    | _, _ => none) = _
  rw [h1, h2]
theorem r_tmp {n : Nat} {v : Value} (hg : g t = v) : rTmp n g [] t h = some [v] := by unfold rTmp; rw [hg]; rfl
end
end Go.Eng
namespace Go.Eng
set_option linter.unusedVariables false
section
variable {sg : Bool} {N : Tm → Aux → Heap → Prop} {X : Nat → Tm → Aux → Heap → Prop} {R : Tm → Aux → Heap → Prop} {c : Ctx} {t : Tm} {x : Aux} {h : Heap} {g g' : OpdF}
theorem l_gtrN {k k' : IntKind} {a b : Nat} (h1 : g t = .int k (Int.ofNat a)) (h2 : g' t = .int k' (Int.ofNat b)) (hk : sameKind k k' = true) : lkBin .gtr g g' t h = some (.bool (decide (b < a))) := by
  rw [l_gtrI h1 h2 hk]; exact congrArg (fun z => some (Value.bool z)) (decide_eq_decide.2 (by show (b : Int) < a ↔ _; omega))
theorem l_eqN {k k' : IntKind} {a b : Nat} (h1 : g t = .int k (Int.ofNat a)) (h2 : g' t = .int k' (Int.ofNat b)) (hk : sameKind k k' = true) : lkEq false .int g g' t h = some (.bool (decide (a = b))) := by
  rw [l_eqI h1 h2 hk]; exact congrArg (fun z => some (Value.bool z)) (decide_eq_decide.2 (by show (a : Int) = b ↔ _; omega))
theorem l_ixSlB {size n m b o : Nat} {sp : Option Nat} {i : Nat} {k : IntKind} (hg : g t = .slice (some ⟨b, o, sp⟩) n m) (hi : g' t = .int k (Int.ofNat i)) (hlt : i < n) : lkIxSl size g g' t h = some (.pointer (some ⟨b, o + i * size, none⟩)) := l_ixSl hg hi hlt
theorem fuel_big {E : Env} {n k : Nat} (hk : k < n) : k < (ctx E n).fuel := by rw [ctx_fuel]; exact hk
end
end Go.Eng
namespace Go.Eng
set_option linter.unusedVariables false
structure Slc (h : Heap) (z : Nat) (ao : Option Addr) (n ca : Nat) (cs : List Value) : Prop where
  len : cs.length = n * z
  cap : n ≤ ca
  nil : ao = none → ca = 0
  spot : ∀ a, ao = some a → ca = 0 ∨ a.spot = none ∨ a.spot = some z
  rd : ∀ a, ao = some a → ∃ w xs, h.get a.block = some (.cells w xs) ∧ a.block < h.next ∧ takeN (n * z) (dropN a.off xs) = some cs
theorem Slc.extS {h h' : Heap} {z : Nat} {ao : Option Addr} {n ca : Nat} {cs : List Value} (s : Slc h z ao n ca cs) {S : List Nat} (e : Ext S h h') (q : ∀ a, ao = some a → a.block ∉ S) : Slc h' z ao n ca cs :=
  ⟨s.len, s.cap, s.nil, s.spot, fun a ha => by
    obtain ⟨w, xs, h1, h2, h3⟩ := s.rd a ha
    exact ⟨w, xs, e.getS h2 (q a ha) h1, Nat.lt_of_lt_of_le h2 e.next, h3⟩⟩
theorem Slc.ext {h h' : Heap} {z : Nat} {ao : Option Addr} {n ca : Nat} {cs : List Value} (s : Slc h z ao n ca cs) (e : Ext [] h h') : Slc h' z ao n ca cs := s.extS e fun _ _ h => nomatch h
theorem Slc.ext1 {h h' : Heap} {z : Nat} {ao : Option Addr} {n ca : Nat} {cs : List Value} (s : Slc h z ao n ca cs) {b : Nat} (e : Ext [b] h h') (q : ∀ a, ao = some a → a.block ≠ b) : Slc h' z ao n ca cs := s.extS e fun a ha hm => q a ha (List.mem_singleton.1 hm)
theorem Slc.empty (h : Heap) (z : Nat) : Slc h z none 0 0 [] := ⟨by simp, Nat.le_refl _, fun _ => rfl, fun a h => (nomatch h), fun a h => (nomatch h)⟩
/-- One element of those that were taken. -/
theorem nth_take {xs cs : List Value} {o m i : Nat} (ht : takeN m (dropN o xs) = some cs) (hi : i < m) : nth (o + i) xs = cs[i]? := by
  rw [dropN_eq, takeN_eq] at ht
  split at ht
  · injection ht with ht
    subst ht
    rw [nth_eq, List.getElem?_take_of_lt hi, List.getElem?_drop]
  · cases ht
theorem take_take {xs cs : List Value} {o m i k : Nat} (ht : takeN m (dropN o xs) = some cs) (hi : i + k ≤ m) : takeN k (dropN (o + i) xs) = some ((cs.drop i).take k) := by
  rw [dropN_eq, takeN_eq] at ht ⊢
  split at ht
  · rename_i hl
    injection ht with ht
    subst ht
    rw [List.length_drop] at hl
    rw [if_pos (by rw [List.length_drop]; omega), List.drop_take, List.drop_drop, List.take_take]
    congr 2
    omega
  · cases ht
theorem takeN_app {n k : Nat} {a b c : List Value} (ha : a.length = k) (hb : b.length = n) : takeN n (dropN k (a ++ (b ++ c))) = some b := by
  rw [dropN_eq, takeN_eq, ← ha, List.drop_left, ← hb, if_pos (by simp), List.take_left]
theorem putAt_app {k : Nat} {a b ys c : List Value} (ha : a.length = k) (hy : ys.length = b.length) : putAt ys k (a ++ (b ++ c)) = a ++ (ys ++ c) := by
  rw [putAt_eq _ _ _ (by simp; omega), ← ha, List.take_left, hy, List.drop_append, List.drop_of_length_le (by omega)]
  simp
end Go.Eng
namespace Go.Eng
set_option linter.unusedVariables false
theorem beqN (a b : Nat) : Nat.beq a b = decide (a = b) := by
  by_cases e : a = b
  · rw [beq_iff.2 e]; simp [e]
  · rw [show Nat.beq a b = false from (by cases hb : Nat.beq a b; rfl; exact absurd (beq_iff.1 hb) e)]; simp [e]
theorem bleN (a b : Nat) : Nat.ble a b = decide (a ≤ b) := by
  by_cases e : a ≤ b
  · rw [ble_iff.2 e]; simp [e]
  · rw [show Nat.ble a b = false from (by cases hb : Nat.ble a b; rfl; exact absurd (ble_iff.1 hb) e)]; simp [e]
/-- A part of a block. -/
theorem Slc.of_part {h : Heap} {z b o n m : Nat} {w : Bool} {xs cs : List Value} (g : h.get b = some (.cells w xs)) (hb : b < h.next) (hl : cs.length = n * z) (hm : n ≤ m) (ht : takeN (n * z) (dropN o xs) = some cs) : Slc h z (some ⟨b, o, none⟩) n m cs :=
  ⟨hl, hm, fun e => (nomatch e), fun a e => by cases e; exact .inr (.inl rfl), fun a e => by cases e; exact ⟨w, xs, g, hb, ht⟩⟩
theorem Slc.elems {h : Heap} {z : Nat} {ao : Option Addr} {n ca : Nat} {cs : List Value} (s : Slc h z ao n ca cs) {k : Nat} (hk : k ≤ n) : h.elems z k (.slice ao n ca) = some (cs.take (k * z)) := by
  cases ao with
  | none =>
    have := s.nil rfl; have := s.cap
    have hn : n = 0 := by omega
    have hk0 : k = 0 := by omega
    subst hk0
    show (bif Nat.beq 0 0 then some [] else none) = _
    rw [Nat.zero_mul, List.take_zero]; rfl
  | some a =>
    obtain ⟨w, xs, h1, h2, h3⟩ := s.rd a rfl
    show h.load a.block a.off (k * z) = _
    refine Heap.load_of h1 ?_
    have := take_take (i := 0) (k := k * z) h3 (by rw [Nat.zero_add]; exact Nat.mul_le_mul_right z hk)
    rw [Nat.add_zero, List.drop_zero] at this
    exact this
/-- A part of a slice. -/
theorem Slc.sub {h : Heap} {z : Nat} {ao : Option Addr} {n ca : Nat} {cs : List Value} (s : Slc h z ao n ca cs) {l r : Nat} (h1 : l ≤ r) (h2 : r ≤ n) :
    ∃ ao' ca', sliceOf z ao ca l r ca false = some (.slice ao' (r - l) ca') ∧ Slc h z ao' (r - l) ca' ((cs.drop (l * z)).take ((r - l) * z)) ∧ ∀ a', ao' = some a' → ∃ a, ao = some a ∧ a'.block = a.block := by
  have hc := s.cap
  rw [sliceOf_eq h1 (by omega)]
  have hlen : ((cs.drop (l * z)).take ((r - l) * z)).length = (r - l) * z := by
    rw [List.length_take, List.length_drop, s.len]
    have : l * z + (r - l) * z ≤ n * z := by rw [← Nat.add_mul]; exact Nat.mul_le_mul_right z (by omega)
    omega
  cases ao with
  | none =>
    have hca := s.nil rfl
    refine ⟨none, ca - l, rfl, ⟨hlen, by omega, fun _ => by omega, fun a e => (nomatch e), fun a e => (nomatch e)⟩, fun a e => (nomatch e)⟩
  | some a =>
    dsimp only
    obtain ⟨w, xs, g1, g2, g3⟩ := s.rd a rfl
    have tk : takeN ((r - l) * z) (dropN (a.off + l * z) xs) = some ((cs.drop (l * z)).take ((r - l) * z)) := take_take g3 (by rw [← Nat.add_mul]; exact Nat.mul_le_mul_right z (by omega))
    by_cases hcl : ca = l
    · rw [beq_iff.2 hcl]
      have h0 : r - l = 0 := by omega
      refine ⟨some a, 0, by rw [h0]; rfl, ⟨hlen, by omega, fun e => (nomatch e), fun _ _ => .inl rfl, fun a' e => by
        cases e
        refine ⟨w, xs, g1, g2, ?_⟩
        have hcs : (cs.drop (l * z)).take ((r - l) * z) = [] := by rw [h0, Nat.zero_mul, List.take_zero]
        rw [hcs, h0, Nat.zero_mul]; rfl⟩, fun a' e => ⟨a, rfl, by cases e; rfl⟩⟩
    · rw [show Nat.beq ca l = false from by rw [beqN]; exact decide_eq_false hcl]
      have mk : ∀ sp, (sp = none ∨ sp = some z) → Slc h z (some ⟨a.block, a.off + l * z, sp⟩) (r - l) (ca - l) ((cs.drop (l * z)).take ((r - l) * z)) := fun sp hsp =>
        ⟨hlen, by omega, fun e => (nomatch e), fun a' e => by cases e; exact .inr hsp, fun a' e => by cases e; exact ⟨w, xs, g1, g2, tk⟩⟩
      rcases s.spot a rfl with e | e | e
      · omega
      · rw [e]; exact ⟨_, _, rfl, mk none (.inl rfl), fun a' e => ⟨a, rfl, by cases e; rfl⟩⟩
      · rw [e]
        refine ⟨_, _, ?_, mk (some z) (.inr rfl), fun a' e => ⟨a, rfl, by cases e; rfl⟩⟩
        show (bif Nat.beq z z then _ else _) = _
        rw [Nat.beq_refl]; rfl
section
variable {sg : Bool} {N : Tm → Aux → Heap → Prop} {X : Nat → Tm → Aux → Heap → Prop} {R : Tm → Aux → Heap → Prop} {c : Ctx} {t : Tm} {x : Aux} {h : Heap} {g g' : OpdF}
theorem l_sub {z : Nat} {ao : Option Addr} {n ca : Nat} {cs : List Value} (s : Slc h z ao n ca cs) {lo hi : Option OpdF} {l r : Nat} (hg : g t = .slice ao n ca) (hlo : optNat t 0 lo = some l) (hhi : optNat t n hi = some r) (h1 : l ≤ r) (h2 : r ≤ n) :
    ∃ ao' ca', lkSliceSl z g lo hi none t h = some (.slice ao' (r - l) ca') ∧ Slc h z ao' (r - l) ca' ((cs.drop (l * z)).take ((r - l) * z)) ∧ ∀ a', ao' = some a' → ∃ a, ao = some a ∧ a'.block = a.block := by
  obtain ⟨ao', ca', e, k⟩ := s.sub h1 h2
  refine ⟨ao', ca', ?_, k⟩
  unfold lkSliceSl
  rw [hg]
  dsimp only
  rw [hlo, hhi]
  exact e
theorem wp_sub {p : Value → Tm → Tm} {rest : KB} {z : Nat} {ao : Option Addr} {n ca : Nat} {cs : List Value} (s : Slc h z ao n ca cs) {lo hi : Option OpdF} {l r : Nat} (hg : g t = .slice ao n ca) (hlo : optNat t 0 lo = some l) (hhi : optNat t n hi = some r) (h1 : l ≤ r) (h2 : r ≤ n)
    (H : ∀ ao' ca', Slc h z ao' (r - l) ca' ((cs.drop (l * z)).take ((r - l) * z)) → (∀ a', ao' = some a' → ∃ a, ao = some a ∧ a'.block = a.block) → (rest c (p (.slice ao' (r - l) ca') t) x h).Wp sg N X R) : (oSet (xLook (lkSliceSl z g lo hi none)) p rest c t x h).Wp sg N X R := by
  obtain ⟨ao', ca', e, k1, k2⟩ := l_sub s hg hlo hhi h1 h2
  exact wp_look e (H ao' ca' k1 k2)
theorem tn_copyS {size : Nat} {d : Addr} {dl dc n ca k : Nat} {ao : Option Addr} {cs xs : List Value} (s : Slc h size ao n ca cs) (hg : g t = .slice (some d) dl dc) (hg' : g' t = .slice ao n ca) (hb : h.get d.block = some (.cells true xs)) (hk : k = min dl n) (hpos : 0 < k) (hfit : d.off + k * size ≤ xs.length) :
    tnCopy size g g' t h = some (.int .i64 (Int.ofNat k), h.put d.block (some (.cells true (putAt (cs.take (k * size)) d.off xs)))) := by
  have e : (bif Nat.ble n dl then n else dl) = k := by
    rw [bleN, hk]
    by_cases q : n ≤ dl
    · rw [decide_eq_true q, Nat.min_eq_right q]; rfl
    · rw [decide_eq_false q, Nat.min_eq_left (by omega)]; rfl
  unfold tnCopy
  rw [hg, hg']
  dsimp only [lenV]
  rw [e, s.elems (by omega)]
  dsimp only
  rw [show Nat.beq k 0 = false from by rw [beqN]; exact decide_eq_false (by omega)]
  show (match h.store d.block d.off (k * size) (cs.take (k * size)) with
        | some h' => some (Value.int .i64 (Int.ofNat k), h')
        | none => none) = _
  rw [Heap.store_of hb hfit]
theorem wp_dCopy {idx : Nat} {un pre : List Nat} {w : Bool} {p : Value → Tm → Tm} {rest : KD} {log : List (Nat × LogE)} {size : Nat} {b o : Nat} {sp : Option Nat} {dl dc n ca k : Nat} {ao : Option Addr} {cs xs : List Value} (s : Slc h size ao n ca cs) (hg : g t = .slice (some ⟨b, o, sp⟩) dl dc) (hg' : g' t = .slice ao n ca) (hb : h.get b = some (.cells true xs)) (hk : k = min dl n) (hpos : 0 < k) (hfit : o + k * size ≤ xs.length) (hu : ∀ h', unTurn log h' un = true)
    (H : ∀ h', Ext [b] h h' → h'.next = h.next → h'.get b = some (.cells true (putAt (cs.take (k * size)) o xs)) → (rest ((idx, .wr h) :: log) none c (p (.int .i64 (Int.ofNat k)) t) x h').Wp sg N X R) : (dTurn idx un pre w (xTurn (tnCopy size g g')) p rest log none c t x h).Wp sg N X R :=
  wp_dTurn (tn_copyS (d := ⟨b, o, sp⟩) s hg hg' hb hk hpos hfit) (hu _) (H _ (.put _ _ _) rfl (Heap.get_put_eq _ _ _))
theorem wp_copy {p : Value → Tm → Tm} {rest : KB} {size : Nat} {b o : Nat} {sp : Option Nat} {dl dc n ca k : Nat} {ao : Option Addr} {cs xs : List Value} (s : Slc h size ao n ca cs) (hg : g t = .slice (some ⟨b, o, sp⟩) dl dc) (hg' : g' t = .slice ao n ca) (hb : h.get b = some (.cells true xs)) (hk : k = min dl n) (hpos : 0 < k) (hfit : o + k * size ≤ xs.length)
    (H : ∀ h', Ext [b] h h' → h'.next = h.next → h'.get b = some (.cells true (putAt (cs.take (k * size)) o xs)) → (rest c (p (.int .i64 (Int.ofNat k)) t) x h').Wp sg N X R) : (oSet (xTurn (tnCopy size g g')) p rest c t x h).Wp sg N X R :=
  wp_turn (tn_copyS (d := ⟨b, o, sp⟩) s hg hg' hb hk hpos hfit) (H _ (.put _ _ _) rfl (Heap.get_put_eq _ _ _))
end
end Go.Eng
namespace Go.Eng
set_option linter.unusedVariables false
def qN : OpdF := kC (.slice none (nat_lit 0) (nat_lit 0))
def qZ : OpdF := kC (.int .i64 (.ofNat (nat_lit 0)))
def qO : OpdF := kC (.int .i64 (.ofNat (nat_lit 1)))
def qF (f : Nat) : OpdF := kC (.func (.func f) ⟨[]⟩ ⟨[]⟩)
noncomputable def insB (z : Nat) (zs : List Value) (fo fr : Nat) : KFun := ⟨[rTmp (nat_lit 6) g6], (kSeq (oSet (xMove qN) p6 
oEnd) (kSeq (oSet (xMove g0) p10 
(oSet (xMove g1) p11 
(oSet (xLook (lkSliceSl z g10 (some g11) none none)) p12 
oEnd))) (kSeq (oSet (xMove g2) p13 
(oSet (xLook (lkLen .sl g13)) p14 
(oSet (xMove g14) p7 
oEnd))) (kSeq (kSeq (oSet (xMove g7) p15 
(oSet (xLook (lkEq false .int g15 qZ)) p16 
oEnd)) (kCond g16 (kSeq (oSet (xMove g0) p17 
(oSet (xMove g17) p6 
oEnd)) kRet) kSkip)) (kSeq (oSet (xMove g0) p18 
(oSet (xLook (lkLen .sl g18)) p19 
(oSet (xMove g19) p8 
oEnd))) (kSeq (kSeq (oSet (xMove g1) p20 
(oSet (xMove g8) p21 
(oSet (xLook (lkEq false .int g20 g21)) p22 
oEnd))) (kCond g22 (kSeq (oSet (xMove g0) p23 
(oSet (xMove g2) p24 
(oSet (xTurn (tnAppend z g23 g24)) p25 
(oSet (xMove g25) p6 
oEnd)))) kRet) kSkip)) (kSeq (kSeq (oSet (xMove g8) p26 
(oSet (xMove g7) p27 
(oSet (xLook (lkBin .add g26 g27)) p28 
(oSet (xMove g0) p29 
(oSet (xLook (lkCap g29)) p30 
(oSet (xLook (lkBin .gtr g28 g30)) p31 
oEnd)))))) (kCond g31 (kSeq (oSet (xMove g0) p32 
(oSet (xMove g1) p33 
(oSet (xLook (lkSliceSl z g32 none (some g33) none)) p34 
(oSet (xMove g8) p35 
(oSet (xMove g7) p36 
(oSet (xLook (lkBin .add g35 g36)) p37 
(oSet (xMove g1) p38 
(oSet (xLook (lkBin .sub g37 g38)) p39 
(oSet (xTurn (tnAppendZ zs g34 g39)) p40 
(oSet (xMove g40) p9 
oEnd)))))))))) (kSeq (oSet (xMove g9) p41 
(oSet (xMove g1) p42 
(oSet (xLook (lkSliceSl z g41 (some g42) none none)) p43 
(oSet (xMove g2) p44 
(oSet (xTurn (tnCopy z g43 g44)) p45 
oEnd))))) (kSeq (kDraw 
(dLook (nat_lit 0) [] [] (lkMove g9) p46 
(dLook (nat_lit 1) [] [] (lkMove g1) p47 
(dLook (nat_lit 2) [] [] (lkMove g7) p48 
(dLook (nat_lit 3) [] [] (lkBin .add g47 g48) p49 
(dLook (nat_lit 4) [] [] (lkSliceSl z g46 (some g49) none none) p50 
(dLook (nat_lit 5) [] [] (lkMove g0) p51 
(dLook (nat_lit 6) [] [] (lkMove g1) p52 
(dLook (nat_lit 7) [] [] (lkSliceSl z g51 (some g52) none none) p53 
(dTurn (nat_lit 8) [] [] true (xTurn (tnCopy z g50 g53)) p54 (dEnd [(nat_lit 46), (nat_lit 47), (nat_lit 48), (nat_lit 49), (nat_lit 50), (nat_lit 51), (nat_lit 52), (nat_lit 53), (nat_lit 54)]))))))))))) (kSeq (oSet (xMove g9) p55 
(oSet (xMove g55) p6 
oEnd)) kRet)))) kSkip)) (kSeq (oSet (xMove g0) p56 
(oSet (xMove g8) p57 
(oSet (xMove g7) p58 
(oSet (xLook (lkBin .add g57 g58)) p59 
(oSet (xLook (lkSliceSl z g56 none (some g59) none)) p60 
(oSet (xMove g60) p0 
oEnd)))))) (kSeq (kSeq (oSet (xMove g2) p61 
(oSet (xMove g0) p62 
(oSet (xMove g1) p63 
(oSet (xMove g7) p64 
(oSet (xLook (lkBin .add g63 g64)) p65 
(oSet (xLook (lkSliceSl z g62 (some g65) none none)) p66 
(oSet (xCall (qF fo) [g61, g66]) p67 
(oSet (xLook (lkUn .not g67)) p68 
oEnd)))))))) (kCond g68 (kSeq (kDraw 
(dLook (nat_lit 0) [] [] (lkMove g0) p69 
(dLook (nat_lit 1) [] [] (lkMove g1) p70 
(dLook (nat_lit 2) [] [] (lkMove g7) p71 
(dLook (nat_lit 3) [] [] (lkBin .add g70 g71) p72 
(dLook (nat_lit 4) [] [] (lkSliceSl z g69 (some g72) none none) p73 
(dLook (nat_lit 5) [] [] (lkMove g0) p74 
(dLook (nat_lit 6) [] [] (lkMove g1) p75 
(dLook (nat_lit 7) [] [] (lkSliceSl z g74 (some g75) none none) p76 
(dTurn (nat_lit 8) [] [] true (xTurn (tnCopy z g73 g76)) p77 (dEnd [(nat_lit 69), (nat_lit 70), (nat_lit 71), (nat_lit 72), (nat_lit 73), (nat_lit 74), (nat_lit 75), (nat_lit 76), (nat_lit 77)]))))))))))) (kSeq (oSet (xMove g0) p78 
(oSet (xMove g1) p79 
(oSet (xLook (lkSliceSl z g78 (some g79) none none)) p80 
(oSet (xMove g2) p81 
(oSet (xTurn (tnCopy z g80 g81)) p82 
oEnd))))) (kSeq (oSet (xMove g0) p83 
(oSet (xMove g83) p6 
oEnd)) kRet))) kSkip)) (kSeq (oSet (xMove g0) p84 
(oSet (xMove g8) p85 
(oSet (xLook (lkSliceSl z g84 (some g85) none none)) p86 
(oSet (xMove g2) p87 
(oSet (xTurn (tnCopy z g86 g87)) p88 
oEnd))))) (kSeq (oSet (xMove g0) p89 
(oSet (xMove g1) p90 
(oSet (xLook (lkSliceSl z g89 (some g90) none none)) p91 
(oSet (xMove g7) p92 
(oSet (xCall (qF fr) [g91, g92]) p93 
oEnd))))) (kSeq (oSet (xMove g0) p94 
(oSet (xMove g94) p6 
oEnd)) kRet))))))))))))⟩
noncomputable def rotR (fl : Nat) : KFun := ⟨[], (oSet (xMove g0) p4 
(oSet (xMove g0) p5 
(oSet (xLook (lkLen .sl g5)) p6 
(oSet (xMove g1) p7 
(oSet (xLook (lkBin .sub g6 g7)) p8 
(oSet (xCall (qF fl) [g4, g8]) p9 
oEnd))))))⟩
noncomputable def rotL (z fv : Nat) : KFun := ⟨[], (kSeq (oSet (xMove g0) p4 
(oSet (xMove g1) p5 
(oSet (xLook (lkSliceSl z g4 none (some g5) none)) p6 
(oSet (xCall (qF fv) [g6]) p7 
oEnd)))) (kSeq (oSet (xMove g0) p8 
(oSet (xMove g1) p9 
(oSet (xLook (lkSliceSl z g8 (some g9) none none)) p10 
(oSet (xCall (qF fv) [g10]) p11 
oEnd)))) (oSet (xMove g0) p12 
(oSet (xCall (qF fv) [g12]) p13 
oEnd))))⟩
noncomputable def revB (z : Nat) (ld : OpdF → Look) : KFun := ⟨[], (kSeq (oSet (xMove g0) p4 
(oSet (xLook (lkLen .sl g4)) p5 
(oSet (xLook (lkBin .sub g5 qO)) p6 
(oSet (xMove qZ) p2 
(oSet (xMove g6) p3 
oEnd))))) (kBlock (nat_lit 0) (kLoop (kSeq (kSeq (oSet (xMove g2) p7 
(oSet (xMove g3) p8 
(oSet (xLook (lkBin .lss g7 g8)) p9 
oEnd))) (kCond g9 kSkip (kExit (nat_lit 0)))) (kSeq (kBlock (nat_lit 1) (kDraw 
(dLook (nat_lit 0) [] [] (lkMove g0) p14 
(dLook (nat_lit 1) [] [] (lkMove g2) p15 
(dLook (nat_lit 2) [] [] (lkMove g0) p16 
(dLook (nat_lit 3) [] [] (lkMove g3) p17 
(dLook (nat_lit 4) [] [] (lkMove g0) p18 
(dLook (nat_lit 5) [] [] (lkMove g3) p19 
(dLook (nat_lit 6) [] [] (lkIxSl z g18 g19) p20 
(dLook (nat_lit 7) [] [] (ld g20) p21 
(dLook (nat_lit 8) [] [] (lkMove g0) p22 
(dLook (nat_lit 9) [] [] (lkMove g2) p23 
(dLook (nat_lit 10) [] [] (lkIxSl z g22 g23) p24 
(dLook (nat_lit 11) [] [] (ld g24) p25 
(dLook (nat_lit 12) [] [] (lkIxSl z g14 g15) p26 
(dTurn (nat_lit 13) [] [] true (xTurn (tnStore z g26 g21)) noDst 
(dLook (nat_lit 14) [] [(nat_lit 13)] (lkIxSl z g16 g17) p27 
(dTurn (nat_lit 15) [] [(nat_lit 13)] true (xTurn (tnStore z g27 g25)) noDst (dEnd [(nat_lit 14), (nat_lit 15), (nat_lit 16), (nat_lit 17), (nat_lit 18), (nat_lit 19), (nat_lit 20), (nat_lit 21), (nat_lit 22), (nat_lit 23), (nat_lit 24), (nat_lit 25), (nat_lit 26), (nat_lit 27)]))))))))))))))))))) (oSet (xMove g2) p10 
(oSet (xLook (lkBin .add g10 qO)) p11 
(oSet (xMove g3) p12 
(oSet (xLook (lkBin .sub g12 qO)) p13 
(oSet (xMove g11) p2 
(oSet (xMove g13) p3 
oEnd)))))))))))⟩
end Go.Eng
namespace Go.Eng
set_option linter.unusedVariables false
set_option linter.unusedSimpArgs false
/-- A look that tells the z cells at a pointer as one value. -/
def LdOK (z : Nat) (ld : OpdF → Look) : Prop := ∀ (g : OpdF) (t : Tm) (h : Heap) (b o : Nat) (sp : Option Nat) (w : Bool) (xs c : List Value), g t = .pointer (some ⟨b, o, sp⟩) → h.get b = some (.cells w xs) → takeN z (dropN o xs) = some c → (∀ x ∈ c, flat1 x) → ∃ v, ld g t h = some v ∧ cellsOf v = some c
theorem ldN_ok (z : Nat) : LdOK z (lkLoadN z) := fun g t h b o sp w xs c hg hb ht _ => ⟨.agg ⟨c⟩, lkLoadN_of hg (Heap.load_of hb ht), rfl⟩
theorem ld1_ok : LdOK 1 lkLoad1 := fun g t h b o sp w xs c hg hb ht hf => by
  have hl := (takeN_get ht).1
  obtain ⟨x, rfl⟩ : ∃ x, c = [x] := by
    match c, hl with
    | [x], _ => exact ⟨x, rfl⟩
  have hx := hf x (by simp)
  refine ⟨x, lkLoad1_of hg (Heap.load1_of hb ?_), ?_⟩
  · have := nth_take (i := 0) ht (by decide)
    exact this
  · cases x <;> first | rfl | exact hx.elim
theorem wp_dLd {z : Nat} {ld : OpdF → Look} (hld : LdOK z ld) {sg : Bool} {N : Tm → Aux → Heap → Prop} {X : Nat → Tm → Aux → Heap → Prop} {R : Tm → Aux → Heap → Prop} {cc : Ctx} {t : Tm} {x : Aux} {h : Heap} {g : OpdF} {idx : Nat} {pre : List Nat} {p : Value → Tm → Tm} {rest : KD} {log : List (Nat × LogE)} {b o : Nat} {sp : Option Nat} {w : Bool} {xs c : List Value}
    (hg : g t = .pointer (some ⟨b, o, sp⟩)) (hb : h.get b = some (.cells w xs)) (ht : takeN z (dropN o xs) = some c) (hf : ∀ x ∈ c, flat1 x)
    (H : ∀ v log, cellsOf v = some c → (rest log none cc (p v t) x h).Wp sg N X R) : (dLook idx [] pre (ld g) p rest log none cc t x h).Wp sg N X R := by
  obtain ⟨v, h1, h2⟩ := hld g t h b o sp w xs c hg hb ht hf
  exact wp_dLook h1 rfl (H v _ h2)
/-- Elements of z cells each. -/
def Els (z : Nat) (es : List (List Value)) : Prop := ∀ e ∈ es, e.length = z ∧ ∀ x ∈ e, flat1 x
theorem Els.app {z : Nat} {a b : List (List Value)} (h : Els z (a ++ b)) : Els z a ∧ Els z b := ⟨fun e he => h e (List.mem_append_left _ he), fun e he => h e (List.mem_append_right _ he)⟩
theorem Els.len {z : Nat} {es : List (List Value)} (h : Els z es) : es.flatten.length = es.length * z := by
  induction es with
  | nil => simp
  | cons e es ih =>
    rw [List.flatten_cons, List.length_append, (h e (by simp)).1, ih fun e he => h e (by simp [he]), List.length_cons, Nat.succ_mul]
    omega
theorem Els.rev {z : Nat} {es : List (List Value)} (h : Els z es) : Els z es.reverse := fun e he => h e (List.mem_reverse.1 he)
theorem ends_two {α : Type} {M : List α} (h : 2 ≤ M.length) : ∃ x M' y, M = x :: (M' ++ [y]) := by
  match M, h with
  | x :: M1, h =>
    have hne : M1 ≠ [] := by intro e; subst e; simp at h
    exact ⟨x, M1.dropLast, M1.getLast hne, by rw [List.dropLast_concat_getLast]⟩
set_option maxRecDepth 100000 in
theorem revB_ok {E : Env} {sg : Bool} {z : Nat} {ld : OpdF → Look} (hld : LdOK z ld) (m : Nat) (h : Heap) (b o ca n : Nat) (sp : Option Nat) (P T : List Value) (es : List (List Value)) (hes : Els z es) (hn : es.length = n) (hP : P.length = o) (hg : h.get b = some (.cells true (P ++ (es.flatten ++ T)))) (hb : b < h.next) (hn8 : n < 100000000) (hm : 100000000 ≤ m) :
    (enterK E (ctx E m) (revB z ld) [.slice (some ⟨b, o, sp⟩) n ca] h).Wp sg fun v h' => v = .tuple ⟨[]⟩ ∧ Ext [b] h h' ∧ h'.next = h.next ∧ h'.get b = some (.cells true (P ++ (es.reverse.flatten ++ T))) := by
  unfold revB
  refine wp_fn (Nat.le_of_ble_eq_true rfl) ?_
  dsimp only
  refine wp_seq ?_
  refine wp_move (by conv => lhs; whnf) ?_
  refine wp_look (l_lenSl rfl) ?_
  refine wp_look (l_subI rfl rfl rfl) ?_
  refine wp_move (by conv => lhs; whnf) ?_
  refine wp_move (by conv => lhs; whnf) ?_
  refine wp_end ?_
  refine wp_block ?_
  have w0 : IntKind.i64.wrap ((n : Int) - Int.ofNat 1) = Int.ofNat n - 1 - Int.ofNat 0 := (wrap64' (by show _ ≤ (n : Int) - (1 : Nat); omega) (by show (n : Int) - (1 : Nat) ≤ _; omega)).trans (by show (n : Int) - (1 : Nat) = (n : Int) - 1 - (0 : Nat); omega)
  refine wp_loop (fun k t x h' => ∃ i A M C, k + i = n ∧ es = A ++ (M ++ C) ∧ A.length = i ∧ C.length = i ∧ (g0 t = (.slice (some ⟨b, o, sp⟩) n ca) ∧ g2 t = (.int .i64 (Int.ofNat i)) ∧ g3 t = (.int .i64 (Int.ofNat n - 1 - Int.ofNat i))) ∧ x.defers = [] ∧ Ext [b] h h' ∧ h'.next = h.next ∧ h'.get b = some (.cells true (P ++ (C.reverse.flatten ++ (M.flatten ++ (A.reverse.flatten ++ T)))))) n ⟨0, [], es, [], rfl, by simp, rfl, rfl, ⟨rfl, rfl, congrArg (Value.int .i64) w0⟩, rfl, (Ext.refl h).mono (fun s hs => nomatch hs), rfl, by simpa using hg⟩ (fuel_big (by omega)) ?_
  rintro k t x h1 ⟨i, A, M, C, hk, hE, hA, hC, ⟨r0, r2, r3⟩, hx, e1, n1, g1⟩
  obtain ⟨t0, rfl⟩ : ∃ t0, t = p0 (.slice (some ⟨b, o, sp⟩) n ca) (p2 (.int .i64 (Int.ofNat i)) (p3 (.int .i64 (Int.ofNat n - 1 - Int.ofNat i)) t0)) := ⟨t, (show t = p0 (g0 t) (p2 (g2 t) (p3 (g3 t) t)) from rfl).trans (by rw [r0, r2, r3])⟩
  clear r0 r2 r3
  have hlen : 2 * i + M.length = n := by rw [← hn, hE]; simp; omega
  refine wp_seq ?_
  refine wp_seq ?_
  refine wp_move (by conv => lhs; whnf) ?_
  refine wp_move (by conv => lhs; whnf) ?_
  refine wp_look (l_lssI rfl rfl rfl) ?_
  refine wp_end ?_
  by_cases hlt : i < n - 1 - i
  · have hd : decide (Int.ofNat i < Int.ofNat n - 1 - Int.ofNat i) = true := decide_eq_true (by show (i : Int) < (n : Int) - 1 - (i : Nat); omega)
    refine wp_cond rfl (fun _ => ?_) (fun e => by rw [hd] at e; cases e)
    obtain ⟨u, M', y, rfl⟩ := ends_two (M := M) (by omega)
    have hj : Int.ofNat n - 1 - Int.ofNat i = Int.ofNat (n - 1 - i) := by show (n : Int) - 1 - (i : Nat) = ((n - 1 - i : Nat) : Int); omega
    rw [hj]
    have hEu : Els z (u :: (M' ++ [y])) := by
      have := hes; rw [hE] at this; exact this.app.2.app.1
    obtain ⟨lu, fu⟩ := hEu u (by simp)
    obtain ⟨ly, fy⟩ := hEu y (by simp)
    have lM : M'.flatten.length = M'.length * z := Els.len fun e he => hEu e (by simp [he])
    have lC : C.reverse.flatten.length = i * z := by
      rw [Els.len (z := z) fun e he => hes e (by rw [hE]; simp [List.mem_reverse.1 he]), List.length_reverse, hC]
    have hq : n - 1 - i = i + 1 + M'.length := by simp at hlen; omega
    have hoff : o + (n - 1 - i) * z = (P ++ C.reverse.flatten).length + z + M'.flatten.length := by
      rw [hq, Nat.add_mul, Nat.add_mul, Nat.one_mul, List.length_append, lC, lM, hP]; omega
    have hoi : o + i * z = (P ++ C.reverse.flatten).length := by rw [List.length_append, lC, hP]
    have g1' : h1.get b = some (.cells true ((P ++ C.reverse.flatten) ++ (u ++ (M'.flatten ++ (y ++ (A.reverse.flatten ++ T)))))) := by
      rw [g1]; simp
    generalize hW : P ++ C.reverse.flatten = W at g1' hoff hoi
    have ty : takeN z (dropN (o + (n - 1 - i) * z) (W ++ (u ++ (M'.flatten ++ (y ++ (A.reverse.flatten ++ T)))))) = some y := by
      have := takeN_app (n := z) (k := o + (n - 1 - i) * z) (a := W ++ (u ++ M'.flatten)) (b := y) (c := A.reverse.flatten ++ T) (by rw [hoff]; simp; omega) ly
      rw [← this]; simp
    have tu : takeN z (dropN (o + i * z) (W ++ (u ++ (M'.flatten ++ (y ++ (A.reverse.flatten ++ T)))))) = some u := takeN_app hoi.symm lu
    refine wp_skip ?_
    refine wp_seq ?_
    refine wp_block ?_
    refine wp_draw ?_
    refine wp_dMove (by conv => lhs; whnf) rfl ?_
    refine wp_dMove (by conv => lhs; whnf) rfl ?_
    refine wp_dMove (by conv => lhs; whnf) rfl ?_
    refine wp_dMove (by conv => lhs; whnf) rfl ?_
    refine wp_dMove (by conv => lhs; whnf) rfl ?_
    refine wp_dMove (by conv => lhs; whnf) rfl ?_
    refine wp_dLook (l_ixSlB rfl rfl (by omega)) rfl ?_
    refine wp_dLd hld rfl g1' ty fy (fun vy log cy => ?_)
    refine wp_dMove (by conv => lhs; whnf) rfl ?_
    refine wp_dMove (by conv => lhs; whnf) rfl ?_
    refine wp_dLook (l_ixSlB rfl rfl (by omega)) rfl ?_
    refine wp_dLd hld rfl g1' tu fu (fun vu log cu => ?_)
    refine wp_dLook (l_ixSlB rfl rfl (by omega)) rfl ?_
    refine wp_dStoreE rfl rfl cy g1' ly (by rw [hoi]; simp; omega) (fun _ => rfl) (fun h2 e2 n2 g2 => ?_)
    rw [hoi, putAt_app rfl (by omega)] at g2
    have g2' : h2.get b = some (.cells true ((W ++ (y ++ M'.flatten)) ++ (y ++ (A.reverse.flatten ++ T)))) := by rw [g2]; simp
    refine wp_dLook (l_ixSlB rfl rfl (by omega)) rfl ?_
    refine wp_dStoreE rfl rfl cu g2' lu (by rw [hoff]; simp; omega) (fun _ => rfl) (fun h3 e3 n3 g3 => ?_)
    rw [hoff, putAt_app (by simp; omega) (by omega)] at g3
    refine wp_dEnd ?_
    refine wp_move (by conv => lhs; whnf) ?_
    refine wp_look (l_incN rfl rfl (by omega)) ?_
    refine wp_move (by conv => lhs; whnf) ?_
    refine wp_look (l_decN rfl rfl (by omega) (by omega)) ?_
    refine wp_move (by conv => lhs; whnf) ?_
    refine wp_move (by conv => lhs; whnf) ?_
    refine wp_end ?_
    refine ⟨k - 1, by omega, i + 1, A ++ [u], M', y :: C, by omega, by rw [hE]; simp, by simp [hA], by simp [hC], ⟨rfl, rfl, ?_⟩, hx, (e1.same e2).same e3, by rw [n3, n2, n1], ?_⟩
    · show Go.Eng.g3 (Go.Eng.p3 _ _) = _
      refine congrArg (Value.int .i64) ?_
      show ((n - 1 - i - 1 : Nat) : Int) = (n : Int) - 1 - ((i + 1 : Nat) : Int)
      omega
    · rw [g3, ← hW]; simp
  · have hd : decide (Int.ofNat i < Int.ofNat n - 1 - Int.ofNat i) = false := decide_eq_false (by show ¬ ((i : Int) < (n : Int) - 1 - (i : Nat)); omega)
    refine wp_cond rfl (fun e => by rw [hd] at e; cases e) (fun _ => ?_)
    refine wp_exit ?_
    refine exit_here rfl ?_
    have hM : M.reverse = M := by
      match M, hlen with
      | [], _ => rfl
      | [x], _ => rfl
      | x :: y :: M, hl => simp at hl; omega
    exact ⟨hx, _, readRes_nil, rfl, e1, n1, by rw [g1, hE]; simp [hM]⟩
end Go.Eng
namespace Go.Eng
set_option linter.unusedVariables false
set_option linter.unusedSimpArgs false
/-- A part of a slice whose capacity is known. -/
theorem l_subX {t : Tm} {h : Heap} {g : OpdF} {z b o n ca : Nat} {lo hi : Option OpdF} {l r : Nat} (hg : g t = .slice (some ⟨b, o, none⟩) n ca) (hlo : optNat t 0 lo = some l) (hhi : optNat t n hi = some r) (h1 : l ≤ r) (h2 : r ≤ ca) (h3 : l < ca) : lkSliceSl z g lo hi none t h = some (.slice (some ⟨b, o + l * z, none⟩) (r - l) (ca - l)) := by
  unfold lkSliceSl
  rw [hg]
  dsimp only
  rw [hlo, hhi]
  show sliceOf z (some ⟨b, o, none⟩) ca l r ca false = _
  rw [sliceOf_eq h1 h2]
  dsimp only
  rw [show Nat.beq ca l = false from by rw [beqN]; exact decide_eq_false (by omega)]
  rfl
section
variable {E : Env} {sg : Bool} {z fv fl : Nat} {ld : OpdF → Look} (hld : LdOK z ld) (sv : E.sum fv = none) (ev : E.fn fv = some (revB z ld)) (sl : E.sum fl = none) (el : E.fn fl = some (rotL z fv))
include hld sv ev
set_option maxRecDepth 100000 in
theorem rotL_ok (m : Nat) (h : Heap) (b o ca n r : Nat) (P T : List Value) (A B : List (List Value)) (hA : Els z A) (hB : Els z B) (hr : A.length = r) (hn : r + B.length = n) (hP : P.length = o) (hg : h.get b = some (.cells true (P ++ (A.flatten ++ (B.flatten ++ T))))) (hb : b < h.next) (hrn : r < n) (hn8 : n < 100000000) (hc : n ≤ ca) (hm : 100000000 ≤ m) :
    (enterK E (ctx E (m + 1)) (rotL z fv) [.slice (some ⟨b, o, none⟩) n ca, .int .i64 (Int.ofNat r)] h).Wp sg fun v h' => v = .tuple ⟨[]⟩ ∧ Ext [b] h h' ∧ h'.next = h.next ∧ h'.get b = some (.cells true (P ++ (B.flatten ++ (A.flatten ++ T)))) := by
  unfold rotL
  refine wp_fn (Nat.le_of_ble_eq_true rfl) ?_
  dsimp only
  refine wp_seq ?_
  refine wp_look (l_subX (l := 0) (r := r) rfl rfl rfl (by omega) (by omega) (by omega)) ?_
  rw [show o + 0 * z = o by omega, show r - 0 = r by omega, show ca - 0 = ca by omega]
  refine wp_callIn (wp_func rfl (wp_enter sv ev (revB_ok hld m h b o ca r none P (B.flatten ++ T) A hA hr hP hg hb (by omega) hm))) ?_
  rintro v h1 ⟨rfl, e1, n1, g1⟩
  refine wp_end ?_
  refine wp_seq ?_
  refine wp_move (by conv => lhs; whnf) ?_
  refine wp_move (by conv => lhs; whnf) ?_
  refine wp_look (l_subX (l := r) (r := n) rfl rfl rfl (by omega) (by omega) (by omega)) ?_
  have lA := hA.rev.len
  rw [List.length_reverse, hr] at lA
  refine wp_callIn (wp_func rfl (wp_enter sv ev (revB_ok hld m h1 b (o + r * z) (ca - r) (n - r) none (P ++ A.reverse.flatten) T B hB (by omega) (by rw [List.length_append, hP, lA]) (by rw [g1]; simp) (by omega) (by omega) hm))) ?_
  rintro v h2 ⟨rfl, e2, n2, g2⟩
  refine wp_end ?_
  refine wp_move (by conv => lhs; whnf) ?_
  refine wp_callIn (wp_func rfl (wp_enter sv ev (revB_ok hld m h2 b o ca n none P T (A.reverse ++ B.reverse) (fun e he => by
    rcases List.mem_append.1 he with h | h
    · exact hA.rev e h
    · exact hB.rev e h) (by simp; omega) hP (by rw [g2]; simp) (by omega) (by omega) hm))) ?_
  rintro v h3 ⟨rfl, e3, n3, g3⟩
  refine wp_end ?_
  exact ⟨rfl, _, readRes_nil, rfl, (e1.same e2).same e3, by omega, by rw [g3]; simp⟩
include sl el
set_option maxRecDepth 100000 in
theorem rotR_ok (m : Nat) (h : Heap) (b o ca n r : Nat) (P T : List Value) (A B : List (List Value)) (hA : Els z A) (hB : Els z B) (hr : B.length = r) (hn : A.length + r = n) (hP : P.length = o) (hg : h.get b = some (.cells true (P ++ (A.flatten ++ (B.flatten ++ T))))) (hb : b < h.next) (hr0 : 0 < r) (hn8 : n < 100000000) (hc : n ≤ ca) (hm : 100000000 ≤ m) :
    (enterK E (ctx E (m + 2)) (rotR fl) [.slice (some ⟨b, o, none⟩) n ca, .int .i64 (Int.ofNat r)] h).Wp sg fun v h' => v = .tuple ⟨[]⟩ ∧ Ext [b] h h' ∧ h'.next = h.next ∧ h'.get b = some (.cells true (P ++ (B.flatten ++ (A.flatten ++ T)))) := by
  unfold rotR
  refine wp_fn (Nat.le_of_ble_eq_true rfl) ?_
  dsimp only
  refine wp_move (by conv => lhs; whnf) ?_
  refine wp_move (by conv => lhs; whnf) ?_
  refine wp_look (l_lenSl rfl) ?_
  refine wp_move (by conv => lhs; whnf) ?_
  refine wp_look (l_subN rfl rfl (by omega) (by omega)) ?_
  refine wp_callIn (wp_func rfl (wp_enter sl el (rotL_ok hld sv ev m h b o ca n (n - r) P T A B hA hB (by omega) (by omega) hP hg hb (by omega) hn8 hc hm))) ?_
  rintro v h3 ⟨rfl, e3, n3, g3⟩
  refine wp_end ?_
  exact ⟨rfl, _, readRes_nil, rfl, e3, n3, g3⟩
end
end Go.Eng
namespace Go.Eng
set_option linter.unusedVariables false
set_option linter.unusedSimpArgs false
/-- Do two slices overlap? Of two blocks: it can't be told, whatever is answered is taken. -/
noncomputable def ovEr (z : Nat) (x y : Value) (h : Heap) : Er := match x, y with
  | .slice (some a) la _, .slice (some b) lb _ => match h.get a.block, h.get b.block with
    | some (.cells _ xa), some (.cells true xb) => bif !(Nat.beq a.block b.block) && (Nat.ble (a.off + la * z) (lenL xa) && (Nat.ble (b.off + lb * z) (lenL xb) && Nat.blt 0 (lb * z))) then .any 2 (fun i => .ret (.bool (Nat.beq i 1)) h) else .fail "overlaps"
    | _, _ => .fail "overlaps"
  | _, _ => .fail "overlaps"
noncomputable def insCall (z fo : Nat) (c : Ctx) (f : Value) (args : List Value) (h : Heap) : Er := match f, args with
  | .func (.func g) ⟨[]⟩ ⟨[]⟩, [x, y] => bif Nat.beq g fo then ovEr z x y h else c.call f args h
  | _, _ => c.call f args h
noncomputable def insCtx (z fo : Nat) (c : Ctx) : Ctx := ⟨insCall z fo c, c.inv, c.nilOk, c.fuel⟩
theorem insCtx_ov {z fo : Nat} {c : Ctx} {b o lb cb : Nat} {sp : Option Nat} {a : Addr} {la ca : Nat} {xa xb : List Value} {wa : Bool} {h : Heap} (ha : h.get a.block = some (.cells wa xa)) (hb : h.get b = some (.cells true xb)) (hne : a.block ≠ b) (h1 : a.off + la * z ≤ xa.length) (h2 : o + lb * z ≤ xb.length) (h3 : 0 < lb * z) :
    ((insCtx z fo c).call (.func (.func fo) ⟨[]⟩ ⟨[]⟩) [.slice (some a) la ca, .slice (some ⟨b, o, sp⟩) lb cb] h).Wp false fun v h' => h' = h ∧ ∃ r, v = .bool r := by
  show (bif Nat.beq fo fo then ovEr z _ _ h else _).Wp false _
  rw [Nat.beq_refl, cond_true]
  unfold ovEr
  dsimp only
  rw [ha, hb]
  dsimp only
  have : (!(Nat.beq a.block b) && (Nat.ble (a.off + la * z) (lenL xa) && (Nat.ble (o + lb * z) (lenL xb) && Nat.blt 0 (lb * z)))) = true := by
    rw [beqN, decide_eq_false hne, lenL_eq, lenL_eq, ble_iff.2 h1, ble_iff.2 h2, blt_iff.2 h3]; rfl
  rw [this]
  exact ⟨rfl, fun i _ => ⟨rfl, _, rfl⟩⟩
theorem insCtx_rot {z fo f : Nat} {c : Ctx} {x y : Value} {h : Heap} {Q : Value → Heap → Prop} (hne : f ≠ fo) (H : (c.call (.func (.func f) ⟨[]⟩ ⟨[]⟩) [x, y] h).Wp false Q) : ((insCtx z fo c).call (.func (.func f) ⟨[]⟩ ⟨[]⟩) [x, y] h).Wp false Q := by
  show (bif Nat.beq f fo then ovEr z _ _ h else c.call (.func (.func f) ⟨[]⟩ ⟨[]⟩) [x, y] h).Wp false Q
  rw [beqN, decide_eq_false hne]
  exact H
theorem l_capX {t : Tm} {h : Heap} {g : OpdF} {b o n ca : Nat} (hg : g t = .slice (some ⟨b, o, none⟩) n ca) : lkCap g t h = some (.int .i64 (Int.ofNat ca)) := by unfold lkCap; rw [hg]
section
variable {E : Env} {z fo fr fv fl : Nat} {zs : List Value} {ld : OpdF → Look} (hz : 0 < z) (hld : LdOK z ld) (sv : E.sum fv = none) (ev : E.fn fv = some (revB z ld)) (sl : E.sum fl = none) (el : E.fn fl = some (rotL z fv)) (sr : E.sum fr = none) (er : E.fn fr = some (rotR fl)) (hro : fr ≠ fo)
include hz hld sv ev sl el sr er hro
set_option maxRecDepth 100000 in
set_option maxHeartbeats 1000000 in
theorem insA_ok (d : Nat) (h : Heap) (b o ca n i k m : Nat) (va : Addr) (vc : Nat) (P A G T : List Value) (Bs Vs : List (List Value)) (hBs : Els z Bs) (hVs : Els z Vs) (hk : Bs.length = k) (hv : Vs.length = m) (hn : i + k = n) (hk0 : 0 < k) (hm0 : 0 < m) (hA : A.length = i * z) (hG : G.length = m * z) (hP : P.length = o)
    (hg : h.get b = some (.cells true (P ++ (A ++ (Bs.flatten ++ (G ++ T)))))) (hb : b < h.next) (hc : n + m ≤ ca) (hn8 : n + m < 1000000) (sV : Slc h z (some va) m vc Vs.flatten) (hvb : va.block ≠ b) (hd : 100000000 ≤ d) :
    (enterK E (insCtx z fo (ctx E (d + 3))) (insB z zs fo fr) [.slice (some ⟨b, o, none⟩) n ca, .int .i64 (Int.ofNat i), .slice (some va) m vc] h).Wp false fun v h' => v = .slice (some ⟨b, o, none⟩) (n + m) ca ∧ Ext [b] h h' ∧ h'.next = h.next ∧ h'.get b = some (.cells true (P ++ (A ++ (Vs.flatten ++ (Bs.flatten ++ T))))) := by
  unfold insB
  refine wp_fn (Nat.le_of_ble_eq_true rfl) ?_
  dsimp only
  refine wp_seq ?_
  refine wp_move (by conv => lhs; whnf) ?_
  refine wp_end ?_
  refine wp_seq ?_
  refine wp_move (by conv => lhs; whnf) ?_
  refine wp_move (by conv => lhs; whnf) ?_
  refine wp_look (l_subX (l := i) (r := n) rfl rfl rfl (by omega) (by omega) (by omega)) ?_
  refine wp_end ?_
  refine wp_seq ?_
  refine wp_move (by conv => lhs; whnf) ?_
  refine wp_look (l_lenSl rfl) ?_
  refine wp_move (by conv => lhs; whnf) ?_
  refine wp_end ?_
  refine wp_seq ?_
  refine wp_seq ?_
  refine wp_move (by conv => lhs; whnf) ?_
  refine wp_look (l_eqN rfl rfl rfl) ?_
  refine wp_end ?_
  refine wp_condF rfl (by simp only [decide_eq_false_iff_not, Bool.not_eq_false', decide_eq_true_eq, Bool.and_eq_false_iff, Bool.or_eq_false_iff]; omega) ?_
  refine wp_skip ?_
  refine wp_seq ?_
  refine wp_move (by conv => lhs; whnf) ?_
  refine wp_look (l_lenSl rfl) ?_
  refine wp_move (by conv => lhs; whnf) ?_
  refine wp_end ?_
  refine wp_seq ?_
  refine wp_seq ?_
  refine wp_move (by conv => lhs; whnf) ?_
  refine wp_move (by conv => lhs; whnf) ?_
  refine wp_look (l_eqN rfl rfl rfl) ?_
  refine wp_end ?_
  refine wp_condF rfl (decide_eq_false (by omega)) ?_
  refine wp_skip ?_
  refine wp_seq ?_
  refine wp_seq ?_
  refine wp_move (by conv => lhs; whnf) ?_
  refine wp_move (by conv => lhs; whnf) ?_
  refine wp_look (l_addN rfl rfl (by omega)) ?_
  refine wp_move (by conv => lhs; whnf) ?_
  refine wp_look rfl ?_
  refine wp_look (l_gtrN rfl rfl rfl) ?_
  refine wp_end ?_
  refine wp_condF rfl (decide_eq_false (by omega)) ?_
  refine wp_skip ?_
  refine wp_seq ?_
  refine wp_move (by conv => lhs; whnf) ?_
  refine wp_move (by conv => lhs; whnf) ?_
  refine wp_move (by conv => lhs; whnf) ?_
  refine wp_look (l_addN rfl rfl (by omega)) ?_
  refine wp_look (l_subX (l := 0) (r := n + m) rfl rfl rfl (by omega) (by omega) (by omega)) ?_
  rw [show o + 0 * z = o by omega, show n + m - 0 = n + m by omega, show ca - 0 = ca by omega]
  refine wp_move (by conv => lhs; whnf) ?_
  refine wp_end ?_
  refine wp_seq ?_
  refine wp_seq ?_
  refine wp_move (by conv => lhs; whnf) ?_
  refine wp_move (by conv => lhs; whnf) ?_
  refine wp_move (by conv => lhs; whnf) ?_
  refine wp_move (by conv => lhs; whnf) ?_
  refine wp_look (l_addN rfl rfl (by omega)) ?_
  refine wp_look (l_subX (l := i + m) (r := n + m) rfl rfl rfl (by omega) (by omega) (by omega)) ?_
  have lB := hBs.len
  have lV := hVs.len
  rw [hk] at lB
  rw [hv] at lV
  obtain ⟨wv, xv, gv, nv, tv⟩ := sV.rd va rfl
  have lxv : va.off + m * z ≤ xv.length := by
    rw [dropN_eq, takeN_eq] at tv
    split at tv
    · rename_i q
      rw [List.length_drop] at q
      have : 0 < m * z := Nat.mul_pos hm0 hz
      omega
    · cases tv
  have e1 : n + m - (i + m) = k := by omega
  have hkz : 0 < k * z := Nat.mul_pos hk0 hz
  rw [e1]
  refine wp_callIn (insCtx_ov gv hg hvb lxv (by simp only [List.length_append, hA, hG, hP, lB]; rw [Nat.add_mul]; omega) hkz) ?_
  rintro v h' ⟨rfl, r, rfl⟩
  have e2 : n + m - i = k + m := by omega
  have hoA : o + i * z = (P ++ A).length := by rw [List.length_append, hP, hA]
  refine wp_look (l_not rfl) ?_
  cases r with
  | false =>
    refine wp_end ?_
    refine wp_condT rfl rfl ?_
    refine wp_seq ?_
    refine wp_draw ?_
    refine wp_dMove (by conv => lhs; whnf) rfl ?_
    refine wp_dMove (by conv => lhs; whnf) rfl ?_
    refine wp_dMove (by conv => lhs; whnf) rfl ?_
    refine wp_dLook (l_addN rfl rfl (by omega)) rfl ?_
    refine wp_dLook (l_subX (l := i + m) (r := n + m) rfl rfl rfl (by omega) (by omega) (by omega)) rfl ?_
    rw [e1]
    refine wp_dMove (by conv => lhs; whnf) rfl ?_
    refine wp_dMove (by conv => lhs; whnf) rfl ?_
    refine wp_dLook (l_subX (l := i) (r := n + m) rfl rfl rfl (by omega) (by omega) (by omega)) rfl ?_
    rw [e2]
    have sB : Slc h' z (some ⟨b, o + i * z, none⟩) (k + m) (ca - i) (Bs.flatten ++ G) := by
      refine .of_part hg hb (by rw [List.length_append, lB, hG, Nat.add_mul]) (by omega) ?_
      have := takeN_app (n := (k + m) * z) (k := o + i * z) (a := P ++ A) (b := Bs.flatten ++ G) (c := T) hoA.symm (by rw [List.length_append, lB, hG, Nat.add_mul])
      rw [← this]; simp
    refine wp_dCopy (k := k) sB rfl rfl hg (by omega) hk0 (by simp only [List.length_append, hA, hG, hP, lB]; rw [Nat.add_mul]; omega) (fun _ => rfl) (fun h1 E1 n1 g1 => ?_)
    have hXY : Bs.flatten ++ (G ++ T) = (Bs.flatten ++ G).take (m * z) ++ ((Bs.flatten ++ G).drop (m * z) ++ T) := by rw [← List.append_assoc, ← List.append_assoc, List.take_append_drop]
    have lX : ((Bs.flatten ++ G).take (m * z)).length = m * z := by rw [List.length_take, List.length_append, lB, hG]; omega
    have lY : ((Bs.flatten ++ G).drop (m * z)).length = k * z := by rw [List.length_drop, List.length_append, lB, hG]; omega
    have tB : (Bs.flatten ++ G).take (k * z) = Bs.flatten := by rw [← lB, List.take_left]
    have g1' : h1.get b = some (.cells true ((P ++ A) ++ ((Bs.flatten ++ G).take (m * z) ++ (Bs.flatten ++ T)))) := by
      rw [g1, tB, hXY]
      have := putAt_app (k := o + (i + m) * z) (a := (P ++ A) ++ (Bs.flatten ++ G).take (m * z)) (b := (Bs.flatten ++ G).drop (m * z)) (ys := Bs.flatten) (c := T) (by rw [List.length_append, lX, ← hoA, Nat.add_mul]; omega) (by omega)
      simp only [List.append_assoc] at this ⊢
      rw [this]
    refine wp_dEnd ?_
    refine wp_seq ?_
    refine wp_move (by conv => lhs; whnf) ?_
    refine wp_move (by conv => lhs; whnf) ?_
    refine wp_look (l_subX (l := i) (r := n + m) rfl rfl rfl (by omega) (by omega) (by omega)) ?_
    rw [e2]
    refine wp_move (by conv => lhs; whnf) ?_
    refine wp_copy (k := m) (sV.ext1 E1 fun a e => by cases e; exact hvb) rfl rfl g1' (by omega) hm0 (by simp only [List.length_append, hA, hP, lB, lX]; omega) (fun h2 E2 n2 g2 => ?_)
    have g2' : h2.get b = some (.cells true (P ++ (A ++ (Vs.flatten ++ (Bs.flatten ++ T))))) := by
      rw [g2, show Vs.flatten.take (m * z) = Vs.flatten by rw [← lV, List.take_length], putAt_app hoA.symm (by omega)]; simp
    refine wp_end ?_
    refine wp_seq ?_
    refine wp_move (by conv => lhs; whnf) ?_
    refine wp_move (by conv => lhs; whnf) ?_
    refine wp_end ?_
    refine wp_ret ?_
    exact ⟨rfl, _, readRes_cons (r_tmp rfl) readRes_nil, rfl, E1.same E2, by omega, g2'⟩
  | true =>
    refine wp_end ?_
    refine wp_condF rfl rfl ?_
    refine wp_skip ?_
    refine wp_seq ?_
    refine wp_move (by conv => lhs; whnf) ?_
    refine wp_move (by conv => lhs; whnf) ?_
    refine wp_look (l_subX (l := n) (r := n + m) rfl rfl rfl (by omega) (by omega) (by omega)) ?_
    rw [show n + m - n = m by omega]
    refine wp_move (by conv => lhs; whnf) ?_
    refine wp_copy (k := m) sV rfl rfl hg (by omega) hm0 (by simp only [List.length_append, hA, hP, lB, hG]; rw [← hn, Nat.add_mul]; omega) (fun h1 E1 n1 g1 => ?_)
    have g1' : h1.get b = some (.cells true ((P ++ A) ++ (Bs.flatten ++ (Vs.flatten ++ T)))) := by
      rw [g1, show Vs.flatten.take (m * z) = Vs.flatten by rw [← lV, List.take_length]]
      have := putAt_app (k := o + n * z) (a := P ++ (A ++ Bs.flatten)) (b := G) (ys := Vs.flatten) (c := T) (by simp only [List.length_append, hA, hP, lB]; rw [← hn, Nat.add_mul]) (by omega)
      simp only [List.append_assoc] at this ⊢
      rw [this]
    refine wp_end ?_
    refine wp_seq ?_
    refine wp_move (by conv => lhs; whnf) ?_
    refine wp_move (by conv => lhs; whnf) ?_
    refine wp_look (l_subX (l := i) (r := n + m) rfl rfl rfl (by omega) (by omega) (by omega)) ?_
    rw [e2]
    refine wp_move (by conv => lhs; whnf) ?_
    refine wp_callIn (insCtx_rot hro (wp_func rfl (wp_enter sr er (rotR_ok hld sv ev sl el d h1 b (o + i * z) (ca - i) (k + m) m (P ++ A) T Bs Vs hBs hVs hv (by omega) hoA.symm g1' (by omega) hm0 (by omega) (by omega) hd)))) ?_
    rintro v h2 ⟨rfl, E2, n2, g2⟩
    refine wp_end ?_
    refine wp_seq ?_
    refine wp_move (by conv => lhs; whnf) ?_
    refine wp_move (by conv => lhs; whnf) ?_
    refine wp_end ?_
    refine wp_ret ?_
    exact ⟨rfl, _, readRes_cons (r_tmp rfl) readRes_nil, rfl, E1.same E2, by omega, by rw [g2]; simp⟩
end
end Go.Eng
namespace Go.Eng
set_option linter.unusedVariables false
set_option linter.unusedSimpArgs false
/-- A part of a slice whose capacity is known from below. -/
theorem l_subS {t : Tm} {h : Heap} {g : OpdF} {z b o n ca : Nat} {lo hi : Option OpdF} {l r : Nat} (hg : g t = .slice (some ⟨b, o, some z⟩) n ca) (hlo : optNat t 0 lo = some l) (hhi : optNat t n hi = some r) (h1 : l ≤ r) (h2 : r ≤ ca) (h3 : l < ca) : lkSliceSl z g lo hi none t h = some (.slice (some ⟨b, o + l * z, some z⟩) (r - l) (ca - l)) := by
  unfold lkSliceSl
  rw [hg]
  dsimp only
  rw [hlo, hhi]
  show sliceOf z (some ⟨b, o, some z⟩) ca l r ca false = _
  rw [sliceOf_eq h1 h2]
  dsimp only
  rw [show Nat.beq ca l = false from by rw [beqN]; exact decide_eq_false (by omega)]
  show (bif Nat.beq z z then _ else _) = _
  rw [Nat.beq_refl]; rfl
/-- Zero values are appended: a new row. -/
theorem tn_appendZ {t : Tm} {h : Heap} {g g' : OpdF} {zs : List Value} {z b o i ca q : Nat} {A : List Value} (hzs : zs.length = z) (hg : g t = .slice (some ⟨b, o, none⟩) i ca) (hg' : g' t = .int .i64 (Int.ofNat q)) (hl : h.load b o (i * z) = some A) (hq : q < 1000000) (hi : i + q < 100000000) (hc : ca < i + q) :
    tnAppendZ zs g g' t h = some (.slice (some ⟨h.next, 0, some z⟩) (i + q) (i + q), h.push (.cells true (A ++ rep zs q))) := by
  unfold tnAppendZ
  rw [hg, hg']
  show (bif Nat.blt q 1000000 then h.appendL (lenL zs) _ q (rep zs q) else none) = _
  rw [blt_iff.2 hq, lenL_eq, hzs, cond_true]
  unfold Heap.appendL
  dsimp only
  rw [show Nat.mul i z = i * z from rfl, hl]
  dsimp only
  rw [show Nat.add i q = i + q from rfl, blt_iff.2 hi, bleN, decide_eq_false (show ¬ (i + q ≤ ca) by omega), app_eq]
  rfl
theorem rep_lengthZ {zs : List Value} {z : Nat} (hzs : zs.length = z) (q : Nat) : (rep zs q).length = q * z := by
  induction q with
  | zero => rw [Nat.zero_mul]; rfl
  | succ q ih =>
    show (app zs (rep zs q)).length = _
    rw [app_eq, List.length_append, ih, hzs, Nat.succ_mul]; omega
section
variable {E : Env} {sg : Bool} {z fo fr : Nat} {zs : List Value}
set_option maxRecDepth 100000 in
/-- Nothing is laid in. -/
theorem ins0_ok (c : Ctx) (h : Heap) (ao : Option Addr) (n ca i : Nat) (cs : List Value) (v : Value) (s : Slc h z ao n ca cs) (hi : i ≤ n) (bo : Option Addr) (vc : Nat) (hv : v = .slice bo 0 vc) :
    (enterK E c (insB z zs fo fr) [.slice ao n ca, .int .i64 (Int.ofNat i), v] h).Wp sg fun v h' => v = .slice ao n ca ∧ h' = h := by
  subst hv
  unfold insB
  refine wp_fn (Nat.le_of_ble_eq_true rfl) ?_
  dsimp only
  refine wp_seq ?_
  refine wp_move (by conv => lhs; whnf) ?_
  refine wp_end ?_
  refine wp_seq ?_
  refine wp_move (by conv => lhs; whnf) ?_
  refine wp_move (by conv => lhs; whnf) ?_
  refine wp_sub (l := i) (r := n) s rfl rfl rfl hi (Nat.le_refl _) fun ao' ca' _ _ => ?_
  refine wp_end ?_
  refine wp_seq ?_
  refine wp_move (by conv => lhs; whnf) ?_
  refine wp_look (l_lenSl rfl) ?_
  refine wp_move (by conv => lhs; whnf) ?_
  refine wp_end ?_
  refine wp_seq ?_
  refine wp_seq ?_
  refine wp_move (by conv => lhs; whnf) ?_
  refine wp_look (l_eqN rfl rfl rfl) ?_
  refine wp_end ?_
  refine wp_condT rfl rfl ?_
  refine wp_seq ?_
  refine wp_move (by conv => lhs; whnf) ?_
  refine wp_move (by conv => lhs; whnf) ?_
  refine wp_end ?_
  refine wp_ret ?_
  exact ⟨rfl, _, readRes_cons (r_tmp rfl) readRes_nil, rfl, rfl⟩
set_option maxRecDepth 100000 in
/-- At the end: it is appended. -/
theorem insE_ok (c : Ctx) (h h2 : Heap) (ao bo : Option Addr) (n ca m vc : Nat) (cs vs : List Value) (r : Value) (s : Slc h z ao n ca cs) (hm : 0 < m) (he : h.elems z m (.slice bo m vc) = some vs) (ha : h.appendL z (.slice ao n ca) m vs = some (r, h2)) :
    (enterK E c (insB z zs fo fr) [.slice ao n ca, .int .i64 (Int.ofNat n), .slice bo m vc] h).Wp sg fun v h' => v = r ∧ h' = h2 := by
  unfold insB
  refine wp_fn (Nat.le_of_ble_eq_true rfl) ?_
  dsimp only
  refine wp_seq ?_
  refine wp_move (by conv => lhs; whnf) ?_
  refine wp_end ?_
  refine wp_seq ?_
  refine wp_move (by conv => lhs; whnf) ?_
  refine wp_move (by conv => lhs; whnf) ?_
  refine wp_sub (l := n) (r := n) s rfl rfl rfl (Nat.le_refl _) (Nat.le_refl _) fun ao' ca' _ _ => ?_
  refine wp_end ?_
  refine wp_seq ?_
  refine wp_move (by conv => lhs; whnf) ?_
  refine wp_look (l_lenSl rfl) ?_
  refine wp_move (by conv => lhs; whnf) ?_
  refine wp_end ?_
  refine wp_seq ?_
  refine wp_seq ?_
  refine wp_move (by conv => lhs; whnf) ?_
  refine wp_look (l_eqN rfl rfl rfl) ?_
  refine wp_end ?_
  refine wp_condF rfl (by simp only [decide_eq_false_iff_not, Bool.not_eq_false', decide_eq_true_eq, Bool.and_eq_false_iff, Bool.or_eq_false_iff]; omega) ?_
  refine wp_skip ?_
  refine wp_seq ?_
  refine wp_move (by conv => lhs; whnf) ?_
  refine wp_look (l_lenSl rfl) ?_
  refine wp_move (by conv => lhs; whnf) ?_
  refine wp_end ?_
  refine wp_seq ?_
  refine wp_seq ?_
  refine wp_move (by conv => lhs; whnf) ?_
  refine wp_move (by conv => lhs; whnf) ?_
  refine wp_look (l_eqN rfl rfl rfl) ?_
  refine wp_end ?_
  refine wp_condT rfl (decide_eq_true (by omega)) ?_
  refine wp_seq ?_
  refine wp_move (by conv => lhs; whnf) ?_
  refine wp_move (by conv => lhs; whnf) ?_
  refine wp_turn (tn_append rfl rfl rfl he ha) ?_
  refine wp_move (by conv => lhs; whnf) ?_
  refine wp_end ?_
  refine wp_ret ?_
  exact ⟨rfl, _, readRes_cons (r_tmp rfl) readRes_nil, rfl, rfl⟩
set_option maxRecDepth 100000 in
set_option maxHeartbeats 1000000 in
/-- No room: a new row. -/
theorem insB_ok (c : Ctx) (hz : 0 < z) (h : Heap) (b o ca n i k m : Nat) (va : Addr) (vc : Nat) (A B V : List Value) (w : Bool) (xs : List Value) (hzs : zs.length = z) (hn : i + k = n) (hk0 : 0 < k) (hm0 : 0 < m) (hA : A.length = i * z) (hB : B.length = k * z) (hV : V.length = m * z)
    (hg : h.get b = some (.cells w xs)) (ht : takeN (n * z) (dropN o xs) = some (A ++ B)) (hb : b < h.next) (hc : n ≤ ca) (hc2 : ca < n + m) (hn8 : n + m < 1000000) (sV : Slc h z (some va) m vc V) :
    (enterK E c (insB z zs fo fr) [.slice (some ⟨b, o, none⟩) n ca, .int .i64 (Int.ofNat i), .slice (some va) m vc] h).Wp sg fun v h' => v = .slice (some ⟨h.next, 0, some z⟩) (n + m) (n + m) ∧ Ext [] h h' ∧ h'.next = h.next + 1 ∧ h'.get h.next = some (.cells true (A ++ (V ++ B))) := by
  unfold insB
  refine wp_fn (Nat.le_of_ble_eq_true rfl) ?_
  dsimp only
  refine wp_seq ?_
  refine wp_move (by conv => lhs; whnf) ?_
  refine wp_end ?_
  refine wp_seq ?_
  refine wp_move (by conv => lhs; whnf) ?_
  refine wp_move (by conv => lhs; whnf) ?_
  refine wp_look (l_subX (l := i) (r := n) rfl rfl rfl (by omega) (by omega) (by omega)) ?_
  refine wp_end ?_
  refine wp_seq ?_
  refine wp_move (by conv => lhs; whnf) ?_
  refine wp_look (l_lenSl rfl) ?_
  refine wp_move (by conv => lhs; whnf) ?_
  refine wp_end ?_
  refine wp_seq ?_
  refine wp_seq ?_
  refine wp_move (by conv => lhs; whnf) ?_
  refine wp_look (l_eqN rfl rfl rfl) ?_
  refine wp_end ?_
  refine wp_condF rfl (by simp only [decide_eq_false_iff_not, Bool.not_eq_false', decide_eq_true_eq, Bool.and_eq_false_iff, Bool.or_eq_false_iff]; omega) ?_
  refine wp_skip ?_
  refine wp_seq ?_
  refine wp_move (by conv => lhs; whnf) ?_
  refine wp_look (l_lenSl rfl) ?_
  refine wp_move (by conv => lhs; whnf) ?_
  refine wp_end ?_
  refine wp_seq ?_
  refine wp_seq ?_
  refine wp_move (by conv => lhs; whnf) ?_
  refine wp_move (by conv => lhs; whnf) ?_
  refine wp_look (l_eqN rfl rfl rfl) ?_
  refine wp_end ?_
  refine wp_condF rfl (decide_eq_false (by omega)) ?_
  refine wp_skip ?_
  refine wp_seq ?_
  refine wp_seq ?_
  refine wp_move (by conv => lhs; whnf) ?_
  refine wp_move (by conv => lhs; whnf) ?_
  refine wp_look (l_addN rfl rfl (by omega)) ?_
  refine wp_move (by conv => lhs; whnf) ?_
  refine wp_look rfl ?_
  refine wp_look (l_gtrN rfl rfl rfl) ?_
  refine wp_end ?_
  refine wp_condT rfl (decide_eq_true (by omega)) ?_
  refine wp_seq ?_
  refine wp_move (by conv => lhs; whnf) ?_
  refine wp_move (by conv => lhs; whnf) ?_
  refine wp_look (l_subX (l := 0) (r := i) rfl rfl rfl (by omega) (by omega) (by omega)) ?_
  rw [show o + 0 * z = o by omega, show i - 0 = i by omega, show ca - 0 = ca by omega]
  refine wp_move (by conv => lhs; whnf) ?_
  refine wp_move (by conv => lhs; whnf) ?_
  refine wp_look (l_addN rfl rfl (by omega)) ?_
  refine wp_move (by conv => lhs; whnf) ?_
  refine wp_look (l_subN rfl rfl (by omega) (by omega)) ?_
  have hnz : n * z = i * z + k * z := by rw [← hn, Nat.add_mul]
  have hload : h.load b o (i * z) = some A := Heap.load_of hg (by
    have := take_take (i := 0) (k := i * z) ht (by omega)
    rw [Nat.add_zero, List.drop_zero, ← hA, List.take_left] at this
    rw [← hA]; exact this)
  have lR := rep_lengthZ hzs (n + m - i)
  have hq : i + (n + m - i) = n + m := by omega
  refine wp_turn (tn_appendZ hzs rfl rfl hload (by omega) (by omega) (by omega)) ?_
  rw [hq]
  generalize rep zs (n + m - i) = Z at lR
  have E1 := Ext.push h (.cells true (A ++ Z))
  have G1 := Heap.get_new h (.cells true (A ++ Z))
  have N1 : (h.push (.cells true (A ++ Z))).next = h.next + 1 := rfl
  generalize h.push (.cells true (A ++ Z)) = h1 at E1 G1 N1
  have e2 : n + m - i = k + m := by omega
  rw [e2, Nat.add_mul] at lR
  refine wp_move (by conv => lhs; whnf) ?_
  refine wp_end ?_
  refine wp_seq ?_
  refine wp_move (by conv => lhs; whnf) ?_
  refine wp_move (by conv => lhs; whnf) ?_
  refine wp_look (l_subS (l := i) (r := n + m) rfl rfl rfl (by omega) (by omega) (by omega)) ?_
  rw [e2, Nat.zero_add]
  refine wp_move (by conv => lhs; whnf) ?_
  have g1' : h1.get h.next = some (.cells true (A ++ (Z.take (m * z) ++ (Z.drop (m * z) ++ [])))) := by rw [G1]; simp
  have lX : (Z.take (m * z)).length = m * z := by rw [List.length_take]; omega
  have lY : (Z.drop (m * z)).length = k * z := by rw [List.length_drop]; omega
  refine wp_copy (k := m) (sV.ext E1) rfl rfl G1 (by omega) hm0 (by rw [List.length_append]; omega) (fun h2 E2 n2 g2 => ?_)
  have g2' : h2.get h.next = some (.cells true ((A ++ V) ++ (Z.drop (m * z) ++ []))) := by
    rw [g2, show V.take (m * z) = V by rw [← hV, List.take_length]]
    have := putAt_app (k := i * z) (a := A) (b := Z.take (m * z)) (ys := V) (c := Z.drop (m * z)) hA (by omega)
    rw [List.take_append_drop] at this
    rw [this]; simp
  refine wp_end ?_
  refine wp_seq ?_
  refine wp_draw ?_
  refine wp_dMove (by conv => lhs; whnf) rfl ?_
  refine wp_dMove (by conv => lhs; whnf) rfl ?_
  refine wp_dMove (by conv => lhs; whnf) rfl ?_
  refine wp_dLook (l_addN rfl rfl (by omega)) rfl ?_
  refine wp_dLook (l_subS (l := i + m) (r := n + m) rfl rfl rfl (by omega) (by omega) (by omega)) rfl ?_
  rw [show n + m - (i + m) = k by omega, Nat.zero_add]
  refine wp_dMove (by conv => lhs; whnf) rfl ?_
  refine wp_dMove (by conv => lhs; whnf) rfl ?_
  refine wp_dLook (l_subX (l := i) (r := n) rfl rfl rfl (by omega) (by omega) (by omega)) rfl ?_
  rw [show n - i = k by omega]
  have hbN : b ≠ h.next := by omega
  have gb2 : h2.get b = some (.cells w xs) := E2.get1 (by omega) hbN (E1.get0 hb hg)
  have sB : Slc h2 z (some ⟨b, o + i * z, none⟩) k (ca - i) B := by
    refine .of_part gb2 (by omega) hB (by omega) ?_
    have := take_take (i := i * z) (k := k * z) ht (by omega)
    rw [this, ← hA, List.drop_left, ← hB, List.take_length]
  refine wp_dCopy (k := k) sB rfl rfl g2' (by omega) hk0 (by simp only [List.length_append, hA, hV, lY, List.length_nil]; rw [Nat.add_mul]; omega) (fun _ => rfl) (fun h3 E3 n3 g3 => ?_)
  have g3' : h3.get h.next = some (.cells true (A ++ (V ++ B))) := by
    rw [g3, show B.take (k * z) = B by rw [← hB, List.take_length], putAt_app (by rw [List.length_append, hA, hV, Nat.add_mul]) (by omega)]; simp
  refine wp_dEnd ?_
  refine wp_seq ?_
  refine wp_move (by conv => lhs; whnf) ?_
  refine wp_move (by conv => lhs; whnf) ?_
  refine wp_end ?_
  refine wp_ret ?_
  exact ⟨rfl, _, readRes_cons (r_tmp rfl) readRes_nil, rfl, (E1.trans1 E2 (Nat.le_refl _)).trans1 E3 (Nat.le_refl _), by omega, g3'⟩
end
end Go.Eng
namespace Go.Eng
set_option linter.unusedVariables false
set_option linter.unusedSimpArgs false
/-! ### Memory that tells the same -/
theorem ObjRel.congr {P : Program} {B : Nat} {ι : Inj} {H H' : Heap} {w : World} {p : Place} {o : AObj} (hg : ∀ b, H'.get b = H.get b) (h : ObjRel P B ι H w p o) : ObjRel P B ι H' w p o := by
  cases o with
  | miter m ver left last =>
    unfold ObjRel at h ⊢
    simp only [hg]
    exact h
  | _ => exact h
theorem Sim.congr {P : Program} {B : Nat} {ι : Inj} {H H' : Heap} {w : World} (s : Sim P B ι H w) (hn : H'.next = H.next) (hg : ∀ b, H'.get b = H.get b) : Sim P B ι H' w :=
  ⟨fun b p o h1 h2 => (s.obj b p o h1 (by rw [← hg]; exact h2)).congr hg, fun b b' p p' o o' h0 h1 h2 h3 h4 => s.apart b b' p p' o o' h0 h1 h2 (by rw [← hg]; exact h3) (by rw [← hg]; exact h4), fun b p h => by rw [hn]; exact s.bound b p h, s.lt, fun b h => by rw [hg]; exact s.blank b (by rw [← hn]; exact h), s.base⟩
theorem Adv.congr {ι ι' : Inj} {H H1 H' : Heap} {w w' : World} (a : Adv ι H w ι' H1 w') (hn : H'.next = H1.next) (hg : ∀ b, H'.get b = H1.get b) : Adv ι H w ι' H' w' :=
  ⟨a.le, a.os, a.tape, a.output, a.size, by rw [hn]; exact a.next, a.img, a.keep, fun b h1 h2 => by rw [hg]; exact a.out b h1 h2, fun b o h1 h2 => a.back b o h1 (by rw [← hg]; exact h2)⟩
/-! ### Do they overlap? Whatever is answered -/
theorem shape_of {w : World} {b i : Nat} (h : CellOK w ⟨b, i, none⟩) : ∃ e k, w.shape? b = some (e, k) := by
  obtain ⟨v, h1, _⟩ := h
  unfold World.cell? at h1
  split at h1
  · rename_i ys t fr hk
    exact ⟨t, ys.size, by unfold World.shape?; rw [hk]⟩
  · cases h1
theorem run_stringish {P : Program} {w : World} {x : Addr} {e : TypeId} {k : Nat} (h : w.shape? x.block = some (e, k)) : (stringish x).run P w = .ok (w.frozen? x || w.frozen? ⟨x.block, k, none⟩) w := by
  unfold stringish
  cases hf : w.frozen? x <;> simp [frozen, shape, Sem.run, h, hf]
theorem run_mayBeOne {P : Program} {w : World} {a b : Addr} {ea eb : TypeId} {ka kb : Nat} (ha : w.shape? a.block = some (ea, ka)) (hb : w.shape? b.block = some (eb, kb)) : ∃ q, (mayBeOne a b).run P w = .ok q w := by
  unfold mayBeOne
  simp only [Sem.run_bind, run_stringish ha, run_stringish hb, Result.andThen_ok]
  generalize (w.frozen? a || w.frozen? ⟨a.block, ka, none⟩) = sa
  generalize (w.frozen? b || w.frozen? ⟨b.block, kb, none⟩) = sb
  cases sa <;> cases sb <;> simp [shape, Sem.run, ha, hb]
theorem run_overlaps {P : Program} {w : World} {ps rs : Array TypeId} {tS e : TypeId} (hp : ps[0]? = some tS) (ht : P.underlying tS = some (.slice e)) {size : Nat} (hz : ∀ w, (Go.sizeOf e).run P w = .ok size w) {a b : Addr} {la ca lb cb : Nat}
    (ha : la = 0 ∨ ∃ e k, w.shape? a.block = some (e, k)) (hb : ∃ e k, w.shape? b.block = some (e, k)) (hf : w.frozen? b = false) :
    ∃ r d, (Extern.SlicesOverlaps.overlaps ps rs #[.slice (some a) la ca, .slice (some b) lb cb]).run P w = .ok (.bool r) { w with drawn := d } ∧ w.drawn ≤ d := by
  change ∃ r d, Sem.run P (α := Value) (do
    let some t := ps[0]? | stuck "slices.overlaps: no parameter types"
    let .slice elem ← underlying t | stuck "slices.overlaps: slice type expected"
    let size ← sizeOf elem
    match (some a : Option Addr), (some b : Option Addr) with
    | some a, some b =>
      if la = 0 ∨ lb = 0 ∨ size = 0 then pure (Value.bool false)
      else if a.block != b.block && (← frozen a) && (← frozen b) then unsupported .addressObserved
      else do
        if a.block != b.block then do
          noView a; noView b
          if ← mayBeOne a b then return Value.bool ((← choose (.extern "sameAddr.stringBytes" 2)) == 1)
        pure (Value.bool (a.block == b.block && a.off < b.off + lb * size && b.off < a.off + la * size))
    | _, _ => pure (Value.bool false)) w = _ ∧ _
  obtain ⟨eb, kb, hsb⟩ := hb
  by_cases h0 : la = 0 ∨ lb = 0 ∨ size = 0
  · exact ⟨false, w.drawn, by simp [hp, run_underlying ht, hz, h0], Nat.le_refl _⟩
  · obtain ⟨ea, ka, hsa⟩ := ha.resolve_left fun h => h0 (.inl h)
    by_cases hab : a.block = b.block
    · exact ⟨decide (a.off < b.off + lb * size) && decide (b.off < a.off + la * size), w.drawn, by simp [hp, run_underlying ht, hz, h0, hab, frozen, Sem.run], Nat.le_refl _⟩
    · have hnb : (a.block != b.block) = true := by simpa using hab
      have hnb' : (a.block == b.block) = false := by simpa using hab
      obtain ⟨q, hq⟩ := run_mayBeOne (P := P) hsa hsb
      cases q with
      | true =>
        cases hfo : (Question.extern "sameAddr.stringBytes" 2).forced with
        | true => exact ⟨_, w.drawn, by simp [hp, run_underlying ht, hz, h0, hnb, hnb', frozen, noView, viewAt, shape, Sem.run, hsa, hsb, hf, hq, hfo]; rfl, Nat.le_refl _⟩
        | false => exact ⟨(Question.extern "sameAddr.stringBytes" 2).cut (w.tape w.drawn (Question.extern "sameAddr.stringBytes" 2)) == 1, w.drawn + 1, by simp [hp, run_underlying ht, hz, h0, hnb, hnb', frozen, noView, viewAt, shape, Sem.run, hsa, hsb, hf, hq, hfo], Nat.le_succ _⟩
      | false =>
        refine ⟨false, w.drawn, ?_, Nat.le_refl _⟩
        simp [hp, run_underlying ht, hz, h0, hnb, hnb', frozen, noView, viewAt, shape, Sem.run, hsa, hsb, hf, hq]
end Go.Eng
namespace Go.Eng
set_option linter.unusedVariables false
set_option linter.unusedSimpArgs false
theorem Er.Wp.all {sg : Bool} {r : Er} {Q : Value → Heap → Prop} {A : Value → Heap → Prop} {C : List (Value × Bool) → Heap → Prop} (h : r.Wp sg Q) (ha : r.all A C) : ∃ v H, Q v H ∧ A v H := by
  induction r with
  | ret v h' => exact ⟨v, h', h, ha⟩
  | panic c h' => exact h.elim
  | fail w => exact h.elim
  | any n k ih =>
    obtain ⟨j, h1, h2⟩ := ha
    exact ih j (h.2 j h1) h2
section
variable {P : Program} {B : Nat}
/-- The facts of the library's slices.overlaps in a program. -/
structure OvFn (P : Program) (fo : Nat) : Prop where
  ex : ∃ fn ps rs tS e, P.funcs[fo]? = some fn ∧ (fn.name == "runtime.NumGoroutine") = false ∧ fn.body.isNone = true ∧ Extern.findNext fn = none ∧ Extern.find fn = some (Extern.SlicesOverlaps.overlaps ps rs) ∧ ps[0]? = some tS ∧ P.underlying tS = some (.slice e) ∧ okT P e = true
theorem ov_sound {fo z : Nat} (F : OvFn P fo) {ι : Inj} {H : Heap} {w : World} {x x' y y' : Value} (s : Sim P B ι H w) (hx : VRel ι x x') (hy : VRel ι y y') : CallOK P B ι H w (callFunc fo #[x', y']) (ovEr z x y H) := by
  obtain ⟨fn, ps, rs, tS, e, f1, f2, f3, f4, f5, f6, f7, f8⟩ := F.ex
  unfold ovEr
  split
  · rename_i a la ca b lb cb
    split
    · rename_i wa xa xb ga gb
      cases hq : (!(Nat.beq a.block b.block) && (Nat.ble (a.off + la * z) (lenL xa) && (Nat.ble (b.off + lb * z) (lenL xb) && Nat.blt 0 (lb * z)))) with
      | false => exact CallOK.fail _
      | true =>
        rw [cond_true]
        simp only [Bool.and_eq_true, ble_iff, blt_iff, lenL_eq] at hq
        obtain ⟨_, q1, q2, q3⟩ := hq
        cases hy with
        | sempty h => rw [Nat.zero_mul] at q3; omega
        | @slice _ p _ _ c' hp he hc hn hl =>
          obtain ⟨o1, o2, o3, o4⟩ := s.obj _ _ _ hp gb
          obtain ⟨o4, o5, o6⟩ := o4 rfl
          have hbL : b.off < p.L := by omega
          have hsb : ∃ e k, w.shape? (⟨p.b, p.d + b.off, none⟩ : Addr).block = some (e, k) := shape_of (o2 _ hbL)
          have hfb : w.frozen? ⟨p.b, p.d + b.off, none⟩ = false := o5 _ hbL
          have key : ∀ (a' : Addr) (ca' : Nat), (la = 0 ∨ ∃ e k, w.shape? a'.block = some (e, k)) → x' = .slice (some a') la ca' → CallOK P B ι H w (callFunc fo #[x', .slice (some ⟨p.b, p.d + b.off, none⟩) lb c']) (.any 2 fun i => .ret (.bool (Nat.beq i 1)) H) := by
            rintro a' ca' hsa rfl fr cs m0 hm D
            obtain ⟨r, d, hr, hd⟩ := run_overlaps (P := P) (w := w) (ps := ps) (rs := rs) f6 f7 (run_size f8) (la := la) (ca := ca') (lb := lb) (cb := c') hsa hsb hfb
            have h1 : (callFunc fo #[.slice (some a') la ca', .slice (some ⟨p.b, p.d + b.off, none⟩) lb c']).run P w = .ok (.value (.bool r)) { w with drawn := d } := by
              rw [run_callFunc_extern f1 f2 f3 f4 f5, hr]; rfl
            have h2 := D.ok _ _ _ _ h1 rfl
            refine ⟨if r then 1 else 0, by cases r <;> decide, ι, { w with drawn := d }, .bool r, Steps.one h2, ?_, s.drew d, Adv.drew _ _ _ d hd⟩
            cases r <;> exact .bool _
          cases hx with
          | @sempty _ a' c1 h => exact key a' c1 (.inl rfl) rfl
          | @slice _ p1 _ _ c1 hp1 he1 hc1 hn1 hl1 =>
            refine key ⟨p1.b, p1.d + a.off, none⟩ c1 ?_ rfl
            by_cases h0 : la = 0
            · exact .inl h0
            · right
              obtain ⟨r1, r2, r3, r4⟩ := s.obj _ _ _ hp1 ga
              have hz : 0 < z := by
                rcases Nat.eq_zero_or_pos z with h | h
                · subst h; rw [Nat.mul_zero] at q3; omega
                · exact h
              have : 0 < la * z := Nat.mul_pos (by omega) hz
              exact shape_of (r2 a.off (by omega))
    · exact CallOK.fail _
  · exact CallOK.fail _
theorem insCtx_ok {fo z : Nat} (F : OvFn P fo) {c : Ctx} (C : CtxOK P B c) : CtxOK P B (insCtx z fo c) := by
  refine ⟨fun ι H w f f' args args' s hf hr => ?_, C.inv, C.nil⟩
  show CallOK P B ι H w _ (insCall z fo c f args H)
  unfold insCall
  split
  · rename_i g x y
    cases hb : Nat.beq g fo with
    | false => exact C.call ι H w _ f' _ args' s hf hr
    | true =>
      rw [cond_true]
      rw [beq_iff] at hb
      subst hb
      obtain ⟨fn', a', c', rfl, h1, h2, h3⟩ := vrel_func_inv hf
      cases h1
      cases hr with
      | @cons _ x' _ _ rx ht =>
      cases ht with
      | @cons _ y' _ _ ry ht =>
        cases ht
        have ha : a'.toList = [] := by
          generalize a'.toList = q at h2
          cases h2; rfl
        have hc : c'.toList = [] := by
          generalize c'.toList = q at h3
          cases h3; rfl
        have e : (do let d ← Deferred.ofValue (.func (.func g) a' c') [x', y'].toArray; invoke d.target d.args : Sem Next) = callFunc g #[x', y'] := by
          show callFunc g (a' ++ [x', y'].toArray ++ c') = _
          congr 1
          apply Array.ext'
          simp [ha, hc]
        rw [e]
        exact ov_sound F s rx ry
  · exact C.call ι H w _ f' _ args' s hf hr
end
end Go.Eng
namespace Go.Eng
set_option linter.unusedVariables false
set_option linter.unusedSimpArgs false
/-- A slice as the machine makes them. -/
def slOK (z : Nat) (ao : Option Addr) (n ca : Nat) : Bool := match ao with
  | none => Nat.beq n 0 && Nat.beq ca 0
  | some a => Nat.ble n ca && (match a.spot with
    | none => true
    | some s => Nat.beq s z)
/-- slices.Insert: nothing; at the end; amid, of a slice whose capacity is known from below alone. -/
noncomputable def insSum (z : Nat) : Summ := fun args h => match args with
  | [.slice ao n ca, .int .i64 (.ofNat i), .slice bo m vc] =>
    bif !(slOK z ao n ca && (slOK z bo m vc && Nat.blt (Nat.add n m) 1000000)) then none else
    match h.elems z m (.slice bo m vc), h.elems z n (.slice ao n ca) with
    | some vs, some cs => match m with
      | 0 => bif Nat.ble i n then some (.slice ao n ca, h) else none
      | m' + 1 => bif Nat.beq i n then h.appendL z (.slice ao n ca) (m' + 1) vs else bif Nat.blt i n then (match ao, bo with
        | some a, some va => match a.spot, h.get a.block with
          | some _, some (.cells true _) => bif Nat.beq a.block va.block then none else
            optV none (fun A => some (.slice (some ⟨h.next, 0, some z⟩) (Nat.add n (m' + 1)) (Nat.add n (m' + 1)), (h.put a.block none).push (.cells true (app A (app vs (dropN (Nat.mul i z) cs)))))) (takeN (Nat.mul i z) cs)
          | _, _ => none
        | _, _ => none) else none
    | _, _ => none
  | _ => none
theorem chunks {z : Nat} : ∀ (k : Nat) (B : List Value), B.length = k * z → (∀ x ∈ B, flat1 x) → ∃ Bs, Els z Bs ∧ Bs.length = k ∧ Bs.flatten = B
  | 0, B, h, _ => ⟨[], fun e he => (nomatch he), rfl, by rw [Nat.zero_mul] at h; rw [List.eq_nil_of_length_eq_zero h]; rfl⟩
  | k + 1, B, h, hf => by
    rw [Nat.succ_mul] at h
    obtain ⟨Bs, h1, h2, h3⟩ := chunks (z := z) k (B.drop z) (by rw [List.length_drop]; omega) fun x hx => hf x (List.mem_of_mem_drop hx)
    refine ⟨B.take z :: Bs, fun e he => ?_, by simp [h2], by rw [List.flatten_cons, h3, List.take_append_drop]⟩
    rcases List.mem_cons.1 he with rfl | he
    · exact ⟨by rw [List.length_take]; omega, fun x hx => hf x (List.mem_of_mem_take hx)⟩
    · exact h1 e he
section
variable {P : Program} {B : Nat}
theorem slc_of {z : Nat} {ι : Inj} {H : Heap} {w : World} (s : Sim P B ι H w) {ao : Option Addr} {n ca : Nat} {cs : List Value} (ho : slOK z ao n ca = true) (he : H.elems z n (.slice ao n ca) = some cs) : Slc H z ao n ca cs := by
  cases ao with
  | none =>
    unfold slOK at ho
    simp only [Bool.and_eq_true, beq_iff] at ho
    obtain ⟨rfl, rfl⟩ := ho
    cases he
    exact .empty H z
  | some a =>
    unfold slOK at ho
    simp only [Bool.and_eq_true, ble_iff] at ho
    replace he : H.load a.block a.off (n * z) = some cs := he
    unfold Heap.load at he
    split at he
    · rename_i wr xs hg
      refine ⟨(takeN_get he).1, ho.1, fun e => (nomatch e), fun a' e => ?_, fun a' e => ?_⟩
      · cases e
        obtain ⟨_, ho⟩ := ho
        split at ho
        · rename_i e; exact .inr (.inl e)
        · rename_i q e; rw [beq_iff] at ho; subst ho; exact .inr (.inr e)
      · cases e
        refine ⟨wr, xs, hg, ?_, he⟩
        rcases Nat.lt_or_ge a.block H.next with h | h
        · exact h
        · rw [s.blank _ h] at hg; cases hg
    · cases he
/-- What the library's slices.Insert, and what it calls, are in a program. -/
structure InsFn (P : Program) (z f : Nat) : Prop where
  pos : 0 < z
  ex : ∃ zs fo fr fl fv ld, zs.length = z ∧ LdOK z ld ∧ fnOf P f = some (insB z zs fo fr) ∧ fnOf P fr = some (rotR fl) ∧ fnOf P fl = some (rotL z fv) ∧ fnOf P fv = some (revB z ld) ∧ fr ≠ fo ∧ OvFn P fo
theorem flats {ι : Inj} {H : Heap} {w : World} (s : Sim P B ι H w) {z n : Nat} {a : Addr} {ca : Nat} {p : Place} {cs : List Value} (hp : ι a.block = some p) (he : H.elems z n (.slice (some a) n ca) = some cs) : ∀ x ∈ cs, flat1 x := by
  obtain ⟨_, _, _, _, h, _⟩ := load_ok s hp (show H.load a.block a.off (n * z) = some cs from he)
  exact h
def padV : Value → Value
  | .bool b => .bool b
  | _ => .chan none
theorem padV_rel {ι : Inj} {v : Value} (h : flat1 v) : VRel ι (padV v) v ∧ flat1 (padV v) := by
  cases v <;> first | exact h.elim | exact ⟨.bool _, trivial⟩ | exact ⟨.unk trivial, trivial⟩
/-- A row whose spare cells are known, as far as they are. -/
theorem padded {ι : Inj} {H : Heap} {w : World} (s : Sim P B ι H w) {b : Nat} {p : Place} {xs : List Value} (hp : ι b = some p) (hg : H.get b = some (.cells true xs)) :
    ∃ pad, xs.length + pad.length = p.L ∧ Sim P B ι (H.put b (some (.cells true (xs ++ pad)))) w ∧ Adv ι H w ι (H.put b (some (.cells true (xs ++ pad)))) w := by
  obtain ⟨o1, o2, o3, o4⟩ := s.obj _ _ _ hp hg
  refine ⟨(List.range (p.L - xs.length)).map fun i => padV ((w.cell? ⟨p.b, p.d + (xs.length + i), none⟩).getD undef), by rw [List.length_map, List.length_range]; omega, ?_⟩
  refine s.update hp hg (o1 := .cells true _) trivial rfl ⟨rfl, Nat.le_refl _⟩ rfl rfl (fun _ _ => rfl) (fun _ _ _ _ _ => ⟨rfl, rfl⟩) (fun _ _ _ => .refl _ _) ?_
  refine ⟨by rw [List.length_append, List.length_map, List.length_range]; omega, o2, fun i x hx => ?_, o4⟩
  rw [List.getElem?_append] at hx
  split at hx
  · exact o3 i x hx
  · rename_i hi
    rw [List.getElem?_map] at hx
    obtain ⟨j, hj, rfl⟩ := Option.map_eq_some_iff.1 hx
    have hlt := (List.getElem?_eq_some_iff.1 hj).1
    rw [List.length_range] at hlt
    rw [List.getElem?_range hlt] at hj
    cases hj
    obtain ⟨v', c1, c2⟩ := o2 i (by omega)
    have e : xs.length + (i - xs.length) = i := by omega
    rw [e, c1]
    obtain ⟨r1, r2⟩ := padV_rel (ι := ι) c2
    exact ⟨v', rfl, r1, r2⟩
set_option maxHeartbeats 1000000 in
theorem ins_sound (hmix : P.follows .mixedOrders = true) {z f : Nat} (F : InsFn P z f) {ι : Inj} {H : Heap} {w : World} {args args' : List Value} {v : Value} {H' : Heap} (s : Sim P B ι H w) (hr : LRel ι args args') (h : insSum z args H = some (v, H')) :
    CallOK P B ι H w (callFunc f args'.toArray) (.ret v H') := by
  obtain ⟨zs, fo, fr, fl, fv, ld, hzs, hld, ef, er, el, ev, hro, ov⟩ := F.ex
  have hz := F.pos
  let E0 : Env := envOf P fun _ => none
  have hE : EnvOK P B E0 := ⟨fun f k h => h, rfl, rfl, fun _ _ h => by cases h⟩
  have hd : ∀ c, CtxOK P B c → DrawOK P B c := fun c C => draw_ok hmix C
  obtain ⟨D, hD⟩ : ∃ D, 100000000 ≤ D := ⟨_, Nat.le_refl _⟩
  have C := ctx_ok hE hd (D + 3)
  have C1 := insCtx_ok (z := z) ov C
  have run : ∀ {ι : Inj} {H : Heap} {w : World} {args args' : List Value}, Sim P B ι H w → LRel ι args args' → CallOK P B ι H w (callFunc f args'.toArray) (enterK E0 (insCtx z fo (ctx E0 (D + 3))) (insB z zs fo fr) args H) := by
    intro ι H w args args' s hr
    have := enter_sound hE C1 (hd _ C1) (f := f) s hr
    have e : enter E0 (insCtx z fo (ctx E0 (D + 3))) f args H = enterK E0 (insCtx z fo (ctx E0 (D + 3))) (insB z zs fo fr) args H := by
      unfold enter
      rw [show E0.sum f = none from rfl, show E0.fn f = some (insB z zs fo fr) from ef]
      rfl
    rw [e] at this
    exact this
  unfold insSum at h
  split at h
  · rename_i ao n ca i bo m vc
    cases hq : (slOK z ao n ca && (slOK z bo m vc && Nat.blt (Nat.add n m) 1000000)) with
    | false => rw [hq] at h; cases h
    | true =>
    rw [hq] at h
    simp only [Bool.not_true, cond_false] at h
    simp only [Bool.and_eq_true, blt_iff] at hq
    obtain ⟨q1, q2, q3⟩ := hq
    replace q3 : n + m < 1000000 := q3
    split at h
    · rename_i vs cs hvs hcs
      have sS := slc_of s q1 hcs
      have sV := slc_of s q2 hvs
      have exact1 : ∀ {Q : Value → Heap → Prop}, (enterK E0 (insCtx z fo (ctx E0 (D + 3))) (insB z zs fo fr) [.slice ao n ca, .int .i64 (.ofNat i), .slice bo m vc] H).Wp false Q → (∀ v1 H1, Q v1 H1 → v1 = v ∧ H1 = H') → CallOK P B ι H w (callFunc f args'.toArray) (.ret v H') := by
        intro Q hW hQ fr cs m0 hm D
        obtain ⟨v1, H1, k1, k2⟩ := hW.all (run s hr fr cs m0 hm D)
        obtain ⟨rfl, rfl⟩ := hQ v1 H1 k1
        exact k2
      split at h
      · cases hb : Nat.ble i n with
        | false => rw [hb] at h; cases h
        | true =>
          rw [hb] at h
          cases h
          rw [ble_iff] at hb
          exact exact1 (ins0_ok _ H ao n ca i cs _ sS hb bo vc rfl) fun v1 H1 k => k
      · rename_i m
        cases hb : Nat.beq i n with
        | true =>
          rw [hb] at h
          rw [beq_iff] at hb
          subst hb
          exact exact1 (insE_ok _ H H' ao bo i ca (m + 1) vc cs vs v sS (by omega) hvs h) fun v1 H1 k => k
        | false =>
          rw [hb] at h
          have hne : i ≠ n := fun e => by rw [beq_iff.2 e] at hb; cases hb
          cases hb2 : Nat.blt i n with
          | false => rw [hb2] at h; cases h
          | true =>
          rw [hb2] at h
          rw [blt_iff] at hb2
          simp only [cond_false, cond_true] at h
          split at h
          · rename_i a va
            split at h
            · rename_i sz xs hsp hg
              cases hb3 : Nat.beq a.block va.block with
              | true => rw [hb3] at h; cases h
              | false =>
              rw [hb3] at h
              have hab : va.block ≠ a.block := fun e => by rw [beq_iff.2 e.symm] at hb3; cases hb3
              simp only [cond_false] at h
              obtain ⟨A, hA, h⟩ := optV_some h
              rw [takeN_eq] at hA
              split at hA
              · rename_i hAl
                cases hA
                simp only [app_eq, dropN_eq, Nat.mul_eq, Nat.add_eq] at h
                simp only [Nat.mul_eq] at hAl
                cases h
                have hcl := sS.len
                have lA : (cs.take (i * z)).length = i * z := by rw [List.length_take]; omega
                have lB : (cs.drop (i * z)).length = (n - i) * z := by rw [List.length_drop, hcl, Nat.sub_mul]
                have lV : vs.length = (m + 1) * z := sV.len
                have sp0 : a.spot = some z := by
                  unfold slOK at q1
                  simp only [hsp, Bool.and_eq_true, beq_iff] at q1
                  rw [hsp, q1.2]
                cases hr with
                | @cons _ s' _ _ rs ht =>
                cases ht with
                | @cons _ i' _ _ ri ht =>
                cases ht with
                | @cons _ v' _ _ rv ht =>
                cases ht
                cases rs with
                | sempty => omega
                | @slice _ p _ _ c' hp he hc hn hl =>
                have hL := hl z sp0
                have flcs := flats s hp hcs
                have flvs : ∀ x ∈ vs, flat1 x := by
                  cases rv with
                  | @slice _ p1 _ _ c1 hp1 he1 hc1 hn1 hl1 => exact flats s hp1 hvs
                obtain ⟨Bs, eB1, eB2, eB3⟩ := chunks (z := z) (n - i) (cs.drop (i * z)) lB fun x hx => flcs x (List.mem_of_mem_drop hx)
                obtain ⟨Vs, eV1, eV2, eV3⟩ := chunks (z := z) (m + 1) vs lV flvs
                obtain ⟨w0, xs0, g0, n0, t0⟩ := sS.rd a rfl
                rw [hg] at g0
                cases g0
                have hxl : a.off + n * z ≤ xs.length ∧ (xs.drop a.off).take (n * z) = cs := by
                  rw [dropN_eq, takeN_eq] at t0
                  split at t0
                  · rename_i q
                    rw [List.length_drop] at q
                    have : 0 < n * z := Nat.mul_pos (by omega) hz
                    cases t0
                    exact ⟨by omega, rfl⟩
                  · cases t0
                have getH' : ∀ b, ((H.put a.block none).push (.cells true (cs.take (i * z) ++ (vs ++ cs.drop (i * z))))).get b = if b = H.next then some (.cells true (cs.take (i * z) ++ (vs ++ cs.drop (i * z)))) else if b = a.block then none else H.get b := by
                  intro b
                  rw [Heap.get_push, Heap.get_put]; rfl
                have hnew : a.block ≠ H.next := by omega
                by_cases hroom : c' < n + (m + 1)
                · have hv0 : VRel ι (.slice (some ⟨a.block, a.off, none⟩) n c') (.slice (some ⟨p.b, p.d + a.off, none⟩) n c') := .slice (a := ⟨a.block, a.off, none⟩) hp (fun _ => rfl) (Nat.le_refl _) (Nat.le_trans hn hc) (fun _ e => nomatch e)
                  have hw := insB_ok (E := E0) (sg := false) (z := z) (fo := fo) (fr := fr) (zs := zs) (insCtx z fo (ctx E0 (D + 3))) hz H a.block a.off c' n i (n - i) (m + 1) va vc (cs.take (i * z)) (cs.drop (i * z)) vs true xs hzs (by omega) (by omega) (by omega) lA lB lV hg (by rw [List.take_append_drop]; exact t0) n0 (Nat.le_trans hn hc) hroom q3 sV
                  intro fr0 cs0 m0 hm D0
                  obtain ⟨v1, H1, ⟨rfl, e1, n1, g1⟩, ι1, w1, v1', st, vr, s1, ad⟩ := hw.all (run s (.cons hv0 (.cons ri (.cons rv .nil))) fr0 cs0 m0 hm D0)
                  obtain ⟨k1, k2⟩ := s1.kill (ad.le _ _ hp)
                  have hget : ∀ b, ((H.put a.block none).push (.cells true (cs.take (i * z) ++ (vs ++ cs.drop (i * z))))).get b = (H1.put a.block none).get b := by
                    intro b
                    rw [getH', Heap.get_put]
                    by_cases h1 : b = H.next
                    · subst h1
                      rw [if_pos rfl, if_neg (fun e => hnew e.symm), g1]
                    · rw [if_neg h1]
                      by_cases h2 : b = a.block
                      · rw [if_pos h2, if_pos h2]
                      · rw [if_neg h2, if_neg h2]
                        by_cases h3 : b < H.next
                        · exact (e1.get b h3 (fun h => nomatch h)).symm
                        · rw [s.blank b (by omega), s1.blank b (by omega)]
                  exact ⟨ι1, w1, v1', st, vr, k1.congr n1.symm hget, (Adv.trans s.bound ad k2).congr n1.symm hget⟩
                · obtain ⟨pad, lp, sA, aA⟩ := padded s hp hg
                  have hmul : (n + (m + 1)) * z ≤ c' * z := Nat.mul_le_mul_right _ (by omega)
                  rw [Nat.add_mul n (m + 1) z] at hmul
                  have lrest : (xs.drop (a.off + n * z) ++ pad).length = p.L - (a.off + n * z) := by rw [List.length_append, List.length_drop]; omega
                  have hcells : xs ++ pad = xs.take a.off ++ (cs.take (i * z) ++ (Bs.flatten ++ ((xs.drop (a.off + n * z) ++ pad).take ((m + 1) * z) ++ (xs.drop (a.off + n * z) ++ pad).drop ((m + 1) * z)))) := by
                    rw [List.take_append_drop, eB3]
                    have e1 : cs.take (i * z) ++ (cs.drop (i * z) ++ (xs.drop (a.off + n * z) ++ pad)) = cs ++ (xs.drop (a.off + n * z) ++ pad) := by rw [← List.append_assoc, List.take_append_drop]
                    rw [e1, ← hxl.2, ← List.append_assoc, ← List.append_assoc]
                    congr 1
                    rw [← List.drop_drop, List.append_assoc, List.take_append_drop, List.take_append_drop]
                  have gA : (H.put a.block (some (.cells true (xs ++ pad)))).get a.block = some (.cells true (xs.take a.off ++ (cs.take (i * z) ++ (Bs.flatten ++ ((xs.drop (a.off + n * z) ++ pad).take ((m + 1) * z) ++ (xs.drop (a.off + n * z) ++ pad).drop ((m + 1) * z)))))) := by
                    rw [← hcells]; exact Heap.get_put_eq _ _ _
                  have eA : Ext [a.block] H (H.put a.block (some (.cells true (xs ++ pad)))) := .put _ _ _
                  have nA : (H.put a.block (some (.cells true (xs ++ pad)))).next = H.next := rfl
                  have hv0 : VRel ι (.slice (some ⟨a.block, a.off, none⟩) n c') (.slice (some ⟨p.b, p.d + a.off, none⟩) n c') := .slice (a := ⟨a.block, a.off, none⟩) hp (fun _ => rfl) (Nat.le_refl _) (Nat.le_trans hn hc) (fun _ e => nomatch e)
                  generalize H.put a.block (some (.cells true (xs ++ pad))) = HA at sA aA gA eA nA
                  have hw := insA_ok (E := E0) (z := z) (fo := fo) (fr := fr) (fv := fv) (fl := fl) (zs := zs) (ld := ld) hz hld rfl ev rfl el rfl er hro D HA a.block a.off c' n i (n - i) (m + 1) va vc (xs.take a.off) (cs.take (i * z)) ((xs.drop (a.off + n * z) ++ pad).take ((m + 1) * z)) ((xs.drop (a.off + n * z) ++ pad).drop ((m + 1) * z)) Bs Vs eB1 eV1 eB2 eV2 (by omega) (by omega) (by omega) lA (by rw [List.length_take, lrest]; omega) (by rw [List.length_take]; omega) gA (by omega) (by omega) q3 (by rw [eV3]; exact sV.ext1 eA fun a e => by cases e; exact hab) hab hD
                  intro fr0 cs0 m0 hm D0
                  obtain ⟨v1, H1, ⟨rfl, e1, n1, g1⟩, ι1, w1, v1', st, vr, s1, ad⟩ := hw.all (run sA (.cons hv0 (.cons ri (.cons rv .nil))) fr0 cs0 m0 hm D0)
                  have hp1 : ι1 a.block = some p := ad.le _ _ hp
                  cases vr with
                  | @slice _ p2 _ _ c2 hp2 he2 hc2 hn2 hl2 =>
                  rw [show ι1 (Addr.mk a.block a.off none).block = some p from hp1] at hp2
                  cases hp2
                  have hc2' : c' = c2 := he2 rfl
                  subst hc2'
                  rw [eV3, eB3] at g1
                  obtain ⟨o1, o2, o3, o4⟩ := s1.obj _ _ _ hp1 g1
                  obtain ⟨o4, o5, o6⟩ := o4 rfl
                  have lP : (xs.take a.off).length = a.off := by rw [List.length_take]; omega
                  have lN : (cs.take (i * z) ++ (vs ++ cs.drop (i * z))).length = (n + (m + 1)) * z := by
                    rw [List.length_append, List.length_append, lA, lV, lB, Nat.add_mul n (m + 1) z]
                    have : i * z + (n - i) * z = n * z := by rw [← Nat.add_mul]; congr 1; omega
                    omega
                  obtain ⟨k1, k2⟩ := adopt s1 hp1 g1 (w' := w1) (q := ⟨p.b, p.d + a.off, p.L - a.off⟩) (xs := cs.take (i * z) ++ (vs ++ cs.drop (i * z))) rfl (by simp) (by simp only; omega) rfl ⟨rfl, Nat.le_refl _⟩ rfl rfl (fun _ _ => rfl) (fun _ _ => ⟨rfl, rfl⟩) (.refl _ _) (by
                    refine ⟨by rw [lN, Nat.add_mul n (m + 1) z]; simp only; omega, fun j hj => ?_, fun j x hx => ?_, fun _ => ⟨o4, fun j hj => ?_, fun hL0 => ?_⟩⟩
                    · have := o2 (a.off + j) (by simp only at hj; omega)
                      rw [← Nat.add_assoc] at this
                      exact this
                    · have hj := (List.getElem?_eq_some_iff.1 hx).1
                      obtain ⟨v', k1, k2, k3⟩ := o3 (a.off + j) x (by
                        rw [List.getElem?_append_right (by omega), lP, show a.off + j - a.off = j by omega]
                        have e : cs.take (i * z) ++ (vs ++ (cs.drop (i * z) ++ (xs.drop (a.off + n * z) ++ pad).drop ((m + 1) * z))) = (cs.take (i * z) ++ (vs ++ cs.drop (i * z))) ++ (xs.drop (a.off + n * z) ++ pad).drop ((m + 1) * z) := by simp
                        rw [e, List.getElem?_append_left hj]
                        exact hx)
                      rw [← Nat.add_assoc] at k1
                      exact ⟨v', k1, k2.mono (Inj.with_le s1.next_none _), k3⟩
                    · have := o5 (a.off + j) (by simp only at hj; omega)
                      rw [← Nat.add_assoc] at this
                      exact this
                    · have := o6 (by simp only at hL0; omega)
                      have e : p.d + a.off + (p.L - a.off) = p.d + p.L := by simp only at hL0; omega
                      show Behind w1 p.b (p.d + a.off + (p.L - a.off))
                      rw [e]; exact this)
                  have hget : ∀ b, ((H.put a.block none).push (.cells true (cs.take (i * z) ++ (vs ++ cs.drop (i * z))))).get b = ((H1.put a.block none).push (.cells true (cs.take (i * z) ++ (vs ++ cs.drop (i * z))))).get b := by
                    intro b
                    rw [getH', Heap.get_push, Heap.get_put, show (H1.put a.block none).next = H.next by rw [Heap.next_put]; omega]
                    by_cases h1 : b = H.next
                    · rw [if_pos h1, if_pos h1]
                    · rw [if_neg h1, if_neg h1]
                      by_cases h2 : b = a.block
                      · rw [if_pos h2, if_pos h2]
                      · rw [if_neg h2, if_neg h2]
                        by_cases h3 : b < H.next
                        · exact ((e1.get1 (by omega) h2 rfl).trans (eA.get1 h3 h2 rfl)).symm
                        · rw [s.blank b (by omega), s1.blank b (by omega)]
                  have hnx : ((H.put a.block none).push (.cells true (cs.take (i * z) ++ (vs ++ cs.drop (i * z))))).next = ((H1.put a.block none).push (.cells true (cs.take (i * z) ++ (vs ++ cs.drop (i * z))))).next := by
                    rw [Heap.next_push, Heap.next_push, Heap.next_put, Heap.next_put]; omega
                  have hn1 : H1.next = H.next := by omega
                  refine ⟨_, w1, _, st, ?_, k1.congr hnx hget, (Adv.trans s.bound aA (Adv.trans sA.bound ad k2)).congr hnx hget⟩
                  rw [← hn1]
                  exact .slice (a := ⟨H1.next, 0, some z⟩) (p := ⟨p.b, p.d + a.off, p.L - a.off⟩) (Inj.with_same ι1 _ _) (fun e => nomatch e) (show n + (m + 1) ≤ c' by omega) (Nat.le_refl _) (fun z' e => by cases e; show 0 + c' * z ≤ p.L - a.off; omega)
              · cases hA
            · cases h
          · cases h
    · cases h
  · cases h
end
end Go.Eng
