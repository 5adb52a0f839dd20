/-
  How a function is gone through on the abstract machine, step by step; what memory holds. Conditions: those that each lemma states.
-/
import Derived.Test.YtknhijalfgjfhaaGreatF
import Derived.KernelRfl
set_option linter.unusedVariables false
set_option linter.unusedSimpArgs false
set_option linter.unusedSectionVars false
open Nat renaming beq -> XhD, ble -> XhM, le_succ -> Xil, blt -> XhK, beq_refl -> XiS, mul -> XhX, zero_mul -> XiA, add -> XhR, zero_add -> XhT, le_refl -> XhE, lt_of_lt_of_le -> Xia, lt_succ_self -> Xh0, mul_le_mul_right -> Xi2, add_mul -> XiU
open Int renaming ofNat -> XhA, natCast_nonneg -> XiH
open List renaming take_zero -> XiZ, nil_append -> Xib, mem_singleton -> XhB, length_drop -> Xif, take_length -> Xh7, getD_eq_getElem?_getD -> Xih, getElem?_eq_getElem -> XhL, length_take -> Xie, eq_nil_of_length_eq_zero -> XiB, length_append -> XhC, replicate -> XhY, map_append -> Xh2
open BitVec renaming ofInt -> XhZ
namespace Go.Eng
variable {n b z ca idx o i m r : Nat} {cs xs new : List Value} {p : Value -> Tm -> Tm} {v : Value} {k k' : IntKind} {w : Bool} {a : Int} {ao : Option Addr} {pre un S : List Nat} {h' : Heap} {sp : Option Nat} {Q : Value -> Heap -> Prop} {E : Env}
def Er.Wp (r : Er) (s : Bool) (Q : Value -> Heap -> Prop) : Prop :=
 Er.rec (motive := fun _ => Prop) (fun v h => Q v h) (fun _ _ => False) (fun _ => False) (fun n _ ih => s = false /\ ∀ i, i < n -> ih i) r
def Rz.Wp (r : Rz) (s : Bool) (N : Tm -> Aux -> Heap -> Prop) (X : Nat -> Tm -> Aux -> Heap -> Prop) (R : Tm -> Aux -> Heap -> Prop) : Prop :=
 Rz.rec (motive := fun _ => Prop) (fun t x h => N t x h) (fun i t x h => X i t x h) (fun t x h => R t x h) (fun _ _ _ _ _ => False) (fun _ _ _ => False) (fun _ => False) (fun n _ ih => s = false /\ ∀ i, i < n -> ih i) r
theorem Er.Wp.mono {sg : Bool} {r : Er} {Q' : Value -> Heap -> Prop} (h : r.Wp sg Q) (hq : ∀ v h, Q v h -> Q' v h) : r.Wp sg Q' := by
 induction r with
 | ret v h' => exact hq _ _ h
 | panic _ _ => exact h.elim
 | fail _ => exact h.elim
 | any n k ih => exact ⟨h.1, fun i hi => ih i (h.2 i hi)⟩
theorem Rz.Wp.mono {sg : Bool} {r : Rz} {N N' : Tm -> Aux -> Heap -> Prop} {X X' : Nat -> Tm -> Aux -> Heap -> Prop} {R R' : Tm -> Aux -> Heap -> Prop} (h : r.Wp sg N X R) (hn : ∀ t x h, N t x h -> N' t x h) (hx : ∀ i t x h, X i t x h -> X' i t x h) (hr : ∀ t x h, R t x h -> R' t x h) : r.Wp sg N' X' R' := by
 induction r with
 | norm => exact hn _ _ _ h
 | exit => exact hx _ _ _ _ h
 | ret => exact hr _ _ _ h
 | panic => exact h.elim
 | got => exact h.elim
 | fail => exact h.elim
 | any n k ih => exact ⟨h.1, fun i hi => ih i (h.2 i hi)⟩
theorem below_of {f : Nat -> Bool} (h : ∀ i, i < n -> f i = true) : below f n = true := by
 induction n with
 | zero => rfl
 | succ n ih =>
  show (below f n && f n) = true
  rw [ih fun i hi => h i (by omega), h n (by omega)]; rfl
theorem Er.Wp.sure {sg : Bool} {r : Er} (h : r.Wp sg fun v _ => v = .bool true) : r.sure = true := by
 induction r with
 | ret v h' => cases (show v = .bool true from h); rfl
 | panic _ _ => exact h.elim
 | fail _ => exact h.elim
 | any n k ih => exact below_of fun i hi => ih i (h.2 i hi)
theorem wp_then {sg : Bool} {r : Rz} {k : Tm -> Aux -> Heap -> Rz} {N : Tm -> Aux -> Heap -> Prop} {X : Nat -> Tm -> Aux -> Heap -> Prop} {R : Tm -> Aux -> Heap -> Prop} (H : r.Wp sg (fun t x h => (k t x h).Wp sg N X R) X R) : (r.then k).Wp sg N X R := by
 induction r with
 | norm => exact H
 | exit => exact H
 | ret => exact H
 | panic => exact H.elim
 | got => exact H.elim
 | fail => exact H.elim
 | any n k' ih => exact ⟨H.1, fun i hi => ih i (H.2 i hi)⟩
theorem wp_back {sg : Bool} {r : Er} {t : Tm} {x : Aux} {k : Cont} {N : Tm -> Aux -> Heap -> Prop} {X : Nat -> Tm -> Aux -> Heap -> Prop} {R : Tm -> Aux -> Heap -> Prop} (H : r.Wp sg fun v h => (k v x h).Wp sg N X R) : (Wt r t x k).Wp sg N X R := by
 induction r with
 | ret => exact H
 | panic => exact H.elim
 | fail => exact H.elim
 | any n k' ih => exact ⟨H.1, fun i hi => ih i (H.2 i hi)⟩
section
variable {sg : Bool} {N : Tm -> Aux -> Heap -> Prop} {X : Nat -> Tm -> Aux -> Heap -> Prop} {R : Tm -> Aux -> Heap -> Prop} {c : Ctx} {t : Tm} {x : Aux} {h : Heap}
theorem X9 {a b : KB} (H : (a c t x h).Wp sg (fun t x h => (b c t x h).Wp sg N X R) X R) : (kSeq a b c t x h).Wp sg N X R := by
 exact wp_then H
theorem wp_skip (H : N t x h) : (kSkip c t x h).Wp sg N X R := H
theorem wp_ret (H : R t x h) : (kRet c t x h).Wp sg N X R := H
theorem wp_exit {id : Nat} (H : X id t x h) : (kExit id c t x h).Wp sg N X R := H
theorem Xf8 (H : N t x h) : (oEnd c t x h).Wp sg N X R := H
theorem wp_cond {g : Xe} {a b : KB} {p : Bool} (hg : g t = .bool p) (H1 : p = true -> (a c t x h).Wp sg N X R) (H0 : p = false -> (b c t x h).Wp sg N X R) : (kCond g a b c t x h).Wp sg N X R := by
 unfold kCond
 rw [hg]
 cases p with
 | true => exact H1 rfl
 | false => exact H0 rfl
theorem wp_block {id : Nat} {a : KB} (H : (a c t x h).Wp sg N (fun i t x h => bif XhD i id then N t x h else X i t x h) R) : (kBlock id a c t x h).Wp sg N X R := by
 unfold kBlock
 generalize a c t x h = r at H
 induction r with
 | norm => exact H
 | exit i t' x' h' =>
  replace H : bif XhD i id then N t' x' h' else X i t' x' h' := H
  show Rz.Wp (Bool.rec (motive := fun _ => Rz) (.exit i t' x' h') (.norm t' x' h') (XhD i id)) sg N X R
  cases hb : XhD i id <;> rw [hb] at H <;> exact H
 | ret => exact H
 | panic => exact H.elim
 | got => exact H.elim
 | fail => exact H.elim
 | any n k' ih => exact ⟨H.1, fun i hi => ih i (H.2 i hi)⟩
theorem XdH {a : KB} (I : Nat -> Tm -> Aux -> Heap -> Prop) (m : Nat) (h0 : I m t x h) (hf : m < c.fuel)
  (step : ∀ m t x h, I m t x h -> (a c t x h).Wp sg (fun t x h => ∃ m', m' < m /\ I m' t x h) X R) : (kLoop a c t x h).Wp sg N X R := by
 unfold kLoop
 generalize c.fuel = f at hf ⊢
 induction f generalizing m t x h with
 | zero => omega
 | succ f ih =>
  show Rz.Wp ((a c t x h).then _) sg N X R
  refine wp_then ((step m t x h h0).mono (fun t x h hh => ?_) (fun _ _ _ _ k => k) (fun _ _ _ k => k))
  obtain ⟨m', h1, h2⟩ := hh
  exact ih m' h2 (by omega)
theorem Xd {l : Zj} {rest : KB} (hl : l t h = some v) (H : (rest c (p v t) x h).Wp sg N X R) : (ZN (VG l) p rest c t x h).Wp sg N X R := by
 unfold ZN VG
 rw [hl]
 exact H
theorem VI {l : Ui} {rest : KB} (hl : l t h = some (v, h')) (H : (rest c (p v t) x h').Wp sg N X R) : (ZN (Yi l) p rest c t x h).Wp sg N X R := by
 unfold ZN Yi
 rw [hl]
 exact H
theorem wp_turnDo {l : Ui} {rest : KB} (hl : l t h = some (v, h')) (H : (rest c t x h').Wp sg N X R) : (oDo (Yi l) rest c t x h).Wp sg N X R := by
 unfold oDo Yi
 rw [hl]
 exact H
theorem wp_move {g : Xe} {rest : KB} (hv : g t = v) (H : (rest c (p v t) x h).Wp sg N X R) : (ZN (xMove g) p rest c t x h).Wp sg N X R := by
 subst hv; exact H
theorem wp_if {want : Tm -> Bool} {ex : ExF} {rest : KB} {b : Bool} (hw : want t = b) (H1 : b = true -> (ZN ex p rest c t x h).Wp sg N X R) (H0 : b = false -> (rest c (p undef t) x h).Wp sg N X R) : (Xf0 want ex p rest c t x h).Wp sg N X R := by
 unfold Xf0
 rw [hw]
 cases b with
 | true => exact H1 rfl
 | false => exact H0 rfl
theorem wp_nil {o : Xe} {rest : KB} {a : Addr} (ho : o t = .pointer (some a)) (H : (rest c (p (.pointer (some a)) t) x h).Wp sg N X R) : (ZN (XM o) p rest c t x h).Wp sg N X R := by
 unfold ZN XM
 rw [ho]
 exact H
theorem Xj {f : Xe} {args : List Xe} {rest : KB} (hc : (c.call (f t) (J1 t args) h).Wp sg Q) (H : ∀ v h', Q v h' -> (rest c (p v t) x h').Wp sg N X R) : (ZN (xCall f args) p rest c t x h).Wp sg N X R :=
 wp_back (k := fun v x h => rest c (p v t) x h) (hc.mono H)
theorem Xi {f : Nat} {first captured : Array Value} {args as : List Value} (ha : first.toList ++ (args ++ captured.toList) = as) (H : (enter E (ctx E n) f as h).Wp sg Q) : ((ctx E (n + 1)).call (.func (.func f) first captured) args h).Wp sg Q := by
 show (callV E (ctx E n) (.func (.func f) first captured) args h).Wp sg Q
 unfold callV
 simp only [UB, ha]
 exact H
theorem wp_enter {f : Nat} {k : XI} {args : List Value} (hs : E.sum f = none) (hf : E.fn f = some k) (H : (J7 E c k args h).Wp sg Q) : (enter E c f args h).Wp sg Q := by
 unfold enter
 rw [hs, hf]
 exact H
theorem wp_sum {f : Nat} {s : Summ} {args : List Value} (hs : E.sum f = some s) (hv : s args h = some (v, h')) (H : Q v h') : (enter E c f args h).Wp sg Q := by
 unfold enter
 rw [hs]
 show (Yr (.fail "summary") (fun r => Er.ret r.1 r.2) (s args h)).Wp sg Q
 rw [hv]
 exact H
theorem wp_fn {fn : XI} {args : List Value} (hl : args.length <= 255)
  (H : (fn.body c (Z8 args 0 Tm.empty) ⟨[], none, none⟩ h).Wp sg (fun t x h => x.defers = [] /\ ∃ vs, Yx fn.res [] t h = some vs /\ Q (WL vs) h) (fun _ _ _ _ => False) (fun t x h => x.defers = [] /\ ∃ vs, Yx fn.res [] t h = some vs /\ Q (WL vs) h)) : (J7 E c fn args h).Wp sg Q := by
 unfold J7
 have : XhM (Wy args) 255 = true := by rw [ZD, ble_iff]; exact hl
 rw [this]
 have fin : ∀ t (x : Aux) h, (x.defers = [] /\ ∃ vs, Yx fn.res [] t h = some vs /\ Q (WL vs) h) -> (finish E c fn.res [] t x.defers .returning h).Wp sg Q := by
  rintro t x h ⟨h1, vs, h2, h3⟩
  rw [h1]
  show Er.Wp (match Yx fn.res [] t h with
   | some vs => Er.ret (WL vs) h
   | none => .fail "results") sg Q
  rw [h2]
  exact h3
 show (Rz.toEr _ _ _ _ _).Wp sg Q
 generalize fn.body c (Z8 args 0 Tm.empty) ⟨[], none, none⟩ h = r at H
 induction r with
 | norm => exact fin _ _ _ H
 | exit => exact H.elim
 | ret => exact fin _ _ _ H
 | panic => exact H.elim
 | got => exact H.elim
 | fail => exact H.elim
 | any n k ih => exact ⟨H.1, fun i hi => ih i (H.2 i hi)⟩
theorem wp_draw {d : KD} (H : (d [] none c t x h).Wp sg N X R) : (X8 d c t x h).Wp sg N X R := H
theorem XdI {lost : List Nat} {log : List (Nat × J4)} (H : N t x h) : (dEnd lost log none c t x h).Wp sg N X R := H
theorem Xk {l : Zj} {rest : KD} {log : List (Nat × J4)} (hl : l t h = some v) (hu : J5 log l t v un = true)
  (H : (rest ((idx, .ld fun now => WB (l t now) v) :: log) none c (p v t) x h).Wp sg N X R) : (W2 idx un pre l p rest log none c t x h).Wp sg N X R := by
 unfold W2
 show Rz.Wp (match l t h with
  | some v => bif J5 log l t v un then rest ((idx, .ld fun now => WB (l t now) v) :: log) none c (p v t) x h else .fail "a look beside a writer"
  | none => .fail "look") sg N X R
 rw [hl]
 dsimp only
 rw [hu]
 exact H
theorem XaW {l : Ui} {rest : KD} {log : List (Nat × J4)} (hl : l t h = some (v, h')) (hu : ZG log h' un = true)
  (H : (rest ((idx, .wr h) :: log) none c (p v t) x h').Wp sg N X R) : (XaP idx un pre w (Yi l) p rest log none c t x h).Wp sg N X R := by
 unfold XaP Yi
 simp only [ZV, Option.isSome, Bool.and_false, cond_false, hl]
 rw [hu]
 exact H
theorem Er.Wp.one {r : Er} (h : r.Wp true Q) : ∃ v h, r = .ret v h /\ Q v h := by
 cases r with
 | ret v h' => exact ⟨v, h', rfl, h⟩
 | panic _ _ => exact h.elim
 | fail _ => exact h.elim
 | any n k => exact absurd h.1 (by decide)
theorem YL {f : Xe} {args : List Xe} {rest : KD} {log : List (Nat × J4)} (hc : (c.call (f t) (J1 t args) h).Wp true Q)
  (hu : ∀ v h', Q v h' -> ZG log h' un = true) (H : ∀ v h', Q v h' -> (rest ((idx, .wr h) :: log) none c (p v t) x h').Wp sg N X R) : (XaP idx un pre w (xCall f args) p rest log none c t x h).Wp sg N X R := by
 obtain ⟨v, h', e, q⟩ := hc.one
 unfold XaP xCall
 simp only [ZV, Option.isSome, Bool.and_false, cond_false, e]
 show Rz.Wp (bif ZG log h' un then _ else _) sg N X R
 rw [hu v h' q]
 exact H v h' q
theorem wp_dIf {want : Tm -> Bool} {yes rest : KD} {log : List (Nat × J4)} {b : Bool} (hw : want t = b) (H1 : b = true -> (yes log none c t x h).Wp sg N X R) (H0 : b = false -> (rest log none c (p undef t) x h).Wp sg N X R) :
  (dIf pre want p yes rest log none c t x h).Wp sg N X R := by
 unfold dIf
 simp only [ZV, cond_false, hw]
 cases b with
 | true => exact H1 rfl
 | false => exact H0 rfl
end
structure Heap.Le (h h' : Heap) : Prop where
 next : h.next <= h'.next
 get : ∀ b, b < h.next -> h'.get b = h.get b
 blank : (∀ b, h.next <= b -> h.get b = none) -> ∀ b, h'.next <= b -> h'.get b = none
theorem Heap.Le.push (h : Heap) (o : AObj) : h.Le (h.push o) := by
 refine ⟨Xil _, fun b hb => ?_, fun k b hb => ?_⟩
 ·rw [Heap.get_push, if_neg (by omega)]
 ·replace hb : h.next + 1 <= b := hb
  rw [Heap.get_push, if_neg (by omega)]; exact k b (by omega)
theorem Heap.get_new (h : Heap) (o : AObj) : (h.push o).get h.next = some o := by rw [Heap.get_push, if_pos rfl]
theorem Heap.load_of {h : Heap} {off : Nat} (hb : h.get b = some (.cells w xs)) (hc : XU n (XY off xs) = some cs) : h.load b off n = some cs := by
 unfold Heap.load; rw [hb]; exact hc
theorem Heap.load1_of {h : Heap} {off : Nat} (hb : h.get b = some (.cells w xs)) (hc : nth off xs = some v) : h.load1 b off = some v := by
 unfold Heap.load1; rw [hb]; exact hc
theorem lkLoad1_of {g : Xe} {t : Tm} {h : Heap} {a : Addr} (hg : g t = .pointer (some a)) (hc : h.load1 a.block a.off = some v) : XcC g t h = some v := by
 unfold XcC; rw [hg]; exact hc
theorem lkLoadN_of {g : Xe} {t : Tm} {h : Heap} {a : Addr} (hg : g t = .pointer (some a)) (hc : h.load a.block a.off n = some cs) : XdB n g t h = some (.agg ⟨cs⟩) := by
 unfold XdB; rw [hg]; show Yr none _ (h.load a.block a.off n) = _; rw [hc]; rfl
section
variable {sg : Bool} {N : Tm -> Aux -> Heap -> Prop} {X : Nat -> Tm -> Aux -> Heap -> Prop} {R : Tm -> Aux -> Heap -> Prop} {c : Ctx} {t : Tm} {x : Aux} {h : Heap} {g g' : Xe}
theorem l_fieldAddr {off : Nat} {a : Addr} (hg : g t = .pointer (some a)) : Vd off g t h = some (.pointer (some ⟨a.block, a.off + off, none⟩)) := by unfold Vd; rw [hg]; rfl
theorem XQ {a : Addr} (hg : g t = .pointer (some a)) (hb : h.get a.block = some (.cells w xs)) (hv : nth a.off xs = some v) : XcC g t h = some v := lkLoad1_of hg (Heap.load1_of hb hv)
theorem XdJ {a : Addr} (hg : g t = .pointer (some a)) (hb : h.get a.block = some (.cells w xs)) (hv : XU n (XY a.off xs) = some cs) : XdB n g t h = some (.agg ⟨cs⟩) := lkLoadN_of hg (Heap.load_of hb hv)
theorem l_eqS {a b : ByteArray} (h1 : g t = .string a) (h2 : g' t = .string b) : XfZ false .str g g' t h = some (.bool (Vf (bytes a) (bytes b))) := by unfold XfZ; rw [h1, h2]; rfl
theorem l_neS {a b : ByteArray} (h1 : g t = .string a) (h2 : g' t = .string b) : XfZ true .str g g' t h = some (.bool !(Vf (bytes a) (bytes b))) := by unfold XfZ; rw [h1, h2]; rfl
theorem XaX (a b : Int) : J2 a b = decide (a = b) := by
 have nbeq : ∀ m n : Nat, XhD m n = decide (m = n) := fun m n => by
  by_cases e : m = n
  ·rw [beq_iff.2 e]; simp [e]
  ·rw [show XhD m n = false from (by cases hb : XhD m n; rfl; exact absurd (beq_iff.1 hb) e)]; simp [e]
 cases a with
 | ofNat m => cases b with
  | ofNat n => show XhD m n = _; rw [nbeq]; exact decide_eq_decide.2 ⟨fun h => by rw [h], fun h => XhA.inj h⟩
  | negSucc n => symm; exact decide_eq_false (fun h => by cases h)
 | negSucc m => cases b with
  | ofNat n => symm; exact decide_eq_false (fun h => by cases h)
  | negSucc n => show XhD m n = _; rw [nbeq]; exact decide_eq_decide.2 ⟨fun h => by rw [h], fun h => Int.negSucc.inj h⟩
theorem XeB (a b : Int) : XcS a b = decide (a < b) := by
 have blt : ∀ m n : Nat, XhK m n = decide (m < n) := fun m n => by
  by_cases e : m < n
  ·rw [blt_iff.2 e]; simp [e]
  ·rw [show XhK m n = false from (by cases hb : XhK m n; rfl; exact absurd (blt_iff.1 hb) e)]; simp [e]
 cases a with
 | ofNat m => cases b with
  | ofNat n => show XhK m n = _; rw [blt]; exact decide_eq_decide.2 ⟨fun h => Int.ofNat_lt.2 h, fun h => Int.ofNat_lt.1 h⟩
  | negSucc n =>
   symm; refine decide_eq_false (fun h => ?_)
   have := Int.negSucc_lt_zero n; have : (0 : Int) <= XhA m := XiH m; omega
 | negSucc m => cases b with
  | ofNat n =>
   symm; refine decide_eq_true ?_
   have := Int.negSucc_lt_zero m; have : (0 : Int) <= XhA n := XiH n; omega
  | negSucc n =>
   show XhK n m = _; rw [blt]
   refine decide_eq_decide.2 ⟨fun h => ?_, fun h => ?_⟩
   ·have := Int.negSucc_eq m; have := Int.negSucc_eq n; omega
   ·have := Int.negSucc_eq m; have := Int.negSucc_eq n; omega
theorem l_lssI {b : Int} (h1 : g t = .int k a) (h2 : g' t = .int k' b) (hk : XL k k' = true) : YE .lss g g' t h = some (.bool (decide (a < b))) := by
 unfold YE; rw [h1, h2, <- XeB]; show (bif XL k k' then _ else _) = _; rw [hk]; rfl
theorem l_gtrI {b : Int} (h1 : g t = .int k a) (h2 : g' t = .int k' b) (hk : XL k k' = true) : YE .gtr g g' t h = some (.bool (decide (b < a))) := by
 unfold YE; rw [h1, h2, <- XeB]; show (bif XL k k' then _ else _) = _; rw [hk]; rfl
theorem l_leqI {b : Int} (h1 : g t = .int k a) (h2 : g' t = .int k' b) (hk : XL k k' = true) : YE .leq g g' t h = some (.bool (decide (a <= b))) := by
 have e : decide (a <= b) = !XcS b a := by rw [XeB]; by_cases h : a <= b <;> simp [h] <;> omega
 unfold YE; rw [h1, h2, e]; show (bif XL k k' then _ else _) = _; rw [hk]; rfl
theorem l_geqI {b : Int} (h1 : g t = .int k a) (h2 : g' t = .int k' b) (hk : XL k k' = true) : YE .geq g g' t h = some (.bool (decide (b <= a))) := by
 have e : decide (b <= a) = !XcS a b := by rw [XeB]; by_cases h : b <= a <;> simp [h] <;> omega
 unfold YE; rw [h1, h2, e]; show (bif XL k k' then _ else _) = _; rw [hk]; rfl
theorem YV {b : Int} (h1 : g t = .int k a) (h2 : g' t = .int k' b) (hk : XL k k' = true) : YE .add g g' t h = some (.int k (k.wrap (a + b))) := by
 unfold YE; rw [h1, h2]; show (bif XL k k' then _ else _) = _; rw [hk]; rfl
theorem l_subI {b : Int} (h1 : g t = .int k a) (h2 : g' t = .int k' b) (hk : XL k k' = true) : YE .sub g g' t h = some (.int k (k.wrap (a - b))) := by
 unfold YE; rw [h1, h2]; show (bif XL k k' then _ else _) = _; rw [hk]; rfl
theorem l_eqI {b : Int} (h1 : g t = .int k a) (h2 : g' t = .int k' b) (hk : XL k k' = true) : XfZ false .int g g' t h = some (.bool (decide (a = b))) := by
 unfold XfZ predEq; rw [h1, h2]; dsimp only; rw [hk, <- XaX]; rfl
theorem l_neI {b : Int} (h1 : g t = .int k a) (h2 : g' t = .int k' b) (hk : XL k k' = true) : XfZ true .int g g' t h = some (.bool !(decide (a = b))) := by
 unfold XfZ predEq; rw [h1, h2]; dsimp only; rw [hk, <- XaX]; rfl
theorem l_not {b : Bool} (hg : g t = .bool b) : Uh .not g t h = some (.bool !b) := by unfold Uh; rw [hg]; rfl
theorem l_pick1 {g'' : Xe} (hg : g t = .bool true) (h1 : g' t = v) : XfY g g' g'' t h = some v := by unfold XfY; rw [hg, <- h1]; rfl
theorem l_pick0 {g'' : Xe} (hg : g t = .bool false) (h1 : g'' t = v) : XfY g g' g'' t h = some v := by unfold XfY; rw [hg, <- h1]; rfl
theorem l_lenSl {a : Option Addr} (hg : g t = .slice a n m) : lkLen .sl g t h = some (.int .i64 n) := by unfold lkLen; dsimp only; rw [hg]; rfl
theorem l_lenStr {s : ByteArray} (hg : g t = .string s) : lkLen .str g t h = some (.int .i64 (bytes s).length) := by unfold lkLen; dsimp only; rw [hg]; rfl
theorem l_ixSl {size : Nat} {a : Addr} (hg : g t = .slice (some a) n m) (hi : g' t = .int k i) (hlt : i < n) : lkIxSl size g g' t h = some (.pointer (some ⟨a.block, a.off + i * size, none⟩)) := by
 unfold lkIxSl; rw [hg, hi]; show (bif XhK i n then _ else _) = _; rw [blt_iff.2 hlt]; rfl
theorem l_extract {vs : List Value} (hg : g t = .tuple ⟨vs⟩) (hv : nth i vs = some v) : Xaa i g t h = some v := by unfold Xaa; rw [hg]; exact hv
theorem l_eqFlat {ls : List Jf} {a b : List Value} {r : Bool} (h1 : g t = .agg ⟨a⟩) (h2 : g' t = .agg ⟨b⟩) (hr : YD ls a b = some r) : XfZ false (.flat ls) g g' t h = some (.bool r) := by
 unfold XfZ predEq; rw [h1, h2]; show Yr none _ (YD ls a b) = _; rw [hr]; rfl
theorem wrap64' (h1 : -9223372036854775808 <= a) (h2 : a <= 9223372036854775807) : IntKind.i64.wrap a = a := by
 have e : IntKind.i64.wrap a = if (true && decide (a % 18446744073709551616 >= (9223372036854775808 : Int))) = true then a % 18446744073709551616 - 18446744073709551616 else a % 18446744073709551616 := rfl
 rw [e]
 simp only [Bool.true_and, decide_eq_true_eq]
 split <;> omega
theorem ZI {a : Nat} (h1 : g t = .int .i64 (XhA a)) (h2 : g' t = .int .i64 (XhA b)) (hb : a + b <= 9223372036854775807) : YE .add g g' t h = some (.int .i64 (XhA (a + b))) := by
 rw [YV h1 h2 rfl, wrap64' (by show -9223372036854775808 <= (a : Int) + b; omega) (by show (a : Int) + b <= _; omega)]
 rfl
theorem YY {a : Nat} (h1 : g t = .int .i64 (XhA a)) (h2 : g' t = .int .i64 (XhA b)) (hb : b <= a) (ha : a <= 9223372036854775807) : YE .sub g g' t h = some (.int .i64 (XhA (a - b))) := by
 rw [l_subI h1 h2 rfl, wrap64' (by show -9223372036854775808 <= (a : Int) - b; omega) (by show (a : Int) - b <= _; omega)]
 congr 2
 show (a : Int) - b = ((a - b : Nat) : Int)
 omega
theorem l_incN {a : Nat} (h1 : g t = .int .i64 (XhA a)) (h2 : g' t = .int .i64 (XhA 1)) (hb : a < 9223372036854775807) : YE .add g g' t h = some (.int .i64 (XhA (a + 1))) := ZI h1 h2 (by omega)
theorem Xaj {a : Nat} (h1 : g t = .int .i64 (XhA a)) (h2 : g' t = .int .i64 (XhA 1)) (ha : 1 <= a) (hb : a <= 9223372036854775807) : YE .sub g g' t h = some (.int .i64 (XhA (a - 1))) := YY h1 h2 ha hb
theorem tn_alloc {z : List Value} : XdC z t h = some (.pointer (some ⟨h.next, 0, none⟩), h.push (.cells true z)) := rfl
theorem tn_buildSlice {z : List Value} {ps : List (Nat × Nat × Xe)} (hf : Yz t ps z = some cs) : Xo z ps n t h = some (.slice (some ⟨h.next, 0, none⟩) n n, h.push (.cells true cs)) := by unfold Xo; rw [hf]
theorem wrap64 (h1 : -9223372036854775808 <= a) (h2 : a <= 9223372036854775807) : IntKind.i64.wrap a = a := by
 have e : IntKind.i64.wrap a = if (true && decide (a % 18446744073709551616 >= (9223372036854775808 : Int))) = true then a % 18446744073709551616 - 18446744073709551616 else a % 18446744073709551616 := rfl
 rw [e]
 simp only [Bool.true_and, decide_eq_true_eq]
 split <;> omega
end
section
variable {sg : Bool} {N : Tm -> Aux -> Heap -> Prop} {X : Nat -> Tm -> Aux -> Heap -> Prop} {R : Tm -> Aux -> Heap -> Prop} {c : Ctx} {t : Tm} {x : Aux} {h : Heap} {g g' : Xe}
theorem exit_here {A B : Prop} {b : Bool} (hb : b = true) (h : A) : (bif b then A else B) := by rw [hb]; exact h
theorem exit_past {A B : Prop} {b : Bool} (hb : b = false) (h : B) : (bif b then A else B) := by rw [hb]; exact h
theorem wp_say {rest : KB} {e b : Bool} (hv : g t = .bool e) (he : e = b) (H : (rest c (p (.bool b) t) x h).Wp sg N X R) : (ZN (xMove g) p rest c t x h).Wp sg N X R := wp_move (he ▸ hv) H
theorem wp_yes {want : Tm -> Bool} {ex : ExF} {rest : KB} (hw : want t = true) (H : (ZN ex p rest c t x h).Wp sg N X R) : (Xf0 want ex p rest c t x h).Wp sg N X R := wp_if hw (fun _ => H) (fun h => nomatch h)
theorem wp_no {want : Tm -> Bool} {ex : ExF} {rest : KB} (hw : want t = false) (H : (rest c (p undef t) x h).Wp sg N X R) : (Xf0 want ex p rest c t x h).Wp sg N X R := wp_if hw (fun h => nomatch h) (fun _ => H)
theorem wp_condT {a b : KB} {e : Bool} (hg : g t = .bool e) (he : e = true) (H : (a c t x h).Wp sg N X R) : (kCond g a b c t x h).Wp sg N X R := wp_cond hg (fun _ => H) (fun k => by rw [he] at k; cases k)
theorem wp_condF {a b : KB} {e : Bool} (hg : g t = .bool e) (he : e = false) (H : (b c t x h).Wp sg N X R) : (kCond g a b c t x h).Wp sg N X R := wp_cond hg (fun k => by rw [he] at k; cases k) (fun _ => H)
theorem wp_dYes {want : Tm -> Bool} {yes rest : KD} {log : List (Nat × J4)} (hw : want t = true) (H : (yes log none c t x h).Wp sg N X R) : (dIf pre want p yes rest log none c t x h).Wp sg N X R := wp_dIf hw (fun _ => H) (fun h => nomatch h)
theorem wp_dNo {want : Tm -> Bool} {yes rest : KD} {log : List (Nat × J4)} (hw : want t = false) (H : (rest log none c (p undef t) x h).Wp sg N X R) : (dIf pre want p yes rest log none c t x h).Wp sg N X R := wp_dIf hw (fun h => nomatch h) (fun _ => H)
theorem wp_dMove {rest : KD} {log : List (Nat × J4)} (hv : g t = v) (hu : J5 log (Jg g) t v un = true)
  (H : (rest ((idx, .ld fun now => WB (Jg g t now) v) :: log) none c (p v t) x h).Wp sg N X R) : (W2 idx un pre (Jg g) p rest log none c t x h).Wp sg N X R := Xk (congrArg some hv) hu H
theorem wp_dName {rest : KD} {log : List (Nat × J4)} {e : Bool} (hv : g t = .bool e) (hu : J5 log (Jg g) t (.bool e) un = true)
  (H : ∀ b, b = e -> (rest ((idx, .ld fun now => WB (Jg g t now) (.bool b)) :: log) none c (p (.bool b) t) x h).Wp sg N X R) : (W2 idx un pre (Jg g) p rest log none c t x h).Wp sg N X R := Xk (congrArg some hv) hu (H e rfl)
theorem wp_dNil {o : Xe} {rest : KD} {log : List (Nat × J4)} {a : Addr} (ho : o t = .pointer (some a)) (hu : ZG log h un = true)
  (H : (rest ((idx, .wr h) :: log) none c (p (.pointer (some a)) t) x h).Wp sg N X R) : (XaP idx un pre w (XM o) p rest log none c t x h).Wp sg N X R := by
 unfold XaP XM
 simp only [ZV, Option.isSome, Bool.and_false, cond_false, ho]
 rw [hu]
 exact H
theorem Heap.get_push_ne {h : Heap} {o : AObj} (hb : b ≠ h.next) : (h.push o).get b = h.get b := by rw [Heap.get_push, if_neg hb]
theorem Heap.get_put_ne {h : Heap} {o : Option AObj} (hb : b ≠ r) : (h.put r o).get b = h.get b := by rw [Heap.get_put, if_neg hb]
theorem Heap.get_put_eq (h : Heap) (r : Nat) (o : Option AObj) : (h.put r o).get r = o := by rw [Heap.get_put, if_pos rfl]
end
theorem eqB_iff (a b : List UInt8) : Vf a b = true ↔ a = b := by rw [Ji]; exact beq_iff_eq
end Go.Eng
namespace Go.Eng.SpanN
end Go.Eng.SpanN
namespace Go.Eng
open SpanN
open SpanN
variable {n b z ca idx o i m r : Nat} {cs xs new : List Value} {p : Value -> Tm -> Tm} {v : Value} {k k' : IntKind} {w : Bool} {a : Int} {ao : Option Addr} {pre un S : List Nat} {h' : Heap} {sp : Option Nat} {Q : Value -> Heap -> Prop} {E : Env}
def sv (s : List UInt8) : Value := .string ⟨⟨s⟩⟩
theorem ctx_fuel (E : Env) (n : Nat) : (ctx E n).fuel = n := by cases n <;> rfl
section
variable {c : Ctx} {t : Tm} {x : Aux} {h : Heap} {g g' : Xe}
theorem Heap.store_of {off : Nat} {ys : List Value} (hb : h.get b = some (.cells true cs)) (hn : off + n <= cs.length) : h.store b off n ys = some (h.put b (some (.cells true (XZ ys off cs)))) := by
 unfold Heap.store
 rw [hb]
 show (bif XhM (off + n) (Wy cs) then _ else _) = _
 rw [ZD, ble_iff.2 hn]
 rfl
theorem tn_store {a : Addr} {ys : List Value} (hg : g t = .pointer (some a)) (hv : g' t = v) (hy : cellsOf v = some ys) (hb : h.get a.block = some (.cells true cs)) (hl : ys.length = n) (hn : a.off + n <= cs.length) :
  XcD n g g' t h = some (undef, h.put a.block (some (.cells true (XZ ys a.off cs)))) := by
 unfold XcD
 rw [hg, hv, hy]
 show Yr none _ (some a) = _
 show (bif XhD (Wy ys) n then Yr none (fun h' => some (undef, h')) (h.store a.block a.off n ys) else none) = _
 rw [ZD, hl, XiS, Heap.store_of hb hn]
 rfl
end
section
variable {c : Ctx} {t : Tm} {x : Aux} {h : Heap} {g g' : Xe}
theorem JS {size : Nat} {s : Value} {r : Value × Heap} (hg : g t = s) (hv : g' t = v) (hl : lenV v = some n) (he : h.elems size n v = some new) (ha : h.appendL size s n new = some r) : Xz size g g' t h = some r := by
 unfold Xz Heap.append
 rw [hg, hv, hl]
 show (match h.elems size n v with
  | some new => h.appendL size s n new
  | none => none) = _
 rw [he]
 exact ha
theorem append_nil {size : Nat} (hn : 0 < n) (hb : n < 100000000) : h.appendL size (.slice none 0 0) n new = some (.slice (some ⟨h.next, 0, some size⟩) n n, h.push (.cells true new)) := by
 obtain ⟨m, rfl⟩ : ∃ m, n = m + 1 := ⟨n - 1, by omega⟩
 show (bif XhK m 100000000 then _ else _) = _
 rw [blt_iff.2 (by omega)]
 rfl
theorem append_nil0 {size : Nat} : h.appendL size (.slice none 0 0) 0 new = some (.slice none 0 0, h) := rfl
theorem append_fresh {size : Nat} {a : Addr} (ha : h.get a.block = some (.cells w cs)) (hs : a.spot = none) (hn : 0 < n) (hb : n < 100000000) :
  h.appendL size (.slice (some a) 0 0) n new = some (.slice (some ⟨h.next, 0, some size⟩) n n, h.push (.cells true new)) := by
 have e : h.load a.block a.off (XhX 0 size) = some [] := by
  refine Heap.load_of ha ?_
  show XU (0 * size) _ = _
  rw [XiA]; rfl
 unfold Heap.appendL
 dsimp only
 rw [e]
 dsimp only
 rw [show XhR 0 n = n from XhT n, blt_iff.2 (show n < 100000000 from hb)]
 rw [show XhM n 0 = false from by cases e : XhM n 0; rfl; rw [ble_iff] at e; omega, hs]
 rfl
theorem append_fresh0 {size : Nat} {a : Addr} (ha : h.get a.block = some (.cells w cs)) :
  h.appendL size (.slice (some a) 0 0) 0 new = some (.slice (some a) 0 0, h) := by
 have e : h.load a.block a.off (XhX 0 size) = some [] := by
  refine Heap.load_of ha ?_
  show XU (0 * size) _ = _
  rw [XiA]; rfl
 unfold Heap.appendL
 dsimp only
 rw [e]
 rfl
theorem append_more {size len : Nat} {old : List Value} (ha : h.load b 0 (len * size) = some old) (hb' : ∃ cs, h.get b = some (.cells true cs)) (hl : 0 < len) (hn : 0 < n) (hb : len + n < 100000000) :
  h.appendL size (.slice (some ⟨b, 0, some size⟩) len len) n new = some (.slice (some ⟨h.next, 0, some size⟩) (len + n) (len + n), (h.put b none).push (.cells true (old ++ new))) := by
 obtain ⟨cs, hb'⟩ := hb'
 unfold Heap.appendL
 dsimp only
 rw [show XhX len size = len * size from rfl, ha]
 dsimp only
 rw [show XhR len n = len + n from rfl, blt_iff.2 hb]
 rw [show XhM (len + n) len = false from by cases e : XhM (len + n) len; rfl; rw [ble_iff] at e; omega]
 show (bif XhD len 0 || !(XhD size size) then _ else _) = _
 rw [XiS, show XhD len 0 = false from by cases e : XhD len 0; rfl; rw [beq_iff] at e; omega, hb', UB]
 rfl
end
theorem putAt_eq (ys xs : List Value) (n : Nat) (h : n + ys.length <= xs.length) : XZ ys n xs = xs.take n ++ (ys ++ xs.drop (n + ys.length)) := by
 induction n generalizing xs with
 | zero =>
  show over ys xs = _
  rw [XiZ, XhT, Xib]
  induction ys generalizing xs with
  | nil => rfl
  | cons y ys ih =>
   cases xs with
   | nil => simp at h
   | cons x xs =>
    show y :: over ys xs = _
    rw [ih xs (by simpa using h)]
    rfl
 | succ n ih =>
  cases xs with
  | nil => simp at h
  | cons x xs =>
   show x :: XZ ys n xs = _
   rw [ih xs (by simp at h ⊢; omega), show n + 1 + ys.length = (n + ys.length) + 1 by omega]
   rfl
section
variable {c : Ctx} {t : Tm} {x : Aux} {h : Heap} {g g' : Xe}
theorem tn_clear {z : List Value} {cap : Nat} (hg : g t = .slice (some ⟨b, o, sp⟩) n cap) (hn : 0 < n) (hz : 0 < z.length) (hb : h.get b = some (.cells true cs)) (hl : o + n * z.length <= cs.length) :
  XdD z g t h = some (.tuple ⟨[]⟩, h.put b (some (.cells true (XZ (rep z n) o cs)))) := by
 unfold XdD
 rw [hg]
 dsimp only
 rw [show XhD n 0 = false from by cases e : XhD n 0; rfl; rw [beq_iff] at e; omega, ZD, show XhD z.length 0 = false from by cases e : XhD z.length 0; rfl; rw [beq_iff] at e; omega]
 show (match h.store b o (n * z.length) (rep z n) with
  | some h' => some (Value.tuple ⟨[]⟩, h')
  | none => none) = _
 rw [Heap.store_of hb hl]
end
section
variable {sg : Bool} {N : Tm -> Aux -> Heap -> Prop} {X : Nat -> Tm -> Aux -> Heap -> Prop} {R : Tm -> Aux -> Heap -> Prop} {c : Ctx} {t : Tm} {x : Aux} {h : Heap} {g g' : Xe}
theorem wp_dKnow {rest : KD} {log : List (Nat × J4)} {e b : Bool} (hv : g t = .bool e) (he : e = b) (hu : J5 log (Jg g) t (.bool b) un = true)
  (H : (rest ((idx, .ld fun now => WB (Jg g t now) (.bool b)) :: log) none c (p (.bool b) t) x h).Wp sg N X R) : (W2 idx un pre (Jg g) p rest log none c t x h).Wp sg N X R := Xk (congrArg some (he ▸ hv)) hu H
theorem YH {log : List (Nat × J4)} {l : Zj} {before : Heap} (hf : Zc i log = some (.wr before)) (h1 : WB (l t before) v = true) (h2 : J5 log l t v un = true) : J5 log l t v (i :: un) = true := by
 show ((match Zc i log with
   | none => true
   | some (.wr before) => WB (l t before) v
   | some (.ld _) => false) && J5 log l t v un) = true
 rw [hf, h2]
 show (WB (l t before) v && true) = true
 rw [h1]; rfl
theorem YI {log : List (Nat × J4)} {f : Heap -> Bool} {now : Heap} (hf : Zc i log = some (.ld f)) (h1 : f now = true) (h2 : ZG log now un = true) : ZG log now (i :: un) = true := by
 show ((match Zc i log with
   | none => true
   | some (.wr _) => false
   | some (.ld again) => again now) && ZG log now un) = true
 rw [hf, h2]
 show (f now && true) = true
 rw [h1]; rfl
end
theorem wp_true {sg : Bool} {f : Nat} {h : Heap} (hs : E.sum f = some XcG) : (enter E (ctx E n) f [] h).Wp sg fun v h' => v = .bool true /\ h' = h := wp_sum hs rfl ⟨rfl, rfl⟩
section
variable {sg : Bool} {N : Tm -> Aux -> Heap -> Prop} {X : Nat -> Tm -> Aux -> Heap -> Prop} {R : Tm -> Aux -> Heap -> Prop} {c : Ctx} {t : Tm} {x : Aux} {h : Heap} {g g' : Xe}
theorem X6 {f : Xe} {args : List Xe} {rest : KB} {v0 : Value} (hc : (c.call (f t) (J1 t args) h).Wp sg fun v h' => v = v0 /\ h' = h) (H : (rest c (p v0 t) x h).Wp sg N X R) : (ZN (xCall f args) p rest c t x h).Wp sg N X R :=
 Xj hc fun v h' q => by obtain ⟨rfl, e⟩ := q; rw [e]; exact H
theorem Z7 {f : Xe} {args : List Xe} {rest : KD} {log : List (Nat × J4)} {v0 : Value} (hc : (c.call (f t) (J1 t args) h).Wp true fun v h' => v = v0 /\ h' = h) (hu : ZG log h un = true)
  (H : (rest ((idx, .wr h) :: log) none c (p v0 t) x h).Wp sg N X R) : (XaP idx un pre w (xCall f args) p rest log none c t x h).Wp sg N X R :=
 YL hc (fun v h' q => by obtain ⟨_, e⟩ := q; rw [e]; exact hu) fun v h' q => by obtain ⟨rfl, e⟩ := q; rw [e]; exact H
end
open SpanN
section
variable {c : Ctx} {t : Tm} {x : Aux} {h : Heap} {g g' : Xe}
theorem sliceOf_eq {size : Nat} {a : Option Addr} {cap l hi : Nat} (h1 : l <= hi) (h2 : hi <= cap) : XaI size a cap l hi cap false = match a with
  | none => some (.slice none (hi - l) (cap - l))
  | some a => bif XhD cap l then some (.slice (some a) 0 0) else match a.spot with
   | none => some (.slice (some ⟨a.block, a.off + l * size, none⟩) (hi - l) (cap - l))
   | some z => bif XhD z size then some (.slice (some ⟨a.block, a.off + l * size, some z⟩) (hi - l) (cap - l)) else none := by
 unfold XaI
 rw [ble_iff.2 h1, ble_iff.2 h2, show XhM cap cap = true from ble_iff.2 (XhE _)]
 rfl
end
theorem l_remI {t : Tm} {h : Heap} {g g' : Xe} {b : Int} (h1 : g t = .int .i64 a) (h2 : g' t = .int .i64 b) (hb : b ≠ 0) : YE .rem g g' t h = some (.int .i64 (a.tmod b)) := by
 unfold YE
 rw [h1, h2]
 show (bif J2 b 0 then none else some (Value.int .i64 (a.tmod b))) = _
 rw [XaX, decide_eq_false hb]; rfl
structure Ext (S : List Nat) (h h' : Heap) : Prop where
 next : h.next <= h'.next
 get : ∀ b, b < h.next -> b ∉ S -> h'.get b = h.get b
theorem Ext.refl (h : Heap) : Ext [] h h := ⟨XhE _, fun _ _ _ => rfl⟩
theorem Ext.of {h : Heap} (k : h.Le h') : Ext [] h h' := ⟨k.next, fun b hb _ => k.get b hb⟩
theorem Ext.trans {T : List Nat} {a b c : Heap} (k : Ext S a b) (l : Ext T b c) (q : ∀ s ∈ T, s ∈ S \/ a.next <= s) : Ext S a c :=
 ⟨Nat.le_trans k.next l.next, fun x hx hs => (l.get x (Xia hx k.next) fun ht => (q x ht).elim hs fun h => absurd hx (Nat.not_lt.2 h)).trans (k.get x hx hs)⟩
theorem Ext.trans0 {a b c : Heap} (k : Ext S a b) (l : Ext [] b c) : Ext S a c := k.trans l fun s hs => nomatch hs
theorem Ext.trans1 {a b c : Heap} {s : Nat} (k : Ext [] a b) (l : Ext [s] b c) (q : a.next <= s) : Ext [] a c := k.trans l fun x hx => by rw [XhB] at hx; subst hx; exact .inr q
theorem Ext.same {a b c : Heap} (k : Ext S a b) (l : Ext S b c) : Ext S a c := k.trans l fun s hs => .inl hs
theorem Ext.mono {T : List Nat} {a b : Heap} (k : Ext S a b) (q : ∀ s ∈ S, s ∈ T \/ a.next <= s) : Ext T a b :=
 ⟨k.next, fun x hx hs => k.get x hx fun h => (q x h).elim hs fun h' => absurd hx (Nat.not_lt.2 h')⟩
theorem Ext.get0 {h : Heap} (k : Ext [] h h') {o : Option AObj} (hb : b < h.next) (g : h.get b = o) : h'.get b = o := (k.get b hb (fun h => nomatch h)).trans g
theorem Ext.get1 {h : Heap} {s : Nat} (k : Ext [s] h h') {o : Option AObj} (hb : b < h.next) (hs : b ≠ s) (g : h.get b = o) : h'.get b = o := (k.get b hb (fun h => hs (XhB.1 h))).trans g
theorem Ext.getS {h : Heap} (k : Ext S h h') {o : Option AObj} (hb : b < h.next) (hs : b ∉ S) (g : h.get b = o) : h'.get b = o := (k.get b hb hs).trans g
theorem Ext.push (h : Heap) (o : AObj) : Ext [] h (h.push o) := .of (Heap.Le.push h o)
theorem Ext.put (h : Heap) (b : Nat) (o : Option AObj) : Ext [b] h (h.put b o) := ⟨XhE _, fun x _ hs => Heap.get_put_ne fun e => hs (XhB.2 e)⟩
section
variable {sg : Bool} {N : Tm -> Aux -> Heap -> Prop} {X : Nat -> Tm -> Aux -> Heap -> Prop} {R : Tm -> Aux -> Heap -> Prop} {c : Ctx} {t : Tm} {x : Aux} {h : Heap} {g g' : Xe}
theorem Xt {rest : KB} {z : List Value} (H : ∀ h' b, Ext [] h h' -> h.next <= h'.next -> h'.get b = some (.cells true z) -> b < h'.next -> b = h.next -> (rest c (p (.pointer (some ⟨b, 0, none⟩)) t) x h').Wp sg N X R) : (ZN (Yi (XdC z)) p rest c t x h).Wp sg N X R :=
 VI tn_alloc (H _ _ (.push _ _) (Xil _) (Heap.get_new _ _) (Xh0 _) rfl)
theorem X2 {rest : KB} (hg : g t = v) (hv : cellsOf v = some cs) (H : ∀ h' b, Ext [] h h' -> h.next <= h'.next -> h'.get b = some (.cells true cs) -> b < h'.next -> b = h.next -> (rest c (p (.pointer (some ⟨b, 0, none⟩)) t) x h').Wp sg N X R) : (ZN (Yi (Yv g)) p rest c t x h).Wp sg N X R :=
 VI (l := Yv g) (v := .pointer (some ⟨h.next, 0, none⟩)) (h' := h.push (.cells true cs)) (by unfold Yv; rw [hg, hv]; rfl) (H _ _ (.push _ _) (Xil _) (Heap.get_new _ _) (Xh0 _) rfl)
theorem XJ {rest : KB} {z : List Value} {ps : List (Nat × Nat × Xe)} (hf : Yz t ps z = some cs) (H : ∀ h' b, Ext [] h h' -> h.next <= h'.next -> h'.get b = some (.cells true cs) -> b < h'.next -> b = h.next -> (rest c (p (.slice (some ⟨b, 0, none⟩) n n) t) x h').Wp sg N X R) : (ZN (Yi (Xo z ps n)) p rest c t x h).Wp sg N X R :=
 VI (tn_buildSlice hf) (H _ _ (.push _ _) (Xil _) (Heap.get_new _ _) (Xh0 _) rfl)
theorem wp_mapE {rest : KB} {sh : KSh} (H : ∀ h' b, Ext [] h h' -> h.next <= h'.next -> h'.get b = some (.map sh 0 []) -> b < h'.next -> b = h.next -> (rest c (p (.map (some b)) t) x h').Wp sg N X R) : (ZN (Yi (XcE sh)) p rest c t x h).Wp sg N X R :=
 VI rfl (H _ _ (.push _ _) (Xil _) (Heap.get_new _ _) (Xh0 _) rfl)
theorem Xm {ys : List Value} {rest : KB} (hg : g t = .pointer (some ⟨b, o, sp⟩)) (hv : g' t = v) (hy : cellsOf v = some ys) (hb : h.get b = some (.cells true cs)) (hl : ys.length = n) (hn : o + n <= cs.length)
  (H : ∀ h', Ext [b] h h' -> h'.next = h.next -> h'.get b = some (.cells true (XZ ys o cs)) -> (rest c t x h').Wp sg N X R) : (oDo (Yi (XcD n g g')) rest c t x h).Wp sg N X R :=
 wp_turnDo (tn_store (a := ⟨b, o, sp⟩) hg hv hy hb hl hn) (H _ (.put _ _ _) rfl (Heap.get_put_eq _ _ _))
theorem Xf9 {z : List Value} {rest : KD} {log : List (Nat × J4)} (hu : ∀ h', ZG log h' un = true)
  (H : ∀ h' b, Ext [] h h' -> h.next <= h'.next -> h'.get b = some (.cells true z) -> b < h'.next -> b = h.next -> (rest ((idx, .wr h) :: log) none c (p (.pointer (some ⟨b, 0, none⟩)) t) x h').Wp sg N X R) : (XaP idx un pre w (Yi (XdC z)) p rest log none c t x h).Wp sg N X R :=
 XaW tn_alloc (hu _) (H _ _ (.push _ _) (Xil _) (Heap.get_new _ _) (Xh0 _) rfl)
theorem Xak {rest : KD} {log : List (Nat × J4)} {z : List Value} {ps : List (Nat × Nat × Xe)} (hf : Yz t ps z = some cs) (hu : ∀ h', ZG log h' un = true)
  (H : ∀ h' b, Ext [] h h' -> h.next <= h'.next -> h'.get b = some (.cells true cs) -> b < h'.next -> b = h.next -> (rest ((idx, .wr h) :: log) none c (p (.slice (some ⟨b, 0, none⟩) n n) t) x h').Wp sg N X R) : (XaP idx un pre w (Yi (Xo z ps n)) p rest log none c t x h).Wp sg N X R :=
 XaW (tn_buildSlice hf) (hu _) (H _ _ (.push _ _) (Xil _) (Heap.get_new _ _) (Xh0 _) rfl)
theorem Yw {ys : List Value} {rest : KD} {log : List (Nat × J4)} (hg : g t = .pointer (some ⟨b, o, sp⟩)) (hv : g' t = v) (hy : cellsOf v = some ys) (hb : h.get b = some (.cells true cs)) (hl : ys.length = n) (hn : o + n <= cs.length) (hu : ∀ h', ZG log h' un = true)
  (H : ∀ h', Ext [b] h h' -> h'.next = h.next -> h'.get b = some (.cells true (XZ ys o cs)) -> (rest ((idx, .wr h) :: log) none c (p undef t) x h').Wp sg N X R) : (XaP idx un pre w (Yi (XcD n g g')) p rest log none c t x h).Wp sg N X R :=
 XaW (tn_store (a := ⟨b, o, sp⟩) hg hv hy hb hl hn) (hu _) (H _ (.put _ _ _) rfl (Heap.get_put_eq _ _ _))
theorem Xg {t : Tm} {h : Heap} : Yx [] [] t h = some [] := rfl
theorem Xb {r : ResF} {rs : List ResF} {t : Tm} {h : Heap} {v vs : List Value} (h1 : r [] t h = some v) (h2 : Yx rs [] t h = some vs) : Yx (r :: rs) [] t h = some (app v vs) := by
 show (match r [] t h, Yx rs [] t h with
  | some v, some vs => some (app v vs)
  | _, _ => none) = _
 rw [h1, h2]
theorem Xw (hg : g t = v) : XV n g [] t h = some [v] := by unfold XV; rw [hg]; rfl
theorem r_cell1 {a : Addr} (hg : g t = .pointer (some a)) (hb : h.get a.block = some (.cells w xs)) (hv : nth a.off xs = some v) : rCell1 n g [] t h = some [v] := by
 unfold rCell1; rw [hg]
 show Yr none (fun p => Yr none (fun v => some [v]) (h.load1 p.block p.off)) (some a) = _
 show Yr none (fun v => some [v]) (h.load1 a.block a.off) = _
 rw [Heap.load1_of hb hv]; rfl
theorem Y4 {k : Nat} {a : Addr} (hg : g t = .pointer (some a)) (hb : h.get a.block = some (.cells w xs)) (hv : XU k (XY a.off xs) = some cs) : ZW n g k [] t h = some [.agg ⟨cs⟩] := by
 unfold ZW; rw [hg]
 show Yr none (fun cs => some [Value.agg ⟨cs⟩]) (h.load a.block a.off k) = _
 rw [Heap.load_of hb hv]; rfl
end
def bxor (k : IntKind) (a b : Int) : Int := k.wrap ((XhZ k.bits a ^^^ XhZ k.bits b).toNat)
def band (k : IntKind) (a b : Int) : Int := k.wrap ((XhZ k.bits a &&& XhZ k.bits b).toNat)
def bor (k : IntKind) (a b : Int) : Int := k.wrap ((XhZ k.bits a ||| XhZ k.bits b).toNat)
def bnot (k : IntKind) (n : Int) : Int := k.wrap ((XhZ k.bits (if k.signed then -1 else k.max) ^^^ XhZ k.bits n).toNat)
def bshl (k : IntKind) (a : Int) (n : Nat) : Int := k.wrap (a * 2 ^ (min n k.bits))
def U1 (k : IntKind) (a : Int) (n : Nat) : Int := a.fdiv (2 ^ (min n k.bits))
section
variable {sg : Bool} {N : Tm -> Aux -> Heap -> Prop} {X : Nat -> Tm -> Aux -> Heap -> Prop} {R : Tm -> Aux -> Heap -> Prop} {c : Ctx} {t : Tm} {x : Aux} {h : Heap} {g g' : Xe}
theorem Wv {b : Int} (h1 : g t = .int k a) (h2 : g' t = .int k' b) (hk : XL k k' = true) : YE .xor g g' t h = some (.int k (bxor k a b)) := by
 unfold YE; rw [h1, h2]; show (bif XL k k' then _ else _) = _; rw [hk]; rfl
theorem Kb {b : Int} (h1 : g t = .int k a) (h2 : g' t = .int k' b) (hk : XL k k' = true) : YE .and g g' t h = some (.int k (band k a b)) := by
 unfold YE; rw [h1, h2]; show (bif XL k k' then _ else _) = _; rw [hk]; rfl
theorem l_orI {b : Int} (h1 : g t = .int k a) (h2 : g' t = .int k' b) (hk : XL k k' = true) : YE .or g g' t h = some (.int k (bor k a b)) := by
 unfold YE; rw [h1, h2]; show (bif XL k k' then _ else _) = _; rw [hk]; rfl
theorem l_mulI {b : Int} (h1 : g t = .int k a) (h2 : g' t = .int k' b) (hk : XL k k' = true) : YE .mul g g' t h = some (.int k (k.wrap (a * b))) := by
 unfold YE; rw [h1, h2]; show (bif XL k k' then _ else _) = _; rw [hk]; rfl
theorem Xc3 {a : Nat} (h1 : g t = .int .i64 (XhA a)) (h2 : g' t = .int .i64 (XhA b)) (hb : a * b <= 9223372036854775807) : YE .mul g g' t h = some (.int .i64 (XhA (a * b))) := by
 have e : (XhA a) * (XhA b) = XhA (a * b) := rfl
 rw [l_mulI h1 h2 rfl, e, wrap64' (by have : (0 : Int) <= XhA (a * b) := XiH _; omega) (by show ((a * b : Nat) : Int) <= _; omega)]
theorem Xga {a : Nat} (h1 : g t = .int .i64 (XhA a)) (h2 : g' t = .int .i64 (XhA b)) (hb : 0 < b) : YE .rem g g' t h = some (.int .i64 (XhA (a % b))) := by
 rw [l_remI h1 h2 (by show (b : Int) ≠ 0; omega)]
 rfl
theorem l_divN {a : Nat} (h1 : g t = .int .i64 (XhA a)) (h2 : g' t = .int .i64 (XhA b)) (hb : 0 < b) (ha : a <= 9223372036854775807) : YE .quo g g' t h = some (.int .i64 (XhA (a / b))) := by
 unfold YE
 rw [h1, h2]
 show (bif J2 (XhA b) 0 then none else some (Value.int .i64 (IntKind.i64.wrap ((XhA a).tdiv (XhA b))))) = _
 rw [XaX, decide_eq_false (by show (b : Int) ≠ 0; omega)]
 have e : (XhA a).tdiv (XhA b) = XhA (a / b) := rfl
 have := Nat.div_le_self a b
 rw [e, wrap64' (by have : (0 : Int) <= XhA (a / b) := XiH _; omega) (by show ((a / b : Nat) : Int) <= _; omega)]
 rfl
theorem l_shlI (h1 : g t = .int k a) (h2 : g' t = .int k' (XhA n)) : YE .shl g g' t h = some (.int k (bshl k a n)) := by
 unfold YE; rw [h1, h2]
 show (bif XcS (XhA n) 0 then none else some (Value.int k (bshl k a n))) = _
 rw [XeB, decide_eq_false (by show ¬ (n : Int) < 0; omega)]; rfl
theorem VW (h1 : g t = .int k a) (h2 : g' t = .int k' (XhA n)) : YE .shr g g' t h = some (.int k (U1 k a n)) := by
 unfold YE; rw [h1, h2]
 show (bif XcS (XhA n) 0 then none else some (Value.int k (U1 k a n))) = _
 rw [XeB, decide_eq_false (by show ¬ (n : Int) < 0; omega)]; rfl
theorem l_xorU (h1 : g t = .int k a) : Uh .xor g t h = some (.int k (bnot k a)) := by unfold Uh; rw [h1]; rfl
theorem l_negI (h1 : g t = .int k a) : Uh .neg g t h = some (.int k (k.wrap (0 - a))) := by unfold Uh; rw [h1]; rfl
theorem l_intTo (h1 : g t = .int k' a) : Yn k g t h = some (.int k (k.wrap a)) := by unfold Yn; rw [h1]
theorem l_lssN {a : Nat} (h1 : g t = .int k (XhA a)) (h2 : g' t = .int k' (XhA b)) (hk : XL k k' = true) : YE .lss g g' t h = some (.bool (decide (a < b))) := by
 rw [l_lssI h1 h2 hk]; exact congrArg (fun z => some (Value.bool z)) (decide_eq_decide.2 (by show (a : Int) < b ↔ _; omega))
theorem l_gtrN {a : Nat} (h1 : g t = .int k (XhA a)) (h2 : g' t = .int k' (XhA b)) (hk : XL k k' = true) : YE .gtr g g' t h = some (.bool (decide (b < a))) := by
 rw [l_gtrI h1 h2 hk]; exact congrArg (fun z => some (Value.bool z)) (decide_eq_decide.2 (by show (b : Int) < a ↔ _; omega))
theorem l_leqN {a : Nat} (h1 : g t = .int k (XhA a)) (h2 : g' t = .int k' (XhA b)) (hk : XL k k' = true) : YE .leq g g' t h = some (.bool (decide (a <= b))) := by
 rw [l_leqI h1 h2 hk]; exact congrArg (fun z => some (Value.bool z)) (decide_eq_decide.2 (by show (a : Int) <= b ↔ _; omega))
theorem l_geqN {a : Nat} (h1 : g t = .int k (XhA a)) (h2 : g' t = .int k' (XhA b)) (hk : XL k k' = true) : YE .geq g g' t h = some (.bool (decide (b <= a))) := by
 rw [l_geqI h1 h2 hk]; exact congrArg (fun z => some (Value.bool z)) (decide_eq_decide.2 (by show (b : Int) <= a ↔ _; omega))
theorem l_eqN {a : Nat} (h1 : g t = .int k (XhA a)) (h2 : g' t = .int k' (XhA b)) (hk : XL k k' = true) : XfZ false .int g g' t h = some (.bool (decide (a = b))) := by
 rw [l_eqI h1 h2 hk]; exact congrArg (fun z => some (Value.bool z)) (decide_eq_decide.2 (by show (a : Int) = b ↔ _; omega))
theorem l_neN {a : Nat} (h1 : g t = .int k (XhA a)) (h2 : g' t = .int k' (XhA b)) (hk : XL k k' = true) : XfZ true .int g g' t h = some (.bool !(decide (a = b))) := by
 rw [l_neI h1 h2 hk]; exact congrArg (fun z => some (Value.bool !z)) (decide_eq_decide.2 (by show (a : Int) = b ↔ _; omega))
theorem lk_int {l : Zj} {b : Int} (hl : l t h = some (.int k a)) (he : a = b) : l t h = some (.int k b) := he ▸ hl
theorem l_field1 {off : Nat} (hg : g t = .agg ⟨cs⟩) (hv : nth off cs = some v) : lkField1 off g t h = some v := by unfold lkField1; rw [hg]; exact hv
theorem l_ixArr {size : Nat} {a : Addr} (hg : g t = .pointer (some a)) (hi : g' t = .int k (XhA i)) (hlt : i < n) : YG n size g g' t h = some (.pointer (some ⟨a.block, a.off + i * size, none⟩)) := by
 unfold YG; rw [hg, hi]; show (bif XhK i n then _ else _) = _; rw [blt_iff.2 hlt]; rfl
theorem l_fieldAddrB {off : Nat} (hg : g t = .pointer (some ⟨b, o, sp⟩)) : Vd off g t h = some (.pointer (some ⟨b, o + off, none⟩)) := l_fieldAddr hg
theorem l_ixArrB {size : Nat} (hg : g t = .pointer (some ⟨b, o, sp⟩)) (hi : g' t = .int k (XhA i)) (hlt : i < n) : YG n size g g' t h = some (.pointer (some ⟨b, o + i * size, none⟩)) := l_ixArr hg hi hlt
theorem l_ixSlB {size : Nat} (hg : g t = .slice (some ⟨b, o, sp⟩) n m) (hi : g' t = .int k (XhA i)) (hlt : i < n) : lkIxSl size g g' t h = some (.pointer (some ⟨b, o + i * size, none⟩)) := l_ixSl hg hi hlt
theorem l_ixVal1 (hg : g t = .agg ⟨cs⟩) (hi : g' t = .int k (XhA i)) (hlt : i < n) (hv : nth i cs = some v) : XcU n g g' t h = some v := by
 unfold XcU; rw [hg, hi]; show (bif XhK i n then nth i cs else none) = _; rw [blt_iff.2 hlt]; exact hv
theorem XB : Yz t [] cs = some cs := rfl
theorem Xf {off : Nat} {g : Xe} {ps : List (Nat × Nat × Xe)} {ys r : List Value} (hv : g t = v) (hy : cellsOf v = some ys) (hl : ys.length = n) (hb : XhM (off + n) cs.length = true) (hr : Yz t ps (XZ ys off cs) = some r) : Yz t ((off, n, g) :: ps) cs = some r := by
 show Yr none (fun ys => bif XhD (Wy ys) n && XhM (XhR off n) (Wy cs) then Yz t ps (XZ ys off cs) else none) (cellsOf (g t)) = _
 rw [hv, hy]
 show (bif XhD (Wy ys) n && XhM (off + n) (Wy cs) then Yz t ps (XZ ys off cs) else none) = _
 rw [ZD, ZD, hl, XiS, hb]
 exact hr
theorem Yo {z : List Value} {ps : List (Nat × Nat × Xe)} (hf : Yz t ps z = some cs) : XF z ps t h = some (.agg ⟨cs⟩) := by unfold XF; rw [hf]; rfl
theorem Yl {a : KB} (n i0 : Nat) (J : Nat -> Tm -> Aux -> Heap -> Prop) (h0 : J i0 t x h) (hi : i0 <= n) (hf : n < c.fuel)
  (step : ∀ i t x h, i <= n -> J i t x h -> (a c t x h).Wp sg (fun t x h => i < n /\ J (i + 1) t x h) X R) : (kLoop a c t x h).Wp sg N X R := by
 refine XdH (fun m t x h => ∃ i, m = n - i /\ i <= n /\ J i t x h) (n - i0) ⟨i0, rfl, hi, h0⟩ (by omega) ?_
 rintro m t x h ⟨i, rfl, hi, hj⟩
 exact (step i t x h hi hj).mono (fun t x h ⟨hlt, hj⟩ => ⟨n - (i + 1), by omega, i + 1, rfl, by omega, hj⟩) (fun _ _ _ _ h => h) (fun _ _ _ h => h)
theorem XG {k : Nat} (hk : k < n) : k < (ctx E n).fuel := by rw [ctx_fuel]; exact hk
def atomV : Value -> Bool
 | .bool _ | .int _ _ | .string _ | .pointer _ | .slice _ _ _ | .map _ | .nilFunc | .nilIface => true
 | _ => false
theorem eqInt_refl (a : Int) : J2 a a = true := by rw [XaX]; exact decide_eq_true rfl
theorem sameV_atom (ha : atomV v = true) : sameV n v v = true := by
 have bb : ∀ a : ByteArray, (a == a) = true := fun a => by rw [<- Xeb, (eqB_iff _ _).2 rfl]
 cases v <;> first | (exact absurd (show false = true from ha) (by decide)) | skip
 case bool a => cases n <;> cases a <;> rfl
 case int k a => cases n <;> (show (XL k k && J2 a a) = true; rw [eqInt_refl]; cases k <;> rfl)
 case string a => cases n <;> exact bb a
 case pointer a => cases n <;> exact beq_self_eq_true a
 case slice a m d => cases n <;> (show (a == a && XhD m m && XhD d d) = true; rw [XiS, XiS, beq_self_eq_true]; rfl)
 case map a => cases n <;> exact beq_self_eq_true a
 case nilFunc => cases n <;> rfl
 case nilIface => cases n <;> rfl
theorem XH {o : Option Value} (h1 : o = some v) (ha : atomV v = true) : WB o v = true := by subst h1; exact sameV_atom ha
theorem sameV_agg (ha : ∀ v ∈ cs, atomV v = true) : sameV (n + 1) (.agg ⟨cs⟩) (.agg ⟨cs⟩) = true := by
 show sameV.all (sameV n) cs cs = true
 induction cs with
 | nil => rfl
 | cons v cs ih =>
  show (sameV n v v && sameV.all (sameV n) cs cs) = true
  rw [sameV_atom (ha v (List.mem_cons_self ..)), ih fun w hw => ha w (List.mem_cons_of_mem _ hw)]; rfl
theorem tells_agg {o : Option Value} (h1 : o = some (.agg ⟨cs⟩)) (ha : ∀ v ∈ cs, atomV v = true) : WB o (.agg ⟨cs⟩) = true := by subst h1; exact sameV_agg ha
end
structure Slc (h : Heap) (z : Nat) (ao : Option Addr) (n ca : Nat) (cs : List Value) : Prop where
 len : cs.length = n * z
 cap : n <= ca
 nil : ao = none -> ca = 0
 spot : ∀ a, ao = some a -> ca = 0 \/ a.spot = none \/ a.spot = some z
 rd : ∀ a, ao = some a -> ∃ w xs, h.get a.block = some (.cells w xs) /\ a.block < h.next /\ XU (n * z) (XY a.off xs) = some cs
theorem Slc.extS {h : Heap} (s : Slc h z ao n ca cs) (e : Ext S h h') (q : ∀ a, ao = some a -> a.block ∉ S) : Slc h' z ao n ca cs :=
 ⟨s.len, s.cap, s.nil, s.spot, fun a ha => by
  obtain ⟨w, xs, h1, h2, h3⟩ := s.rd a ha
  exact ⟨w, xs, e.getS h2 (q a ha) h1, Xia h2 e.next, h3⟩⟩
theorem Slc.ext {h : Heap} (s : Slc h z ao n ca cs) (e : Ext [] h h') : Slc h' z ao n ca cs := s.extS e fun _ _ h => nomatch h
theorem Slc.ext1 {h : Heap} (s : Slc h z ao n ca cs) (e : Ext [b] h h') (q : ∀ a, ao = some a -> a.block ≠ b) : Slc h' z ao n ca cs := s.extS e fun a ha hm => q a ha (XhB.1 hm)
theorem Slc.nonempty {h : Heap} (s : Slc h z ao n ca cs) (hn : 0 < n) : ∃ a w xs, ao = some a /\ h.get a.block = some (.cells w xs) /\ a.block < h.next /\ XU (n * z) (XY a.off xs) = some cs := by
 cases ao with
 | none => have := s.nil rfl; have := s.cap; omega
 | some a => obtain ⟨w, xs, h1, h2, h3⟩ := s.rd a rfl; exact ⟨a, w, xs, rfl, h1, h2, h3⟩
theorem Slc.empty (h : Heap) (z : Nat) : Slc h z none 0 0 [] := ⟨by simp, XhE _, fun _ => rfl, fun a h => (nomatch h), fun a h => (nomatch h)⟩
theorem Yf (ht : XU m (XY o xs) = some cs) (hi : i < m) : nth (o + i) xs = cs[i]? := by
 rw [UZ, VR] at ht
 split at ht
 ·injection ht with ht
  subst ht
  rw [Xea, List.getElem?_take_of_lt hi, List.getElem?_drop]
 ·cases ht
theorem take_take {k : Nat} (ht : XU m (XY o xs) = some cs) (hi : i + k <= m) : XU k (XY (o + i) xs) = some ((cs.drop i).take k) := by
 rw [UZ, VR] at ht ⊢
 split at ht
 ·rename_i hl
  injection ht with ht
  subst ht
  rw [Xif] at hl
  rw [if_pos (by rw [Xif]; omega), List.drop_take, List.drop_drop, List.take_take]
  congr 2
  omega
 ·cases ht
theorem XeC {k : Nat} {a b c : List Value} (ha : a.length = k) (hb : b.length = n) : XU n (XY k (a ++ (b ++ c))) = some b := by
 rw [UZ, VR, <- ha, List.drop_left, <- hb, if_pos (by simp), List.take_left]
theorem nth_app {k : Nat} {a : List Value} {c : List Value} (ha : a.length = k) : nth k (a ++ (v :: c)) = some v := by
 rw [Xea, <- ha, List.getElem?_append_right (XhE _), Nat.sub_self]; rfl
theorem Yk {k : Nat} {a b ys c : List Value} (ha : a.length = k) (hy : ys.length = b.length) : XZ ys k (a ++ (b ++ c)) = a ++ (ys ++ c) := by
 rw [putAt_eq _ _ _ (by simp; omega), <- ha, List.take_left, hy, List.drop_append, List.drop_of_length_le (by omega)]
 simp
theorem XK {a : List Value} (ha : a.length = n) : XU n (XY 0 a) = some a := by
 rw [UZ, VR, <- ha, List.drop_zero, if_pos (XhE _), Xh7]
theorem Xc (bs : List UInt8) : (Xa bs).length = bs.length := by rw [Yj, List.length_map]
theorem XcH {bs : List UInt8} (hi : i < bs.length) : (Xa bs)[i]? = some (byteVal (bs.getD i 0)) := by
 rw [Yj, List.getElem?_map, Xih, XhL hi]; rfl
theorem bytesOf_vals (bs : List UInt8) : bytesOf (Xa bs) = some bs := by
 induction bs with
 | nil => rfl
 | cons b bs ih =>
  show (match bytesOf (Xa bs) with
   | some r => some (UInt8.ofNat (Int.toNat (b.toNat : Int)) :: r)
   | none => none) = _
  rw [ih, Int.toNat_natCast, UInt8.ofNat_toNat]
theorem beqN (a b : Nat) : XhD a b = decide (a = b) := by
 by_cases e : a = b
 ·rw [beq_iff.2 e]; simp [e]
 ·rw [show XhD a b = false from (by cases hb : XhD a b; rfl; exact absurd (beq_iff.1 hb) e)]; simp [e]
theorem bleN (a b : Nat) : XhM a b = decide (a <= b) := by
 by_cases e : a <= b
 ·rw [ble_iff.2 e]; simp [e]
 ·rw [show XhM a b = false from (by cases hb : XhM a b; rfl; exact absurd (ble_iff.1 hb) e)]; simp [e]
theorem Slc.of_get {h : Heap} (g : h.get b = some (.cells w cs)) (hb : b < h.next) (hl : cs.length = n * z) : Slc h z (some ⟨b, 0, none⟩) n n cs :=
 ⟨hl, XhE _, fun e => (nomatch e), fun a e => by cases e; exact .inr (.inl rfl), fun a e => by cases e; exact ⟨w, cs, g, hb, XK hl⟩⟩
theorem Slc.of_part {h : Heap} (g : h.get b = some (.cells w xs)) (hb : b < h.next) (hl : cs.length = n * z) (hm : n <= m) (ht : XU (n * z) (XY o xs) = some cs) : Slc h z (some ⟨b, o, none⟩) n m cs :=
 ⟨hl, hm, fun e => (nomatch e), fun a e => by cases e; exact .inr (.inl rfl), fun a e => by cases e; exact ⟨w, xs, g, hb, ht⟩⟩
theorem Slc.elems {h : Heap} (s : Slc h z ao n ca cs) {k : Nat} (hk : k <= n) : h.elems z k (.slice ao n ca) = some (cs.take (k * z)) := by
 cases ao with
 | none =>
  have := s.nil rfl; have := s.cap
  have hn : n = 0 := by omega
  have hk0 : k = 0 := by omega
  subst hk0
  show (bif XhD 0 0 then some [] else none) = _
  rw [XiA, XiZ]; rfl
 | some a =>
  obtain ⟨w, xs, h1, h2, h3⟩ := s.rd a rfl
  show h.load a.block a.off (k * z) = _
  refine Heap.load_of h1 ?_
  have := take_take (i := 0) (k := k * z) h3 (by rw [XhT]; exact Xi2 z hk)
  rw [Nat.add_zero, List.drop_zero] at this
  exact this
theorem Slc.elemsAll {h : Heap} (s : Slc h z ao n ca cs) : h.elems z n (.slice ao n ca) = some cs := by
 rw [s.elems (XhE _), <- s.len, Xh7]
theorem Slc.sub {h : Heap} (s : Slc h z ao n ca cs) {l : Nat} (h1 : l <= r) (h2 : r <= n) :
  ∃ ao' ca', XaI z ao ca l r ca false = some (.slice ao' (r - l) ca') /\ Slc h z ao' (r - l) ca' ((cs.drop (l * z)).take ((r - l) * z)) /\ ∀ a', ao' = some a' -> ∃ a, ao = some a /\ a'.block = a.block := by
 have hc := s.cap
 rw [sliceOf_eq h1 (by omega)]
 have hlen : ((cs.drop (l * z)).take ((r - l) * z)).length = (r - l) * z := by
  rw [Xie, Xif, s.len]
  have : l * z + (r - l) * z <= n * z := by rw [<- XiU]; exact Xi2 z (by omega)
  omega
 cases ao with
 | none =>
  have hca := s.nil rfl
  refine ⟨none, ca - l, rfl, ⟨hlen, by omega, fun _ => by omega, fun a e => (nomatch e), fun a e => (nomatch e)⟩, fun a e => (nomatch e)⟩
 | some a =>
  dsimp only
  obtain ⟨w, xs, g1, g2, g3⟩ := s.rd a rfl
  have tk : XU ((r - l) * z) (XY (a.off + l * z) xs) = some ((cs.drop (l * z)).take ((r - l) * z)) := take_take g3 (by rw [<- XiU]; exact Xi2 z (by omega))
  by_cases hcl : ca = l
  ·rw [beq_iff.2 hcl]
   have h0 : r - l = 0 := by omega
   refine ⟨some a, 0, by rw [h0]; rfl, ⟨hlen, by omega, fun e => (nomatch e), fun _ _ => .inl rfl, fun a' e => by
    cases e
    refine ⟨w, xs, g1, g2, ?_⟩
    have hcs : (cs.drop (l * z)).take ((r - l) * z) = [] := by rw [h0, XiA, XiZ]
    rw [hcs, h0, XiA]; rfl⟩, fun a' e => ⟨a, rfl, by cases e; rfl⟩⟩
  ·rw [show XhD ca l = false from by rw [beqN]; exact decide_eq_false hcl]
   have mk : ∀ sp, (sp = none \/ sp = some z) -> Slc h z (some ⟨a.block, a.off + l * z, sp⟩) (r - l) (ca - l) ((cs.drop (l * z)).take ((r - l) * z)) := fun sp hsp =>
    ⟨hlen, by omega, fun e => (nomatch e), fun a' e => by cases e; exact .inr hsp, fun a' e => by cases e; exact ⟨w, xs, g1, g2, tk⟩⟩
   rcases s.spot a rfl with e | e | e
   ·omega
   ·rw [e]; exact ⟨_, _, rfl, mk none (.inl rfl), fun a' e => ⟨a, rfl, by cases e; rfl⟩⟩
   ·rw [e]
    refine ⟨_, _, ?_, mk (some z) (.inr rfl), fun a' e => ⟨a, rfl, by cases e; rfl⟩⟩
    show (bif XhD z z then _ else _) = _
    rw [XiS]; rfl
section
variable {sg : Bool} {N : Tm -> Aux -> Heap -> Prop} {X : Nat -> Tm -> Aux -> Heap -> Prop} {R : Tm -> Aux -> Heap -> Prop} {c : Ctx} {t : Tm} {x : Aux} {h : Heap} {g g' : Xe}
theorem l_sub (s : Slc h z ao n ca cs) {lo hi : Option Xe} {l : Nat} (hg : g t = .slice ao n ca) (hlo : Y5 t 0 lo = some l) (hhi : Y5 t n hi = some r) (h1 : l <= r) (h2 : r <= n) :
  ∃ ao' ca', XC z g lo hi none t h = some (.slice ao' (r - l) ca') /\ Slc h z ao' (r - l) ca' ((cs.drop (l * z)).take ((r - l) * z)) /\ ∀ a', ao' = some a' -> ∃ a, ao = some a /\ a'.block = a.block := by
 obtain ⟨ao', ca', e, k⟩ := s.sub h1 h2
 refine ⟨ao', ca', ?_, k⟩
 unfold XC
 rw [hg]
 dsimp only
 rw [hlo, hhi]
 exact e
theorem Xal {rest : KB} (s : Slc h z ao n ca cs) {lo hi : Option Xe} {l : Nat} (hg : g t = .slice ao n ca) (hlo : Y5 t 0 lo = some l) (hhi : Y5 t n hi = some r) (h1 : l <= r) (h2 : r <= n)
  (H : ∀ ao' ca', Slc h z ao' (r - l) ca' ((cs.drop (l * z)).take ((r - l) * z)) -> (∀ a', ao' = some a' -> ∃ a, ao = some a /\ a'.block = a.block) -> (rest c (p (.slice ao' (r - l) ca') t) x h).Wp sg N X R) : (ZN (VG (XC z g lo hi none)) p rest c t x h).Wp sg N X R := by
 obtain ⟨ao', ca', e, k1, k2⟩ := l_sub s hg hlo hhi h1 h2
 exact Xd e (H ao' ca' k1 k2)
theorem wp_dSub {rest : KD} {log : List (Nat × J4)} (s : Slc h z ao n ca cs) {lo hi : Option Xe} {l : Nat} (hg : g t = .slice ao n ca) (hlo : Y5 t 0 lo = some l) (hhi : Y5 t n hi = some r) (h1 : l <= r) (h2 : r <= n) (hu : un = [])
  (H : ∀ ao' ca' log, Slc h z ao' (r - l) ca' ((cs.drop (l * z)).take ((r - l) * z)) -> (∀ a', ao' = some a' -> ∃ a, ao = some a /\ a'.block = a.block) -> (rest log none c (p (.slice ao' (r - l) ca') t) x h).Wp sg N X R) : (W2 idx un pre (XC z g lo hi none) p rest log none c t x h).Wp sg N X R := by
 subst hu
 obtain ⟨ao', ca', e, k1, k2⟩ := l_sub s hg hlo hhi h1 h2
 exact Xk e rfl (H ao' ca' _ k1 k2)
theorem Jk {size : Nat} {lo hi : Option Xe} {l : Nat} (hg : g t = .pointer (some ⟨b, o, sp⟩)) (hlo : Y5 t 0 lo = some l) (hhi : Y5 t n hi = some r) (h1 : l <= r) (h2 : r <= n) (h3 : l < n) : Za n size g lo hi none t h = some (.slice (some ⟨b, o + l * size, none⟩) (r - l) (n - l)) := by
 unfold Za
 rw [hg]
 show (match Y5 t 0 lo, Y5 t n hi, Y5 t n none with
  | some l, some h, some m => bif Option.isSome none && hi.isNone then none else XaI size (some ⟨b, o, none⟩) n l h m (Option.isSome none)
  | _, _, _ => none) = _
 rw [hlo, hhi]
 show XaI size (some ⟨b, o, none⟩) n l r n false = _
 rw [sliceOf_eq h1 h2]
 dsimp only
 rw [show XhD n l = false from by rw [beqN]; exact decide_eq_false (by omega)]
 rfl
theorem tn_copyS {size : Nat} {d : Addr} {dl dc k : Nat} (s : Slc h size ao n ca cs) (hg : g t = .slice (some d) dl dc) (hg' : g' t = .slice ao n ca) (hb : h.get d.block = some (.cells true xs)) (hk : k = min dl n) (hpos : 0 < k) (hfit : d.off + k * size <= xs.length) :
  Uz size g g' t h = some (.int .i64 (XhA k), h.put d.block (some (.cells true (XZ (cs.take (k * size)) d.off xs)))) := by
 have e : (bif XhM n dl then n else dl) = k := by
  rw [bleN, hk]
  by_cases q : n <= dl
  ·rw [decide_eq_true q, Nat.min_eq_right q]; rfl
  ·rw [decide_eq_false q, Nat.min_eq_left (by omega)]; rfl
 unfold Uz
 rw [hg, hg']
 dsimp only [lenV]
 rw [e, s.elems (by omega)]
 dsimp only
 rw [show XhD k 0 = false from by rw [beqN]; exact decide_eq_false (by omega)]
 show (match h.store d.block d.off (k * size) (cs.take (k * size)) with
       | some h' => some (Value.int .i64 (XhA k), h')
       | none => none) = _
 rw [Heap.store_of hb hfit]
theorem wp_dCopy {rest : KD} {log : List (Nat × J4)} {size : Nat} {dl dc k : Nat} (s : Slc h size ao n ca cs) (hg : g t = .slice (some ⟨b, o, sp⟩) dl dc) (hg' : g' t = .slice ao n ca) (hb : h.get b = some (.cells true xs)) (hk : k = min dl n) (hpos : 0 < k) (hfit : o + k * size <= xs.length) (hu : ∀ h', ZG log h' un = true)
  (H : ∀ h', Ext [b] h h' -> h'.next = h.next -> h'.get b = some (.cells true (XZ (cs.take (k * size)) o xs)) -> (rest ((idx, .wr h) :: log) none c (p (.int .i64 (XhA k)) t) x h').Wp sg N X R) : (XaP idx un pre w (Yi (Uz size g g')) p rest log none c t x h).Wp sg N X R :=
 XaW (tn_copyS (d := ⟨b, o, sp⟩) s hg hg' hb hk hpos hfit) (hu _) (H _ (.put _ _ _) rfl (Heap.get_put_eq _ _ _))
end
def XD : Option Addr -> List Nat
 | some a => [a.block]
 | none => []
structure Own (h : Heap) (z : Nat) (ao : Option Addr) (n ca : Nat) (cs : List Value) : Prop extends Slc h z ao n ca cs where
 own : (ao = none /\ n = 0 /\ ca = 0) \/ (∃ b, ao = some ⟨b, 0, some z⟩ /\ n = ca /\ 0 < n /\ h.get b = some (.cells true cs)) \/ (∃ b, ao = some ⟨b, 0, none⟩ /\ n = 0 /\ ca = 0)
theorem Own.empty (h : Heap) (z : Nat) : Own h z none 0 0 [] := ⟨.empty h z, .inl ⟨rfl, rfl, rfl⟩⟩
theorem Own.lit {h : Heap} (g : h.get b = some (.cells w [])) (hb : b < h.next) : Own h z (some ⟨b, 0, none⟩) 0 0 [] := ⟨.of_get g hb (by simp), .inr (.inr ⟨b, rfl, rfl, rfl⟩)⟩
theorem Own.extS {h : Heap} (s : Own h z ao n ca cs) (e : Ext S h h') (q : ∀ a, ao = some a -> a.block ∉ S) : Own h' z ao n ca cs :=
 ⟨s.toSlc.extS e q, by
  rcases s.own with k | ⟨b, k1, k2, k3, k4⟩ | k
  ·exact .inl k
  ·refine .inr (.inl ⟨b, k1, k2, k3, e.getS ?_ (q _ k1) k4⟩)
   obtain ⟨w, xs, g1, g2, g3⟩ := s.rd _ k1
   exact g2
  ·exact .inr (.inr k)⟩
theorem Own.ext {h : Heap} (s : Own h z ao n ca cs) (e : Ext [] h h') : Own h' z ao n ca cs := s.extS e fun _ _ h => nomatch h
theorem Own.append {h : Heap} (o : Own h z ao n ca cs) {k : Nat} (hnew : new.length = k * z) (hb : n + k < 100000000) :
  ∃ ao' ca' h', h.appendL z (.slice ao n ca) k new = some (.slice ao' (n + k) ca', h') /\ Own h' z ao' (n + k) ca' (cs ++ new) /\ Ext (XD ao) h h' /\ ∀ a, ao' = some a -> a.block ∈ XD ao \/ (h.next <= a.block /\ a.block < h'.next) := by
 have k0 : k = 0 -> new = [] := fun e => XiB (by rw [hnew, e, XiA])
 have newOwn : ∀ (h' : Heap) (b m : Nat) (ds : List Value), 0 < m -> ds.length = m * z -> h'.get b = some (.cells true ds) -> b < h'.next -> Own h' z (some ⟨b, 0, some z⟩) m m ds := fun h' b m ds hm hl hg hlt =>
  ⟨⟨hl, XhE _, fun e => (nomatch e), fun a e => by cases e; exact .inr (.inr rfl), fun a e => by cases e; exact ⟨true, ds, hg, hlt, XK hl⟩⟩, .inr (.inl ⟨b, rfl, rfl, hm, hg⟩)⟩
 rcases o.own with ⟨rfl, rfl, rfl⟩ | ⟨b, rfl, rfl, hn, hg⟩ | ⟨b, rfl, rfl, rfl⟩
 ·have hcs : cs = [] := XiB (by rw [o.len, XiA])
  subst hcs
  by_cases hk : k = 0
  ·subst hk
   rw [k0 rfl]
   exact ⟨none, 0, h, append_nil0, .empty h z, .refl h, fun a e => (nomatch e)⟩
  ·simp only [XhT, Xib]
   refine ⟨some ⟨h.next, 0, some z⟩, k, h.push (.cells true new), append_nil (by omega) (by omega), ?_, .push _ _, fun a e => by cases e; exact .inr ⟨XhE _, Xh0 _⟩⟩
   exact newOwn _ _ _ _ (by omega) hnew (Heap.get_new _ _) (Xh0 _)
 ·obtain ⟨w, xs, g1, g2, g3⟩ := o.rd _ rfl
  have hload : h.load b 0 (n * z) = some cs := Heap.load_of hg (XK o.len)
  by_cases hk : k = 0
  ·subst hk
   rw [k0 rfl, List.append_nil, Nat.add_zero]
   refine ⟨_, _, h, ?_, o, ⟨XhE _, fun _ _ _ => rfl⟩, fun a e => by cases e; exact .inl (XhB.2 rfl)⟩
   unfold Heap.appendL
   dsimp only
   rw [show XhX n z = n * z from rfl, hload]
   dsimp only
   rw [show XhR n 0 = n from rfl, blt_iff.2 (show n < 100000000 by omega), ble_iff.2 (XhE n)]
   rfl
  ·refine ⟨_, _, _, append_more hload ⟨_, hg⟩ hn (by omega) hb, ?_, ?_, fun a e => by cases e; exact .inr ⟨XhE _, Xh0 _⟩⟩
   ·exact newOwn _ _ _ _ (by omega) (by rw [XhC, o.len, hnew, XiU]) (Heap.get_new (h.put b none) _) (Xh0 _)
   ·exact (Ext.put h b none).trans0 (.push _ _)
 ·have hcs : cs = [] := XiB (by rw [o.len, XiA])
  subst hcs
  obtain ⟨w, xs, g1, g2, g3⟩ := o.rd _ rfl
  by_cases hk : k = 0
  ·subst hk
   rw [k0 rfl]
   exact ⟨_, _, h, append_fresh0 g1, o, ⟨XhE _, fun _ _ _ => rfl⟩, fun a e => by cases e; exact .inl (XhB.2 rfl)⟩
  ·simp only [XhT, Xib]
   refine ⟨some ⟨h.next, 0, some z⟩, k, h.push (.cells true new), append_fresh g1 rfl (by omega) (by omega), ?_, (Ext.push _ _).mono (fun s hs => nomatch hs), fun a e => by cases e; exact .inr ⟨XhE _, Xh0 _⟩⟩
   exact newOwn _ _ _ _ (by omega) hnew (Heap.get_new _ _) (Xh0 _)
section
variable {sg : Bool} {N : Tm -> Aux -> Heap -> Prop} {X : Nat -> Tm -> Aux -> Heap -> Prop} {R : Tm -> Aux -> Heap -> Prop} {c : Ctx} {t : Tm} {x : Aux} {h : Heap} {g g' : Xe}
theorem XP {rest : KB} (o : Own h z ao n ca cs) {k : Nat} (hg : g t = .slice ao n ca) (hv : g' t = v) (hl : lenV v = some k) (he : h.elems z k v = some new) (hnew : new.length = k * z) (hb : n + k < 100000000)
  (H : ∀ ao' ca' h', Own h' z ao' (n + k) ca' (cs ++ new) -> Ext (XD ao) h h' -> h.next <= h'.next -> (∀ a, ao' = some a -> a.block ∈ XD ao \/ (h.next <= a.block /\ a.block < h'.next)) -> (rest c (p (.slice ao' (n + k) ca') t) x h').Wp sg N X R) : (ZN (Yi (Xz z g g')) p rest c t x h).Wp sg N X R := by
 obtain ⟨ao', ca', h', e1, e2, e3, e4⟩ := o.append hnew hb
 exact VI (JS hg hv hl he e1) (H ao' ca' h' e2 e3 e3.next e4)
theorem WM {rest : KD} {log : List (Nat × J4)} (o : Own h z ao n ca cs) {k : Nat} (hg : g t = .slice ao n ca) (hv : g' t = v) (hl : lenV v = some k) (he : h.elems z k v = some new) (hnew : new.length = k * z) (hb : n + k < 100000000) (hu : ∀ h', ZG log h' un = true)
  (H : ∀ ao' ca' h', Own h' z ao' (n + k) ca' (cs ++ new) -> Ext (XD ao) h h' -> h.next <= h'.next -> (∀ a, ao' = some a -> a.block ∈ XD ao \/ (h.next <= a.block /\ a.block < h'.next)) -> (rest ((idx, .wr h) :: log) none c (p (.slice ao' (n + k) ca') t) x h').Wp sg N X R) : (XaP idx un pre w (Yi (Xz z g g')) p rest log none c t x h).Wp sg N X R := by
 obtain ⟨ao', ca', h', e1, e2, e3, e4⟩ := o.append hnew hb
 exact XaW (JS hg hv hl he e1) (hu _) (H ao' ca' h' e2 e3 e3.next e4)
theorem elems_str {h : Heap} (s : List UInt8) : h.elems 1 s.length (sv s) = some (Xa s) := by
 show (bif XhD 1 1 then XU s.length (Xa s) else none) = _
 have : XU s.length (Xa s) = some (Xa s) := by
  have := XK (n := s.length) (a := Xa s) (Xc s)
  exact this
 rw [this]; rfl
end
theorem wrap8 (z : Int) : IntKind.u8.wrap z = z % 256 := rfl
theorem wrap8_lt (z : Int) : 0 <= IntKind.u8.wrap z /\ IntKind.u8.wrap z < 256 := by rw [wrap8]; omega
def W4 (z : Int) : UInt8 := UInt8.ofNat (IntKind.u8.wrap z).toNat
theorem Xc4 (z : Int) : Value.int .u8 (IntKind.u8.wrap z) = byteVal (W4 z) := by
 have h := wrap8_lt z
 unfold byteVal W4
 congr 1
 rw [UInt8.toNat_ofNat']
 show _ = (((IntKind.u8.wrap z).toNat % 256 : Nat) : Int)
 omega
def Uw (l : List UInt8) (N m : Nat) : List UInt8 := l.take m ++ XhY (N - m) 0
theorem fillB_length {l : List UInt8} {N : Nat} (h : m <= N) (hl : m <= l.length) : (Uw l N m).length = N := by
 unfold Uw; rw [XhC, Xie, List.length_replicate]; omega
theorem fillB_put {l : List UInt8} {N : Nat} (hm : m < N) (hl : m < l.length) : XZ [byteVal (l.getD m 0)] (0 + m * 1) (Xa (Uw l N m)) = Xa (Uw l N (m + 1)) := by
 have hlen : (Xa (l.take m)).length = m := by rw [Xc, Xie]; omega
 have e : Xa (Uw l N m) = Xa (l.take m) ++ ([byteVal 0] ++ Xa (XhY (N - (m + 1)) 0)) := by
  unfold Uw
  rw [show N - m = (N - (m + 1)) + 1 by omega, List.replicate_succ, Yj, Yj, Yj, Xh2, List.map_cons]; rfl
 rw [e, XhT, Nat.mul_one, Yk (b := [byteVal 0]) (ys := [byteVal (l.getD m 0)]) hlen rfl]
 unfold Uw
 rw [List.take_add_one, XhL hl, Yj, Yj, Yj, Xh2, Xh2, List.append_assoc, Xih, XhL hl]; rfl
theorem fillB_zero (l : List UInt8) (N : Nat) : Uw l N 0 = XhY N 0 := by unfold Uw; rw [XiZ]; rfl
theorem fillB_all {l : List UInt8} {N : Nat} (h : l.length = N) : Uw l N N = l := by unfold Uw; rw [Nat.sub_self, <- h, Xh7]; simp
theorem XS (a b : List UInt8) : Xa (a ++ b) = Xa a ++ Xa b := by rw [Yj, Yj, Yj, Xh2]
theorem U2 (a : List UInt8) (n : Nat) : (Xa a).take n = Xa (a.take n) := by rw [Yj, Yj, List.map_take]
theorem U3 (a : List UInt8) (n : Nat) : (Xa a).drop n = Xa (a.drop n) := by rw [Yj, Yj, List.map_drop]
theorem Ext.join {T U : List Nat} {a b c : Heap} (k : Ext S a b) (l : Ext T b c) (q : ∀ s ∈ S, s ∈ U \/ a.next <= s) (q' : ∀ s ∈ T, s ∈ U \/ a.next <= s) : Ext U a c := (k.mono q).trans l q'
theorem Slc.lt {h : Heap} (s : Slc h z ao n ca cs) : ∀ a, ao = some a -> a.block < h.next := fun a ha => by
 obtain ⟨w, xs, h1, h2, h3⟩ := s.rd a ha
 exact h2
def Dr.Wp (r : Dr) (sg : Bool) (Q : Heap -> Prop) : Prop :=
 Dr.rec (motive := fun _ => Prop) (fun m h => m = .returning /\ Q h) (fun _ _ _ => False) (fun _ => False) (fun n _ ih => sg = false /\ ∀ i, i < n -> ih i) r
section
variable {sg : Bool} {N : Tm -> Aux -> Heap -> Prop} {X : Nat -> Tm -> Aux -> Heap -> Prop} {R : Tm -> Aux -> Heap -> Prop} {c : Ctx} {t : Tm} {x : Aux} {h : Heap} {g g' : Xe}
theorem wp_defer {f : Xe} {args : List Xe} {rest : KB} {ds : List ADef} {rc : Option WT} {fn : Fn} {a b : Array Value} (hf : f t = .func fn a b) (H : (rest c t ⟨.call (.func fn a b) (J1 t args) :: ds, none, rc⟩ h).Wp sg N X R) : (oDo (Wu f args) rest c t ⟨ds, none, rc⟩ h).Wp sg N X R := by
 unfold oDo Wu
 dsimp only
 rw [hf]
 exact H
theorem wp_recover0 {rest : KB} {ds : List ADef} (H : (rest c (p .nilIface t) ⟨ds, none, some .returning⟩ h).Wp sg N X R) : (ZN WA p rest c t ⟨ds, none, some .returning⟩ h).Wp sg N X R := H
theorem wp_enterD {f : Nat} {k : XI} {first captured : Array Value} {args as : List Value} {Q : Heap -> Prop} (hk : E.fn f = some k) (ha : first.toList ++ (args ++ captured.toList) = as) (hl : as.length <= 255)
  (H : (k.body c (Z8 as 0 Tm.empty) ⟨[], none, some .returning⟩ h).Wp sg (fun t x h => x.defers = [] /\ x.rc = some .returning /\ (∃ vs, Yx k.res [] t h = some vs) /\ Q h) (fun _ _ _ _ => False) (fun t x h => x.defers = [] /\ x.rc = some .returning /\ (∃ vs, Yx k.res [] t h = some vs) /\ Q h)) :
  (Xf2 E c (.func (.func f) first captured) args .returning h).Wp sg Q := by
 unfold Xf2
 simp only [UB, ha, hk]
 have : XhM (Wy as) 255 = true := by rw [ZD, ble_iff]; exact hl
 rw [this]
 have fin : ∀ t (x : Aux) h, (x.defers = [] /\ x.rc = some .returning /\ (∃ vs, Yx k.res [] t h = some vs) /\ Q h) -> Dr.Wp (match x.defers, x.rc with
     | [], some m' => match Yx k.res [] t h with
      | some _ => .ret m' h
      | none => .fail "results"
     | _, _ => .fail "deferred calls of a deferred call") sg Q := by
  rintro t x h ⟨h1, h2, ⟨vs, h3⟩, h4⟩
  rw [h1, h2]
  dsimp only
  rw [h3]
  exact ⟨rfl, h4⟩
 show Dr.Wp (Rz.toDr _ _ _) sg Q
 generalize k.body c (Z8 as 0 Tm.empty) ⟨[], none, some .returning⟩ h = r at H
 induction r with
 | norm => exact fin _ _ _ H
 | exit => exact H.elim
 | ret => exact fin _ _ _ H
 | panic => exact H.elim
 | got => exact H.elim
 | fail => exact H.elim
 | any n k ih => exact ⟨H.1, fun i hi => ih i (H.2 i hi)⟩
theorem wp_fnD {fn : XI} {args : List Value} (hl : args.length <= 255)
  (H : (fn.body c (Z8 args 0 Tm.empty) ⟨[], none, none⟩ h).Wp sg (fun _ _ _ => False) (fun _ _ _ _ => False) (fun t x h => ∃ f as, x.defers = [.call f as] /\ (Xf2 E c f as .returning h).Wp sg fun h' => ∃ vs, Yx fn.res [] t h' = some vs /\ Q (WL vs) h')) : (J7 E c fn args h).Wp sg Q := by
 unfold J7
 have : XhM (Wy args) 255 = true := by rw [ZD, ble_iff]; exact hl
 rw [this]
 have fin : ∀ t (x : Aux) h, (∃ f as, x.defers = [.call f as] /\ (Xf2 E c f as .returning h).Wp sg fun h' => ∃ vs, Yx fn.res [] t h' = some vs /\ Q (WL vs) h') -> (finish E c fn.res [] t x.defers .returning h).Wp sg Q := by
  rintro t x h ⟨f, as, h1, h2⟩
  rw [h1]
  show (Dr.toEr (Xf2 E c f as .returning h) _ _).Wp sg Q
  generalize Xf2 E c f as .returning h = r at h2
  induction r with
  | ret m h' =>
   obtain ⟨rfl, vs, h3, h4⟩ := h2
   show Er.Wp (match Yx fn.res [] t h' with
    | some vs => Er.ret (WL vs) h'
    | none => .fail "results") sg Q
   rw [h3]
   exact h4
  | panic => exact h2.elim
  | fail => exact h2.elim
  | any n k ih => exact ⟨h2.1, fun i hi => ih i (h2.2 i hi)⟩
 show (Rz.toEr _ _ _ _ _).Wp sg Q
 generalize fn.body c (Z8 args 0 Tm.empty) ⟨[], none, none⟩ h = r at H
 induction r with
 | norm => exact H.elim
 | exit => exact H.elim
 | ret => exact fin _ _ _ H
 | panic => exact H.elim
 | got => exact H.elim
 | fail => exact H.elim
 | any n k ih => exact ⟨H.1, fun i hi => ih i (H.2 i hi)⟩
end
theorem Yq {ys : List Value} (h : ys.length = xs.length) : XZ ys 0 xs = ys := by
 rw [putAt_eq _ _ _ (by omega), h, XhT, List.drop_length]; simp
theorem wrapN64 {a : Nat} (h : a < 9223372036854775808) : IntKind.i64.wrap (a : Int) = (a : Int) := wrap64' (by omega) (by omega)
theorem ofInt64 {a : Nat} (h : a < 18446744073709551616) : (XhZ 64 (a : Int)).toNat = a := by
 rw [BitVec.toNat_ofInt]
 show ((a : Int) % (2 ^ 64 : Nat)).toNat = a
 omega
theorem band127 {k : Nat} (hk : k < 9223372036854775808) : band .i64 (XhA k) (XhA 127) = XhA (k % 128) := by
 show IntKind.i64.wrap (((XhZ 64 (k : Int) &&& XhZ 64 ((127 : Nat) : Int)).toNat : Nat) : Int) = _
 rw [BitVec.toNat_and, ofInt64 (by omega), ofInt64 (by omega)]
 have : k &&& 127 = k % 128 := Nat.and_two_pow_sub_one_eq_mod k 7
 rw [this, wrapN64 (by omega)]; rfl
theorem bor128 {k : Nat} (hk : k < 128) : bor .i64 (XhA k) (XhA 128) = XhA (k + 128) := by
 show IntKind.i64.wrap (((XhZ 64 (k : Int) ||| XhZ 64 ((128 : Nat) : Int)).toNat : Nat) : Int) = _
 rw [BitVec.toNat_or, ofInt64 (by omega), ofInt64 (by omega)]
 have : k ||| 128 = k + 128 := by
  have h2 : 2 ^ 7 * 1 + k = 2 ^ 7 * 1 ||| k := Nat.two_pow_add_eq_or_of_lt (i := 7) (b := k) hk 1
  have h3 : (2 ^ 7 * 1 : Nat) = 128 := rfl
  rw [h3] at h2
  rw [Nat.or_comm, <- h2, Nat.add_comm]
 rw [this, wrapN64 (by omega)]; rfl
theorem bshr7 {k : Nat} : U1 .i64 (XhA k) 7 = XhA (k / 128) := by
 show (XhA k).fdiv (2 ^ (min 7 64)) = _
 have : (2 : Int) ^ (min 7 64) = XhA 128 := rfl
 rw [this, Int.fdiv_eq_ediv_of_nonneg _ (by decide)]; rfl
theorem wrap8N {k : Nat} (hk : k < 256) : Value.int .u8 (IntKind.u8.wrap (XhA k)) = byteVal (UInt8.ofNat k) := by
 rw [Xc4]
 congr 1
 unfold W4
 congr 1
 show ((k : Int) % 256).toNat = k
 omega
theorem append_zero {h : Heap} {size cap : Nat} (ha : h.get b = some (.cells w cs)) : h.appendL size (.slice (some ⟨b, o, sp⟩) 0 cap) 0 [] = some (.slice (some ⟨b, o, sp⟩) 0 cap, h) := by
 have e : h.load b o (XhX 0 size) = some [] := by
  refine Heap.load_of ha ?_
  show XU (0 * size) _ = _
  rw [XiA]; rfl
 unfold Heap.appendL
 dsimp only
 rw [e]
 dsimp only
 rw [show XhR 0 0 = 0 from rfl, show XhM 0 cap = true from ble_iff.2 (Nat.zero_le _)]
 rfl
theorem append_room {h : Heap} {size len cap : Nat} (ha : h.get b = some (.cells true cs)) (hn : 0 < n) (hr : len + n <= cap) (hb : len + n < 100000000) (hf : o + len * size + n * size <= cs.length) :
  h.appendL size (.slice (some ⟨b, o, sp⟩) len cap) n new = some (.slice (some ⟨b, o, sp⟩) (len + n) cap, h.put b (some (.cells true (XZ new (o + len * size) cs)))) := by
 have e : h.load b o (XhX len size) = some ((cs.drop o).take (len * size)) := by
  refine Heap.load_of ha ?_
  show XU (len * size) (XY o cs) = _
  rw [VR, UZ, if_pos (by rw [Xif]; omega)]
 unfold Heap.appendL
 dsimp only
 rw [e]
 dsimp only
 rw [show XhR len n = len + n from rfl, blt_iff.2 hb, ble_iff.2 hr, show XhD n 0 = false from by rw [beqN]; exact decide_eq_false (by omega)]
 show (match h.store b (o + len * size) (n * size) new with
       | some h' => some (Value.slice (some ⟨b, o, sp⟩) (len + n) cap, h')
       | none => none) = _
 rw [Heap.store_of ha hf]
section
variable {sg : Bool} {N : Tm -> Aux -> Heap -> Prop} {X : Nat -> Tm -> Aux -> Heap -> Prop} {R : Tm -> Aux -> Heap -> Prop} {c : Ctx} {t : Tm} {x : Aux} {h : Heap} {g g' : Xe}
theorem wp_rangeMap {rest : KB} {ver : Nat} {sh : KSh} {es : List (Value × Value)} (hg : g t = .map (some r)) (hr : h.get r = some (.map sh ver es))
  (H : ∀ h' b, Ext [] h h' -> h.next <= h'.next -> h'.get b = some (.miter (some r) ver es none) -> b < h'.next -> b = h.next -> (rest c (p (.pointer (some ⟨b, 0, none⟩)) t) x h').Wp sg N X R) : (ZN (Yi (VQ g)) p rest c t x h).Wp sg N X R :=
 VI (l := VQ g) (v := .pointer (some ⟨h.next, 0, none⟩)) (h' := h.push (.miter (some r) ver es none)) (by unfold VQ; rw [hg]; dsimp only; rw [hr]) (H _ _ (.push _ _) (Xil _) (Heap.get_new _ _) (Xh0 _) rfl)
theorem wp_nextMap0 {rest : KB} {ver : Nat} {sh : KSh} {es : List (Value × Value)} {last : Option (Value × Value)} (hg : g t = .pointer (some ⟨b, 0, none⟩)) (hb : h.get b = some (.miter (some r) ver [] last)) (hr : h.get r = some (.map sh ver es))
  (H : (rest c (p (.tuple ⟨[.bool false]⟩) t) x h).Wp sg N X R) : (ZN (Zb g) p rest c t x h).Wp sg N X R := by
 have e : nextMap h (g t) = some (0, fun _ => some (.tuple ⟨[.bool false]⟩, h)) := by
  rw [hg]
  simp only [nextMap, hb, hr, XiS, cond_true]
 unfold ZN Zb
 dsimp only
 rw [e]
 exact H
end
structure Hold (q : Prop) : Prop where
 out : q
theorem R {p q : Prop} (H : q) (h : Hold q -> p := by
  intro hq
  repeat first
   | ((with_reducible show (ZN (xMove _) _ (Xf0 _ _ _ _) _ _ _ _).Wp _ _ _ _); first | (refine wp_move (by conv => lhs; whnf) ?_; first | refine wp_yes rfl ?_ | refine wp_no rfl ?_) | refine wp_say (b := false) rfl (decide_eq_false (by omega)) ?_ | refine wp_say (b := true) rfl (decide_eq_true (by omega)) ?_)
   | ((with_reducible show (ZN (xMove _) _ _ _ _ _ _).Wp _ _ _ _); (fail_if_success (with_reducible show (ZN (xMove _) _ (Xf0 _ _ _ _) _ _ _ _).Wp _ _ _ _)); refine wp_move (by conv => lhs; whnf) ?_)
   | with_reducible refine X9 ?_
   | with_reducible refine Xf8 ?_
   | ((with_reducible show (Xf0 _ _ _ _ _ _ _ _).Wp _ _ _ _); first | refine wp_yes rfl ?_ | refine wp_no rfl ?_)
   | ((with_reducible show (W2 _ _ _ (Jg _) _ (dIf _ _ _ _ _) _ _ _ _ _ _).Wp _ _ _ _); first | refine wp_dKnow (b := true) rfl rfl rfl ?_ | refine wp_dKnow (b := false) rfl rfl rfl ?_ | refine wp_dKnow (b := false) rfl (decide_eq_false (by omega)) rfl ?_ | refine wp_dKnow (b := true) rfl (decide_eq_true (by omega)) rfl ?_ | ((fail_if_success (refine wp_dName rfl rfl ?_)); refine wp_dMove (by conv => lhs; whnf) rfl ?_))
   | ((with_reducible show (W2 _ _ _ (Jg _) _ _ _ _ _ _ _ _).Wp _ _ _ _); (fail_if_success (with_reducible show (W2 _ _ _ (Jg _) _ (dIf _ _ _ _ _) _ _ _ _ _ _).Wp _ _ _ _)); refine wp_dMove (by conv => lhs; whnf) rfl ?_)
   | with_reducible refine wp_skip ?_
   | with_reducible refine wp_ret ?_
   | with_reducible refine wp_block ?_
   | ((with_reducible show (kCond _ _ _ _ _ _ _).Wp _ _ _ _); first | refine wp_condF rfl rfl ?_ | refine wp_condT rfl rfl ?_ | refine wp_condF rfl (decide_eq_false (by omega)) ?_ | refine wp_condT rfl (decide_eq_true (by omega)) ?_)
   | ((with_reducible show (dIf _ _ _ _ _ _ _ _ _ _ _).Wp _ _ _ _); first | refine wp_dYes rfl ?_ | refine wp_dNo rfl ?_)
   | with_reducible refine wp_exit ?_
   | ((with_reducible show (bif _ then _ else _)); refine exit_here rfl ?_)
   | ((with_reducible show (ZN (XM _) _ _ _ _ _ _).Wp _ _ _ _); refine wp_nil rfl ?_)
   | with_reducible refine XdI ?_
   | with_reducible refine wp_draw ?_
   | ((with_reducible show (XaP _ [] _ _ (XM _) _ _ _ _ _ _ _ _).Wp _ _ _ _); refine wp_dNil rfl rfl ?_)
   | ((with_reducible show (ZN (VG (Vd _ _)) _ _ _ _ _ _).Wp _ _ _ _); refine Xd (l_fieldAddrB rfl) ?_)
   | ((with_reducible show (W2 _ [] _ (Vd _ _) _ _ _ _ _ _ _ _).Wp _ _ _ _); refine Xk (l_fieldAddrB rfl) rfl ?_)
   | ((with_reducible show (ZN (VG (YE .lss _ _)) _ _ _ _ _ _).Wp _ _ _ _); refine Xd (l_lssN rfl rfl rfl) ?_)
   | ((with_reducible show (W2 _ [] _ (YE .lss _ _) _ _ _ _ _ _ _ _).Wp _ _ _ _); refine Xk (l_lssN rfl rfl rfl) rfl ?_)
   | ((with_reducible show (ZN (VG (lkLen .sl _)) _ _ _ _ _ _).Wp _ _ _ _); refine Xd (l_lenSl rfl) ?_)
   | ((with_reducible show (W2 _ [] _ (lkLen .sl _) _ _ _ _ _ _ _ _).Wp _ _ _ _); refine Xk (l_lenSl rfl) rfl ?_)
   | ((with_reducible show (ZN (VG (Xaa _ _)) _ _ _ _ _ _).Wp _ _ _ _); refine Xd (l_extract rfl rfl) ?_)
   | ((with_reducible show (W2 _ [] _ (Xaa _ _) _ _ _ _ _ _ _ _).Wp _ _ _ _); refine Xk (l_extract rfl rfl) rfl ?_)
   | ((with_reducible show (ZN (VG (XfY _ _ _)) _ _ _ _ _ _).Wp _ _ _ _); first | refine Xd (l_pick0 rfl (by conv => lhs; whnf)) ?_ | refine Xd (l_pick1 rfl (by conv => lhs; whnf)) ?_)
   | ((with_reducible show (W2 _ [] _ (XfY _ _ _) _ _ _ _ _ _ _ _).Wp _ _ _ _); first | refine Xk (l_pick0 rfl (by conv => lhs; whnf)) rfl ?_ | refine Xk (l_pick1 rfl (by conv => lhs; whnf)) rfl ?_)
   | ((with_reducible show (ZN (VG (lkIxSl _ _ _)) _ _ _ _ _ _).Wp _ _ _ _); refine Xd (l_ixSlB rfl rfl (by omega)) ?_)
   | ((with_reducible show (W2 _ [] _ (lkIxSl _ _ _) _ _ _ _ _ _ _ _).Wp _ _ _ _); refine Xk (l_ixSlB rfl rfl (by omega)) rfl ?_)
   | ((with_reducible show (ZN (VG (XfZ false .int _ _)) _ _ _ _ _ _).Wp _ _ _ _); refine Xd (l_eqN rfl rfl rfl) ?_)
   | ((with_reducible show (W2 _ [] _ (XfZ false .int _ _) _ _ _ _ _ _ _ _).Wp _ _ _ _); refine Xk (l_eqN rfl rfl rfl) rfl ?_)
   | ((with_reducible show (ZN (VG (YE .gtr _ _)) _ _ _ _ _ _).Wp _ _ _ _); refine Xd (l_gtrN rfl rfl rfl) ?_)
   | ((with_reducible show (W2 _ [] _ (YE .gtr _ _) _ _ _ _ _ _ _ _).Wp _ _ _ _); refine Xk (l_gtrN rfl rfl rfl) rfl ?_)
   | ((with_reducible show (ZN (VG (XfZ true .int _ _)) _ _ _ _ _ _).Wp _ _ _ _); refine Xd (l_neN rfl rfl rfl) ?_)
   | ((with_reducible show (W2 _ [] _ (XfZ true .int _ _) _ _ _ _ _ _ _ _).Wp _ _ _ _); refine Xk (l_neN rfl rfl rfl) rfl ?_)
   | ((with_reducible show (ZN (VG (YE .add _ _)) _ _ _ _ _ _).Wp _ _ _ _); refine Xd (l_incN rfl rfl (by omega)) ?_)
   | ((with_reducible show (W2 _ [] _ (YE .add _ _) _ _ _ _ _ _ _ _).Wp _ _ _ _); refine Xk (l_incN rfl rfl (by omega)) rfl ?_)
   | ((with_reducible show (ZN (VG (Uh .not _)) _ _ _ _ _ _).Wp _ _ _ _); refine Xd (l_not rfl) ?_)
   | ((with_reducible show (W2 _ [] _ (Uh .not _) _ _ _ _ _ _ _ _).Wp _ _ _ _); refine Xk (l_not rfl) rfl ?_)
   | ((with_reducible show (ZN (VG (Yn _ _)) _ _ _ _ _ _).Wp _ _ _ _); refine Xd (l_intTo rfl) ?_)
   | ((with_reducible show (W2 _ [] _ (Yn _ _) _ _ _ _ _ _ _ _).Wp _ _ _ _); refine Xk (l_intTo rfl) rfl ?_)
   | ((with_reducible show (ZN (VG (YG _ _ _ _)) _ _ _ _ _ _).Wp _ _ _ _); refine Xd (l_ixArrB rfl rfl (by omega)) ?_)
   | ((with_reducible show (W2 _ [] _ (YG _ _ _ _) _ _ _ _ _ _ _ _).Wp _ _ _ _); refine Xk (l_ixArrB rfl rfl (by omega)) rfl ?_)
  exact hq.out) : p := h ⟨H⟩
theorem R2 {p q : Prop} (H : q) (h : Hold q -> p := by
  intro hq
  refine R ?_
  repeat
   first
   | ((with_reducible show (ZN (VG (XcC _)) _ _ _ _ _ _).Wp _ _ _ _); first | refine Xd (XQ rfl (by assumption) rfl) ?_ | refine Xd (XQ rfl (by assumption) (by assumption)) ?_)
   | ((with_reducible show (W2 _ [] _ (XcC _) _ _ _ _ _ _ _ _).Wp _ _ _ _); first | refine Xk (XQ rfl (by assumption) rfl) rfl ?_ | refine Xk (XQ rfl (by assumption) (by assumption)) rfl ?_)
   | ((with_reducible show (ZN (VG (XdB _ _)) _ _ _ _ _ _).Wp _ _ _ _); first | refine Xd (XdJ rfl (by assumption) rfl) ?_ | refine Xd (XdJ rfl (by assumption) (by assumption)) ?_)
   | ((with_reducible show (W2 _ [] _ (XdB _ _) _ _ _ _ _ _ _ _).Wp _ _ _ _); first | refine Xk (XdJ rfl (by assumption) rfl) rfl ?_ | refine Xk (XdJ rfl (by assumption) (by assumption)) rfl ?_)
   refine R ?_
  exact hq.out) : p := h ⟨H⟩
end Go.Eng
