/-
  The abstract machine's values and memory beside the model's, and its looks: each comes to what the model comes to. Conditions: those that each lemma states.
-/
import Derived.Test.YtknhijalfgjfhaaGreatA
import Derived.AtR
import Derived.Laws.IdiomCopy
import Derived.Laws.Cells
import Derived.Laws.Tables
import Derived.Laws.StructEq
import Derived.ChangeKeysEq
import Derived.Laws.BytesString
import Derived.Laws.Slices
set_option linter.unusedVariables false
set_option linter.unusedSimpArgs false
set_option linter.unusedSectionVars false
open Nat renaming beq -> XhD, eq_of_beq_eq_true -> Xjt, ble -> XhM, blt -> XhK, le_refl -> XhE, le_trans -> Xh4, lt_of_lt_of_le -> Xia, add -> XhR, mul -> XhX, add_assoc -> Xim
open Bool renaming eq_iff_iff -> Xi7, and_eq_true -> XhN, false_eq_true -> Xik, or_eq_false_iff -> Xjk
open List renaming getElem?_eq_some_iff -> Xig, getElem_of_mem -> XiG, range -> Xir, length_cons -> Xh8, extract_eq_take_drop -> XjA, getElem?_eq_getElem -> XhL, map_cons -> Xit, pairwise_cons -> Xjl, mem_of_getElem? -> Xh5
open Option renaming some -> XhU, isSome_iff_exists -> XiL, map_eq_some_iff -> Xi8, bind_eq_some_iff -> Xi9
open Go.Sem renaming run_bind -> XhG, run_pure -> XhJ
open Go.Result renaming andThen_ok -> XhF
open Int renaming natCast_nonneg -> XiH
open Array renaming length_toList -> Xja, toList_inj -> Xiq
namespace Go.Eng
variable {v x x' v' y z : Value} {n b : Nat} {xs : List Value} {w' : World}
section
variable {α : Type}
@[simp] theorem Tr.get_nil (n : Nat) : Tr.get (.nil : Tr α) n = none := rfl
@[simp] theorem Tr.get_node_zero (v : Option α) (l r : Tr α) : Tr.get (.node v l r) 0 = v := rfl
theorem Tr.get_node_succ (v : Option α) (l r : Tr α) (m : Nat) : Tr.get (.node v l r) (m + 1) = if m % 2 = 0 then l.get (m / 2) else r.get (m / 2) := by
 show Bool.rec (motive := fun _ => Option α) (r.get (m / 2)) (l.get (m / 2)) (XhD (m % 2) 0) = _
 by_cases h : m % 2 = 0
 ·rw [if_pos h, h]; rfl
 ·rw [if_neg h]
  have : XhD (m % 2) 0 = false := by
   cases hb : XhD (m % 2) 0 with
   | false => rfl
   | true => exact absurd (Xjt hb) h
  rw [this]
theorem Tr.setF_nil_zero (a : Option α) (f : Nat) : Tr.setF a (f + 1) .nil 0 = .node a .nil .nil := rfl
theorem Tr.setF_node_zero (a : Option α) (f : Nat) (v : Option α) (l r : Tr α) : Tr.setF a (f + 1) (.node v l r) 0 = .node a l r := rfl
theorem Tr.setF_nil_succ (a : Option α) (f m : Nat) : Tr.setF a (f + 1) .nil (m + 1) = if m % 2 = 0 then .node none (Tr.setF a f .nil (m / 2)) .nil else .node none .nil (Tr.setF a f .nil (m / 2)) := by
 show Bool.rec (motive := fun _ => Tr α) _ _ (XhD (m % 2) 0) = _
 by_cases h : m % 2 = 0
 ·rw [if_pos h, h]; rfl
 ·rw [if_neg h]
  have : XhD (m % 2) 0 = false := by
   cases hb : XhD (m % 2) 0 with
   | false => rfl
   | true => exact absurd (Xjt hb) h
  rw [this]; rfl
theorem Tr.setF_node_succ (a : Option α) (f m : Nat) (v : Option α) (l r : Tr α) :
  Tr.setF a (f + 1) (.node v l r) (m + 1) = if m % 2 = 0 then .node v (Tr.setF a f l (m / 2)) r else .node v l (Tr.setF a f r (m / 2)) := by
 show Bool.rec (motive := fun _ => Tr α) _ _ (XhD (m % 2) 0) = _
 by_cases h : m % 2 = 0
 ·rw [if_pos h, h]; rfl
 ·rw [if_neg h]
  have : XhD (m % 2) 0 = false := by
   cases hb : XhD (m % 2) 0 with
   | false => rfl
   | true => exact absurd (Xjt hb) h
  rw [this]; rfl
theorem Tr.get_setF (a : Option α) : ∀ (f : Nat) (t : Tr α) (n k : Nat), n < f -> (Tr.setF a f t n).get k = if k = n then a else t.get k := by
 intro f
 induction f with
 | zero => intro t n k h; omega
 | succ f ih =>
  intro t n k h
  cases n with
  | zero =>
   cases t with
   | nil =>
    rw [Tr.setF_nil_zero]
    cases k with
    | zero => simp
    | succ k => rw [Tr.get_node_succ]; simp
   | node v l r =>
    rw [Tr.setF_node_zero]
    cases k with
    | zero => simp
    | succ k => rw [Tr.get_node_succ, Tr.get_node_succ]; simp
  | succ m =>
   have hm : m / 2 < f := by omega
   cases t with
   | nil =>
    rw [Tr.setF_nil_succ]
    cases k with
    | zero => split <;> simp
    | succ k =>
     split
     ·rename_i h2
      rw [Tr.get_node_succ]
      split
      ·rw [ih _ _ _ hm]
       by_cases e : k = m
       ·subst e; simp
       ·rw [if_neg (by omega), if_neg (by omega)]; simp
      ·rw [if_neg (by omega)]; simp
     ·rename_i h2
      rw [Tr.get_node_succ]
      split
      ·rw [if_neg (by omega)]; simp
      ·rw [ih _ _ _ hm]
       by_cases e : k = m
       ·subst e; simp
       ·rw [if_neg (by omega), if_neg (by omega)]; simp
   | node v l r =>
    rw [Tr.setF_node_succ]
    cases k with
    | zero => split <;> simp
    | succ k =>
     split
     ·rename_i h2
      rw [Tr.get_node_succ, Tr.get_node_succ]
      grind
     ·rename_i h2
      rw [Tr.get_node_succ, Tr.get_node_succ]
      grind
theorem Tr.get_put (t : Tr α) (n k : Nat) (a : Option α) : (t.put n a).get k = if k = n then a else t.get k := Tr.get_setF a _ t n k (Nat.lt_succ_self n)
end
theorem Heap.get_push (h : Heap) (o : AObj) (b : Nat) : (h.push o).get b = if b = h.next then some o else h.get b := Tr.get_put _ _ _ _
theorem Heap.get_put (h : Heap) (r : Nat) (o : Option AObj) (b : Nat) : (h.put r o).get b = if b = r then o else h.get b := Tr.get_put _ _ _ _
@[simp] theorem Heap.next_push (h : Heap) (o : AObj) : (h.push o).next = h.next + 1 := rfl
@[simp] theorem Heap.next_put (h : Heap) (r : Nat) (o : Option AObj) : (h.put r o).next = h.next := rfl
theorem T4.get_up {α : Type} (d e : Dg) (f : α -> α) (t : T4 α) : T4.get d (T4.up e f t) = if d = e then f (T4.get d t) else T4.get d t := by
 cases t; cases d <;> cases e <;> rfl
theorem dgOf_inj {m : Nat} (hm : m < 4) (hn : n < 4) (h : XcR m = XcR n) : m = n := by
 have h1 : m = 0 \/ m = 1 \/ m = 2 \/ m = 3 := by omega
 have h2 : n = 0 \/ n = 1 \/ n = 2 \/ n = 3 := by omega
 rcases h1 with rfl | rfl | rfl | rfl <;> rcases h2 with rfl | rfl | rfl | rfl <;> first | rfl | (simp [XcR] at h)
theorem slot_same (v : Value) (t : Tm) : Zi n (JK n v t) = v := by
 simp [Zi, JK, T4.get_up]
theorem XcX {k : Nat} (hn : n < 256) (hk : k < 256) (h : k ≠ n) (v : Value) (t : Tm) : Zi k (JK n v t) = Zi k t := by
 simp only [Zi, JK, T4.get_up]
 by_cases h3 : XcR (k / 64) = XcR (n / 64)
 ·have e3 := dgOf_inj (by omega) (by omega) h3
  rw [if_pos h3]
  rw [T4.get_up]
  by_cases h2 : XcR (k / 16 % 4) = XcR (n / 16 % 4)
  ·have e2 := dgOf_inj (by omega) (by omega) h2
   rw [if_pos h2, T4.get_up]
   by_cases h1 : XcR (k / 4 % 4) = XcR (n / 4 % 4)
   ·have e1 := dgOf_inj (by omega) (by omega) h1
    rw [if_pos h1, T4.get_up]
    by_cases h0 : XcR (k % 4) = XcR (n % 4)
    ·have e0 := dgOf_inj (by omega) (by omega) h0
     omega
    ·rw [if_neg h0]
   ·rw [if_neg h1]
  ·rw [if_neg h2]
 ·rw [if_neg h3]
theorem slot_empty (n : Nat) : Zi n Tm.empty = undef := by
 simp only [Zi, Tm.empty, T4.all]
 cases XcR (n / 64) <;> cases XcR (n / 16 % 4) <;> cases XcR (n / 4 % 4) <;> cases XcR (n % 4) <;> rfl
theorem ZD (xs : List Value) : Wy xs = xs.length := by
 induction xs with
 | nil => rfl
 | cons x xs ih => show Nat.succ (Wy xs) = _; rw [ih]; rfl
theorem UB (xs ys : List Value) : app xs ys = xs ++ ys := by
 induction xs with
 | nil => rfl
 | cons x xs ih => show x :: app xs ys = _; rw [ih]; rfl
theorem rep_succ (xs : List Value) (n : Nat) : rep xs (n + 1) = xs ++ rep xs n := UB _ _
theorem Xf5 (xs : List Value) (n : Nat) : (rep xs n).length = n * xs.length := by
 induction n with
 | zero => simp; rfl
 | succ n ih => rw [rep_succ, List.length_append, ih, Nat.succ_mul, Nat.add_comm]
theorem repC_eq (xs : List Value) (n : Nat) : repC xs n = rep xs n := by
 induction n with
 | zero => rfl
 | succ n ih => rw [rep_succ, <- ih]; rfl
theorem UZ (n : Nat) (xs : List Value) : XY n xs = xs.drop n := by
 induction n generalizing xs with
 | zero => rfl
 | succ n ih => cases xs with
  | nil => rfl
  | cons x xs => show XY n xs = _; rw [ih]; rfl
theorem VR (n : Nat) (xs : List Value) : XU n xs = if n <= xs.length then some (xs.take n) else none := by
 induction n generalizing xs with
 | zero => simp; rfl
 | succ n ih => cases xs with
  | nil => rfl
  | cons x xs =>
   show Option.rec (motive := fun _ => Option (List Value)) none (fun r => some (x :: r)) (XU n xs) = _
   rw [ih]
   by_cases h : n <= xs.length
   ·rw [if_pos h, if_pos (by simp; omega)]; rfl
   ·rw [if_neg h, if_neg (by simp; omega)]
theorem Xea (n : Nat) (xs : List Value) : nth n xs = xs[n]? := by
 induction n generalizing xs with
 | zero => cases xs <;> rfl
 | succ n ih => cases xs with
  | nil => rfl
  | cons x xs => show nth n xs = _; rw [ih]; rfl
theorem over_length (ys xs : List Value) (h : ys.length <= xs.length) : (over ys xs).length = xs.length := by
 induction ys generalizing xs with
 | nil => rfl
 | cons y ys ih => cases xs with
  | nil => simp at h
  | cons x xs => show (y :: over ys xs).length = _; simp at h; simp [ih xs h]
theorem over_get (ys xs : List Value) (h : ys.length <= xs.length) (i : Nat) : (over ys xs)[i]? = if i < ys.length then ys[i]? else xs[i]? := by
 induction ys generalizing xs i with
 | nil => rw [if_neg (by simp)]; rfl
 | cons y ys ih => cases xs with
  | nil => simp at h
  | cons x xs =>
   simp at h
   show (y :: over ys xs)[i]? = _
   grind
theorem Uj (ys : List Value) (n : Nat) (xs : List Value) (h : n + ys.length <= xs.length) : (XZ ys n xs).length = xs.length := by
 induction n generalizing xs with
 | zero => exact over_length ys xs (by omega)
 | succ n ih => cases xs with
  | nil => simp at h
  | cons x xs => show (x :: XZ ys n xs).length = _; simp [ih xs (by simp at h; omega)]
theorem Xad (ys : List Value) (n : Nat) (xs : List Value) (h : n + ys.length <= xs.length) (i : Nat) :
  (XZ ys n xs)[i]? = if n <= i /\ i < n + ys.length then ys[i - n]? else xs[i]? := by
 induction n generalizing xs i with
 | zero =>
  rw [show XZ ys 0 xs = over ys xs from rfl, over_get ys xs (by omega)]
  simp_all
 | succ n ih => cases xs with
  | nil => simp at h
  | cons x xs =>
   show (x :: XZ ys n xs)[i]? = _
   grind
theorem vals_eq (t : Tm) (xs : List Xe) : J1 t xs = xs.map (· t) := by
 induction xs with
 | nil => rfl
 | cons x xs ih => show x t :: J1 t xs = _; rw [ih]; rfl
theorem opds_eq (xs : List Opd) : opds xs = xs.map Opd.val := by
 induction xs with
 | nil => rfl
 | cons x xs ih => show x.val :: opds xs = _; rw [ih]; rfl
theorem Yj (xs : List UInt8) : Xa xs = xs.map byteVal := by
 induction xs with
 | nil => rfl
 | cons x xs ih => show byteVal x :: Xa xs = _; rw [ih]; rfl
theorem beq_iff {a : Nat} : XhD a b = true ↔ a = b := ⟨Xjt, fun h => h ▸ Nat.beq_refl a⟩
theorem ble_iff {a : Nat} : XhM a b = true ↔ a <= b := by rw [Nat.ble_eq]
theorem blt_iff {a : Nat} : XhK a b = true ↔ a < b := by unfold XhK; rw [Nat.ble_eq]; exact Iff.rfl
theorem Xeu (a b : Int) : J2 a b = decide (a = b) := by
 rw [Xi7, decide_eq_true_eq]
 cases a <;> cases b <;> simp [J2] <;> omega
theorem ltInt_iff (a b : Int) : XcS a b = decide (a < b) := by
 rw [Xi7, decide_eq_true_eq]
 cases a <;> cases b <;> simp [XcS] <;> omega
theorem ZX (j k : IntKind) : XL j k = decide (j = k) := by
 cases j <;> cases k <;> rfl
theorem u8_beq (x y : UInt8) : XhD x.toNat y.toNat = (x == y) := by
 rw [Xi7, beq_iff, beq_iff_eq]; exact UInt8.toNat_inj
theorem u8_blt (x y : UInt8) : XhK x.toNat y.toNat = decide (x < y) := by
 rw [Xi7, blt_iff, decide_eq_true_eq]; exact UInt8.lt_iff_toNat_lt.symm
theorem Ji (xs ys : List UInt8) : Vf xs ys = (xs == ys) := by
 induction xs generalizing ys with
 | nil => cases ys <;> rfl
 | cons x xs ih => cases ys with
  | nil => rfl
  | cons y ys =>
   show (bif XhD x.toNat y.toNat then Vf xs ys else false) = _
   grind [u8_beq]
theorem ltBytes_eq (xs ys : List UInt8) : XdA xs ys = Op.bytesLess xs ys := by
 induction xs generalizing ys with
 | nil => cases ys <;> rfl
 | cons x xs ih => cases ys with
  | nil => rfl
  | cons y ys =>
   show (bif XhK x.toNat y.toNat then true else bif XhD x.toNat y.toNat then XdA xs ys else false) = (decide (x < y) || (x == y && Op.bytesLess xs ys))
   grind [u8_beq, u8_blt]
structure Place where
 b : Nat
 d : Nat
 L : Nat
abbrev Inj := Nat -> Option Place
inductive FnRel (ι : Inj) : Fn -> Fn -> Prop where
 | func (f : FuncId) : FnRel ι (.func f) (.func f)
 | method (n : String) : FnRel ι (.method n) (.method n)
 | yield {l : Nat} {p : Place} (h : ι l = some p) : FnRel ι (.yield l) (.yield p.b)
def Y8 : Value -> Prop
 | .agg _ | .tuple _ => False
 | _ => True
def flat2 : Value -> Prop
 | .agg _ | .tuple _ | .bool _ => False
 | _ => True
theorem flat2.flat (h : flat2 v) : Y8 v := by
 cases v <;> first | trivial | exact h.elim
inductive VRel (ι : Inj) : Value -> Value -> Prop where
 | bool (b : Bool) : VRel ι (.bool b) (.bool b)
 | int (k : IntKind) (n : Int) : VRel ι (.int k n) (.int k n)
 | string (s : ByteArray) : VRel ι (.string s) (.string s)
 | pnil : VRel ι (.pointer none) (.pointer none)
 | ptr {a : Addr} {p : Place} (h : ι a.block = some p) : VRel ι (.pointer (some a)) (.pointer (some ⟨p.b, p.d + a.off, none⟩))
 | snil (n c : Nat) : VRel ι (.slice none n c) (.slice none n c)
 | sempty {a a' : Addr} {c' : Nat} (h : a.spot = none -> c' = 0) : VRel ι (.slice (some a) 0 0) (.slice (some a') 0 c')
 | slice {a : Addr} {p : Place} {n c c' : Nat} (h : ι a.block = some p) (he : a.spot = none -> c = c') (hc : c <= c') (hn : n <= c) (hl : ∀ z, a.spot = some z -> a.off + c' * z <= p.L) :
   VRel ι (.slice (some a) n c) (.slice (some ⟨p.b, p.d + a.off, none⟩) n c')
 | mnil : VRel ι (.map none) (.map none)
 | map {r : Nat} {p : Place} (h : ι r = some p) : VRel ι (.map (some r)) (.map (some p.b))
 | func {f f' : Fn} {a a' c c' : Array Value} (hf : FnRel ι f f') (ha : a.size = a'.size) (hc : c.size = c'.size)
   (ra : ∀ i (h : i < a.size) (h' : i < a'.size), VRel ι a[i] a'[i]) (rc : ∀ i (h : i < c.size) (h' : i < c'.size), VRel ι c[i] c'[i]) : VRel ι (.func f a c) (.func f' a' c')
 | nilFunc : VRel ι .nilFunc .nilFunc
 | iface (t : TypeId) {v v' : Value} (h : VRel ι v v') : VRel ι (.iface t v) (.iface t v')
 | nilIface : VRel ι .nilIface .nilIface
 | agg {a a' : Array Value} (ha : a.size = a'.size) (ra : ∀ i (h : i < a.size) (h' : i < a'.size), VRel ι a[i] a'[i]) (fl : ∀ i (h : i < a.size), Y8 a[i]) : VRel ι (.agg a) (.agg a')
 | unk {v' : Value} (h : flat2 v') : VRel ι (.chan none) v'
 | tuple {a a' : Array Value} (ha : a.size = a'.size) (ra : ∀ i (h : i < a.size) (h' : i < a'.size), VRel ι a[i] a'[i]) : VRel ι (.tuple a) (.tuple a')
inductive All2 {α β : Type} (R : α -> β -> Prop) : List α -> List β -> Prop where
 | nil : All2 R [] []
 | cons {x : α} {y : β} {xs : List α} {ys : List β} (h : R x y) (t : All2 R xs ys) : All2 R (x :: xs) (y :: ys)
section
variable {α β : Type} {R : α -> β -> Prop}
theorem All2.length {xs : List α} {ys : List β} (h : All2 R xs ys) : xs.length = ys.length := by
 induction h with
 | nil => rfl
 | cons _ _ ih => simp [ih]
theorem All2.of_get : ∀ {xs : List α} {ys : List β}, xs.length = ys.length -> (∀ i (h : i < xs.length) (h' : i < ys.length), R xs[i] ys[i]) -> All2 R xs ys
 | [], [], _, _ => .nil
 | [], _ :: _, h, _ => by simp at h
 | _ :: _, [], h, _ => by simp at h
 | x :: xs, y :: ys, h, hr => .cons (hr 0 (by simp) (by simp)) (All2.of_get (by simpa using h) fun i h1 h2 => hr (i + 1) (by simp; omega) (by simp; omega))
theorem All2.get {xs : List α} {ys : List β} (h : All2 R xs ys) : ∀ i (h1 : i < xs.length) (h2 : i < ys.length), R xs[i] ys[i] := by
 induction h with
 | nil => intro i h1; simp at h1
 | cons hx _ ih =>
  grind
theorem All2.get? {xs : List α} {ys : List β} (h : All2 R xs ys) {i : Nat} {x : α} (hx : xs[i]? = some x) : ∃ y, ys[i]? = some y /\ R x y := by
 have hi := (Xig.1 hx).1
 have hi' : i < ys.length := by rw [<- h.length]; exact hi
 refine ⟨ys[i], by simp [hi'], ?_⟩
 have := h.get i hi hi'
 simp_all
theorem All2.append {xs xs' : List α} {ys ys' : List β} (h : All2 R xs ys) (h' : All2 R xs' ys') : All2 R (xs ++ xs') (ys ++ ys') := by
 induction h with
 | nil => exact h'
 | cons hx _ ih => exact .cons hx ih
theorem All2.take {xs : List α} {ys : List β} (h : All2 R xs ys) (n : Nat) : All2 R (xs.take n) (ys.take n) := by
 induction h generalizing n with
 | nil => simp; exact .nil
 | cons hx _ ih => cases n with
  | zero => exact .nil
  | succ n => exact .cons hx (ih n)
theorem All2.drop {xs : List α} {ys : List β} (h : All2 R xs ys) (n : Nat) : All2 R (xs.drop n) (ys.drop n) := by
 induction h generalizing n with
 | nil => simp; exact .nil
 | cons hx ht ih => cases n with
  | zero => exact .cons hx ht
  | succ n => exact ih n
theorem All2.mono {S : α -> β -> Prop} {xs : List α} {ys : List β} (h : All2 R xs ys) (hf : ∀ x y, R x y -> S x y) : All2 S xs ys := by
 induction h with
 | nil => exact .nil
 | cons hx _ ih => exact .cons (hf _ _ hx) ih
theorem All2.refl {R : α -> α -> Prop} {xs : List α} (h : ∀ x ∈ xs, R x x) : All2 R xs xs := by
 induction xs with
 | nil => exact .nil
 | cons x xs ih => exact .cons (h x (by simp)) (ih fun y hy => h y (by simp [hy]))
end
abbrev LRel (ι : Inj) := All2 (VRel ι)
theorem LRel.of_arrays {ι : Inj} {a a' : Array Value} (ha : a.size = a'.size) (ra : ∀ i (h : i < a.size) (h' : i < a'.size), VRel ι a[i] a'[i]) : LRel ι a.toList a'.toList :=
 All2.of_get (by simpa using ha) fun i h h' => by grind
theorem LRel.arrays {ι : Inj} {a a' : Array Value} (h : LRel ι a.toList a'.toList) : a.size = a'.size /\ ∀ i (h : i < a.size) (h' : i < a'.size), VRel ι a[i] a'[i] :=
 ⟨by simpa using h.length, fun i h1 h2 => by
  have := h.get i (by simpa using h1) (by simpa using h2)
  simp_all⟩
theorem Xev {ι : Inj} {a' : Array Value} (h : LRel ι xs a'.toList) (fl : ∀ x ∈ xs, Y8 x) : VRel ι (.agg ⟨xs⟩) (.agg a') := by
 obtain ⟨h1, h2⟩ := LRel.arrays (a := ⟨xs⟩) h
 exact .agg h1 h2 fun i hi => fl _ (by simp)
theorem Uk {ι : Inj} {a : Array Value} (h : VRel ι (.agg a) v') : ∃ a', v' = .agg a' /\ LRel ι a.toList a'.toList /\ ∀ x ∈ a.toList, Y8 x := by
 cases h with
 | agg ha ra fl =>
  grind [LRel.of_arrays, XiG]
theorem YO {ι : Inj} {a' : Array Value} (h : LRel ι xs a'.toList) : VRel ι (.tuple ⟨xs⟩) (.tuple a') := by
 obtain ⟨h1, h2⟩ := LRel.arrays (a := ⟨xs⟩) h
 exact .tuple h1 h2
theorem vrel_tuple_inv {ι : Inj} {a : Array Value} (h : VRel ι (.tuple a) v') : ∃ a', v' = .tuple a' /\ LRel ι a.toList a'.toList := by
 cases h with
 | tuple ha ra => exact ⟨_, rfl, LRel.of_arrays ha ra⟩
theorem vrel_func {ι : Inj} {f f' : Fn} {ys : List Value} {a' c' : Array Value} (hf : FnRel ι f f') (hx : LRel ι xs a'.toList) (hy : LRel ι ys c'.toList) : VRel ι (.func f ⟨xs⟩ ⟨ys⟩) (.func f' a' c') := by
 obtain ⟨h1, h2⟩ := LRel.arrays (a := ⟨xs⟩) hx
 obtain ⟨h3, h4⟩ := LRel.arrays (a := ⟨ys⟩) hy
 exact .func hf h1 h3 h2 h4
theorem ZE {ι : Inj} {f : Fn} {a c : Array Value} (h : VRel ι (.func f a c) v') : ∃ f' a' c', v' = .func f' a' c' /\ FnRel ι f f' /\ LRel ι a.toList a'.toList /\ LRel ι c.toList c'.toList := by
 cases h with
 | func hf ha hc ra rc => grind [LRel.of_arrays]
def Inj.le (ι ι' : Inj) : Prop := ∀ b p, ι b = some p -> ι' b = some p
theorem Inj.le_refl (ι : Inj) : ι.le ι := fun _ _ h => h
theorem Inj.le_trans {ι ι' ι'' : Inj} (h : ι.le ι') (h' : ι'.le ι'') : ι.le ι'' := fun b p hb => h' b p (h b p hb)
theorem FnRel.mono {ι ι' : Inj} (h : ι.le ι') {f f' : Fn} (r : FnRel ι f f') : FnRel ι' f f' := by
 cases r with
 | func f => exact .func f
 | method n => exact .method n
 | yield hl => exact .yield (h _ _ hl)
theorem VRel.mono {ι ι' : Inj} (h : ι.le ι') (r : VRel ι v v') : VRel ι' v v' := by
 induction r with
 | bool b => exact .bool b
 | int k n => exact .int k n
 | string s => exact .string s
 | pnil => exact .pnil
 | ptr hp => exact .ptr (h _ _ hp)
 | snil n c => exact .snil n c
 | sempty he => exact .sempty he
 | slice hp he hc hn hl => exact .slice (h _ _ hp) he hc hn hl
 | mnil => exact .mnil
 | map hp => exact .map (h _ _ hp)
 | func hf ha hc _ _ ra rc => exact .func (hf.mono h) ha hc ra rc
 | nilFunc => exact .nilFunc
 | iface t _ ih => exact .iface t ih
 | nilIface => exact .nilIface
 | unk h => exact .unk h
 | agg ha _ fl ra => exact .agg ha ra fl
 | tuple ha _ ra => exact .tuple ha ra
theorem LRel.mono {ι ι' : Inj} (h : ι.le ι') {ys : List Value} (r : LRel ι xs ys) : LRel ι' xs ys := All2.mono r fun _ _ => VRel.mono h
theorem VRel.flat {ι : Inj} (r : VRel ι v v') (h : Y8 v) : Y8 v' := by
 cases r <;> first | trivial | exact h.elim | (rename_i hv; exact hv.flat)
theorem VRel.cells {ι : Inj} (r : VRel ι v v') (h : cellsOf v = some xs) : LRel ι xs v'.cells.toList /\ ∀ x ∈ xs, Y8 x := by
 cases r with
 | agg ha ra fl =>
  simp only [cellsOf, XhU.injEq] at h
  subst h
  obtain ⟨a', e, h1, h2⟩ := Uk (VRel.agg ha ra fl)
  cases e
  exact ⟨h1, h2⟩
 | tuple ha ra => simp [cellsOf] at h
 | unk hv =>
  simp only [cellsOf, XhU.injEq] at h
  subst h
  refine ⟨?_, by simp [Y8]⟩
  cases v' <;> first | exact hv.elim | exact .cons (.unk hv) .nil
 | func hf ha hc ra rc => simp only [cellsOf, XhU.injEq] at h; subst h; exact ⟨.cons (.func hf ha hc ra rc) .nil, by simp [Y8]⟩
 | _ =>
  simp only [cellsOf, XhU.injEq] at h
  subst h
  refine ⟨.cons ?_ .nil, by simp [Y8]⟩
  constructor <;> assumption
theorem plain1_rel {ι : Inj} (h : plain1 v = true) : VRel ι v v /\ Y8 v := by
 unfold plain1 at h
 split at h <;> first | exact ⟨by constructor, trivial⟩ | cases h
theorem XcY {ι : Inj} (h : Xd6 xs = true) : LRel ι xs xs /\ ∀ x ∈ xs, Y8 x := by
 induction xs with
 | nil => exact ⟨.nil, by simp⟩
 | cons x xs ih =>
  simp only [Xd6, XhN] at h
  obtain ⟨h1, h2⟩ := ih h.2
  have hx := plain1_rel (ι := ι) h.1
  exact ⟨.cons hx.1 h1, by simp; exact ⟨hx.2, h2⟩⟩
theorem XcZ {ι : Inj} (h : Jh v = true) : VRel ι v v := by
 unfold Jh at h
 split at h
 ·rename_i cs
  have := XcY (ι := ι) h
  obtain ⟨h1, h2⟩ := LRel.arrays this.1
  exact .agg h1 h2 fun i hi => this.2 _ (by simp)
 ·exact (plain1_rel h).1
theorem J9 (h : Jh v = true) : v.cells.toList = Yb v /\ Xd6 (Yb v) = true := by
 unfold Jh at h
 split at h
 ·exact ⟨rfl, h⟩
 ·rename_i hv
  unfold plain1 at h
  split at h <;> first | exact ⟨rfl, rfl⟩ | cases h
def TmRel (ι : Inj) (m : Nat) (t : Tm) (a : Array Value) : Prop :=
 m <= a.size /\ ∀ n, n < 256 -> n < m -> VRel ι (Zi n t) (a.getD n undef)
theorem TmRel.mono {ι ι' : Inj} (h : ι.le ι') {m : Nat} {t : Tm} {a : Array Value} (r : TmRel ι m t a) : TmRel ι' m t a :=
 ⟨r.1, fun n h1 h2 => (r.2 n h1 h2).mono h⟩
theorem TmRel.put {ι : Inj} {m : Nat} {t : Tm} {a : Array Value} (r : TmRel ι m t a) {d : Nat} (hd : d < m) (hd' : d < 256) (hv : VRel ι v v') :
  TmRel ι m (JK d v t) (a.setIfInBounds d v') := by
 refine ⟨by simpa using r.1, fun n h1 h2 => ?_⟩
 have hsz := r.1
 by_cases e : n = d
 ·subst e
  rw [slot_same]
  have : n < a.size := by omega
  simp_all
 ·rw [XcX hd' h1 e]
  have := r.2 n h1 h2
  rw [Array.getD_eq_getD_getElem?] at this ⊢
  grind
def ERel (ι : Inj) (e : Value × Value) (m : MapEntry) : Prop := VRel ι e.1 m.key /\ VRel ι e.2 m.val
def distinct (sh : KSh) (es : List (Value × Value)) : Prop := es.Pairwise fun a b => JL sh a.1 b.1 = some false /\ JL sh b.1 a.1 = some false
structure MapRel (ι : Inj) (sh : KSh) (es : List (Value × Value)) (ms : Array MapEntry) (clock : Nat) : Prop where
 perm : ∃ L, L.Perm ms.toList /\ All2 (ERel ι) es L
 keys : ∀ e ∈ es, Wg sh e.1 = true
 dist : distinct sh es
 born : ms.toList.Pairwise fun a b => a.born ≠ b.born
 old : ∀ m ∈ ms.toList, m.born < clock
def JRel : Option Jump -> Option Code -> Prop
 | none, none => True
 | some .ret, some .ret => True
 | some (.exit i), some (.exit j) => i = j
 | _, _ => False
def SRel : LState -> LoopState -> Prop
 | .ready, .ready | .busy, .busy | .done, .done | .exhausted, .exhausted => True
 | _, _ => False
structure LoopRel (P : Program) (ι : Inj) (r : ALoop) (r' : Loop) : Prop where
 state : SRel r.state r'.state
 pending : JRel r.pending r'.pending
 code : ∃ m, TmRel ι m r.tmps r'.tmps /\ (∀ s ∈ r.params, s < m /\ s < 256) /\ r.assign = WC P m r'.assign /\ r.body = WC P m r'.body
 params : r.params = r'.params.toList
def Fz (w w' : World) (b : Nat) : Prop := ∀ c e fr, w'.heap[b]? = some (.cells c e fr) -> ∃ c0, w.heap[b]? = some (.cells c0 e fr)
theorem Fz.refl (w : World) (b : Nat) : Fz w w b := fun c _ _ h => ⟨c, h⟩
theorem Fz.of_eq {w : World} (h : w'.heap[b]? = w.heap[b]?) : Fz w w' b := fun c _ _ h' => ⟨c, h ▸ h'⟩
theorem Fz.trans {w w'' : World} (h : Fz w w' b) (h' : Fz w' w'' b) : Fz w w'' b := fun c e fr k => by
 obtain ⟨c1, k1⟩ := h' c e fr k
 exact h c1 e fr k1
def Behind (w : World) (b n : Nat) : Prop := ∀ c e lo hi, w.heap[b]? = some (.cells c e (lo, hi)) -> lo = hi \/ n <= lo
theorem Behind.fz {w : World} (h : Behind w b n) (f : Fz w w' b) : Behind w' b n := fun c e lo hi k => by
 obtain ⟨c0, k0⟩ := f c e (lo, hi) k
 exact h c0 e lo hi k0
def CellOK (w : World) (a : Addr) : Prop := ∃ v', w.cell? a = some v' /\ Y8 v'
theorem CellOK.some {w : World} {a : Addr} (h : CellOK w a) : (w.cell? a).isSome = true := by obtain ⟨v, h1, _⟩ := h; rw [h1]; rfl
theorem CellOK.eq {w : World} {a : Addr} (h : CellOK w a) (e : w'.cell? a = w.cell? a) : CellOK w' a := by obtain ⟨v, h1, h2⟩ := h; exact ⟨v, e.trans h1, h2⟩
def ObjRel (P : Program) (B : Nat) (ι : Inj) (H : Heap) (w : World) (p : Place) : AObj -> Prop
 | .cells wr xs => xs.length <= p.L /\ (∀ i, i < p.L -> CellOK w ⟨p.b, p.d + i, none⟩) /\
   (∀ i x, xs[i]? = some x -> ∃ v', w.cell? ⟨p.b, p.d + i, none⟩ = some v' /\ VRel ι x v' /\ Y8 x) /\
   (wr = true -> B <= p.b /\ (∀ i, i < p.L -> w.frozen? ⟨p.b, p.d + i, none⟩ = false) /\ (0 < p.L -> Behind w p.b (p.d + p.L)))
 | .map sh _ es => p.d = 0 /\ B <= p.b /\ ∃ ms clock, w.heap[p.b]? = some (.map ms clock) /\ MapRel ι sh es ms clock
 | .miter m ver left last => p.d = 0 /\ B <= p.b /\ match m with
   | none => left = [] /\ last = none /\ ∃ since seen stepped, w.heap[p.b]? = some (.mapIter none since seen stepped)
   | some m => ∃ pm since seen stepped, ι m = some pm /\ w.heap[p.b]? = some (.mapIter (some pm.b) since seen stepped) /\
     (∀ sh ver' es, H.get m = some (.map sh ver' es) -> ver <= ver') /\
     (∀ sh es, H.get m = some (.map sh ver es) -> ∃ ms, w.heap[pm.b]? = some (.map ms since) /\ (seen = #[] \/ stepped = since) /\
      (∃ L, L.Perm (ms.toList.filter fun e => !seen.contains e.born) /\ All2 (ERel ι) left L) /\
      (∀ e, last = some e -> ∃ m ∈ ms.toList, seen.back? = some m.born /\ stepped = since /\ ERel ι e m))
 | .siter s pos => p.d = 0 /\ B <= p.b /\ w.heap[p.b]? = some (.stringIter s pos)
 | .loop r => p.d = 0 /\ B <= p.b /\ ∃ r', w.heap[p.b]? = some (.loop r') /\ LoopRel P ι r r'
 | .mark => p.d = 0 /\ B <= p.b /\ w.heap[p.b]? = some (.deferred (some []))
def AObj.writable : AObj -> Bool
 | .cells wr _ => wr
 | _ => true
def Apart (o o' : AObj) (p p' : Place) : Prop :=
 p.b = p'.b -> ∃ wr xs wr' xs', o = .cells wr xs /\ o' = .cells wr' xs' /\ ((wr = false /\ wr' = false) \/ p.d + p.L <= p'.d \/ p'.d + p'.L <= p.d)
structure Sim (P : Program) (B : Nat) (ι : Inj) (H : Heap) (w : World) : Prop where
 obj : ∀ b p o, ι b = some p -> H.get b = some o -> ObjRel P B ι H w p o
 apart : ∀ b b' p p' o o', b ≠ b' -> ι b = some p -> ι b' = some p' -> H.get b = some o -> H.get b' = some o' -> Apart o o' p p'
 bound : ∀ b p, ι b = some p -> b < H.next
 lt : ∀ b p, ι b = some p -> p.b < w.heap.size
 blank : ∀ b, H.next <= b -> H.get b = none
 base : B <= w.heap.size
structure Adv (ι : Inj) (H : Heap) (w : World) (ι' : Inj) (H' : Heap) (w' : World) : Prop where
 le : ι.le ι'
 os : w'.os = w.os
 tape : w'.tape = w.tape /\ w.drawn <= w'.drawn
 output : w'.output = w.output
 size : w.heap.size <= w'.heap.size
 next : H.next <= H'.next
 img : ∀ b p, ι' b = some p -> ι b = some p \/ (ι b = none /\ H.next <= b /\ (w.heap.size <= p.b \/ ∃ b0 p0 o0, ι b0 = some p0 /\ H.get b0 = some o0 /\ o0.writable = true /\ p0.b = p.b))
 keep : ∀ k, k < w.heap.size -> (∀ b p o, ι b = some p -> H.get b = some o -> o.writable = true -> p.b ≠ k) -> w'.heap[k]? = w.heap[k]?
 out : ∀ b, b < H.next -> ι b = none -> H'.get b = H.get b
 back : ∀ b o', b < H.next -> H'.get b = some o' -> ∃ o, H.get b = some o /\ (o'.writable = true -> o.writable = true)
theorem Adv.refl (ι : Inj) (H : Heap) (w : World) : Adv ι H w ι H w :=
 ⟨ι.le_refl, rfl, ⟨rfl, XhE _⟩, rfl, XhE _, XhE _, fun _ _ h => .inl h, fun _ _ _ => rfl, fun _ _ _ => rfl, fun _ o' _ h => ⟨o', h, id⟩⟩
theorem Adv.trans {ι ι' ι'' : Inj} {H H' H'' : Heap} {w w'' : World} (hb : ∀ b p, ι b = some p -> b < H.next) (h : Adv ι H w ι' H' w') (k : Adv ι' H' w' ι'' H'' w'') : Adv ι H w ι'' H'' w'' := by
 refine ⟨Inj.le_trans h.le k.le, k.os.trans h.os, ⟨k.tape.1.trans h.tape.1, Xh4 h.tape.2 k.tape.2⟩, k.output.trans h.output, Xh4 h.size k.size, Xh4 h.next k.next, ?_, ?_, ?_, ?_⟩
 ·intro b p hp
  rcases k.img b p hp with h1 | ⟨h1, h2, h3⟩
  ·exact h.img b p h1
  ·have hn : ι b = none := by
    cases e : ι b with
    | none => rfl
    | some q => rw [h.le b q e] at h1; cases h1
   refine .inr ⟨hn, Xh4 h.next h2, ?_⟩
   rcases h3 with h3 | ⟨b0, p0, o0, e1, e2, e3, e4⟩
   ·exact .inl (Xh4 h.size h3)
   ·rcases h.img b0 p0 e1 with g | ⟨g1, g2, g3⟩
    ·obtain ⟨o, f1, f2⟩ := h.back b0 o0 (hb b0 p0 g) e2
     exact .inr ⟨b0, p0, o, g, f1, f2 e3, e4⟩
    ·rcases g3 with g3 | ⟨b1, p1, o1, f1, f2, f3, f4⟩
     ·exact .inl (e4 ▸ g3)
     ·exact .inr ⟨b1, p1, o1, f1, f2, f3, f4.trans e4⟩
 ·intro j hj hne
  rw [k.keep j (Xia hj h.size) ?_, h.keep j hj hne]
  intro b p o e1 e2 e3 e4
  rcases h.img b p e1 with g | ⟨g1, g2, g3⟩
  ·obtain ⟨o', f1, f2⟩ := h.back b o (hb b p g) e2
   exact hne b p o' g f1 (f2 e3) e4
  ·rcases g3 with g3 | ⟨b1, p1, o1, f1, f2, f3, f4⟩
   ·omega
   ·exact hne b1 p1 o1 f1 f2 f3 (f4.trans e4)
 ·intro b hlt hn
  rw [k.out b (Xia hlt h.next) ?_, h.out b hlt hn]
  cases e : ι' b with
  | none => rfl
  | some q =>
   rcases h.img b q e with g | ⟨g1, g2, g3⟩
   ·rw [hn] at g; cases g
   ·omega
 ·intro b o' hlt ho
  obtain ⟨o1, h1, h2⟩ := k.back b o' (Xia hlt h.next) ho
  obtain ⟨o, h3, h4⟩ := h.back b o1 hlt h1
  exact ⟨o, h3, fun x => h4 (h2 x)⟩
theorem Adv.below {P : Program} {B : Nat} {ι ι' : Inj} {H H' : Heap} {w : World} (s : Sim P B ι H w) (h : Adv ι H w ι' H' w') : ∀ k, k < B -> w'.heap[k]? = w.heap[k]? := by
 intro k hk
 refine h.keep k (Xia hk s.base) fun b p o e1 e2 e3 e4 => ?_
 have := s.obj b p o e1 e2
 cases o with
 | cells wr xs => simp only [AObj.writable] at e3; have := (this.2.2.2 e3).1; omega
 | map sh ver es => have := this.2.1; omega
 | miter m ver left last => have := this.2.1; omega
 | siter t pos => have := this.2.1; omega
 | loop r => have := this.2.1; omega
 | mark => have := this.2.1; omega
theorem Sim.drew {P : Program} {B : Nat} {ι : Inj} {H : Heap} {w : World} (s : Sim P B ι H w) (n : Nat) : Sim P B ι H { w with drawn := n } :=
 ⟨fun b p o e1 e2 => by have := s.obj b p o e1 e2; cases o <;> exact this, s.apart, s.bound, s.lt, s.blank, s.base⟩
theorem Adv.drew (ι : Inj) (H : Heap) (w : World) (n : Nat) (hn : w.drawn <= n) : Adv ι H w ι H { w with drawn := n } :=
 ⟨ι.le_refl, rfl, ⟨rfl, hn⟩, rfl, XhE _, XhE _, fun _ _ h => .inl h, fun _ _ _ => rfl, fun _ _ _ => rfl, fun _ o' _ h => ⟨o', h, id⟩⟩
theorem VS {w : World} (h : w'.heap[b]? = w.heap[b]?) (i : Nat) : w'.cell? ⟨b, i, none⟩ = w.cell? ⟨b, i, none⟩ /\ w'.frozen? ⟨b, i, none⟩ = w.frozen? ⟨b, i, none⟩ := by
 constructor
 ·simp only [World.cell?, h]
 ·simp only [World.frozen?, h]
theorem ObjRel.stay {P : Program} {B : Nat} {ι ι' : Inj} {H H' : Heap} {w : World} {p : Place} {o : AObj} (r : ObjRel P B ι H w p o) (hι : ι.le ι')
  (hc : ∀ wr xs, o = .cells wr xs -> ∀ i, i < p.L -> w'.cell? ⟨p.b, p.d + i, none⟩ = w.cell? ⟨p.b, p.d + i, none⟩ /\ w'.frozen? ⟨p.b, p.d + i, none⟩ = w.frozen? ⟨p.b, p.d + i, none⟩)
  (hz : ∀ wr xs, o = .cells wr xs -> Fz w w' p.b)
  (hw : (∀ wr xs, o ≠ .cells wr xs) -> w'.heap[p.b]? = w.heap[p.b]?)
  (hm : ∀ m ver left last pm, o = .miter (some m) ver left last -> ι m = some pm ->
   (∀ sh ver' es, H'.get m = some (.map sh ver' es) -> (∃ sh' ver'' es', H.get m = some (.map sh' ver'' es') /\ ver'' < ver') \/ (H.get m = some (.map sh ver' es) /\ w'.heap[pm.b]? = w.heap[pm.b]?))) :
  ObjRel P B ι' H' w' p o := by
 cases o with
 | cells wr xs =>
  obtain ⟨h1, h2, h3, h4⟩ := r
  refine ⟨h1, fun i hi => ?_, fun i x hx => ?_, fun e => ⟨(h4 e).1, fun i hi => ?_, fun hL => ((h4 e).2.2 hL).fz (hz wr xs rfl)⟩⟩
  ·exact (h2 i hi).eq (hc wr xs rfl i hi).1
  ·obtain ⟨v', e1, e2, e3⟩ := h3 i x hx
   have hi : i < p.L := Xia (Xig.1 hx).1 h1
   exact ⟨v', by rw [(hc wr xs rfl i hi).1]; exact e1, e2.mono hι, e3⟩
  simp_all
 | map sh ver es =>
  obtain ⟨h1, h2, ms, clock, h3, h4⟩ := r
  refine ⟨h1, h2, ms, clock, ?_, ?_⟩
  ·rw [hw (by simp)]; exact h3
  ·obtain ⟨⟨L, k1, k2⟩, k3, k4, k5, k6⟩ := h4
   exact ⟨⟨L, k1, k2.mono fun x y hr => ⟨hr.1.mono hι, hr.2.mono hι⟩⟩, k3, k4, k5, k6⟩
 | miter m ver left last =>
  obtain ⟨h1, h2, h3⟩ := r
  refine ⟨h1, h2, ?_⟩
  cases m with
  | none =>
   simp_all
  | some m =>
   obtain ⟨pm, since, seen, stepped, e1, e2, e3, e4⟩ := h3
   refine ⟨pm, since, seen, stepped, hι _ _ e1, by rw [hw (by simp)]; exact e2, fun sh ver' es hg => ?_, fun sh es hg => ?_⟩
   ·grind
   ·rcases hm m ver left last pm rfl e1 sh ver es hg with ⟨sh', ver'', es', g1, g2⟩ | ⟨g1, g2⟩
    ·have := e3 _ _ _ g1; omega
    ·obtain ⟨ms, f1, f2, ⟨L, f3, f4⟩, f5⟩ := e4 sh es g1
     refine ⟨ms, by rw [g2]; exact f1, f2, ⟨L, f3, f4.mono fun x y hr => ⟨hr.1.mono hι, hr.2.mono hι⟩⟩, fun e he => ?_⟩
     obtain ⟨m', k1, k2, k3, k4⟩ := f5 e he
     exact ⟨m', k1, k2, k3, k4.1.mono hι, k4.2.mono hι⟩
 | siter s pos =>
  obtain ⟨h1, h2, h3⟩ := r
  exact ⟨h1, h2, by rw [hw (by simp)]; exact h3⟩
 | loop lr =>
  obtain ⟨h1, h2, r', h3, h4⟩ := r
  obtain ⟨k2, k3, ⟨m, k4, k5⟩, k6⟩ := h4
  exact ⟨h1, h2, r', by rw [hw (by simp)]; exact h3, k2, k3, ⟨m, k4.mono hι, k5⟩, k6⟩
 | mark =>
  obtain ⟨h1, h2, h3⟩ := r
  exact ⟨h1, h2, by rw [hw (by simp)]; exact h3⟩
def Inj.with (ι : Inj) (b : Nat) (p : Place) : Inj := fun k => if k = b then some p else ι k
theorem Inj.with_same (ι : Inj) (b : Nat) (p : Place) : ι.with b p b = some p := by simp [Inj.with]
theorem Inj.with_le {ι : Inj} (h : ι b = none) (p : Place) : ι.le (ι.with b p) := by
 intro k q hk
 unfold Inj.with
 grind
theorem Inj.with_cases {ι : Inj} {k : Nat} {p q : Place} (h : ι.with b p k = some q) : (k = b /\ q = p) \/ (k ≠ b /\ ι k = some q) := by
 unfold Inj.with at h
 grind
theorem Sim.next_none {P : Program} {B : Nat} {ι : Inj} {H : Heap} {w : World} (s : Sim P B ι H w) : ι H.next = none := by
 cases e : ι H.next with
 | none => rfl
 | some p => exact absurd (s.bound _ _ e) (Nat.lt_irrefl _)
theorem Sim.alloc {P : Program} {B : Nat} {ι : Inj} {H : Heap} {w : World} (s : Sim P B ι H w) {o : AObj} {O : Obj} {L : Nat}
  (hr : ObjRel P B (ι.with H.next ⟨w.heap.size, 0, L⟩) (H.push o) (w.alloc O) ⟨w.heap.size, 0, L⟩ o) :
  Sim P B (ι.with H.next ⟨w.heap.size, 0, L⟩) (H.push o) (w.alloc O) /\ Adv ι H w (ι.with H.next ⟨w.heap.size, 0, L⟩) (H.push o) (w.alloc O) := by
 have hle := Inj.with_le s.next_none ⟨w.heap.size, 0, L⟩
 have hblk : ∀ k, k < w.heap.size -> (w.alloc O).heap[k]? = w.heap[k]? := fun k hk => by
  show (w.heap.push O)[k]? = _
  rw [Array.getElem?_push, if_neg (by omega)]
 refine ⟨⟨?_, ?_, ?_, ?_, ?_, ?_⟩, ⟨hle, rfl, ⟨rfl, XhE _⟩, rfl, by simp, by simp, ?_, ?_, ?_, ?_⟩⟩
 ·intro b p o' hp ho
  rcases Inj.with_cases hp with ⟨rfl, rfl⟩ | ⟨hne, hp'⟩
  ·simp_all [Heap.get_push, if_pos]
  ·rw [Heap.get_push, if_neg hne] at ho
   have hlt := s.lt b p hp'
   refine (s.obj b p o' hp' ho).stay hle (fun _ _ _ i _ => VS (hblk _ hlt) _) (fun _ _ _ => .of_eq (hblk _ hlt)) (fun _ => hblk _ hlt) ?_
   intro m ver left last pm e hm sh ver' es hg
   have hml := s.bound m pm hm
   rw [Heap.get_push, if_neg (by omega)] at hg
   exact .inr ⟨hg, hblk _ (s.lt m pm hm)⟩
 ·intro b b' p p' o1 o2 hne h1 h2 g1 g2 heq
  rcases Inj.with_cases h1 with ⟨rfl, rfl⟩ | ⟨hn1, h1'⟩
  ·rcases Inj.with_cases h2 with ⟨rfl, rfl⟩ | ⟨hn2, h2'⟩
   ·exact absurd rfl hne
   ·have := s.lt _ _ h2'; simp at heq; omega
  ·rcases Inj.with_cases h2 with ⟨rfl, rfl⟩ | ⟨hn2, h2'⟩
   ·have := s.lt _ _ h1'; simp at heq; omega
   ·rw [Heap.get_push, if_neg hn1] at g1
    rw [Heap.get_push, if_neg hn2] at g2
    exact s.apart b b' p p' o1 o2 hne h1' h2' g1 g2 heq
 ·intro b p hp
  rcases Inj.with_cases hp with ⟨rfl, rfl⟩ | ⟨hne, hp'⟩
  ·simp
  ·have := s.bound b p hp'; simp; omega
 ·intro b p hp
  rcases Inj.with_cases hp with ⟨rfl, rfl⟩ | ⟨hne, hp'⟩
  ·simp
  ·have := s.lt b p hp'; simp; omega
 ·intro b hb
  simp at hb
  rw [Heap.get_push, if_neg (by omega)]
  exact s.blank b (by omega)
 ·have := s.base; simp; omega
 ·intro b p hp
  rcases Inj.with_cases hp with ⟨rfl, rfl⟩ | ⟨hne, hp'⟩
  ·exact .inr ⟨s.next_none, XhE _, .inl (XhE _)⟩
  ·exact .inl hp'
 ·intro k hk _; exact hblk k hk
 ·intro b hb hn; rw [Heap.get_push, if_neg (by omega)]
 ·intro b o' hb ho
  rw [Heap.get_push, if_neg (by omega)] at ho
  exact ⟨o', ho, id⟩
def Follows : AObj -> AObj -> Prop
 | .cells true _, .cells true _ => True
 | .map _ ver _, .map _ ver' _ => ver < ver'
 | .miter .., .miter .. => True
 | .siter .., .siter .. => True
 | .loop _, .loop _ => True
 | _, _ => False
theorem Follows.writable {o o' : AObj} (h : Follows o o') : o.writable = true /\ o'.writable = true := by
 unfold Follows at h
 split at h <;> first | exact ⟨rfl, rfl⟩ | exact h.elim
theorem Sim.update {P : Program} {B : Nat} {ι : Inj} {H : Heap} {w : World} (s : Sim P B ι H w) {b0 : Nat} {p0 : Place} {o0 o1 : AObj} (h0 : ι b0 = some p0) (g0 : H.get b0 = some o0) (fo : Follows o0 o1)
  (os : w'.os = w.os) (tape : w'.tape = w.tape /\ w.drawn <= w'.drawn) (out : w'.output = w.output) (hs : w'.heap.size = w.heap.size) (oth : ∀ k, k ≠ p0.b -> w'.heap[k]? = w.heap[k]?)
  (cs : ∀ wr xs, o0 = .cells wr xs -> ∀ i, (i < p0.d \/ p0.d + p0.L <= i) -> w'.cell? ⟨p0.b, i, none⟩ = w.cell? ⟨p0.b, i, none⟩ /\ w'.frozen? ⟨p0.b, i, none⟩ = w.frozen? ⟨p0.b, i, none⟩)
  (fz : ∀ wr xs, o0 = .cells wr xs -> Fz w w' p0.b)
  (hr : ObjRel P B ι (H.put b0 (some o1)) w' p0 o1) : Sim P B ι (H.put b0 (some o1)) w' /\ Adv ι H w ι (H.put b0 (some o1)) w' := by
 obtain ⟨wr0, wr1⟩ := fo.writable
 refine ⟨⟨?_, ?_, ?_, ?_, ?_, ?_⟩, ⟨ι.le_refl, os, tape, out, by omega, by simp, fun _ _ h => .inl h, ?_, ?_, ?_⟩⟩
 ·intro b p o hp ho
  by_cases e : b = b0
  ·simp_all [Heap.get_put, if_pos]
  ·rw [Heap.get_put, if_neg e] at ho
   have hap := s.apart b b0 p p0 o o0 e hp h0 ho g0
   refine (s.obj b p o hp ho).stay ι.le_refl ?_ (fun wr xs he => ?_) ?_ ?_
   rotate_left
   ·by_cases hb : p.b = p0.b
    ·obtain ⟨_, _, wr'', xs'', _, e2, _⟩ := hap hb
     rw [hb]; exact fz _ _ e2
    ·exact .of_eq (oth _ hb)
   rotate_left
   rotate_left
   ·intro wr xs he i hi
    by_cases hb : p.b = p0.b
    ·obtain ⟨wr', xs', wr'', xs'', e1, e2, e3⟩ := hap hb
     rw [hb]
     refine cs _ _ e2 _ ?_
     rcases e3 with ⟨_, e3⟩ | e3 | e3
     ·rw [e2] at wr0; simp [AObj.writable, e3] at wr0
     ·omega
     ·omega
    ·exact VS (oth _ hb) _
   ·intro hn
    refine oth _ fun hb => ?_
    obtain ⟨wr', xs', _, _, e1, _⟩ := hap hb
    exact hn _ _ e1
   ·intro m ver left last pm e' hm sh ver' es hg
    by_cases em : m = b0
    ·subst em
     rw [Heap.get_put, if_pos rfl] at hg
     cases hg
     cases o0 with
     | map sh0 ver0 es0 => exact .inl ⟨sh0, ver0, es0, g0, fo⟩
     | cells wr xs => cases wr <;> simp [Follows] at fo
     | _ => simp [Follows] at fo
    ·rw [Heap.get_put, if_neg em] at hg
     refine .inr ⟨hg, oth _ fun hb => ?_⟩
     obtain ⟨_, _, _, _, e1, _⟩ := s.apart m b0 pm p0 _ o0 em hm h0 hg g0 hb
     cases e1
 ·intro b b' p p' o1' o2' hne h1 h2 g1 g2 heq
  rw [Heap.get_put] at g1 g2
  have key : ∀ c pc oc, c ≠ b0 -> ι c = some pc -> H.get c = some oc -> pc.b = p0.b -> ∃ wr xs wr' xs', oc = .cells wr xs /\ o1 = .cells wr' xs' /\ (pc.d + pc.L <= p0.d \/ p0.d + p0.L <= pc.d) := by
   intro c pc oc hc hi hg hb
   obtain ⟨wr', xs', wr'', xs'', e1, e2, e3⟩ := s.apart c b0 pc p0 oc o0 hc hi h0 hg g0 hb
   subst e2
   simp only [AObj.writable] at wr0
   cases o1 with
   | cells wr xs =>
    simp_all
   | _ => cases wr'' <;> simp [Follows] at fo
  by_cases e : b = b0
  ·grind
  ·rw [if_neg e] at g1
   by_cases e' : b' = b0
   ·grind
   ·rw [if_neg e'] at g2
    exact s.apart b b' p p' o1' o2' hne h1 h2 g1 g2 heq
 ·exact s.bound
 ·intro b p hp; rw [hs]; exact s.lt b p hp
 ·intro b hb
  simp at hb
  rw [Heap.get_put, if_neg (by have := s.bound b0 p0 h0; omega)]
  exact s.blank b hb
 ·rw [hs]; exact s.base
 ·grind
 ·intro b hb hn
  rw [Heap.get_put, if_neg (by rintro rfl; rw [h0] at hn; cases hn)]
 grind [Heap.get_put]
theorem Sim.kill {P : Program} {B : Nat} {ι : Inj} {H : Heap} {w : World} (s : Sim P B ι H w) {b0 : Nat} {p0 : Place} (h0 : ι b0 = some p0) :
  Sim P B ι (H.put b0 none) w /\ Adv ι H w ι (H.put b0 none) w := by
 have get : ∀ b o, (H.put b0 none).get b = some o -> b ≠ b0 /\ H.get b = some o := by
  intro b o h
  rw [Heap.get_put] at h
  split at h
  ·cases h
  ·exact ⟨‹_›, h⟩
 refine ⟨⟨?_, ?_, s.bound, s.lt, ?_, s.base⟩, ⟨ι.le_refl, rfl, ⟨rfl, XhE _⟩, rfl, XhE _, XhE _, fun _ _ h => .inl h, fun _ _ _ => rfl, ?_, ?_⟩⟩
 ·intro b p o hp ho
  refine (s.obj b p o hp (get b o ho).2).stay ι.le_refl (fun _ _ _ _ _ => ⟨rfl, rfl⟩) (fun _ _ _ => .refl _ _) (fun _ => rfl) ?_
  simp_all
 ·intro b b' p p' o o' hne h1 h2 g1 g2
  exact s.apart b b' p p' o o' hne h1 h2 (get _ _ g1).2 (get _ _ g2).2
 ·intro b hb
  rw [Heap.get_put]
  split
  ·rfl
  ·exact s.blank b hb
 ·intro b hb hn
  rw [Heap.get_put, if_neg (by rintro rfl; rw [h0] at hn; cases hn)]
 simp_all
theorem Sim.shut {P : Program} {B : Nat} {ι : Inj} {H : Heap} {w : World} (s : Sim P B ι H w) {b0 : Nat} {p0 : Place} {o0 : AObj} (h0 : ι b0 = some p0) (g0 : H.get b0 = some o0) (wr : o0.writable = true) (nc : ∀ wr xs, o0 ≠ .cells wr xs)
  (os : w'.os = w.os) (tape : w'.tape = w.tape /\ w.drawn <= w'.drawn) (out : w'.output = w.output) (hs : w'.heap.size = w.heap.size) (oth : ∀ k, k ≠ p0.b -> w'.heap[k]? = w.heap[k]?) : Sim P B ι (H.put b0 none) w' /\ Adv ι H w ι (H.put b0 none) w' := by
 have get : ∀ b o, (H.put b0 none).get b = some o -> b ≠ b0 /\ H.get b = some o := by
  intro b o h
  rw [Heap.get_put] at h
  split at h
  ·cases h
  ·exact ⟨‹_›, h⟩
 have far : ∀ b p o, b ≠ b0 -> ι b = some p -> H.get b = some o -> p.b ≠ p0.b := by
  intro b p o hne hp ho he
  obtain ⟨_, _, wr', xs', _, e2, _⟩ := s.apart b b0 p p0 o o0 hne hp h0 ho g0 he
  exact nc _ _ e2
 refine ⟨⟨?_, ?_, s.bound, fun b p hp => by rw [hs]; exact s.lt b p hp, ?_, by rw [hs]; exact s.base⟩, ⟨ι.le_refl, os, tape, out, by omega, XhE _, fun _ _ h => .inl h, fun k hk hne => oth k fun e => hne b0 p0 o0 h0 g0 wr e.symm, ?_, ?_⟩⟩
 ·intro b p o hp ho
  obtain ⟨h1, h2⟩ := get b o ho
  have hb := oth _ (far b p o h1 hp h2)
  refine (s.obj b p o hp h2).stay ι.le_refl (fun _ _ _ i _ => VS hb _) (fun _ _ _ => .of_eq hb) (fun _ => hb) ?_
  grind
 ·intro b b' p p' o o' hne h1 h2 g1 g2
  exact s.apart b b' p p' o o' hne h1 h2 (get _ _ g1).2 (get _ _ g2).2
 ·intro b hb
  rw [Heap.get_put]
  split
  ·rfl
  ·exact s.blank b hb
 ·intro b hb hn
  rw [Heap.get_put, if_neg (by rintro rfl; rw [h0] at hn; cases hn)]
 simp_all
section
variable {P : Program} {B : Nat} {ι : Inj} {H : Heap} {w : World}
theorem WD {t : TypeId} {d : TypeDesc} (h : und P t = d) (hd : d ≠ .invalid) : P.underlying t = some d := by
 unfold und at h
 cases e : P.underlying t with
 | none => rw [e] at h; exact absurd h.symm hd
 | some x => rw [e] at h; simp at h; rw [h]
theorem XdE {t : TypeId} {d : TypeDesc} (h : P.underlying t = some d) : ∃ i, P.info? t = some i := by
 unfold Program.underlying at h
 grind
theorem Xy {t : TypeId} {d : TypeDesc} (h : und P t = d) (hd : d ≠ .invalid) (w : World) : (underlying t).run P w = .ok d w := run_underlying (WD h hd) w
theorem ZT {t : TypeId} (h : okT P t = true) (w : World) : (sizeOf t).run P w = .ok (cellN P t) w := by
 unfold okT at h
 obtain ⟨d, hd⟩ := XiL.1 h
 obtain ⟨i, hi⟩ := XdE hd
 simp [sizeOf, typeInfo, hi, cellN, Program.cellsOf]
theorem XdF {t : TypeId} (h : okT P t = true) (w : World) : (isAgg t).run P w = .ok (Vb P t) w := by
 unfold okT at h
 obtain ⟨d, hd⟩ := XiL.1 h
 simp only [isAgg, XhG, run_underlying hd, XhF, Vb, und, hd, Option.getD_some]
 cases d <;> rfl
theorem XaT (b o j : Nat) : (⟨b, o, none⟩ : Addr).add j = ⟨b, o + j, none⟩ := by
 unfold Addr.add
 split
 ·subst_vars; rfl
 ·rfl
theorem XW {α β : Type} {k : α -> Option β} {o : Option α} {r : β} (h : Yr none k o = some r) : ∃ x, o = some x /\ k x = some r := by
 cases o with
 | none => cases h
 | some x => exact ⟨x, rfl, h⟩
theorem JO (r : VRel ι v v') {a : Addr} (h : Xb1 v = some a) : ∃ p, v = .pointer (some a) /\ ι a.block = some p /\ v' = .pointer (some ⟨p.b, p.d + a.off, none⟩) := by
 cases r with
 | ptr hp =>
  simp only [Xb1] at h
  cases h
  exact ⟨_, rfl, hp, rfl⟩
 | _ => simp [Xb1] at h
theorem asBool_rel (r : VRel ι v v') {b : Bool} (h : asBool v = some b) : v = .bool b /\ v' = .bool b := by
 cases r <;> simp [asBool] at h
 subst h; exact ⟨rfl, rfl⟩
theorem JP (r : VRel ι v v') (h : Wf v = some n) : ∃ k, v = .int k (.ofNat n) /\ v' = .int k (.ofNat n) := by
 cases r with
 | int k x =>
  cases x with
  | ofNat x => simp only [Wf] at h; cases h; exact ⟨k, rfl, rfl⟩
  | negSucc x => simp only [Wf] at h; cases h
 | _ => simp [Wf] at h
theorem asStr_rel (r : VRel ι v v') {l : List UInt8} (h : asStr v = some l) : ∃ s, v = .string s /\ v' = .string s /\ l = s.data.toList := by
 cases r <;> simp [asStr] at h
 exact ⟨_, rfl, rfl, h.symm⟩
theorem asAgg_rel (r : VRel ι v v') {l : List Value} (h : Xen v = some l) : ∃ a', v' = .agg a' /\ LRel ι l a'.toList /\ ∀ x ∈ l, Y8 x := by
 cases v <;> simp [Xen] at h
 subst h
 exact Uk r
theorem asTuple_rel (r : VRel ι v v') {i : Nat} (h : nth i (asTuple v) = some x) : ∃ a' x', v' = .tuple a' /\ a'[i]? = some x' /\ VRel ι x x' := by
 rw [Xea] at h
 cases v <;> simp [asTuple] at h
 obtain ⟨a', e, h2⟩ := vrel_tuple_inv r
 obtain ⟨x', h3, h4⟩ := h2.get? (i := i) (by simpa using h)
 exact ⟨a', x', e, by simpa using h3, h4⟩
theorem load1_ok (s : Sim P B ι H w) {off : Nat} {p : Place} (hp : ι b = some p) (h : H.load1 b off = some v) :
  ∃ v', w.cell? ⟨p.b, p.d + off, none⟩ = some v' /\ VRel ι v v' /\ Y8 v := by
 unfold Heap.load1 at h
 cases e : H.get b with
 | none => rw [e] at h; cases h
 | some o =>
  rw [e] at h
  cases o with
  | cells wr c => simp only [Xea] at h; exact (s.obj b p _ hp e).2.2.1 off v h
  | _ => cases h
theorem load_ok (s : Sim P B ι H w) {off : Nat} {cs : List Value} {p : Place} (hp : ι b = some p) (h : H.load b off n = some cs) :
  ∃ cs', cs'.length = n /\ (∀ j v, cs'[j]? = some v -> w.cell? ⟨p.b, p.d + off + j, none⟩ = some v) /\ LRel ι cs cs' /\ (∀ x ∈ cs, Y8 x) /\ (n ≠ 0 -> off + n <= p.L) := by
 unfold Heap.load at h
 cases e : H.get b with
 | none => rw [e] at h; cases h
 | some o =>
  rw [e] at h
  cases o with
  | cells wr c =>
   simp only [VR, UZ] at h
   split at h
   ·rename_i hn
    cases h
    have key := (s.obj b p _ hp e).2.2.1
    have hL := (s.obj b p _ hp e).1
    have hx : ∀ j, j < n -> ∃ x, ((c.drop off).take n)[j]? = some x /\ ∃ v', w.cell? ⟨p.b, p.d + off + j, none⟩ = some v' /\ VRel ι x v' /\ Y8 x := by
     intro j hj
     simp at hn
     have h1 : off + j < c.length := by omega
     refine ⟨c[off + j], ?_, ?_⟩
     ·simp_all
     ·obtain ⟨v', k1, k2, k3⟩ := key (off + j) c[off + j] (by simp [h1])
      grind
    refine ⟨(Xir n).map fun j => (w.cell? ⟨p.b, p.d + off + j, none⟩).getD undef, by simp, ?_, ?_, ?_, ?_⟩
    ·grind
    ·grind [All2.of_get, Xig]
    ·grind [XiG, Xig]
    ·intro h0; simp at hn; omega
   ·cases h
  | _ => cases h
theorem run_loads {p : Place} {off : Nat} {cs' : List Value} (hl : cs'.length = n) (hc : ∀ j v, cs'[j]? = some v -> w.cell? ⟨p.b, p.d + off + j, none⟩ = some v) :
  (loadCells ⟨p.b, p.d + off, none⟩ n).run P w = .ok cs'.toArray w := by
 grind [run_loadCells_list, XaT]
theorem part_ok {t : TypeId} (ht : okT P t = true) {cs : List Value} {a' : Array Value} (hr : LRel ι cs a'.toList) (fl : ∀ x ∈ cs, Y8 x) {off : Nat}
  (h : (if Vb P t then Yr none (fun c => some (Value.agg ⟨c⟩)) (XU (cellN P t) (XY off cs)) else nth off cs) = some v) :
  ∃ v', (part t a' off).run P w = .ok v' w /\ VRel ι v v' := by
 unfold part
 simp only [XhG, XdF ht, XhF]
 cases e : Vb P t with
 | true =>
  rw [e] at h
  simp only [if_true] at h ⊢
  obtain ⟨c, h1, h2⟩ := XW h
  cases h2
  rw [VR, UZ] at h1
  split at h1
  ·cases h1
   refine ⟨_, by simp [ZT ht]; rfl, Xev ?_ ?_⟩
   ·simp only [Array.toList_extract]
    have := (hr.drop off).take (cellN P t)
    simp_all
   grind
  ·cases h1
 | false =>
  rw [e] at h
  simp only [Xik, if_false] at h ⊢
  rw [Xea] at h
  obtain ⟨x', h3, h4⟩ := hr.get? h
  simp_all
end
section
variable {P : Program} {B : Nat} {ι : Inj} {H : Heap} {w : World} {m : Nat} {t : Tm} {a : Act}
theorem Xx (hT : TmRel ι m t a.tmps) {x : Operand} {o : Opd} (h : XE m x = some o) : VRel ι (o.val t) (a.eval x) := by
 cases x with
 | tmp n =>
  simp only [XE, XaR, Xi8] at h
  obtain ⟨k, h1, rfl⟩ := h
  cases hb : (XhK n 256 && XhK n m) with
  | false => rw [hb] at h1; cases h1
  | true =>
   rw [hb] at h1
   simp only [cond_true, XhU.injEq] at h1
   subst h1
   simp only [XhN, blt_iff] at hb
   exact hT.2 n hb.1 hb.2
 | const v =>
  simp only [XE] at h
  cases hb : Jh v with
  | false => rw [hb] at h; cases h
  | true =>
   rw [hb] at h
   simp only [cond_true, XhU.injEq] at h
   subst h
   exact XcZ hb
 | global g => simp [XE] at h
 | func f =>
  simp only [XE, XhU.injEq] at h
  subst h
  exact .func (.func f) rfl rfl (fun i h => by simp at h) (fun i h => by simp at h)
theorem Xc0 (hT : TmRel ι m t a.tmps) {xs : List Operand} {os : List Opd} (h : xs.mapM (XE m) = some os) : LRel ι (J1 t (opds os)) (xs.map a.eval) := by
 rw [vals_eq, opds_eq, List.map_map]
 induction xs generalizing os with
 | nil => simp at h; subst h; exact .nil
 | cons x xs ih =>
  simp only [List.mapM_cons, Option.bind_eq_bind, Xi9, Option.pure_def, XhU.injEq] at h
  obtain ⟨o, h1, os', h2, rfl⟩ := h
  exact .cons (Xx hT h1) (ih h2)
theorem oopd_rel (hT : TmRel ι m t a.tmps) {x : Option Operand} {o : Option Opd} (h : optO m x = some o) :
  (x = none /\ o = none) \/ ∃ y p, x = some y /\ o = some p /\ VRel ι (p.val t) (a.eval y) := by
 cases x with
 | none => simp [optO] at h; exact .inl ⟨rfl, h.symm⟩
 | some y =>
  simp only [optO, Xi8] at h
  obtain ⟨p, h1, rfl⟩ := h
  exact .inr ⟨y, p, rfl, rfl, Xx hT h1⟩
theorem Xv {α β γ : Type} {x : Option α} {y : Option β} {f : α -> β -> γ} {r : γ} (h : Xac x y f = some r) : ∃ u v, x = some u /\ y = some v /\ r = f u v := by
 simp only [Xac, Xi9, Xi8] at h
 obtain ⟨u, h1, v, h2, h3⟩ := h
 exact ⟨u, v, h1, h2, h3.symm⟩
theorem XR {α : Type} {b : Bool} {x : Option α} {r : α} (h : Xd7 b x = some r) : b = true /\ x = some r := by
 cases b with
 | false => cases h
 | true => exact ⟨rfl, h⟩
theorem blt_zero (n : Nat) : XhK n 0 = false := by
 cases hb : XhK n 0 with
 | false => rfl
 | true => rw [blt_iff] at hb; omega
theorem r_ixSl {T e : TypeId} (hT : und P T = .slice e) (he : okT P e = true) {i i' : Value}
  (h : (match x with
   | .slice (some a) len _ => Yr none (fun i => bif XhK i len then some (Value.pointer (some ⟨a.block, XhR a.off (XhX i (cellN P e)), none⟩)) else none) (Wf i)
   | _ => none) = some v) (hx : VRel ι x x') (hi : VRel ι i i') : ∃ v', (Instr.indexAt T x' i').run P w = .ok v' w /\ VRel ι v v' := by
 cases hx with
 | slice hp hex hc hn hl =>
  obtain ⟨n, h1, h2⟩ := XW h
  obtain ⟨k, rfl, rfl⟩ := JP hi h1
  cases hb : XhK n _ with
  | false => rw [hb] at h2; cases h2
  | true =>
   rw [hb] at h2
   rw [blt_iff] at hb
   cases h2
   refine ⟨_, ?_, .ptr hp⟩
   unfold Instr.indexAt
   simp only [asIntOf, XhG, XhJ, XhF, Xy hT (by simp), ZT he, Sem.run_ite]
   have h0 : (0 : Int) <= Int.ofNat n /\ Int.ofNat n < ((_ : Nat) : Int) := ⟨XiH n, Int.ofNat_lt.2 hb⟩
   rw [if_pos h0]
   simp only [XaT]
   simp [Xim]
 | sempty he' =>
  obtain ⟨n, h1, h2⟩ := XW h
  simp [blt_zero] at h2
 | _ => cases h
theorem r_ixArr {T e : TypeId} (hT : und P T = .array n e) (he : okT P e = true) {i i' : Value} (hx : VRel ι x x') (hi : VRel ι i i')
  (h : Yr none (fun a => Yr none (fun i => bif XhK i n then some (Value.pointer (some ⟨a.block, XhR a.off (XhX i (cellN P e)), none⟩)) else none) (Wf i)) (Xb1 x) = some v) :
  ∃ v', (Instr.indexAt T x' i').run P w = .ok v' w /\ VRel ι v v' := by
 obtain ⟨ad, h0, g⟩ := XW h
 clear h
 obtain ⟨p, rfl, hp, rfl⟩ := JO hx h0
 obtain ⟨j, h1, h2⟩ := XW g
 clear g
 obtain ⟨k, rfl, rfl⟩ := JP hi h1
 cases hb : XhK j n with
 | false => rw [hb] at h2; cases h2
 | true =>
  rw [hb] at h2
  rw [blt_iff] at hb
  cases h2
  refine ⟨_, ?_, .ptr (a := ⟨ad.block, XhR ad.off (XhX j (cellN P e)), none⟩) hp⟩
  unfold Instr.indexAt
  simp only [asIntOf, XhG, XhJ, XhF, Xy hT (by simp), ZT he, Sem.run_ite, Instr.sureAddr]
  rw [if_pos ⟨XiH j, Int.ofNat_lt.2 hb⟩]
  simp only [XaT]
  simp [Xim]
theorem r_ixStr {T : TypeId} (hT : und P T = .string) {i i' : Value} (hx : VRel ι x x') (hi : VRel ι i i')
  (h : Yr none (fun s => Yr none (fun i => Yr none (fun b => some (byteVal b)) s[i]?) (Wf i)) (asStr x) = some v) :
  ∃ v', (Instr.index T x' i').run P w = .ok v' w /\ VRel ι v v' := by
 obtain ⟨l, h0, g⟩ := XW h
 clear h
 obtain ⟨s, rfl, rfl, rfl⟩ := asStr_rel hx h0
 obtain ⟨j, h1, g2⟩ := XW g
 clear g
 obtain ⟨k, rfl, rfl⟩ := JP hi h1
 obtain ⟨b, h2, h3⟩ := XW g2
 clear g2
 cases h3
 refine ⟨byteVal b, ?_, .int _ _⟩
 unfold Instr.index
 simp only [asIntOf, XhG, XhJ, XhF, Xy hT (by simp)]
 have hs : s[j]? = some b := by
  have hj := (Xig.1 h2).1
  have hj' : j < s.size := by simpa using hj
  have e := (Xig.1 h2).2
  rw [getElem?_pos s j hj']
  simp only [XhU.injEq]
  rw [<- e]
  simp [ByteArray.getElem_eq_getElem_data]
 rw [if_pos (show 0 <= Int.ofNat j from XiH j)]
 simp [hs, byteVal]
theorem r_ixVal {T e : TypeId} (hT : und P T = .array n e) (he : okT P e = true) {i i' : Value} (hx : VRel ι x x') (hi : VRel ι i i')
  (h : Yr none (fun cs => Yr none (fun i => bif XhK i n then
   (if Vb P e then Yr none (fun c => some (Value.agg ⟨c⟩)) (XU (cellN P e) (XY (XhX i (cellN P e)) cs)) else nth (XhX i (cellN P e)) cs) else none) (Wf i)) (Xen x) = some v) :
  ∃ v', (Instr.index T x' i').run P w = .ok v' w /\ VRel ι v v' := by
 obtain ⟨cs, h0, g⟩ := XW h
 clear h
 obtain ⟨a', rfl, hr, fl⟩ := asAgg_rel hx h0
 obtain ⟨j, h1, h⟩ := XW g
 clear g
 obtain ⟨k, rfl, rfl⟩ := JP hi h1
 cases hb : XhK j n with
 | false => rw [hb] at h; cases h
 | true =>
  rw [hb] at h
  rw [blt_iff] at hb
  simp only [cond_true] at h
  obtain ⟨v', r1, r2⟩ := part_ok (w := w) he hr fl h
  refine ⟨v', ?_, r2⟩
  unfold Instr.index
  simp only [asIntOf, XhG, XhJ, XhF, Xy hT (by simp), Sem.run_ite, ZT he]
  rw [if_pos ⟨XiH j, Int.ofNat_lt.2 hb⟩]
  exact r1
theorem r_load1 (s : Sim P B ι H w) {T : TypeId} (hT : okT P T = true) (ha : Vb P T = false) (hx : VRel ι x x')
  (h : Yr none (fun p => H.load1 p.block p.off) (Xb1 x) = some v) : ∃ v', (Instr.loadAt T x').run P w = .ok v' w /\ VRel ι v v' := by
 obtain ⟨ad, h0, g⟩ := XW h
 clear h
 obtain ⟨p, rfl, hp, rfl⟩ := JO hx h0
 obtain ⟨v', h1, h2, _⟩ := load1_ok s hp g
 refine ⟨v', ?_, h2⟩
 unfold Instr.loadAt loadVar
 simp only [Instr.sureAddr, XhG, XhJ, XhF, XdF hT, ha, Xik, if_false, run_load, h1]
theorem r_loadN (s : Sim P B ι H w) {T : TypeId} (hT : okT P T = true) (ha : Vb P T = true) (hx : VRel ι x x')
  (h : Yr none (fun p => Yr none (fun cs => some (Value.agg ⟨cs⟩)) (H.load p.block p.off (cellN P T))) (Xb1 x) = some v) : ∃ v', (Instr.loadAt T x').run P w = .ok v' w /\ VRel ι v v' := by
 obtain ⟨ad, h0, g⟩ := XW h
 clear h
 obtain ⟨p, rfl, hp, rfl⟩ := JO hx h0
 obtain ⟨cs, h1, h2⟩ := XW g
 cases h2
 obtain ⟨cs', k1, k2, k3, k4, _⟩ := load_ok s hp h1
 refine ⟨.agg cs'.toArray, ?_, Xev (by simpa using k3) k4⟩
 unfold Instr.loadAt loadVar
 simp only [Instr.sureAddr, XhG, XhJ, XhF, XdF hT, ha, if_true, ZT hT, run_loads k1 k2]
theorem r_fieldAddr {T : TypeId} {fs : Array Field} (hT : und P T = .struct fs) {i : Nat} {f : Field} (hf : fs[i]? = some f) (h0 : cellN P f.type ≠ 0) (hx : VRel ι x x')
  (h : Yr none (fun a => some (Value.pointer (some ⟨a.block, XhR a.off f.offset, none⟩))) (Xb1 x) = some v) : ∃ v', (Instr.fieldAt T x' i).run P w = .ok v' w /\ VRel ι v v' := by
 obtain ⟨ad, h1, h2⟩ := XW h
 obtain ⟨p, rfl, hp, rfl⟩ := JO hx h1
 cases h2
 refine ⟨_, ?_, .ptr (a := ⟨ad.block, XhR ad.off f.offset, none⟩) hp⟩
 unfold Instr.fieldAt
 simp only [XhG, Xy hT (by simp), XhF, hf, Instr.sureAddr, XhJ, fieldPlace]
 have hs : (sizeOf f.type).run P w = .ok (cellN P f.type) w := by
  cases e : P.info? f.type with
  | none => exact absurd (by simp [cellN, Program.cellsOf, e]) h0
  | some j => simp [sizeOf, typeInfo, e, cellN, Program.cellsOf]
 simp only [hs, XhF, if_neg h0, XhJ, XaT]
 simp [Xim]
theorem r_field {T : TypeId} {fs : Array Field} (hT : und P T = .struct fs) {i : Nat} {f : Field} (hf : fs[i]? = some f) (hk : okT P f.type = true) (hx : VRel ι x x')
  (h : Yr none (fun cs => if Vb P f.type then Yr none (fun c => some (Value.agg ⟨c⟩)) (XU (cellN P f.type) (XY f.offset cs)) else nth f.offset cs) (Xen x) = some v) :
  ∃ v', (Instr.field T x' i).run P w = .ok v' w /\ VRel ι v v' := by
 obtain ⟨cs, h0, g⟩ := XW h
 clear h
 obtain ⟨a', rfl, hr, fl⟩ := asAgg_rel hx h0
 obtain ⟨v', r1, r2⟩ := part_ok (w := w) hk hr fl g
 refine ⟨v', ?_, r2⟩
 unfold Instr.field
 simp only [XhG, Xy hT (by simp), XhF, hf]
 exact r1
theorem r_extract (hx : VRel ι x x') {i : Nat} (h : nth i (asTuple x) = some v) : ∃ v', (Instr.extract x' i).run P w = .ok v' w /\ VRel ι v v' := by
 obtain ⟨a', x', rfl, h1, h2⟩ := asTuple_rel hx h
 refine ⟨x', ?_, h2⟩
 unfold Instr.extract
 simp [h1]
theorem r_toArr {T e : TypeId} (hT : und P T = .array n e)
  (h : (match x with
   | .slice (some a) len _ => bif XhK len n || XhD n 0 then none else some (Value.pointer (some ⟨a.block, a.off, none⟩))
   | _ => none) = some v) (hx : VRel ι x x') : ∃ v', (Instr.arrayAt T x').run P w = .ok v' w /\ VRel ι v v' := by
 cases hx with
 | @slice ad p n' c c' hp hex hc hn hl =>
  simp only at h
  cases hb : (XhK n' n || XhD n 0) with
  | true => rw [hb] at h; cases h
  | false =>
   rw [hb] at h
   cases h
   simp only [Xjk] at hb
   have hlt : ¬ n' < n := fun hh => by rw [blt_iff.2 hh] at hb; exact absurd hb.1 (by simp)
   refine ⟨_, ?_, .ptr (a := ⟨ad.block, ad.off, none⟩) hp⟩
   unfold Instr.arrayAt
   simp only [XhG, Xy hT (by simp), XhF, if_neg hlt, XhJ]
 | sempty he =>
  simp only at h
  cases hb : (XhK 0 n || XhD n 0) with
  | true => rw [hb] at h; cases h
  | false =>
   simp only [Xjk] at hb
   exfalso
   cases n with
   | zero => simp at hb
   | succ n => have := blt_iff.2 (Nat.succ_pos n); rw [this] at hb; exact absurd hb.1 (by simp)
 | _ => cases h
end
theorem ZY (s : ByteArray) : s.toList = bytes s := ByteArray.toList_eq s
theorem Xeb (a b : ByteArray) : Vf (bytes a) (bytes b) = (a == b) := by
 rw [Ji, beq_toListBytes, ZY, ZY]
theorem Xae (s : ByteArray) : s.size = (bytes s).length := by
 obtain ⟨⟨x⟩⟩ := s; rfl
theorem dle (a b : Int) : decide (a <= b) = !decide (b < a) := by
 grind
section
variable {P : Program} {B : Nat} {ι : Inj} {H : Heap} {w : World}
theorem r_bin {op : BinOp} {T : TypeId} {y' : Value} (h : binV op x y = some v) (hx : VRel ι x x') (hy : VRel ι y y') : (binOp op T x' y').run P w = .ok v w /\ VRel ι v v := by
 unfold binV at h
 split at h
 ·rename_i k a k' b
  cases hx; cases hy
  cases op <;> simp only [BinOp.isShift, cond_true, cond_false] at h
  case shl | shr =>
   simp only [shiftV] at h
   rw [ltInt_iff] at h
   by_cases hb : b < 0
   ·simp [hb] at h
   ·simp [hb] at h
    subst h
    exact ⟨by simp [binOp, Op.shift, hb], .int _ _⟩
  all_goals
   rw [ZX] at h
   by_cases hk : k = k'
   ·subst hk
    simp only [decide_true, cond_true, binInt, Xeu, ltInt_iff] at h
    first
     | (cases h; done)
     | (by_cases hb : b = 0
        ·simp [hb] at h
        ·simp [hb] at h
         subst h
         exact ⟨by simp [binOp, Op.intDiv, hb], .int _ _⟩)
     | (simp only [XhU.injEq] at h
        subst h
        refine ⟨?_, by constructor⟩
        simp [binOp, Op.intArith, Op.intBits, Op.intCmp]
        done)
     | (simp only [XhU.injEq] at h
        subst h
        refine ⟨?_, by constructor⟩
        simp [binOp, Op.intCmp]
        rw [dle])
   ·simp [hk] at h
 ·rename_i a b
  cases hx; cases hy
  cases op <;> simp only [binStr] at h <;> first | (cases h; done) | skip
  case add =>
   cases hb : XhM ((bytes a).length + (bytes b).length) 9223372036854775807 with
   | false => rw [hb] at h; cases h
   | true =>
    rw [hb] at h
    rw [ble_iff] at hb
    cases h
    refine ⟨?_, .string _⟩
    have e : (a ++ b : ByteArray) = ⟨⟨bytes a ++ bytes b⟩⟩ := by
     apply ByteArray.ext; simp [ByteArray.data_append, bytes]
    have hm : IntKind.i64.max = 9223372036854775807 := by decide
    simp only [binOp, Op.stringOp, Xae, hm]
    rw [if_neg (by omega), e]
    rfl
  all_goals
   simp only [XhU.injEq] at h
   subst h
   refine ⟨?_, by constructor⟩
   simp [binOp, Op.stringOp, ZY, Ji, ltBytes_eq]
 ·cases h
theorem r_un {op : UnOp} (h : unV op x = some v) (hx : VRel ι x x') : (Op.unary op x').run P w = .ok v w /\ VRel ι v v := by
 unfold unV at h
 split at h
 ·cases hx
  split at h <;> first | (cases h; done) | skip
  all_goals
   simp only [XhU.injEq] at h
   subst h
   refine ⟨?_, by constructor⟩
   simp [Op.unary, Op.intArith, Op.intBits]
 ·cases hx
  split at h <;> first | (cases h; done) | skip
  simp only [XhU.injEq] at h
  subst h
  exact ⟨by simp [Op.unary], .bool _⟩
 ·cases h
theorem max2_ok {y' : Value} (h : max2 x y = some v) (hx : VRel ι x x') (hy : VRel ι y y') : (Builtin.max2 x' y').run P w = .ok v w /\ VRel ι v v := by
 unfold max2 at h
 split at h
 ·cases hx; cases hy
  simp only [XhU.injEq] at h
  subst h
  rw [ltInt_iff]
  refine ⟨?_, .int _ _⟩
  rename_i k a k' b
  by_cases hb : a < b
  ·simp [Builtin.max2, hb]
  ·simp [Builtin.max2, hb]
 ·cases hx; cases hy
  simp only [XhU.injEq] at h
  subst h
  rw [ltBytes_eq]
  rename_i a b
  refine ⟨?_, .string _⟩
  simp only [Builtin.max2, Op.stringOp, ZY, XhG, XhJ, XhF]
  cases Op.bytesLess (bytes a) (bytes b) <;> rfl
 ·cases h
theorem min2_ok {y' : Value} (h : min2 x y = some v) (hx : VRel ι x x') (hy : VRel ι y y') : (Builtin.min2 x' y').run P w = .ok v w /\ VRel ι v v := by
 unfold min2 at h
 split at h
 ·cases hx; cases hy
  simp only [XhU.injEq] at h
  subst h
  rw [ltInt_iff]
  refine ⟨?_, .int _ _⟩
  rename_i k a k' b
  by_cases hb : b < a
  ·simp [Builtin.min2, hb]
  ·simp [Builtin.min2, hb]
 ·cases hx; cases hy
  simp only [XhU.injEq] at h
  subst h
  rw [ltBytes_eq, Ji]
  rename_i a b
  refine ⟨?_, .string _⟩
  simp only [Builtin.min2, Op.stringOp, ZY, XhG, XhJ, XhF]
  cases Op.bytesLess (bytes a) (bytes b) <;> cases (bytes a == bytes b) <;> rfl
 ·cases h
theorem foldV_ok {f : Value -> Value -> Option Value} {g : Value -> Value -> Sem Value} (hf : ∀ x x' y y' v, f x y = some v -> VRel ι x x' -> VRel ι y y' -> (g x' y').run P w = .ok v w /\ VRel ι v v)
  {x x' v : Value} {xs xs' : List Value} (h : foldV f x xs = some v) (hx : VRel ι x x') (hxs : LRel ι xs xs') : ∃ v', (xs'.foldlM g x').run P w = .ok v' w /\ VRel ι v v' := by
 induction hxs generalizing x x' with
 | nil => simp only [foldV, XhU.injEq] at h; subst h; exact ⟨x', rfl, hx⟩
 | cons hy _ ih =>
  simp only [foldV] at h
  split at h
  ·rename_i r hr
   obtain ⟨h1, h2⟩ := hf _ _ _ _ _ hr hx hy
   obtain ⟨v', h3, h4⟩ := ih h h2
   simp_all
  ·cases h
theorem r_intTo {s d : TypeId} {k : IntKind} {j : IntKind} (hs : und P s = .int j) (hd : und P d = .int k) {x' v : Value} (h : (match x with
  | .int _ n => some (Value.int k (k.wrap n))
  | _ => none) = some v) (hx : VRel ι x x') : (convert s d x').run P w = .ok v w /\ VRel ι v v := by
 split at h
 ·cases hx
  cases h
  exact ⟨by simp [convert, Xy hs, Xy hd, Conv.intToInt], .int _ _⟩
 ·cases h
theorem r_str {s d : TypeId} (hs : und P s = .string) (hd : und P d = .string) {x' v : Value} (h : (match x with
  | .string s => some (Value.string s)
  | _ => none) = some v) (hx : VRel ι x x') : (convert s d x').run P w = .ok v w /\ VRel ι v v := by
 split at h
 ·cases hx
  cases h
  exact ⟨by simp [convert, Xy hs, Xy hd], .string _⟩
 ·cases h
end
section
variable {P : Program} {B : Nat} {ι : Inj} {H : Heap} {w : World}
def leafT (P : Program) (T : TypeId) : Jf -> Prop
 | .int k => und P T = .int k
 | .str => und P T = .string
 | .bool => und P T = .bool
theorem leafEq_same {l : Jf} {y' : Value} {r : Bool} (h : Uy l x y = some r) (hx : VRel ι x x') (hy : VRel ι y y') : x' = x /\ y' = y := by
 unfold Uy at h
 split at h <;> first | (cases h; done) | (cases hx; cases hy; exact ⟨rfl, rfl⟩)
theorem leafEq_run {l : Jf} {r : Bool} (h : Uy l x y = some r) {T : TypeId} (hT : leafT P T l) (d : Nat) : (Op.equalIn (d + 1) T x y).run P w = .ok r w := by
 unfold Uy at h
 split at h
 ·rename_i l j a k b
  rw [ZX, ZX, Xeu] at h
  by_cases e1 : l = j
  ·by_cases e2 : l = k
   ·subst e1; subst e2
    simp at h
    subst h
    simp [Op.equalIn, Xy hT]; rfl
   ·subst e1; simp [e2] at h
  ·simp [e1] at h
 ·simp only [XhU.injEq] at h
  subst h
  rw [Xeb]
  simp [Op.equalIn, Xy hT]
 ·simp only [XhU.injEq] at h
  subst h
  simp [Op.equalIn, Xy hT]
 ·cases h
theorem leavesEq_nil (xs ys : List Value) : YD [] xs ys = some true := rfl
theorem XaJ (l : Jf) (ls : List Jf) (x : Value) (xs : List Value) (y : Value) (ys : List Value) : YD (l :: ls) (x :: xs) (y :: ys) = match Uy l x y with
  | some true => YD ls xs ys
  | some false => some false
  | none => none := rfl
theorem XgH (l1 l2 : List Jf) (xs ys : List Value) : YD (l1 ++ l2) xs ys = match YD l1 xs ys with
  | some true => YD l2 (xs.drop l1.length) (ys.drop l1.length)
  | some false => some false
  | none => none := by
 induction l1 generalizing xs ys with
 | nil => simp [leavesEq_nil]
 | cons l l1 ih =>
  cases xs with
  | nil => rfl
  | cons x xs => cases ys with
   | nil => rfl
   | cons y ys =>
    grind [XaJ, Xh8]
theorem leavesEq_take (ls : List Jf) (m : Nat) (h : ls.length <= m) (xs ys : List Value) : YD ls (xs.take m) (ys.take m) = YD ls xs ys := by
 induction ls generalizing m xs ys with
 | nil => rfl
 | cons l ls ih =>
  cases m with
  | zero => simp at h
  | succ m => cases xs with
   | nil => rfl
   | cons x xs => cases ys with
    | nil => rfl
    | cons y ys => grind [XaJ]
theorem leavesEq_rel {ls : List Jf} {xs' ys ys' : List Value} {r : Bool} (h : YD ls xs ys = some r) (hx : LRel ι xs xs') (hy : LRel ι ys ys') : YD ls xs' ys' = some r := by
 induction ls generalizing xs xs' ys ys' with
 | nil => exact h
 | cons l ls ih =>
  cases hx with
  | nil => cases h
  | cons hx1 hx2 => cases hy with
   | nil => cases h
   | cons hy1 hy2 =>
    grind [XaJ, leafEq_same]
def flatA (P : Program) (d : Nat) : Prop := ∀ T ls, flatN P d T = some ls -> Vb P T = true -> ∀ D, d <= D -> ∀ (X Y : Array Value) (r : Bool) (w : World), YD ls X.toList Y.toList = some r -> (Op.equalIn D T (.agg X) (.agg Y)).run P w = .ok r w
def flatB (P : Program) (d : Nat) : Prop := ∀ T ls, flatN P d T = some ls -> cellN P T = ls.length -> okT P T = true -> ∀ D, d <= D -> ∀ (X Y : Array Value) (off : Nat) (r : Bool) (w : World),
 YD ls (X.toList.drop off) (Y.toList.drop off) = some r -> ∃ a b, (part T X off).run P w = .ok a w /\ (part T Y off).run P w = .ok b w /\ (Op.equalIn D T a b).run P w = .ok r w
theorem flatB_of {d : Nat} (hA : flatA P d) : flatB P d := by
 intro T ls hf hc ho D hD X Y off r w h
 cases ha : Vb P T with
 | true =>
  refine ⟨.agg (X.extract off (off + ls.length)), .agg (Y.extract off (off + ls.length)), ?_, ?_, ?_⟩
  ·unfold part; simp [XdF ho, ha, ZT ho, hc]
  ·unfold part; simp [XdF ho, ha, ZT ho, hc]
  ·refine hA T ls hf ha D hD _ _ r w ?_
   simp_all [Array.toList_extract, XjA, Nat.add_sub_cancel_left, leavesEq_take, XhE]
 | false =>
  obtain ⟨D, rfl⟩ : ∃ D', D = D' + 1 := ⟨D - 1, by
   cases d with
   | zero => simp [flatN] at hf
   | succ d => omega⟩
  have key : ∃ l, ls = [l] /\ leafT P T l := by
   cases d with
   | zero => simp [flatN] at hf
   | succ d =>
    unfold flatN at hf
    split at hf
    ·rename_i k e; cases hf; exact ⟨_, rfl, e⟩
    ·rename_i e; cases hf; exact ⟨_, rfl, e⟩
    ·rename_i e; cases hf; exact ⟨_, rfl, e⟩
    ·rename_i e; unfold Vb at ha; rw [e] at ha; simp [isAggD] at ha
    ·rename_i e; unfold Vb at ha; rw [e] at ha; simp [isAggD] at ha
    ·cases hf
  obtain ⟨l, rfl, hl⟩ := key
  cases hX : X.toList.drop off with
  | nil => rw [hX] at h; cases h
  | cons x xs => cases hY : Y.toList.drop off with
   | nil => rw [hX, hY] at h; cases h
   | cons y ys =>
    rw [hX, hY, XaJ] at h
    have gx : X[off]? = some x := by
     have := congrArg (·[0]?) hX
     simpa using this
    have gy : Y[off]? = some y := by
     have := congrArg (·[0]?) hY
     simpa using this
    refine ⟨x, y, ?_, ?_, ?_⟩
    ·unfold part; simp [XdF ho, ha, gx]
    ·unfold part; simp [XdF ho, ha, gy]
    ·have : Uy l x y = some r := by
      cases e : Uy l x y with
      | none => rw [e] at h; cases h
      | some b => rw [e] at h; cases b <;> exact h
     exact leafEq_run this hl D
theorem flat_ok (d : Nat) : flatA P d /\ flatB P d := by
 induction d with
 | zero => exact ⟨fun T ls h => by simp [flatN] at h, fun T ls h => by simp [flatN] at h⟩
 | succ d ih =>
  have hA : flatA P (d + 1) := by
   intro T ls hf ha D hD X Y r w h
   obtain ⟨D, rfl⟩ : ∃ D', D = D' + 1 := ⟨D - 1, by omega⟩
   unfold flatN at hf
   split at hf
   ·rename_i e; unfold Vb at ha; rw [e] at ha; simp [isAggD] at ha
   ·rename_i e; unfold Vb at ha; rw [e] at ha; simp [isAggD] at ha
   ·rename_i e; unfold Vb at ha; rw [e] at ha; simp [isAggD] at ha
   ·rename_i fs e
    have hu := WD e (by simp)
    split at hf
    ·cases hf
    ·rename_i hst
     have hfo : P.fieldsOf T = fs := by simp [Program.fieldsOf, hu]
     rw [run_equalIn_struct w D T X Y (by rw [hfo]; exact hu) (by simpa using hst), hfo]
     have key : ∀ (fl : List Field) (off : Nat) (ls : List Jf), flatN.fields P (flatN P d) fl off = some ls -> YD ls (X.toList.drop off) (Y.toList.drop off) = some r ->
       (Op.eqFields D X Y fl).run P w = .ok r w := by
      intro fl
      induction fl with
      | nil =>
       intro off ls h1 h2
       simp only [flatN.fields, XhU.injEq] at h1
       subst h1
       cases h2
       rfl
      | cons f fl ihf =>
       intro off ls h1 h2
       simp only [flatN.fields] at h1
       split at h1
       ·cases h1
       ·rename_i hcond
        simp at hcond
        split at h1
        ·rename_i ls1 hl1
         split at h1
         ·rename_i hsz
          simp only [Xi8] at h1
          obtain ⟨ls2, h3, rfl⟩ := h1
          rw [XgH] at h2
          simp only [Op.eqFields, ne_eq, hcond.1.1, not_false_eq_true, if_true]
          cases e1 : YD ls1 (X.toList.drop off) (Y.toList.drop off) with
          | none => rw [e1] at h2; cases h2
          | some b =>
           obtain ⟨u, v, p1, p2, p3⟩ := ih.2 f.type ls1 hl1 hsz hcond.2 D (by omega) X Y off b w e1
           rw [e1] at h2
           simp only [XhG, hcond.1.2, p1, p2, p3, XhF]
           cases b with
           | false => cases h2; rfl
           | true =>
            grind [List.drop_drop]
         ·cases h1
        ·cases h1
     exact key fs.toList 0 ls hf (by simpa using h)
   ·rename_i n e0 e
    have hu := WD e (by simp)
    split at hf
    ·rename_i ls0 hl0
     split at hf
     ·rename_i hc
      simp only [XhN, decide_eq_true_eq] at hc
      cases hf
      obtain ⟨d0, hd0⟩ := XiL.1 hc.2
      obtain ⟨i0, hi0⟩ := XdE hd0
      rw [run_equalIn_array w D X Y hu hi0, show P.cellsOf e0 = ls0.length from hc.1, List.range_eq_range']
      have key : ∀ (n i : Nat), YD (flatN.times ls0 n) (X.toList.drop (i * ls0.length)) (Y.toList.drop (i * ls0.length)) = some r ->
        (Op.eqItems D e0 ls0.length X Y (List.range' i n)).run P w = .ok r w := by
       intro n
       induction n with
       | zero => intro i h2; cases h2; rfl
       | succ n ihn =>
        intro i h2
        simp only [flatN.times] at h2
        rw [XgH] at h2
        rw [List.range'_succ]
        simp only [Op.eqItems]
        cases e1 : YD ls0 (X.toList.drop (i * ls0.length)) (Y.toList.drop (i * ls0.length)) with
        | none => rw [e1] at h2; cases h2
        | some b =>
         obtain ⟨u, v, p1, p2, p3⟩ := ih.2 e0 ls0 hl0 hc.1 hc.2 D (by omega) X Y (i * ls0.length) b w e1
         rw [e1] at h2
         simp only [XhG, p1, p2, p3, XhF]
         cases b with
         | false => cases h2; rfl
         | true =>
          grind [List.drop_drop, Nat.succ_mul]
      exact key n 0 (by simpa using h)
     ·cases hf
    ·cases hf
   ·cases hf
  exact ⟨hA, flatB_of hA⟩
def predTy (P : Program) (T : TypeId) : Pred -> Prop
 | .int | .str => True
 | .bool => und P T = .bool
 | .ptr => ∃ e, und P T = .pointer e /\ okT P e = true
 | .slice => ∃ e, und P T = .slice e
 | .map => ∃ k e, und P T = .map k e
 | .func => ∃ a b c, und P T = .func a b c
 | .iface | .ifaceNil => ∃ ms, und P T = .interface ms
 | .flat ls => ∃ d, d <= 12 /\ flatN P d T = some ls /\ Vb P T = true /\ P.eqGuardType P.depth T = false
theorem cPred_ty {T : TypeId} {p : Pred} (hc : cPred P T = some p) : predTy P T p := by
 unfold cPred at hc
 split at hc
 case h_1 => cases hc; trivial
 case h_2 => cases hc; trivial
 case h_3 e => cases hc; exact e
 case h_4 e =>
  split at hc
  ·rename_i ho; cases hc; exact ⟨_, e, ho⟩
  ·cases hc
 case h_5 e => cases hc; exact ⟨_, e⟩
 case h_6 e => cases hc; exact ⟨_, _, e⟩
 case h_7 e => cases hc; exact ⟨_, _, _, e⟩
 case h_8 e => cases hc; exact ⟨_, e⟩
 case h_11 => cases hc
 all_goals
  rename_i e
  split at hc
  ·rename_i ls hl
   split at hc
   ·cases hc
   ·rename_i hg
    cases hc
    exact ⟨12, XhE _, hl, by unfold Vb; rw [e]; rfl, by simpa using hg⟩
  ·cases hc
theorem run_eqG {T : TypeId} {r : Bool} {xo yo : Operand} (neg : Bool) (hb : binOp .eql T x y = (do pure (.bool (<- Op.equal T x y)))) (hb' : binOp .neq T x y = (do pure (.bool !(<- Op.equal T x y))))
  (hg : ∀ op, (eqGuard op T xo yo x y).run P w = .ok () w) (he : ∀ d, 12 <= d -> (Op.equalIn (d + 1) T x y).run P w = .ok r w) :
  (do eqGuard (if neg then .neq else .eql) T xo yo x y; binOp (if neg then .neq else .eql) T x y).run P w = .ok (.bool (bif neg then !r else r)) w := by
 cases neg
 ·simp only [Xik, if_false, XhG, hg, XhF, hb, show (Op.equal T x y).run P w = .ok r w from he 9999 (by omega)]
  rfl
 ·simp only [if_true, XhG, hg, XhF, hb', show (Op.equal T x y).run P w = .ok r w from he 9999 (by omega)]
  rfl
theorem ZZ {T : TypeId} {r : Bool} {xo yo : Operand} (neg : Bool)
  (hi : ∀ k n, x ≠ .int k n) (hs : ∀ s, x ≠ .string s) (hf : ∀ k n, x ≠ .float k n) (hc : ∀ k a b, x ≠ .complex k a b)
  (hg : ∀ op, (eqGuard op T xo yo x y).run P w = .ok () w) (he : ∀ d, 12 <= d -> (Op.equalIn (d + 1) T x y).run P w = .ok r w) :
  (do eqGuard (if neg then .neq else .eql) T xo yo x y; binOp (if neg then .neq else .eql) T x y).run P w = .ok (.bool (bif neg then !r else r)) w := by
 refine run_eqG neg ?_ ?_ hg he
 ·cases x <;> first | rfl | exact absurd rfl (hi _ _) | exact absurd rfl (hs _) | exact absurd rfl (hf _ _) | exact absurd rfl (hc _ _ _)
 ·cases x <;> first | rfl | exact absurd rfl (hi _ _) | exact absurd rfl (hs _) | exact absurd rfl (hf _ _) | exact absurd rfl (hc _ _ _)
set_option maxHeartbeats 2000000 in
theorem r_pred {T : TypeId} {p : Pred} {y' : Value} {r : Bool} (neg : Bool) (xo yo : Operand) (h : predEq p x y = some r) (hx : VRel ι x x') (hy : VRel ι y y') (ht : predTy P T p)
  (hn : p = .ifaceNil -> (nilC xo || nilC yo) = true) :
  (do eqGuard (if neg then .neq else .eql) T xo yo x' y'; binOp (if neg then .neq else .eql) T x' y').run P w = .ok (.bool (bif neg then !r else r)) w := by
 cases p with
 | int =>
  clear hn ht
  cases x <;> first | (cases h; done) | skip
  cases y <;> first | (cases h; done) | skip
  rename_i j a k b
  cases hx; cases hy
  replace h : (bif XL j k then some (J2 a b) else none) = some r := h
  rw [ZX, Xeu] at h
  by_cases e : j = k
  ·subst e
   simp at h
   subst h
   cases neg
   ·simp [eqGuard, binOp, Op.intCmp]; rfl
   ·simp [eqGuard, binOp, Op.intCmp]; rfl
  ·simp [e] at h
 | str =>
  clear hn ht
  cases x <;> first | (cases h; done) | skip
  cases y <;> first | (cases h; done) | skip
  rename_i a b
  cases hx; cases hy
  replace h : some (Vf (bytes a) (bytes b)) = some r := h
  simp only [XhU.injEq] at h
  subst h
  rw [Ji]
  cases neg
  ·simp [eqGuard, binOp, Op.stringOp, ZY]
  ·simp [eqGuard, binOp, Op.stringOp, ZY]
 | bool =>
  clear hn
  cases x <;> first | (cases h; done) | skip
  cases y <;> first | (cases h; done) | skip
  rename_i a b
  cases hx; cases hy
  replace h : some (a == b) = some r := h
  simp only [XhU.injEq] at h
  subst h
  have hu : und P T = .bool := ht
  refine ZZ neg (by simp) (by simp) (by simp) (by simp) (fun op => ?_) ?_
  ·simp [eqGuard]
  ·exact fun d _ => by simp [Op.equalIn, Xy hu]
 | ptr =>
  clear hn
  obtain ⟨e, hu, ho⟩ : ∃ e, und P T = .pointer e /\ okT P e = true := ht
  cases x <;> first | (cases h; done) | skip
  rename_i oa
  have hg : ∀ op (a b : Option Addr), (eqGuard op T xo yo (.pointer a) (.pointer b)).run P w = .ok () w := fun op a b => by simp [eqGuard]
  cases oa with
  | none =>
   cases y <;> first | (cases h; done) | skip
   rename_i ob
   cases hx
   cases ob with
   | none =>
    cases hy
    cases h
    refine ZZ neg (by simp) (by simp) (by simp) (by simp) (fun op => hg op _ _) ?_
    exact fun d _ => by simp [Op.equalIn, Xy hu]
   | some b =>
    cases hy
    cases h
    refine ZZ neg (by simp) (by simp) (by simp) (by simp) (fun op => hg op _ _) ?_
    exact fun d _ => by simp [Op.equalIn, Xy hu]
  | some a =>
   cases y <;> first | (cases h; done) | skip
   rename_i ob
   cases hx
   rename_i p hp
   cases ob with
   | none =>
    cases hy
    cases h
    refine ZZ neg (by simp) (by simp) (by simp) (by simp) (fun op => hg op _ _) ?_
    exact fun d _ => by simp [Op.equalIn, Xy hu]
   | some b =>
    replace h : (if a = b then some true else none) = some r := h
    split at h
    ·rename_i e'
     subst e'
     cases h
     cases hy
     rename_i p' hp'
     rw [hp] at hp'
     cases hp'
     refine ZZ neg (by simp) (by simp) (by simp) (by simp) (fun op => hg op _ _) ?_
     intro d _
     simp only [Op.equalIn, XhG, Xy hu (by simp), ZT ho, XhF]
     by_cases h0 : cellN P e = 0
     ·simp [h0]
     ·simp [h0, sameAddr]
    ·cases h
 | slice =>
  clear hn
  obtain ⟨e, hu⟩ : ∃ e, und P T = .slice e := ht
  cases x <;> first | (cases h; done) | skip
  rename_i oa n c
  cases oa with
  | none =>
   cases y <;> first | (cases h; done) | skip
   rename_i ob m d
   cases hx
   replace h : some ob.isNone = some r := h
   cases h
   cases ob with
   | none =>
    cases hy
    refine ZZ neg (by simp) (by simp) (by simp) (by simp) (fun op => by simp [eqGuard]) ?_
    exact fun d _ => by simp [Op.equalIn, Xy hu]
   | some b =>
    cases hy
    ·refine ZZ neg (by simp) (by simp) (by simp) (by simp) (fun op => by simp [eqGuard]) ?_
     exact fun d _ => by simp [Op.equalIn, Xy hu]
    ·refine ZZ neg (by simp) (by simp) (by simp) (by simp) (fun op => by simp [eqGuard]) ?_
     exact fun d _ => by simp [Op.equalIn, Xy hu]
  | some a =>
   cases y <;> first | (cases h; done) | skip
   rename_i ob m d
   cases ob with
   | some b => cases h
   | none =>
    cases h
    cases hy
    cases hx
    ·refine ZZ neg (by simp) (by simp) (by simp) (by simp) (fun op => by simp [eqGuard]) ?_
     exact fun d _ => by simp [Op.equalIn, Xy hu]
    ·refine ZZ neg (by simp) (by simp) (by simp) (by simp) (fun op => by simp [eqGuard]) ?_
     exact fun d _ => by simp [Op.equalIn, Xy hu]
 | map =>
  clear hn
  obtain ⟨k, e, hu⟩ : ∃ k e, und P T = .map k e := ht
  cases x <;> first | (cases h; done) | skip
  rename_i oa
  cases oa with
  | none =>
   cases y <;> first | (cases h; done) | skip
   rename_i ob
   cases hx
   replace h : some ob.isNone = some r := h
   cases h
   cases ob <;> cases hy <;>
   ·refine ZZ neg (by simp) (by simp) (by simp) (by simp) (fun op => by simp [eqGuard]) ?_
    exact fun d _ => by simp [Op.equalIn, Xy hu]
  | some a =>
   cases y <;> first | (cases h; done) | skip
   rename_i ob
   cases ob with
   | some b => cases h
   | none =>
    cases h
    cases hy
    cases hx
    refine ZZ neg (by simp) (by simp) (by simp) (by simp) (fun op => by simp [eqGuard]) ?_
    exact fun d _ => by simp [Op.equalIn, Xy hu]
 | func =>
  clear hn
  obtain ⟨u1, u2, u3, hu⟩ : ∃ a b c, und P T = .func a b c := ht
  cases x <;> first | (cases h; done) | skip
  ·cases y <;> first | (cases h; done) | skip
   cases h
   cases hx; cases hy
   refine ZZ neg (by simp) (by simp) (by simp) (by simp) (fun op => by simp [eqGuard]) ?_
   exact fun d _ => by simp [Op.equalIn, Xy hu]
  ·cases y <;> first | (cases h; done) | skip
   all_goals
    cases h
    cases hx; cases hy
    refine ZZ neg (by simp) (by simp) (by simp) (by simp) (fun op => by simp [eqGuard]) ?_
    exact fun d _ => by simp [Op.equalIn, Xy hu]
 | iface =>
  clear hn
  obtain ⟨ms, hu⟩ : ∃ ms, und P T = .interface ms := ht
  cases x <;> first | (cases h; done) | skip
  all_goals
   cases y <;> first | (cases h; done) | skip
   cases h
   cases hx; cases hy
   refine ZZ neg (by simp) (by simp) (by simp) (by simp) (fun op => by simp [eqGuard]) ?_
   exact fun d _ => by simp [Op.equalIn, Xy hu]
 | ifaceNil =>
  replace hn := hn rfl
  obtain ⟨ms, hu⟩ : ∃ ms, und P T = .interface ms := ht
  have hk : ∀ op, (eqGuard op T xo yo .nilIface .nilIface).run P w = .ok () w := by
   intro op
   simp only [eqGuard]
   simp only [Bool.or_eq_true] at hn
   rcases hn with hn | hn
   ·cases xo <;> first | (cases hn; done) | skip
    rename_i v
    split <;> simp
   ·cases yo <;> first | (cases hn; done) | skip
    split <;> simp
  cases x <;> first | (cases h; done) | skip
  ·cases y <;> first | (cases h; done) | skip
   cases h
   cases hx; cases hy
   refine ZZ neg (by simp) (by simp) (by simp) (by simp) (fun op => by simp [eqGuard]) ?_
   exact fun d _ => by simp [Op.equalIn, Xy hu]
  ·cases y <;> first | (cases h; done) | skip
   ·cases h
    cases hx; cases hy
    refine ZZ neg (by simp) (by simp) (by simp) (by simp) (fun op => by simp [eqGuard]) ?_
    exact fun d _ => by simp [Op.equalIn, Xy hu]
   ·cases h
    cases hx; cases hy
    refine ZZ neg (by simp) (by simp) (by simp) (by simp) hk ?_
    exact fun d _ => by simp [Op.equalIn, Xy hu]
 | flat ls =>
  clear hn
  obtain ⟨d, hd, hf, ha, hg⟩ : ∃ d, d <= 12 /\ flatN P d T = some ls /\ Vb P T = true /\ P.eqGuardType P.depth T = false := ht
  cases x <;> first | (cases h; done) | skip
  cases y <;> first | (cases h; done) | skip
  rename_i a b
  replace h : YD ls a.toList b.toList = some r := h
  obtain ⟨a', rfl, ra, _⟩ := Uk hx
  obtain ⟨b', rfl, rb, _⟩ := Uk hy
  refine ZZ neg (by simp) (by simp) (by simp) (by simp) (fun op => run_eqGuard_agg w op T xo yo a' b' hg) ?_
  exact fun D hD => (flat_ok d).1 T ls hf ha (D + 1) (by omega) a' b' r w (leavesEq_rel h ra rb)
end
section
variable {P : Program} {B : Nat} {ι : Inj} {H : Heap} {w : World} {m : Nat} {t : Tm} {a : Act}
theorem YZ {T : TypeId} (h : ZH P T = some z) : ∃ i, P.info? T = some i /\ i.zero = some z /\ Jh z = true := by
 simp only [ZH, Xi9] at h
 grind
theorem W3 {T : TypeId} (h : ZH P T = some z) (w : World) : (zeroValue T).run P w = .ok z w := by
 obtain ⟨i, h1, h2, _⟩ := YZ h
 simp [zeroValue, typeInfo, h1, h2]
theorem zipIdx_put (off : Nat) : ∀ (ys : List Value) (k : Nat) (C : Array Value), off + k + ys.length <= C.size ->
  ((ys.zipIdx k).foldl (fun cs (c, j) => cs.setIfInBounds (off + j) c) C).toList = XZ ys (off + k) C.toList
 | [], k, C, h => by
  apply List.ext_getElem?
  simp_all [Xad, if_neg]
 | y :: ys, k, C, h => by
  simp only [Xh8] at h
  rw [List.zipIdx_cons, List.foldl_cons, zipIdx_put off ys (k + 1) _ (by simp; omega)]
  apply List.ext_getElem?
  intro i
  rw [Xad _ _ _ (by simp; omega), Xad _ _ _ (by simp; omega)]
  grind
theorem putAt_rel {ys ys' xs' : List Value} (n : Nat) (hy : LRel ι ys ys') (hx : LRel ι xs xs') (h : n + ys.length <= xs.length) : LRel ι (XZ ys n xs) (XZ ys' n xs') := by
 have l1 := hy.length
 have l2 := hx.length
 refine All2.of_get ?_ ?_
 ·grind [Uj]
 ·intro i h1 h2
  have e1 := Xad ys n xs h i
  have e2 := Xad ys' n xs' (by omega) i
  rw [XhL h1] at e1
  rw [XhL h2] at e2
  rw [Uj _ _ _ h] at h1
  by_cases hi : n <= i /\ i < n + ys.length
  ·rw [if_pos hi] at e1
   rw [if_pos (by omega)] at e2
   obtain ⟨y, k1, k2⟩ := hy.get? e1.symm
   rw [k1] at e2
   cases e2
   exact k2
  ·rw [if_neg hi] at e1
   rw [if_neg (by omega)] at e2
   obtain ⟨y, k1, k2⟩ := hx.get? e1.symm
   rw [k1] at e2
   cases e2
   exact k2
theorem putAt_flat {ys : List Value} (n : Nat) (hy : ∀ x ∈ ys, Y8 x) (hx : ∀ x ∈ xs, Y8 x) (h : n + ys.length <= xs.length) : ∀ x ∈ XZ ys n xs, Y8 x := by
 intro x hm
 obtain ⟨i, hi, rfl⟩ := XiG hm
 have e1 := Xad ys n xs h i
 grind
theorem fill_ok (hT : TmRel ι m t a.tmps) {place : Nat -> Option (Nat × Nat)} : ∀ {ps : List (Nat × Operand)} {cps : List Part}
  (hp : (ps.mapM fun (i, x) => (place i).bind fun (off, n) => (XE m x).map fun x => (⟨off, n, x⟩ : Part)) = some cps) {cs cs' : List Value} {C : Array Value}
  (h : Yz t (J6 cps) cs = some cs') (hr : LRel ι cs C.toList) (fl : ∀ x ∈ cs, Y8 x),
  ∃ C', Instr.fill place C (ps.map fun (i, x) => (i, a.eval x)) = some C' /\ LRel ι cs' C'.toList /\ (∀ x ∈ cs', Y8 x) /\ cs'.length = cs.length
 | [], cps, hp, cs, cs', C, h, hr, fl => by
  simp at hp
  subst hp
  cases h
  exact ⟨C, rfl, hr, fl, rfl⟩
 | (i, x) :: ps, cps, hp, cs, cs', C, h, hr, fl => by
  simp only [List.mapM_cons, Option.bind_eq_bind, Xi9, Option.pure_def, XhU.injEq, Xi8] at hp
  obtain ⟨p, ⟨⟨off, n⟩, h1, o, h2, rfl⟩, cps', h3, rfl⟩ := hp
  replace h : Yr none (fun ys => bif XhD (Wy ys) n && XhM (XhR off n) (Wy cs) then Yz t (J6 cps') (XZ ys off cs) else none) (cellsOf (o.val t)) = some cs' := h
  obtain ⟨ys, h4, h5⟩ := XW h
  obtain ⟨r1, f1⟩ := (Xx hT h2).cells h4
  cases hb : (XhD (Wy ys) n && XhM (XhR off n) (Wy cs)) with
  | false => rw [hb] at h5; cases h5
  | true =>
   rw [hb] at h5
   simp only [XhN, beq_iff, ble_iff, ZD] at hb
   obtain ⟨hb1, hb2⟩ := hb
   replace hb2 : off + n <= cs.length := hb2
   have l1 : ys.length = (a.eval x).cells.size := by simpa using r1.length
   have l2 : cs.length = C.size := by simpa using hr.length
   have hput : LRel ι (XZ ys off cs) (XZ (a.eval x).cells.toList off C.toList) := putAt_rel off r1 hr (by omega)
   have key : ((a.eval x).cells.zipIdx.foldl (fun cs (c, j) => cs.setIfInBounds (off + j) c) C).toList = XZ (a.eval x).cells.toList off C.toList := by
    have := zipIdx_put off (a.eval x).cells.toList 0 C (by rw [Xja]; omega)
    rw [<- Array.foldl_toList, Array.toList_zipIdx]
    exact this
   rw [<- key] at hput
   obtain ⟨C', k1, k2, k3, k4⟩ := fill_ok hT h3 h5 hput (putAt_flat off f1 fl (by omega))
   refine ⟨C', ?_, k2, k3, by rw [k4, Uj _ _ _ (by omega)]⟩
   simp only [Xit, Instr.fill, h1]
   rw [if_neg (by simp; omega)]
   exact k1
theorem places_ok : ∀ (fs : List Field), (∀ f ∈ fs, okT P f.type = true) -> ∃ places, fs.mapM (fun f => (P.info? f.type).map fun i => (f.offset, i.size)) = some places /\ ∀ i : Nat, places[i]? = (fs[i]?).map fun (f : Field) => (f.offset, cellN P f.type)
 | [], _ => ⟨[], by simp, by simp⟩
 | f :: fs, h => by
  obtain ⟨places, h1, h2⟩ := places_ok fs fun g hg => h g (by simp [hg])
  obtain ⟨d, hd⟩ := XiL.1 (h f (by simp))
  obtain ⟨i, hi⟩ := XdE hd
  refine ⟨(f.offset, i.size) :: places, by simp [List.mapM_cons, hi, h1], fun k => ?_⟩
  cases k with
  | zero => simp [cellN, Program.cellsOf, hi]
  | succ k => simpa using h2 k
theorem r_build (hT : TmRel ι m t a.tmps) {T : TypeId} {ps : Array (Nat × Operand)} (hz : ZH P T = some z) {cps : List Part}
  (hp : (match und P T with
   | .struct fs => Xd7 (fs.toList.all fun f => okT P f.type) (parts m (fun i => (fs[i]?).map fun f => (f.offset, cellN P f.type)) ps)
   | .array _ e => Xd7 (okT P e) (parts m (fun i => some (i * cellN P e, cellN P e)) ps)
   | _ => none) = some cps) {v : Value} (h : Yr none (fun cs => some (Value.agg ⟨cs⟩)) (Yz t (J6 cps) (Yb z)) = some v) :
  ∃ v', (Instr.build T (ps.map fun (i, x) => (i, a.eval x))).run P w = .ok v' w /\ VRel ι v v' := by
 obtain ⟨cs, h1, h2⟩ := XW h
 cases h2
 obtain ⟨it, hi, hz2, hpl⟩ := YZ hz
 obtain ⟨z1, z2⟩ := J9 hpl
 have hzr := XcY (ι := ι) z2
 rw [<- z1] at hzr h1
 split at hp
 ·rename_i fs e
  obtain ⟨h3, h4⟩ := XR hp
  have hu := WD e (by simp)
  obtain ⟨C', k1, k2, k3, _⟩ := fill_ok (ps := ps.toList) (place := fun i => (fs[i]?).map fun (f : Field) => (f.offset, cellN P f.type)) hT h4 h1 (C := z.cells) hzr.1 hzr.2
  refine ⟨.agg C', run_build w T _ C' ?_, Xev k2 k3⟩
  obtain ⟨places, p1, p2⟩ := places_ok fs.toList (List.all_eq_true.1 h3)
  simp only [Program.built, hi, hu, hz2, p1]
  simp_all
 ·rename_i n e0 e
  obtain ⟨h3, h4⟩ := XR hp
  have hu := WD e (by simp)
  obtain ⟨C', k1, k2, k3, _⟩ := fill_ok (ps := ps.toList) (place := fun i => some (i * cellN P e0, cellN P e0)) hT h4 h1 (C := z.cells) hzr.1 hzr.2
  refine ⟨.agg C', run_build w T _ C' ?_, Xev k2 k3⟩
  obtain ⟨d, hd⟩ := XiL.1 h3
  obtain ⟨ie, hie⟩ := XdE hd
  simp only [Program.built, hi, hu, hz2, hie]
  rw [Array.toList_map, <- k1]
  congr 1
  funext i
  simp [cellN, Program.cellsOf, hie]
 ·cases hp
def ORel (ι : Inj) (t : Tm) : Option Xe -> Option Value -> Prop
 | none, none => True
 | some f, some v' => VRel ι (f t) v'
 | _, _ => False
theorem orel_of (hT : TmRel ι m t a.tmps) {x : Option Operand} {o : Option Opd} (h : optO m x = some o) : ORel ι t (XcV o) (x.map a.eval) := by
 rcases oopd_rel hT h with ⟨rfl, rfl⟩ | ⟨y, p, rfl, rfl, hr⟩
 ·trivial
 ·exact hr
theorem Ul {f : Xe} {y : Nat} {code : BoundsCode} (hr : VRel ι (f t) v') (h : Wf (f t) = some n) (hy : n <= y) : (Instr.sliceBound v' y code).run P w = .ok n w := by
 grind [JP, run_sliceBound, XiH, Int.ofNat_le]
theorem run_bounds {b : Bool} {len cap l h m' : Nat} {lo hi mx : Option Xe} {lo' hi' mx' : Option Value} (rl : ORel ι t lo lo') (rh : ORel ι t hi hi') (rm : ORel ι t mx mx')
  (hl : Y5 t 0 lo = some l) (hh : Y5 t len hi = some h) (hm : Y5 t cap mx = some m') (h1 : l <= h) (h2 : h <= m') (h3 : m' <= cap) (h4 : (mx.isSome && hi.isNone) = false) :
  (Instr.sliceBounds b len cap lo' hi' mx').run P w = .ok (l, h, m') w := by
 unfold Instr.sliceBounds
 cases mx with
 | none =>
  cases mx' with
  | some _ => exact rm.elim
  | none =>
   cases hm
   cases hi with
   | none =>
    cases hi' with
    | some _ => exact rh.elim
    | none =>
     cases hh
     cases lo with
     | none =>
      cases lo' with
      | some _ => exact rl.elim
      | none => cases hl; simp
     | some lo => cases lo' with
      | none => exact rl.elim
      | some lo' => simp [Ul rl hl h1]
   | some hi => cases hi' with
    | none => exact rh.elim
    | some hi' =>
     cases lo with
     | none =>
      cases lo' with
      | some _ => exact rl.elim
      | none => cases hl; simp [Ul rh hh h2]
     | some lo => cases lo' with
      | none => exact rl.elim
      | some lo' => simp [Ul rh hh h2, Ul rl hl h1]
 | some mx => cases mx' with
  | none => exact rm.elim
  | some mx' =>
   cases hi with
   | none => simp at h4
   | some hi => cases hi' with
    | none => exact rh.elim
    | some hi' =>
     cases lo with
     | none =>
      cases lo' with
      | some _ => exact rl.elim
      | none => cases hl; simp [Ul rm hm h3, Ul rh hh h2]
     | some lo => cases lo' with
      | none => exact rl.elim
      | some lo' => simp [Ul rm hm h3, Ul rh hh h2, Ul rl hl h1]
theorem r_sliceStr {T : TypeId} (hT : und P T = .string) {x : Xe} {lo hi : Option Xe} {lo' hi' : Option Value} (hx : VRel ι (x t) x') (rl : ORel ι t lo lo') (rh : ORel ι t hi hi')
  (h : lkSliceStr x lo hi t H = some v) : (Instr.sliceAt T x' lo' hi' none).run P w = .ok v w /\ VRel ι v v := by
 obtain ⟨s, h0, g⟩ := XW h
 obtain ⟨sb, e1, rfl, rfl⟩ := asStr_rel hx h0
 split at g
 ·rename_i l h' hl hh
  cases hb : (XhM l h' && XhM h' sb.data.toList.length) with
  | false => rw [hb] at g; cases g
  | true =>
   rw [hb] at g
   simp only [XhN, ble_iff] at hb
   cases g
   refine ⟨?_, .string _⟩
   have hu := WD hT (by simp)
   rw [run_sliceAt_string w T _ _ _ _ hu]
   unfold Instr.slice
   have hs : sb.size = sb.data.toList.length := Xae sb
   have := run_bounds (P := P) (ι := ι) (t := t) (w := w) (b := false) (len := sb.size) (cap := sb.size) (m' := sb.size) (mx := none) (mx' := none) rl rh trivial hl (by rw [hs]; exact hh) rfl hb.1 (by rw [hs]; exact hb.2) (XhE _) rfl
   simp only [XhG, Xy hT (by simp), XhF, this, Option.isSome_none, Xik, if_false, XhJ]
   have e : sb.extract l h' = ⟨⟨(sb.data.toList.drop l).take (h' - l)⟩⟩ := by
    apply ByteArray.ext
    rw [ByteArray.data_extract]
    apply Array.ext'
    simp [XjA]
   rw [e]
 ·cases g
theorem XcF {size : Nat} {a : Option Addr} {cap l h m : Nat} {mx : Bool} (hs : XaI size a cap l h m mx = some v) : l <= h /\ h <= m /\ m <= cap /\
  match a with
  | none => v = .slice none (h - l) (m - l)
  | some a => (m = l /\ v = .slice (some a) 0 0) \/ (m ≠ l /\ ∃ sp, v = .slice (some ⟨a.block, a.off + l * size, sp⟩) (h - l) (m - l) /\ (sp = none /\ (mx = true \/ a.spot = none) \/ mx = false /\ a.spot = some size /\ sp = some size)) := by
 unfold XaI at hs
 cases hb : (XhM l h && XhM h m && XhM m cap) with
 | false => rw [hb] at hs; cases hs
 | true =>
  rw [hb] at hs
  simp only [XhN, ble_iff] at hb
  refine ⟨hb.1.1, hb.1.2, hb.2, ?_⟩
  simp only [cond_true] at hs
  cases a with
  | none => cases hs; rfl
  | some a =>
   simp only at hs
   cases hm : XhD m l with
   | true => simp_all
   | false =>
    rw [hm] at hs
    simp only [cond_false] at hs
    refine .inr ⟨(fun e => by rw [beq_iff.2 e] at hm; cases hm), ?_⟩
    cases mx with
    | true => simp_all
    | false =>
     simp only [cond_false] at hs
     grind [beq_iff]
theorem r_sliceSl {T e : TypeId} (hT : und P T = .slice e) (he : okT P e = true) {x : Xe} {lo hi mx : Option Xe} {lo' hi' mx' : Option Value} (hx : VRel ι (x t) x')
  (rl : ORel ι t lo lo') (rh : ORel ι t hi hi') (rm : ORel ι t mx mx') {v : Value} (h : XC (cellN P e) x lo hi mx t H = some v) : ∃ v', (Instr.sliceAt T x' lo' hi' mx').run P w = .ok v' w /\ VRel ι v v' := by
 have hu := WD hT (by simp)
 unfold XC at h
 generalize x t = xv at h hx
 -- what the model does, with the true capacity
 have run : ∀ (oa : Option Addr) (len c' l h0 m' : Nat), Y5 t 0 lo = some l -> Y5 t len hi = some h0 -> Y5 t c' mx = some m' -> l <= h0 -> h0 <= m' -> m' <= c' -> (mx.isSome && hi.isNone) = false ->
   (Instr.sliceAt T (.slice oa len c') lo' hi' mx').run P w = .ok (.slice (if m' = l then oa else oa.map (·.add (l * cellN P e))) (h0 - l) (m' - l)) w := by
  intro oa len c' l h0 m' e1 e2 e3 e4 e5 e6 e7
  unfold Instr.sliceAt
  simp only [XhG, Xy hT (by simp), XhF]
  unfold Instr.slice
  simp only [XhG, Xy hT (by simp), XhF, run_bounds (P := P) (w := w) (b := true) rl rh rm e1 e2 e3 e4 e5 e6 e7, ZT he, XhJ]
 cases hx with
 | snil n c =>
  simp only at h
  split at h
  ·rename_i l h0 m' e1 e2 e3
   cases hb : (mx.isSome && hi.isNone) with
   | true => rw [hb] at h; cases h
   | false =>
    rw [hb] at h
    simp only [cond_false] at h
    obtain ⟨g1, g2, g3, g4⟩ := XcF h
    refine ⟨_, run none n c l h0 m' e1 e2 e3 g1 g2 g3 hb, ?_⟩
    rw [g4]
    have : (if m' = l then (none : Option Addr) else (none : Option Addr).map (·.add (l * cellN P e))) = none := by split <;> rfl
    rw [this]
    exact .snil _ _
  ·cases h
 | @sempty ad ad' c' he' =>
  simp only at h
  split at h
  ·rename_i l h0 m' e1 e2 e3
   cases hb : (mx.isSome && hi.isNone) with
   | true => rw [hb] at h; cases h
   | false =>
    rw [hb] at h
    simp only [cond_false] at h
    obtain ⟨g1, g2, g3, g4⟩ := XcF h
    have hl : l = 0 := by omega
    have hm : m' = 0 := by omega
    have hh : h0 = 0 := by omega
    subst hl; subst hm; subst hh
    have hm2 : ∃ m2, Y5 t c' mx = some m2 /\ m2 <= c' /\ (ad.spot = none -> m2 = 0) := by
     cases mx with
     | none => exact ⟨c', rfl, XhE _, he'⟩
     | some f => exact ⟨0, e3, Nat.zero_le _, fun _ => rfl⟩
    obtain ⟨m2, f1, f2, f3⟩ := hm2
    refine ⟨_, run (some ad') 0 c' 0 0 m2 e1 e2 f1 (XhE _) (Nat.zero_le _) f2 hb, ?_⟩
    rcases g4 with ⟨_, g4⟩ | ⟨g4, _⟩
    ·rw [g4]
     have : (if m2 = 0 then some ad' else (some ad').map (·.add (0 * cellN P e))) = some ad' := by
      split
      ·rfl
      ·simp [Addr.add]
     rw [this]
     exact .sempty (by simpa using f3)
    ·exact absurd rfl g4
  ·cases h
 | @slice ad p n c c' hp hex hc hn hl =>
  simp only at h
  split at h
  ·rename_i l h0 m' e1 e2 e3
   cases hb : (mx.isSome && hi.isNone) with
   | true => rw [hb] at h; cases h
   | false =>
    rw [hb] at h
    simp only [cond_false] at h
    obtain ⟨g1, g2, g3, g4⟩ := XcF h
    have hm2 : ∃ m2, Y5 t c' mx = some m2 /\ m2 <= c' /\ m' <= m2 /\ (mx.isSome = true \/ ad.spot = none -> m2 = m') := by
     cases mx with
     | none =>
      cases e3
      refine ⟨c', rfl, XhE _, hc, ?_⟩
      simp_all
     | some f => exact ⟨m', e3, by omega, XhE _, fun _ => rfl⟩
    obtain ⟨m2, f1, f2, f3, f4⟩ := hm2
    refine ⟨_, run (some ⟨p.b, p.d + ad.off, none⟩) n c' l h0 m2 e1 e2 f1 g1 (by omega) f2 hb, ?_⟩
    rcases g4 with ⟨g5, g4⟩ | ⟨g5, sp, g4, g6⟩
    ·rw [g4]
     have hz : h0 - l = 0 := by omega
     rw [hz]
     have : ∃ q, (if m2 = l then some (⟨p.b, p.d + ad.off, none⟩ : Addr) else (some (⟨p.b, p.d + ad.off, none⟩ : Addr)).map (·.add (l * cellN P e))) = some q := by
      split <;> exact ⟨_, rfl⟩
     obtain ⟨q, hq⟩ := this
     rw [hq]
     exact .sempty fun hs => by rw [f4 (.inr hs)]; omega
    ·rw [g4, if_neg (by omega)]
     simp only [Option.map_some, XaT]
     rw [Xim]
     refine .slice (a := ⟨ad.block, ad.off + l * cellN P e, sp⟩) hp ?_ (by omega) (by omega) ?_
     ·grind
     ·rintro z rfl
      rcases g6 with ⟨g6, _⟩ | ⟨g6, g7, g8⟩
      ·cases g6
      ·cases g8
       have := hl _ g7
       simp only
       have hm3 : m2 <= c' := f2
       have : (m2 - l) * cellN P e + l * cellN P e = m2 * cellN P e := by rw [<- Nat.add_mul]; congr 1; omega
       have h9 : m2 * cellN P e <= c' * cellN P e := Nat.mul_le_mul_right _ hm3
       omega
  ·cases h
 | _ => cases h
theorem r_sliceArr {T e : TypeId} (hT : und P T = .array n e \/ ∃ a, und P T = .pointer a /\ und P a = .array n e) (he : okT P e = true) {x : Xe} {lo hi mx : Option Xe} {lo' hi' mx' : Option Value} (hx : VRel ι (x t) x')
  (rl : ORel ι t lo lo') (rh : ORel ι t hi hi') (rm : ORel ι t mx mx') {v : Value} (h : Za n (cellN P e) x lo hi mx t H = some v) : ∃ v', (Instr.sliceAt T x' lo' hi' mx').run P w = .ok v' w /\ VRel ι v v' := by
 obtain ⟨ad, h0, g⟩ := XW h
 obtain ⟨p, e1, hp, rfl⟩ := JO hx h0
 split at g
 ·rename_i l h1 m' e1 e2 e3
  cases hb : (mx.isSome && hi.isNone) with
  | true => rw [hb] at g; cases g
  | false =>
   rw [hb] at g
   simp only [cond_false] at g
   obtain ⟨g1, g2, g3, g4⟩ := XcF g
   have run := run_bounds (P := P) (w := w) (b := false) (len := n) (cap := n) rl rh rm e1 e2 e3 g1 g2 g3 hb
   have key : (Instr.sliceAt T (.pointer (some ⟨p.b, p.d + ad.off, none⟩)) lo' hi' mx').run P w = .ok (.slice (some (if m' = l then ⟨p.b, p.d + ad.off, none⟩ else (⟨p.b, p.d + ad.off, none⟩ : Addr).add (l * cellN P e))) (h1 - l) (m' - l)) w := by
    rcases hT with hT | ⟨q, hT, hq⟩
    ·unfold Instr.sliceAt
     simp only [XhG, Xy hT (by simp), XhF, Instr.sureAddr, XhJ, run, ZT he]
    ·unfold Instr.sliceAt
     simp only [XhG, Xy hT (by simp), XhF]
     unfold Instr.slice
     simp only [XhG, Xy hT (by simp), Xy hq (by simp), XhF, asAddr, XhJ, run, ZT he]
   refine ⟨_, key, ?_⟩
   rcases g4 with ⟨g5, g4⟩ | ⟨g5, sp, g4, g6⟩
   ·subst g5
    rw [g4]
    have hz : h1 - m' = 0 := by omega
    rw [hz, Nat.sub_self]
    exact .sempty fun _ => rfl
   ·rw [g4, if_neg g5, XaT, Xim]
    have : sp = none := by
     rcases g6 with ⟨g6, _⟩ | ⟨_, g6, _⟩
     ·exact g6
     ·cases g6
    subst this
    exact .slice (a := ⟨ad.block, ad.off + l * cellN P e, none⟩) hp (fun _ => rfl) (XhE _) (by omega) (fun z hz => by cases hz)
 ·cases g
end
theorem beq_bytes (a b : ByteArray) : (a == b) = true ↔ a = b := by
 rw [beq_toListBytes, ZY, ZY, beq_iff_eq]
 obtain ⟨⟨x⟩⟩ := a
 obtain ⟨⟨y⟩⟩ := b
 simp [bytes]
section
variable {P : Program} {B : Nat} {ι : Inj} {H : Heap} {w : World} {m : Nat} {t : Tm} {a : Act}
theorem leafOK_same {l : Jf} (h : XbT l x = true) (hx : VRel ι x x') : x' = x := by
 unfold XbT at h
 split at h <;> first | (cases h; done) | (cases hx; rfl)
theorem leafEq_tell {l : Jf} (hx : XbT l x = true) (hy : XbT l y = true) : ∃ r, Uy l x y = some r /\ (r = true ↔ x = y) := by
 cases l with
 | int k =>
  cases x <;> first | (cases hx; done) | skip
  cases y <;> first | (cases hy; done) | skip
  rename_i j a j' b
  replace hx : XL k j = true := hx
  replace hy : XL k j' = true := hy
  refine ⟨J2 a b, by show (bif XL k j && XL k j' then some (J2 a b) else none) = _; rw [hx, hy]; rfl, ?_⟩
  simp_all [ZX, decide_eq_true_eq, Xeu]
 | str =>
  cases x <;> first | (cases hx; done) | skip
  cases y <;> first | (cases hy; done) | skip
  rename_i a b
  refine ⟨Vf (bytes a) (bytes b), rfl, ?_⟩
  rw [Xeb, beq_bytes]
  simp
 | bool =>
  cases x <;> first | (cases hx; done) | skip
  cases y <;> first | (cases hy; done) | skip
  rename_i a b
  exact ⟨a == b, rfl, by simp⟩
theorem Vg {l : Jf} {cs : List Value} (h : VF l cs n = true) : cs.length = n /\ ∀ x ∈ cs, XbT l x = true := by
 induction cs generalizing n with
 | nil => exact ⟨(beq_iff.1 h).symm, by simp⟩
 | cons c cs ih =>
  cases n with
  | zero => cases h
  | succ n =>
   replace h : (XbT l c && VF l cs n) = true := h
   grind
theorem manyEq_cons (l : Jf) (x : Value) (xs : List Value) (y : Value) (ys : List Value) : manyEq l (x :: xs) (y :: ys) = match Uy l x y with
  | some true => manyEq l xs ys
  | some false => some false
  | none => none := rfl
theorem manyEq_tell {l : Jf} {ys : List Value} (hx : ∀ x ∈ xs, XbT l x = true) (hy : ∀ x ∈ ys, XbT l x = true) (hl : xs.length = ys.length) :
  ∃ r, manyEq l xs ys = some r /\ (r = true ↔ xs = ys) /\ YD (flatN.times [l] xs.length) xs ys = some r := by
 induction xs generalizing ys with
 | nil => cases ys with
  | nil => exact ⟨true, rfl, by simp, rfl⟩
  | cons y ys => simp at hl
 | cons x xs ih => cases ys with
  | nil => simp at hl
  | cons y ys =>
   obtain ⟨r, h1, h2⟩ := leafEq_tell (hx x (by simp)) (hy y (by simp))
   obtain ⟨r', h3, h4, h5⟩ := ih (ys := ys) (fun z hz => hx z (by simp [hz])) (fun z hz => hy z (by simp [hz])) (by simpa using hl)
   rw [manyEq_cons, h1]
   have e : YD (flatN.times [l] (x :: xs).length) (x :: xs) (y :: ys) = match Uy l x y with
    | some true => YD (flatN.times [l] xs.length) xs ys
    | some false => some false
    | none => none := rfl
   grind
theorem Jj {sh : KSh} (h : Wg sh x = true) (hx : VRel ι x x') : x' = x := by
 cases sh with
 | one l => exact leafOK_same h hx
 | many n k =>
  cases x <;> first | (cases h; done) | skip
  rename_i cs
  obtain ⟨a', rfl, r, _⟩ := Uk hx
  obtain ⟨_, h2⟩ := Vg (show VF (.int k) cs.toList n = true from h)
  have : a'.toList = cs.toList := by
   generalize cs.toList = xs at r h2
   generalize a'.toList = ys at r
   induction r with
   | nil => rfl
   | cons hx _ ih => rw [leafOK_same (h2 _ (by simp)) hx, ih fun x hm => h2 x (by simp [hm])]
  rw [Xiq] at this
  rw [this]
theorem Xaf {sh : KSh} (hx : Wg sh x = true) (hy : Wg sh y = true) : ∃ r, JL sh x y = some r /\ (r = true ↔ x = y) := by
 cases sh with
 | one l => exact leafEq_tell hx hy
 | many n k =>
  cases x <;> first | (cases hx; done) | skip
  cases y <;> first | (cases hy; done) | skip
  rename_i a b
  obtain ⟨h1, h2⟩ := Vg (show VF (.int k) a.toList n = true from hx)
  obtain ⟨h3, h4⟩ := Vg (show VF (.int k) b.toList n = true from hy)
  obtain ⟨r, h5, h6, _⟩ := manyEq_tell h2 h4 (by omega)
  exact ⟨r, h5, by rw [h6]; simp [Xiq]⟩
theorem keySh_ok {kt : TypeId} {sh : KSh} (h : XcW P kt = some sh) :
  (∃ l, sh = .one l /\ leafT P kt l) \/ ∃ n e k, sh = .many n k /\ und P kt = .array n e /\ und P e = .int k /\ cellN P e = 1 := by
 unfold XcW at h
 split at h
 ·rename_i e; cases h; exact .inl ⟨_, rfl, e⟩
 ·rename_i e; cases h; exact .inl ⟨_, rfl, e⟩
 ·rename_i e; cases h; exact .inl ⟨_, rfl, e⟩
 ·grind
 ·cases h
theorem okT_und {T : TypeId} {d : TypeDesc} (h : und P T = d) (hd : d ≠ .invalid) : okT P T = true := by
 rw [okT, WD h hd]; rfl
theorem VT {kt : TypeId} {sh : KSh} (h : XcW P kt = some sh) (hx : Wg sh x = true) (b : Bool) (d : Nat) : (Instr.checkKey b (d + 2) kt x).run P w = .ok () w := by
 rcases keySh_ok h with ⟨l, rfl, hl⟩ | ⟨n, e, k, rfl, h1, h2, h3⟩
 ·cases l <;> cases x <;> first | (cases hx; done) | (unfold Instr.checkKey; simp [Xy hl])
 ·cases x <;> first | (cases hx; done) | skip
  rename_i cs
  obtain ⟨g1, g2⟩ := Vg (show VF (.int k) cs.toList n = true from hx)
  have he := okT_und h2 (by simp)
  have ha : Vb P e = false := by unfold Vb; rw [h2]; rfl
  unfold Instr.checkKey
  simp only [XhG, Xy h1 (by simp), XhF]
  simp only [Std.Legacy.Range.forIn_eq_forIn_range', Std.Legacy.Range.size, Nat.sub_zero, Nat.add_one_sub_one, Nat.div_one]
  have key : ∀ (j i : Nat), i + j <= n -> (forIn (List.range' i j) PUnit.unit (fun i r => do
     let s <- sizeOf e
     let v <- part e cs (i * s)
     Instr.checkKey b (d + 1) e v
     pure (ForInStep.yield PUnit.unit) : Nat -> PUnit -> Sem (ForInStep PUnit))).run P w = .ok PUnit.unit w := by
   intro j
   induction j with
   | zero => intro i _; simp
   | succ j ih =>
    intro i hi
    have hlt : i < cs.size := by rw [<- Xja]; omega
    have hp : (part e cs (i * 1)).run P w = .ok cs[i] w := by
     unfold part
     simp [XdF he, ha, hlt]
    have hck : (Instr.checkKey b (d + 1) e cs[i]).run P w = .ok () w := by
     have := g2 cs[i] (by simp)
     unfold Instr.checkKey
     cases hv : cs[i] <;> rw [hv] at this <;> first | (cases this; done) | simp [Xy h2]
    rw [List.range'_succ]
    simp only [List.forIn_cons, XhG, ZT he, h3, XhF, hp, hck, XhJ]
    exact ih (i + 1) (by omega)
  rw [key n 0 (by omega)]
  rfl
theorem equal_key {kt : TypeId} {sh : KSh} (h : XcW P kt = some sh) (hx : Wg sh x = true) (hy : Wg sh y = true) : ∃ r, (Op.equal kt x y).run P w = .ok r w /\ (r = true ↔ x = y) := by
 rcases keySh_ok h with ⟨l, rfl, hl⟩ | ⟨n, e, k, rfl, h1, h2, h3⟩
 ·obtain ⟨r, g1, g2⟩ := leafEq_tell hx hy
  exact ⟨r, leafEq_run g1 hl 9999, g2⟩
 ·cases x <;> first | (cases hx; done) | skip
  cases y <;> first | (cases hy; done) | skip
  rename_i a b
  obtain ⟨g1, g2⟩ := Vg (show VF (.int k) a.toList n = true from hx)
  obtain ⟨g3, g4⟩ := Vg (show VF (.int k) b.toList n = true from hy)
  obtain ⟨r, _, g6, g7⟩ := manyEq_tell g2 g4 (by omega)
  have hf : flatN P 2 kt = some (flatN.times [.int k] n) := by
   unfold flatN
   rw [h1]
   simp only
   have : flatN P 1 e = some [.int k] := by unfold flatN; rw [h2]
   rw [this]
   simp [h3, okT_und h2]
  refine ⟨r, ?_, by rw [g6]; simp [Xiq]⟩
  have hag : Vb P kt = true := by unfold Vb; rw [h1]; rfl
  exact (flat_ok 2).1 kt _ hf hag 10000 (by omega) a b r w (by rw [<- g1]; exact g7)
def Found (k : Value) (L : List MapEntry) : Option (Nat × Value) -> Prop
 | none => ∀ e ∈ L, e.key ≠ k
 | some (i, v) => ∃ e, L[i]? = some e /\ e.key = k /\ v = e.val
theorem findNow_ok {d : TypeDesc} {k : Value} : ∀ (L : List MapEntry) (i : Nat), (∀ e ∈ L, ∃ r, Instr.sameNow d k e.key = some r /\ (r = true ↔ k = e.key)) ->
  ∃ r, Instr.findNow d k L i = some r /\ (match r with | none => ∀ e ∈ L, e.key ≠ k | some (j, v) => i <= j /\ ∃ e, L[j - i]? = some e /\ e.key = k /\ v = e.val)
 | [], i, _ => ⟨none, rfl, by simp⟩
 | e :: L, i, h => by
  obtain ⟨r, h1, h2⟩ := h e (by simp)
  simp only [Instr.findNow, h1]
  cases r with
  | true => simp_all
  | false =>
   obtain ⟨r', h3, h4⟩ := findNow_ok L (i + 1) fun e' he => h e' (by simp [he])
   grind
theorem findAsking_ok {kt : TypeId} {k : Value} : ∀ (L : List MapEntry) (i : Nat), (∀ e ∈ L, ∃ r, (Op.equal kt k e.key).run P w = .ok r w /\ (r = true ↔ k = e.key)) ->
  ∃ r, (Instr.findAsking kt k L i).run P w = .ok r w /\ (match r with | none => ∀ e ∈ L, e.key ≠ k | some (j, v) => i <= j /\ ∃ e, L[j - i]? = some e /\ e.key = k /\ v = e.val)
 | [], i, _ => ⟨none, rfl, by simp⟩
 | e :: L, i, h => by
  obtain ⟨r, h1, h2⟩ := h e (by simp)
  simp only [Instr.findAsking, XhG, h1, XhF]
  cases r with
  | true => simp_all
  | false =>
   obtain ⟨r', h3, h4⟩ := findAsking_ok L (i + 1) fun e' he => h e' (by simp [he])
   grind
theorem Xf6 {kt : TypeId} {sh : KSh} (h : XcW P kt = some sh) {k : Value} (hk : Wg sh k = true) {L : List MapEntry} (hL : ∀ e ∈ L, Wg sh e.key = true) :
  ∃ r, (Instr.findKey kt k L).run P w = .ok r w /\ Found k L r := by
 have hq : ∃ d, und P kt = d /\ d ≠ .invalid := by
  rcases keySh_ok h with ⟨l, rfl, hl⟩ | ⟨n, e, k, rfl, h1, h2, h3⟩
  ·cases l <;> exact ⟨_, hl, by simp⟩
  ·exact ⟨_, h1, by simp⟩
 obtain ⟨d, hd, hd'⟩ := hq
 have fin : ∀ r, (match r with | none => ∀ e ∈ L, e.key ≠ k | some (j, v) => 0 <= j /\ ∃ e, L[j - 0]? = some e /\ e.key = k /\ v = e.val) -> Found k L r := by
  intro r hr
  cases r with
  | none => exact hr
  | some p => exact hr.2
 unfold Instr.findKey
 simp only [XhG, Xy hd hd', XhF]
 cases hf : Instr.findNow d k L 0 with
 | some r =>
  refine ⟨r, rfl, ?_⟩
  rcases keySh_ok h with ⟨l, rfl, hl⟩ | ⟨n, e, k', rfl, h1, h2, h3⟩
  ·have : ∀ e ∈ L, ∃ r, Instr.sameNow d k e.key = some r /\ (r = true ↔ k = e.key) := by
    intro e he
    have h1 := hL e he
    cases l with
    | int q =>
     replace hl : und P kt = .int q := hl
     rw [hd] at hl
     subst hl
     cases hkv : k <;> rw [hkv] at hk <;> first | (cases hk; done) | skip
     cases hev : e.key <;> rw [hev] at h1 <;> first | (cases h1; done) | skip
     rename_i j x j' y
     replace hk : XL q j = true := hk
     replace h1 : XL q j' = true := h1
     rw [ZX, decide_eq_true_eq] at hk h1
     subst hk; subst h1
     exact ⟨x == y, by simp [Instr.sameNow], by simp⟩
    | str =>
     replace hl : und P kt = .string := hl
     rw [hd] at hl
     subst hl
     cases hkv : k <;> rw [hkv] at hk <;> first | (cases hk; done) | skip
     cases hev : e.key <;> rw [hev] at h1 <;> first | (cases h1; done) | skip
     exact ⟨_, rfl, by rw [beq_bytes]; simp⟩
    | bool =>
     replace hl : und P kt = .bool := hl
     rw [hd] at hl
     subst hl
     cases hkv : k <;> rw [hkv] at hk <;> first | (cases hk; done) | skip
     cases hev : e.key <;> rw [hev] at h1 <;> first | (cases h1; done) | skip
     exact ⟨_, rfl, by simp⟩
   obtain ⟨r', g1, g2⟩ := findNow_ok L 0 this
   rw [hf] at g1
   cases g1
   exact fin _ g2
  ·cases L with
   | nil => simp [Instr.findNow] at hf; subst hf; exact fun e he => by simp at he
   | cons e' L =>
    rw [hd] at h1
    subst h1
    simp [Instr.findNow, Instr.sameNow] at hf
 | none =>
  obtain ⟨r, g1, g2⟩ := findAsking_ok (P := P) (w := w) (kt := kt) (k := k) L 0 fun e he => equal_key h hk (hL e he)
  exact ⟨r, g1, fin _ g2⟩
theorem All2.mem_left {α β : Type} {R : α -> β -> Prop} {xs : List α} {ys : List β} (h : All2 R xs ys) {x : α} (hx : x ∈ xs) : ∃ y ∈ ys, R x y := by
 induction h with
 | nil => simp at hx
 | cons hr _ ih =>
  grind
theorem All2.mem_right {α β : Type} {R : α -> β -> Prop} {xs : List α} {ys : List β} (h : All2 R xs ys) {y : β} (hy : y ∈ ys) : ∃ x ∈ xs, R x y := by
 induction h with
 | nil => simp at hy
 | cons hr _ ih =>
  grind
section
variable {sh : KSh} {es : List (Value × Value)} {ms : Array MapEntry} {clock : Nat}
theorem MapRel.ofE (h : MapRel ι sh es ms clock) {e : Value × Value} (he : e ∈ es) : ∃ q ∈ ms.toList, q.key = e.1 /\ VRel ι e.2 q.val := by
 obtain ⟨L, h1, h2⟩ := h.perm
 obtain ⟨q, h3, h4⟩ := h2.mem_left he
 exact ⟨q, h1.mem_iff.1 h3, Jj (h.keys e he) h4.1, h4.2⟩
theorem MapRel.ofM (h : MapRel ι sh es ms clock) {q : MapEntry} (hq : q ∈ ms.toList) : ∃ e ∈ es, q.key = e.1 /\ VRel ι e.2 q.val := by
 obtain ⟨L, h1, h2⟩ := h.perm
 obtain ⟨e, h3, h4⟩ := h2.mem_right (h1.mem_iff.2 hq)
 exact ⟨e, h3, Jj (h.keys e h3) h4.1, h4.2⟩
theorem MapRel.keysC (h : MapRel ι sh es ms clock) {q : MapEntry} (hq : q ∈ ms.toList) : Wg sh q.key = true := by
 obtain ⟨e, h1, h2, _⟩ := h.ofM hq
 rw [h2]; exact h.keys e h1
theorem MapRel.size (h : MapRel ι sh es ms clock) : ms.size = es.length := by
 obtain ⟨L, h1, h2⟩ := h.perm
 rw [<- Xja, <- h1.length_eq, h2.length]
theorem distinct_ne (hk : ∀ e ∈ es, Wg sh e.1 = true) (h : distinct sh es) : (es.map (·.1)).Nodup := by
 induction es with
 | nil => simp
 | cons e es ih =>
  rw [distinct, Xjl] at h
  simp only [Xit, List.nodup_cons, List.mem_map, not_exists, not_and]
  refine ⟨fun e' he' e1 => ?_, ih (fun x hx => hk x (by simp [hx])) h.2⟩
  grind [Xaf]
theorem MapRel.nodup (h : MapRel ι sh es ms clock) : (ms.toList.map (·.key)).Nodup := by
 obtain ⟨L, h1, h2⟩ := h.perm
 have : L.map (·.key) = es.map (·.1) := by
  have hk := h.keys
  clear h h1
  induction h2 with
  | nil => rfl
  | cons hx _ ih => simp only [Xit]; rw [ih fun e he => hk e (by simp [he]), Jj (hk _ (by simp)) hx.1]
 have h3 := (h1.map (·.key)).nodup_iff
 rw [<- h3, this]
 exact distinct_ne h.keys h.dist
theorem findEntry_some {k : Value} (h : JM sh k es = some (some v)) : ∃ e ∈ es, JL sh k e.1 = some true /\ e.2 = v := by
 induction es with
 | nil => cases h
 | cons e es ih =>
  replace h : (match JL sh k e.1 with
   | some true => some (some e.2)
   | some false => JM sh k es
   | none => none) = some (some v) := h
  grind
theorem findEntry_none {k : Value} (h : JM sh k es = some none) : ∀ e ∈ es, JL sh k e.1 = some false := by
 induction es with
 | nil => simp
 | cons e es ih =>
  replace h : (match JL sh k e.1 with
   | some true => some (some e.2)
   | some false => JM sh k es
   | none => none) = some none := h
  grind
theorem find_rel {kt : TypeId} (hsh : XcW P kt = some sh) (h : MapRel ι sh es ms clock) {k : Value} (hk : Wg sh k = true) {r : Option Value} (hf : JM sh k es = some r) :
  (r = none /\ (Instr.findKey kt k ms.toList).run P w = .ok none w) \/ ∃ v i v', r = some v /\ (Instr.findKey kt k ms.toList).run P w = .ok (some (i, v')) w /\ VRel ι v v' := by
 obtain ⟨r', h1, h2⟩ := Xf6 (P := P) (w := w) hsh hk (L := ms.toList) fun e he => h.keysC he
 cases r with
 | none =>
  have hn := findEntry_none hf
  cases r' with
  | none => exact .inl ⟨rfl, h1⟩
  | some p =>
   obtain ⟨i, v'⟩ := p
   obtain ⟨q, g1, g2, _⟩ := h2
   obtain ⟨e, k1, k2, _⟩ := h.ofM (Xh5 g1)
   grind [Xaf]
 | some v =>
  obtain ⟨e, e1, e2, rfl⟩ := findEntry_some hf
  obtain ⟨b, f1, f2⟩ := Xaf hk (h.keys e e1)
  rw [e2] at f1
  cases f1
  have hke := f2.1 rfl
  cases r' with
  | none =>
   obtain ⟨q, g1, g2, _⟩ := h.ofE e1
   exact absurd (g2.trans hke.symm) (h2 q g1)
  | some p =>
   obtain ⟨i, v'⟩ := p
   refine .inr ⟨_, i, v', rfl, h1, ?_⟩
   obtain ⟨q, g1, g2, rfl⟩ := h2
   obtain ⟨q', g3, g4, g5⟩ := h.ofE e1
   have hq := Xh5 g1
   have : q = q' := by
    have hn := h.nodup
    obtain ⟨i1, hi1, hi2⟩ := XiG hq
    obtain ⟨i2, hi3, hi4⟩ := XiG g3
    have : i1 = i2 := by
     apply (List.getElem_inj (h₀ := by simpa using hi1) (h₁ := by simpa using hi3) hn).1
     simp only [List.getElem_map, hi2, hi4]
     rw [g2, g4, hke]
    subst this
    rw [<- hi2, <- hi4]
   subst this
   exact g5
end
end
section
variable {P : Program} {B : Nat} {ι : Inj} {H : Heap} {w : World} {m : Nat} {t : Tm} {a : Act}
theorem bytesOf_ok {cs : List Value} {bs : List UInt8} (h : bytesOf cs = some bs) : ∃ ns : List Int, cs = ns.map (fun n => .int .u8 n) /\ bs = ns.map fun n => UInt8.ofNat n.toNat := by
 induction cs generalizing bs with
 | nil => cases h; exact ⟨[], rfl, rfl⟩
 | cons c cs ih =>
  unfold bytesOf at h
  split at h
  ·rename_i e; cases e
  ·rename_i n rest e
   cases e
   split at h
   ·rename_i r hr
    cases h
    obtain ⟨ns, h1, h2⟩ := ih hr
    exact ⟨n :: ns, by simp [h1], by simp [h2]⟩
   ·cases h
  ·cases h
theorem push_bytes (ns : List Int) (s : ByteArray) : ns.foldl (fun r n => r.push (UInt8.ofNat n.toNat)) s = ⟨⟨s.data.toList ++ ns.map fun n => UInt8.ofNat n.toNat⟩⟩ := by
 induction ns generalizing s with
 | nil => simp
 | cons n ns ih =>
  simp_all
theorem load_zero {off : Nat} {cs : List Value} (h : H.load b off 0 = some cs) : cs = [] := by
 unfold Heap.load at h
 split at h
 ·cases h; rfl
 ·cases h
theorem r_bytesTo (s : Sim P B ι H w) {src d e : TypeId} (hs : und P src = .slice e) (he : und P e = .int .u8) (hd : und P d = .string) {x : Xe} (h : Z5 x t H = some v) (hx : VRel ι (x t) x') :
  (convert src d x').run P w = .ok v w /\ VRel ι v v := by
 have hs' := WD hs (by simp)
 have he' := WD he (by simp)
 have hd' := WD hd (by simp)
 unfold Z5 at h
 generalize x t = xv at h hx
 cases hx with
 | snil n c =>
  cases h
  refine ⟨?_, .string _⟩
  rw [run_convert_bytes_string w src d e none n c hs' he' hd']
  rfl
 | sempty h' =>
  simp only at h
  split at h
  ·rename_i cs hl
   have := load_zero hl
   subst this
   cases h
   refine ⟨?_, .string _⟩
   rw [run_convert_bytes_string w src d e _ _ _ hs' he' hd', run_bytesToString w _ 0 _ [] rfl]
   rfl
  ·cases h
 | slice hp hex hc hn hl =>
  simp only at h
  split at h
  ·rename_i cs hl
   split at h
   ·rename_i bs hb
    cases h
    refine ⟨?_, .string _⟩
    obtain ⟨cs', k1, k2, k3, k4, _⟩ := load_ok s hp hl
    obtain ⟨ns, rfl, rfl⟩ := bytesOf_ok hb
    have : cs' = ns.map (fun n => Value.int .u8 n) := by
     clear k1 k2 hb hl k4
     induction ns generalizing cs' with
     | nil => cases k3; rfl
     | cons n ns ih => cases k3 with
      | cons hx ht => cases hx; rw [ih _ ht]; rfl
    subst this
    rw [run_convert_bytes_string w src d e _ _ _ hs' he' hd', run_bytesToString w _ _ _ ns (by rw [run_loads k1 k2]), push_bytes]
    rfl
   ·cases h
  ·cases h
 | _ => cases h
theorem XdG (s : Sim P B ι H w) {r : Nat} {p : Place} (hp : ι r = some p) {sh : KSh} {ver : Nat} {es : List (Value × Value)} (h : H.get r = some (.map sh ver es)) :
  p.d = 0 /\ B <= p.b /\ ∃ ms clock, w.heap[p.b]? = some (.map ms clock) /\ MapRel ι sh es ms clock := s.obj r p _ hp h
theorem Ye {r : Nat} {o : Obj} (h : w.heap[r]? = some o) (hc : ∀ c e f, o ≠ .cells c e f) : (getObj r).run P w = .ok o w := by
 cases o <;> first | exact absurd rfl (hc _ _ _) | simp [getObj, Sem.run, h]
theorem sameSh_eq {a b : KSh} (h : XcT a b = true) : a = b := by
 cases a with
 | one l => cases b with
  | one l' =>
   replace h : sameLeaf l l' = true := h
   cases l <;> cases l' <;> first | rfl | (cases h; done) | skip
   rename_i j k
   replace h : XL j k = true := h
   rw [ZX, decide_eq_true_eq] at h
   rw [h]
  | many n k => cases h
 | many n k => cases b with
  | one l => cases h
  | many n' k' =>
   replace h : (XhD n n' && XL k k') = true := h
   rw [XhN, beq_iff, ZX, decide_eq_true_eq] at h
   rw [h.1, h.2]
theorem found_rel (ok : Bool) (h : VRel ι v v') : VRel ι (J3 z ok (some v)) (if ok then .tuple #[v', .bool true] else v') := by
 cases ok with
 | true => exact YO (.cons h (.cons (.bool true) .nil))
 | false => exact h
theorem Xew (ok : Bool) (h : Jh z = true) : VRel ι (J3 z ok none) (if ok then .tuple #[z, .bool false] else z) := by
 cases ok with
 | true => exact YO (.cons (XcZ h) (.cons (.bool false) .nil))
 | false => exact XcZ h
theorem r_lookup (s : Sim P B ι H w) {T kt e : TypeId} (hT : und P T = .map kt e) {sh : KSh} (hsh : XcW P kt = some sh) (hz : ZH P e = some z) {ok : Bool} {x i : Xe} {i' : Value}
  (h : W1 sh z ok x i t H = some v) (hx : VRel ι (x t) x') (hi : VRel ι (i t) i') : ∃ v', (Instr.lookup T x' i' ok).run P w = .ok v' w /\ VRel ι v v' := by
 unfold W1 at h
 generalize x t = xv at h hx
 generalize i t = iv at h hi
 have hpl := (YZ hz).choose_spec.2.2
 cases hk : Wg sh iv with
 | false => rw [hk] at h; cases h
 | true =>
  rw [hk] at h
  simp only [Bool.not_true, cond_false] at h
  have hik := Jj hk hi
  subst hik
  unfold Instr.lookup
  simp only [XhG, Xy hT (by simp), XhF]
  cases hx with
  | mnil =>
   cases h
   simp only [XhG, XhJ, XhF, VT hsh hk _ 9998]
   obtain ⟨r, g1, g2⟩ := Xf6 (P := P) (w := w) hsh hk (L := (#[] : Array MapEntry).toList) (by simp)
   cases r with
   | some p => obtain ⟨j, v⟩ := p; obtain ⟨q, g3, _⟩ := g2; simp at g3
   | none =>
    simp_all [XhF, XhG, W3, XhJ, Xew]
  | map hp =>
   simp only at h
   split at h
   ·rename_i sh' ver es hg
    cases hs : XcT sh sh' with
    | false => rw [hs] at h; cases h
    | true =>
     rw [hs] at h
     have := sameSh_eq hs
     subst this
     obtain ⟨r, h1, h2⟩ := XW h
     cases h2
     obtain ⟨_, _, ms, clock, g1, g2⟩ := XdG s hp hg
     simp only [XhG, Ye g1 (by simp), XhJ, XhF, VT hsh hk _ 9998]
     rcases find_rel (P := P) (w := w) hsh g2 hk h1 with ⟨rfl, k1⟩ | ⟨v, j, v', rfl, k1, k2⟩
     ·simp_all [XhF, XhG, W3, XhJ, Xew]
     simp_all [XhF, XhJ, found_rel]
   ·cases h
  | _ => cases h
theorem r_entry (s : Sim P B ι H w) {it : Xe} {it' : Value} (h : lkEntry it t H = some v) (hx : VRel ι (it t) it') : ∃ v', (Instr.entry it').run P w = .ok v' w /\ VRel ι v v' := by
 unfold lkEntry at h
 generalize it t = xv at h hx
 split at h
 ·rename_i r sp
  cases hx with
  | @ptr a p hp =>
   split at h
   ·rename_i m ver left e hg
    split at h
    ·rename_i sh ver' es hg'
     cases hv : XhD ver ver' with
     | false => rw [hv] at h; cases h
     | true =>
      rw [hv] at h
      have := beq_iff.1 hv
      subst this
      cases h
      obtain ⟨o1, o2, pm, since, seen, stepped, o3, o4, o5, o6⟩ := s.obj r p _ hp hg
      obtain ⟨ms, f1, f2, f3, f4⟩ := o6 sh es hg'
      obtain ⟨q, q1, q2, q3, q4⟩ := f4 e rfl
      have hb := (XdG s o3 hg').2.2
      obtain ⟨ms', clock', b1, b2⟩ := hb
      rw [f1] at b1
      cases b1
      simp only [o1, Nat.zero_add]
      unfold Instr.entry
      simp only [XhG, Ye o4 (by simp), XhF, q2, Ye f1 (by simp)]
      have hne : (since != stepped) = false := by rw [q3]; simp
      simp only [hne, Xik, if_false, XhG, XhJ, XhF]
      have hfind : ms.find? (fun x => x.born == q.born) = some q := by
       have hpw := b2.born
       rw [<- Array.find?_toList]
       generalize ms.toList = L at q1 hpw
       induction L with
       | nil => simp at q1
       | cons z L ih =>
        grind [Xjl]
      rw [hfind]
      exact ⟨_, rfl, YO (.cons q4.1 (.cons q4.2 .nil))⟩
    ·cases h
   ·cases h
 ·cases h
theorem r_assertT {xT T : TypeId} (hz : ZH P T = some z) (hT : ∀ ms, und P T ≠ .interface ms) (hi : und P T ≠ .invalid) {ok : Bool} {x : Xe}
  (h : Xeq T z ok x t H = some v) (hx : VRel ι (x t) x') : ∃ v', (Instr.typeAssert x' xT T ok).run P w = .ok v' w /\ VRel ι v v' := by
 unfold Xeq at h
 generalize x t = xv at h hx
 have hpl := (YZ hz).choose_spec.2.2
 have hu : (underlying T).run P w = .ok (und P T) w := Xy rfl hi w
 generalize hd : und P T = d at hu hT
 unfold Instr.typeAssert
 simp only [XhG, hu, XhF]
 cases hx with
 | nilIface =>
  simp only at h
  cases ok with
  | false => cases h
  | true =>
   cases h
   cases d <;> first | exact absurd rfl (hT _) | (simp only [if_true, XhG, W3 hz, XhF, XhJ]; exact ⟨_, rfl, Xew true hpl⟩)
 | iface u hv =>
  rename_i v0 v0'
  simp only at h
  cases hb : XhD u T with
  | true =>
   rw [hb] at h
   have := beq_iff.1 hb
   subst this
   cases h
   cases d <;> first | exact absurd rfl (hT _) | (simp only [if_true, XhJ]; exact ⟨_, rfl, found_rel ok hv⟩)
  | false =>
   rw [hb] at h
   have hne : u ≠ T := fun e => by rw [beq_iff.2 e] at hb; cases hb
   cases ok with
   | false => cases h
   | true =>
    cases h
    cases d <;> first | exact absurd rfl (hT _) | (simp only [if_neg hne, if_true, XhG, W3 hz, XhF, XhJ]; exact ⟨_, rfl, Xew true hpl⟩)
 | _ => cases h
theorem r_assertI {xT T : TypeId} (hz : ZH P T = some z) {want : Array (String × TypeId)} (hT : und P T = .interface want) {ok : Bool} {x : Xe}
  (h : lkAssertI P.types.size ((Xir P.types.size).filter fun u => (Instr.missingMethod want (((P.info? u).map (·.methods)).getD #[])).isNone) z ok x t H = some v) (hx : VRel ι (x t) x') :
  ∃ v', (Instr.typeAssert x' xT T ok).run P w = .ok v' w /\ VRel ι v v' := by
 unfold lkAssertI at h
 generalize x t = xv at h hx
 have hpl := (YZ hz).choose_spec.2.2
 unfold Instr.typeAssert
 simp only [XhG, Xy hT (by simp), XhF]
 cases hx with
 | nilIface =>
  simp only at h
  cases ok with
  | false => cases h
  | true =>
   cases h
   simp only [if_true, XhG, W3 hz, XhF, XhJ]
   exact ⟨_, rfl, Xew true hpl⟩
 | iface u hv =>
  rename_i v0 v0'
  simp only at h
  cases hb : XhK u P.types.size with
  | false => rw [hb] at h; cases h
  | true =>
   rw [hb] at h
   rw [blt_iff] at hb
   simp only [Bool.not_true, cond_false] at h
   obtain ⟨ti, hinfo⟩ : ∃ ti, P.info? u = some ti := ⟨P.types[u], by unfold Tables.info?; simp_all⟩
   have hti : (typeInfo u).run P w = .ok ti w := by simp [typeInfo, hinfo]
   simp only [XhG, hti, XhF]
   cases hm : Instr.missingMethod want ti.methods with
   | none =>
    have : ((Xir P.types.size).filter fun u => (Instr.missingMethod want (((P.info? u).map (·.methods)).getD #[])).isNone).contains u = true := by
     rw [List.contains_iff_mem, List.mem_filter]
     exact ⟨List.mem_range.2 hb, by rw [hinfo]; simp [hm]⟩
    rw [this] at h
    cases h
    simp only [XhJ]
    exact ⟨_, rfl, found_rel ok (.iface u hv)⟩
   | some miss =>
    have : ((Xir P.types.size).filter fun u => (Instr.missingMethod want (((P.info? u).map (·.methods)).getD #[])).isNone).contains u = false := by
     rw [<- Bool.not_eq_true, List.contains_iff_mem, List.mem_filter]
     rintro ⟨_, h2⟩
     rw [hinfo] at h2
     simp [hm] at h2
    rw [this] at h
    cases ok with
    | false => cases h
    | true =>
     cases h
     simp only [if_true, XhG, W3 hz, XhF, XhJ]
     exact ⟨_, rfl, Xew true hpl⟩
 | _ => cases h
end
end Go.Eng
