/-
  The functions of the program, of the document's answer and of the library, each gone through once: what it answers. Conditions: those that each lemma states.
-/
import Derived.Test.YtknhijalfgjfhaaGreatS
import Derived.OpenShut
import Derived.SliceStrings
set_option linter.unusedVariables false
set_option linter.unusedSimpArgs false
set_option linter.unusedSectionVars false
open Nat renaming le_of_ble_eq_true -> XhH, zero_add -> XhT, mul_one -> XhI, le_refl -> XhE, zero_le -> XhO, lt_of_lt_of_le -> Xia, add_comm -> Xi1, mul_le_mul_right -> Xi2, mod_eq_of_lt -> Xjn, add_assoc -> Xim, le_trans -> Xh4, succ_mul -> XiR, lt_succ_self -> Xh0
open List renaming length_append -> XhC, getElem?_map -> Xic, getElem?_eq_getElem -> XhL, getD_eq_getElem?_getD -> Xih, replicate -> XhY, drop_of_length_le -> Xjq, length_take -> Xie, length_drop -> Xif, length_map -> XhP, length_replicate -> Xi5, take_append_of_le_length -> XjI, length_cons -> Xh8, drop_drop -> Xip, take_append_drop -> Xiw, append_assoc -> Xh1, take_length -> Xh7, range -> Xir, length_range -> Xjr, append_nil -> Xij, nil_append -> Xib, mem_singleton -> XhB, eq_nil_of_length_eq_zero -> XiB, drop_left -> XiM, mem_cons_self -> Xh9, mem_cons_of_mem -> Xii, mem_cons -> XhQ, not_mem_nil -> XiQ, take_left -> Xjj, flatten_cons -> XiD, map_append -> Xh2, flatten_append -> XiF, take_add_one -> Xh6, findIdx?_eq_some_iff_getElem -> Xjy, findIdx?_eq_none_iff -> XjJ, mem_append -> XhV, mem_of_getElem? -> Xh5, drop_eq_getElem_cons -> XiX, drop_eq_nil_iff -> Xjz, getElem?_drop -> Xjp, getElem?_eq_some_iff -> Xig
open Int renaming ofNat -> XhA
open BitVec renaming ofInt -> XhZ
noncomputable section
set_option maxRecDepth 100000
set_option maxHeartbeats 4000000
namespace Sp
open Go Go.Eng
abbrev Pt (b : Nat) : Value := .pointer (some ⟨b, 0, none⟩)
abbrev I6 (n : Nat) : Value := .int .i64 (Int.ofNat n)
abbrev ax : Aux := ⟨[], none, none⟩
abbrev LB := List UInt8
abbrev OA := Option Addr
variable {h h' : Heap} {i n b p : Nat}
def summed (n : Nat) : Bool := Nat.beq n Kc
structure Has (E : Env) : Prop where
 fn : ∀ f k, tab.get f = some k -> E.fn f = some k
 sum : ∀ f, summed f = false -> E.sum f = none
 known : ∀ f, summed f = true -> E.sum f = some XcG
theorem Has.go {E : Env} {sg : Bool} (H : Has E) {c : Ctx} {f : Nat} {k : XI} {as : List Value} {Q : Value -> Heap -> Prop} (hk : tab.get f = some k) (h1 : summed f = false) (w : (J7 E c k as h).Wp sg Q) : (enter E c f as h).Wp sg Q :=
 wp_enter (H.sum f h1) (H.fn f k hk) w
theorem Has.run {E : Env} {sg : Bool} (H : Has E) {c : Ctx} {f : Nat} {k : XI} {as : List Value} {Q : Value -> Heap -> Prop} (hk : tab.get f = some k) (h1 : summed f = Bool.false) (hl : Nat.ble as.length 255 = Bool.true) (w : (k.body c (Z8 as 0 Tm.empty) ax h).Wp sg (fun t x h => x.defers = [] /\ ∃ vs, Yx k.res [] t h = some vs /\ Q (WL vs) h) (fun _ _ _ _ => False) (fun t x h => x.defers = [] /\ ∃ vs, Yx k.res [] t h = some vs /\ Q (WL vs) h)) : (enter E c f as h).Wp sg Q :=
 H.go hk h1 (wp_fn (XhH hl) w)
theorem Has.true {E : Env} {sg : Bool} (H : Has E) {c : Nat} {f : Nat} (h1 : summed f = true) : (enter E (ctx E c) f [] h).Wp sg fun v h' => v = .bool true /\ h' = h := wp_true (H.known f h1)
def wd (x : Int) : Value := .int .u32 x
def Zh (a b : Int) : Int := IntKind.u32.wrap (a + b)
def rotr (x : Int) (n : Nat) : Int := bor .u32 (bshl .u32 x (32 - n)) (U1 .u32 x n)
def B8 (b : LB) (j : Nat) : Int := IntKind.u32.wrap ((b.getD j 0).toNat : Int)
def wordAt (b : LB) (i : Nat) : Int := bor .u32 (bor .u32 (bor .u32 (bshl .u32 (B8 b (4 * i)) 24) (bshl .u32 (B8 b (4 * i + 1)) 16)) (bshl .u32 (B8 b (4 * i + 2)) 8)) (B8 b (4 * i + 3))
def sigP (p : Int) : Int := bxor .u32 (bxor .u32 (rotr p 7) (rotr p 18)) (U1 .u32 p 3)
def sigQ (q : Int) : Int := bxor .u32 (bxor .u32 (rotr q 17) (rotr q 19)) (U1 .u32 q 10)
def nextW (w : List Int) : Int := Zh (Zh (Zh (w.getD (w.length - 16) 0) (sigP (w.getD (w.length - 15) 0))) (w.getD (w.length - 7) 0)) (sigQ (w.getD (w.length - 2) 0))
def Yd (b : LB) : Nat -> List Int
 | 0 => []
 | n + 1 => Yd b n ++ [if n < 16 then wordAt b n else nextW (Yd b n)]
theorem XaL (b : LB) (n : Nat) : (Yd b n).length = n := by
 induction n with
 | zero => rfl
 | succ n ih => show (Yd b n ++ [_]).length = _; rw [XhC, ih]; rfl
def upE (e : Int) : Int := bxor .u32 (bxor .u32 (rotr e 6) (rotr e 11)) (rotr e 25)
def upA (a : Int) : Int := bxor .u32 (bxor .u32 (rotr a 2) (rotr a 13)) (rotr a 22)
def chF (e f g : Int) : Int := bxor .u32 (band .u32 e f) (band .u32 (bnot .u32 e) g)
def majF (a b c : Int) : Int := bxor .u32 (bxor .u32 (band .u32 a b) (band .u32 a c)) (band .u32 b c)
structure S8 where
 (a b c d e f g h : Int)
def S8.cells (x : S8) : List Value := [wd x.a, wd x.b, wd x.c, wd x.d, wd x.e, wd x.f, wd x.g, wd x.h]
def S8.rnd (x : S8) (k w : Int) : S8 :=
 let t := Zh (Zh (Zh (Zh x.h (upE x.e)) (chF x.e x.f x.g)) k) w
 let u := Zh (upA x.a) (majF x.a x.b x.c)
 ⟨Zh t u, x.a, x.b, x.c, Zh x.d t, x.e, x.f, x.g⟩
def S8.add (s x : S8) : S8 := ⟨Zh s.a x.a, Zh s.b x.b, Zh s.c x.c, Zh s.d x.d, Zh s.e x.e, Zh s.f x.f, Zh s.g x.g, Zh s.h x.h⟩
def consts : List Nat := [0x428a2f98, 0x71374491, 0xb5c0fbcf, 0xe9b5dba5, 0x3956c25b, 0x59f111f1, 0x923f82a4, 0xab1c5ed5,
 0xd807aa98, 0x12835b01, 0x243185be, 0x550c7dc3, 0x72be5d74, 0x80deb1fe, 0x9bdc06a7, 0xc19bf174,
 0xe49b69c1, 0xefbe4786, 0x0fc19dc6, 0x240ca1cc, 0x2de92c6f, 0x4a7484aa, 0x5cb0a9dc, 0x76f988da,
 0x983e5152, 0xa831c66d, 0xb00327c8, 0xbf597fc7, 0xc6e00bf3, 0xd5a79147, 0x06ca6351, 0x14292967,
 0x27b70a85, 0x2e1b2138, 0x4d2c6dfc, 0x53380d13, 0x650a7354, 0x766a0abb, 0x81c2c92e, 0x92722c85,
 0xa2bfe8a1, 0xa81a664b, 0xc24b8b70, 0xc76c51a3, 0xd192e819, 0xd6990624, 0xf40e3585, 0x106aa070,
 0x19a4c116, 0x1e376c08, 0x2748774c, 0x34b0bcb5, 0x391c0cb3, 0x4ed8aa4a, 0x5b9cca4f, 0x682e6ff3,
 0x748f82ee, 0x78a5636f, 0x84c87814, 0x8cc70208, 0x90befffa, 0xa4506ceb, 0xbef9a3f7, 0xc67178f2]
def constAt (i : Nat) : Int := XhA (consts.getD i 0)
def Vn (s : S8) (w : List Int) : Nat -> S8
 | 0 => s
 | n + 1 => (Vn s w n).rnd (constAt n) (w.getD n 0)
def Jd (s : S8) (b : LB) : S8 := s.add (Vn s (Yd b 64) 64)
theorem nth_arr (l : List Int) (r : List Value) {j : Nat} (hj : j < l.length) : nth (0 + j * 1) (l.map wd ++ r) = some (wd (l.getD j 0)) := by
 rw [Xea, XhT, XhI, List.getElem?_append_left (by simpa using hj), Xic, XhL hj, Xih, XhL hj]; rfl
theorem put_arr (l : List Int) (x : Int) {j : Nat} (hj : l.length = j) (r : List Value) (hr : r = XhY (n + 1) (wd 0)) : XZ [wd x] (0 + j * 1) (l.map wd ++ r) = (l ++ [x]).map wd ++ XhY n (wd 0) := by
 subst hr
 rw [XhT, XhI, putAt_eq _ _ _ (by simp; omega), List.take_left' (by simpa using hj)]
 rw [List.drop_append, Xjq (by simp; omega)]
 simp [<- hj, List.replicate_succ]
def Vo : List Value := consts.map fun n => wd (XhA n)
theorem const_at (hi : i < 64) : nth i Vo = some (wd (constAt i)) := by
 rw [Xea]
 unfold Vo constAt
 rw [Xic, XhL (show i < consts.length from hi), Xih, XhL (show i < consts.length from hi)]; rfl
def S8.list (x : S8) : List Int := [x.a, x.b, x.c, x.d, x.e, x.f, x.g, x.h]
def mix8 (s x : S8) (i : Nat) : List Value := (s.add x).cells.take i ++ s.cells.drop i
theorem S8.at (x : S8) (hi : i < 8) : nth (0 + i * 1) x.cells = some (wd (x.list.getD i 0)) := by
 match i, hi with
 | 0, _ | 1, _ | 2, _ | 3, _ | 4, _ | 5, _ | 6, _ | 7, _ => rfl
theorem mix8_at (s x : S8) (hi : i < 8) : nth (0 + i * 1) (mix8 s x i) = some (wd (s.list.getD i 0)) := by
 match i, hi with
 | 0, _ | 1, _ | 2, _ | 3, _ | 4, _ | 5, _ | 6, _ | 7, _ => rfl
theorem mix8_put (s x : S8) (hi : i < 8) : XZ [wd (Zh (s.list.getD i 0) (x.list.getD i 0))] (0 + i * 1) (mix8 s x i) = mix8 s x (i + 1) := by
 match i, hi with
 | 0, _ | 1, _ | 2, _ | 3, _ | 4, _ | 5, _ | 6, _ | 7, _ => rfl
theorem mix8_length (s x : S8) (i : Nat) : (mix8 s x i).length = 8 := by
 unfold mix8
 rw [XhC, Xie, Xif]
 show min i 8 + (8 - i) = 8
 omega
section
variable {E : Env} {sg : Bool} (H : Has E)
include H
theorem Xdy (m : Nat) (h : Heap) (x : Int) (n : Nat) (hn : n < 32) (hn0 : 0 < n) : (enter E (ctx E m) U9 [.int .u32 x, .int .i64 (IntKind.i64.wrap (0 - (n : Int)))] h).Wp sg fun v h' => v = .int .u32 (rotr x n) /\ h' = h := by
 refine H.run (k := WQ) rfl rfl rfl ?_
 dsimp only [WQ]
 have e : band .u64 (IntKind.u64.wrap (IntKind.i64.wrap (0 - (n : Int)))) 31 = XhA (32 - n) := by
  revert hn0
  revert n
  decide
 have e2 : IntKind.u64.wrap (XhA 32 - XhA (32 - n)) = XhA n := by
  clear e
  revert hn0
  revert n
  decide
 refine R ?_
 refine Xd (lk_int (Kb rfl rfl rfl) e) ?_
 refine R ?_
 refine Xd (l_shlI rfl rfl) ?_
 refine R ?_
 refine Xd (lk_int (l_subI rfl rfl rfl) e2) ?_
 refine Xd (VW rfl rfl) ?_
 refine Xd (l_orI rfl rfl rfl) ?_
 refine R ?_
 exact ⟨rfl, _, rfl, rfl, rfl⟩
theorem ZF (m : Nat) (h : Heap) (x : Int) (n : Nat) (hn : n < 32) (hn0 : 0 < n) : (enter E (ctx E (m + 1)) f_hash_turn [.int .u32 x, .int .i64 n] h).Wp sg fun v h' => v = .int .u32 (rotr x n) /\ h' = h := by
 refine H.run (k := k_hash_turn) rfl rfl rfl ?_
 dsimp only [k_hash_turn]
 refine R ?_
 refine Xd (l_negI rfl) ?_
 refine X6 (Xi rfl (Xdy H _ _ _ n hn hn0)) ?_
 refine R ?_
 exact ⟨rfl, _, rfl, rfl, rfl⟩
theorem hash_words_ok (m : Nat) (h : Heap) : (enter E (ctx E m) f_hash_words [] h).Wp sg fun v h' => v = .agg ⟨Vo⟩ /\ Ext [] h h' := by
 refine H.run (k := Xgt) rfl rfl rfl ?_
 dsimp only [Xgt]
 refine X9 ?_
 refine Xt fun H1 B1 E1 L1 G1 N1 Q1 => ?_
 refine R ?_
 refine Xd (Yo (Xf (by conv => lhs; whnf) rfl rfl rfl (Xf (by conv => lhs; whnf) rfl rfl rfl (Xf (by conv => lhs; whnf) rfl rfl rfl (Xf (by conv => lhs; whnf) rfl rfl rfl (Xf (by conv => lhs; whnf) rfl rfl rfl (Xf (by conv => lhs; whnf) rfl rfl rfl (Xf (by conv => lhs; whnf) rfl rfl rfl (Xf (by conv => lhs; whnf) rfl rfl rfl (Xf (by conv => lhs; whnf) rfl rfl rfl (Xf (by conv => lhs; whnf) rfl rfl rfl (Xf (by conv => lhs; whnf) rfl rfl rfl (Xf (by conv => lhs; whnf) rfl rfl rfl (Xf (by conv => lhs; whnf) rfl rfl rfl (Xf (by conv => lhs; whnf) rfl rfl rfl (Xf (by conv => lhs; whnf) rfl rfl rfl (Xf (by conv => lhs; whnf) rfl rfl rfl (Xf (by conv => lhs; whnf) rfl rfl rfl (Xf (by conv => lhs; whnf) rfl rfl rfl (Xf (by conv => lhs; whnf) rfl rfl rfl (Xf (by conv => lhs; whnf) rfl rfl rfl (Xf (by conv => lhs; whnf) rfl rfl rfl (Xf (by conv => lhs; whnf) rfl rfl rfl (Xf (by conv => lhs; whnf) rfl rfl rfl (Xf (by conv => lhs; whnf) rfl rfl rfl (Xf (by conv => lhs; whnf) rfl rfl rfl (Xf (by conv => lhs; whnf) rfl rfl rfl (Xf (by conv => lhs; whnf) rfl rfl rfl (Xf (by conv => lhs; whnf) rfl rfl rfl (Xf (by conv => lhs; whnf) rfl rfl rfl (Xf (by conv => lhs; whnf) rfl rfl rfl (Xf (by conv => lhs; whnf) rfl rfl rfl (Xf (by conv => lhs; whnf) rfl rfl rfl (Xf (by conv => lhs; whnf) rfl rfl rfl (Xf (by conv => lhs; whnf) rfl rfl rfl (Xf (by conv => lhs; whnf) rfl rfl rfl (Xf (by conv => lhs; whnf) rfl rfl rfl (Xf (by conv => lhs; whnf) rfl rfl rfl (Xf (by conv => lhs; whnf) rfl rfl rfl (Xf (by conv => lhs; whnf) rfl rfl rfl (Xf (by conv => lhs; whnf) rfl rfl rfl (Xf (by conv => lhs; whnf) rfl rfl rfl (Xf (by conv => lhs; whnf) rfl rfl rfl (Xf (by conv => lhs; whnf) rfl rfl rfl (Xf (by conv => lhs; whnf) rfl rfl rfl (Xf (by conv => lhs; whnf) rfl rfl rfl (Xf (by conv => lhs; whnf) rfl rfl rfl (Xf (by conv => lhs; whnf) rfl rfl rfl (Xf (by conv => lhs; whnf) rfl rfl rfl (Xf (by conv => lhs; whnf) rfl rfl rfl (Xf (by conv => lhs; whnf) rfl rfl rfl (Xf (by conv => lhs; whnf) rfl rfl rfl (Xf (by conv => lhs; whnf) rfl rfl rfl (Xf (by conv => lhs; whnf) rfl rfl rfl (Xf (by conv => lhs; whnf) rfl rfl rfl (Xf (by conv => lhs; whnf) rfl rfl rfl (Xf (by conv => lhs; whnf) rfl rfl rfl (Xf (by conv => lhs; whnf) rfl rfl rfl (Xf (by conv => lhs; whnf) rfl rfl rfl (Xf (by conv => lhs; whnf) rfl rfl rfl (Xf (by conv => lhs; whnf) rfl rfl rfl (Xf (by conv => lhs; whnf) rfl rfl rfl (Xf (by conv => lhs; whnf) rfl rfl rfl (Xf (by conv => lhs; whnf) rfl rfl rfl (Xf (by conv => lhs; whnf) rfl rfl rfl XB))))))))))))))))))))))))))))))))))))))))))))))))))))))))))))))))) ?_
 refine Xm rfl (by conv => lhs; whnf) rfl G1 rfl (XhH rfl) fun H2 E2 L2 G2 => ?_
 refine R ?_
 exact ⟨rfl, _, Xb (Y4 (cs := Vo) rfl G2 (by kernel_rfl)) Xg, rfl, E1.trans1 E2 (by omega)⟩
theorem hash_state_behind_ok (m : Nat) (h : Heap) (s : S8) (bs : LB) (hbs : bs.length = 64) (ao : OA) (ca : Nat) (sl : Slc h 1 ao 64 ca (Xa bs)) : (enter E (ctx E (m + 1000)) Xca [.agg ⟨s.cells⟩, .slice ao 64 ca] h).Wp sg fun v h' => v = .agg ⟨(Jd s bs).cells⟩ /\ Ext [] h h' := by
 refine H.run (k := UR) rfl rfl rfl ?_
 dsimp only [UR]
 obtain ⟨a, wa, xs, rfl, ga, na, ta⟩ := sl.nonempty (by decide)
 refine X9 ?_
 refine X2 (by conv => lhs; whnf) rfl fun H1 B1 E1 L1 G1 N1 Q1 => ?_
 refine Xt fun H2 B2 E2 L2 G2 N2 Q2 => ?_
 refine R ?_
 refine Xt fun H3 B3 E3 L3 G3 N3 Q3 => ?_
 refine R ?_
 refine Yl 16 0 (fun i t x hh => (g23 t = I6 i /\ g5 t = Pt B3 /\ g4 t = Pt B2 /\ g2 t = Pt B1 /\ g1 t = .slice (some a) 64 ca /\ g0 t = .agg ⟨s.cells⟩) /\ x = ax /\ Ext [B3] H3 hh /\ hh.next = H3.next /\ hh.get B3 = some (.cells true ((Yd bs i).map wd ++ XhY (64 - i) (wd 0)))) ⟨⟨rfl, rfl, rfl, rfl, rfl, rfl⟩, rfl, ⟨XhE _, fun _ _ _ => rfl⟩, rfl, G3⟩ (by decide) (XG (by omega)) ?_
 rintro i t x hh hi ⟨⟨r23, r5, r4, r2, r1, r0⟩, rfl, eh, lh, gh⟩
 obtain ⟨t0, rfl⟩ : ∃ t0, t = p23 (I6 i) (p5 (Pt B3) (p4 (Pt B2) (p2 (Pt B1) (p1 (.slice (some a) 64 ca) (p0 (.agg ⟨s.cells⟩) t0))))) := ⟨t, by rw [<- r23, <- r5, <- r4, <- r2, <- r1, <- r0]; rfl⟩
 clear r23 r5 r4 r2 r1 r0
 have ga' := eh.get1 (by omega) (by omega) (E3.get0 (by omega) (E2.get0 (by omega) (E1.get0 na ga)))
 by_cases hlt : i < 16
 ·have wa0 : ∀ k, k < 4 -> nth (a.off + (4 * i + k) * 1) xs = some (byteVal (bs.getD (4 * i + k) 0)) := fun k hk => by
   rw [Yf ta (by omega), XhI, XcH (by omega)]
  have w0 := wa0 0 (by omega)
  have w1 := wa0 1 (by omega)
  have w2 := wa0 2 (by omega)
  have w3 := wa0 3 (by omega)
  rw [Nat.add_zero] at w0
  have hw := XaL bs i
  refine R ?_
  refine Xk (Xc3 rfl rfl (by omega)) rfl ?_
  refine R2 ?_
  refine Xk (l_shlI rfl rfl) rfl ?_
  refine R ?_
  refine Xk (Xc3 rfl rfl (by omega)) rfl ?_
  refine R2 ?_
  refine Xk (l_shlI rfl rfl) rfl ?_
  refine Xk (l_orI rfl rfl rfl) rfl ?_
  refine R ?_
  refine Xk (Xc3 rfl rfl (by omega)) rfl ?_
  refine Xk (ZI rfl rfl (by omega)) rfl ?_
  refine R2 ?_
  refine Xk (l_shlI rfl rfl) rfl ?_
  refine Xk (l_orI rfl rfl rfl) rfl ?_
  refine R ?_
  refine Xk (Xc3 rfl rfl (by omega)) rfl ?_
  refine Xk (ZI rfl rfl (by omega)) rfl ?_
  refine R2 ?_
  refine Xk (l_orI rfl rfl rfl) rfl ?_
  refine R ?_
  refine Yw rfl (by conv => lhs; whnf) rfl gh rfl (by simp only [XhC, XhP, Xi5]; omega) (fun _ => rfl) fun H4 E4 L4 G4 => ?_
  refine R ?_
  refine ⟨hlt, ⟨rfl, rfl, rfl, rfl, rfl, rfl⟩, rfl, eh.same E4, L4.trans lh, ?_⟩
  refine G4.trans (congrArg (fun z => some (AObj.cells true z)) ?_)
  refine Eq.trans (put_arr (n := 64 - (i + 1)) (Yd bs i) _ hw _ (by rw [show 64 - i = 64 - (i + 1) + 1 by omega])) ?_
  show _ = List.map wd (Yd bs i ++ [if i < 16 then wordAt bs i else nextW (Yd bs i)]) ++ _
  rw [if_pos hlt]
  rfl
 ·have h16 : i = 16 := by omega
  refine R ?_
  refine Yl 64 16 (fun i t x hk => (g7 t = I6 i /\ g5 t = Pt B3 /\ g4 t = Pt B2 /\ g2 t = Pt B1) /\ x = ax /\ Ext [B3] H3 hk /\ hk.next = H3.next /\ hk.get B3 = some (.cells true ((Yd bs i).map wd ++ XhY (64 - i) (wd 0))) /\ 16 <= i) ⟨⟨rfl, rfl, rfl, rfl⟩, rfl, eh, lh, h16 ▸ gh, XhE _⟩ (by decide) (XG (by omega)) ?_
  clear hlt h16 hi gh eh lh
  rintro i t x hk hi ⟨⟨r7, r5, r4, r2⟩, rfl, eh, lh, gh, hi16⟩
  obtain ⟨t0, rfl⟩ : ∃ t0, t = p7 (I6 i) (p5 (Pt B3) (p4 (Pt B2) (p2 (Pt B1) t0))) := ⟨t, by rw [<- r7, <- r5, <- r4, <- r2]; rfl⟩
  clear r7 r5 r4 r2
  have hw := XaL bs i
  by_cases hlt : i < 64
  ·have w0 := nth_arr (Yd bs i) (XhY (64 - i) (wd 0)) (j := i - 16) (by omega)
   have w1 := nth_arr (Yd bs i) (XhY (64 - i) (wd 0)) (j := i - 15) (by omega)
   have w2 := nth_arr (Yd bs i) (XhY (64 - i) (wd 0)) (j := i - 7) (by omega)
   have w3 := nth_arr (Yd bs i) (XhY (64 - i) (wd 0)) (j := i - 2) (by omega)
   refine R ?_
   refine Xk (YY rfl rfl (by omega) (by omega)) rfl ?_
   refine R2 ?_
   refine Xk (YY rfl rfl (by omega) (by omega)) rfl ?_
   refine R2 ?_
   refine Xk (YY rfl rfl (by omega) (by omega)) rfl ?_
   refine R2 ?_
   refine Z7 (Xi rfl (ZF H _ _ _ 7 (by decide) (by decide))) (YI rfl (XH (XQ rfl gh w0) rfl) rfl) ?_
   refine R ?_
   refine Z7 (Xi rfl (ZF H _ _ _ 18 (by decide) (by decide))) (YI rfl (XH (XQ rfl gh w0) rfl) rfl) ?_
   refine Xk (Wv rfl rfl rfl) rfl ?_
   refine R ?_
   refine Xk (VW rfl rfl) rfl ?_
   refine Xk (Wv rfl rfl rfl) rfl ?_
   refine Xk (YV rfl rfl rfl) rfl ?_
   refine R ?_
   refine Xk (YY rfl rfl (by omega) (by omega)) rfl ?_
   refine R ?_
   refine Xk (XQ rfl gh (by assumption)) (YH rfl (XH (XQ rfl gh (by assumption)) rfl) (YH rfl (XH (XQ rfl gh (by assumption)) rfl) rfl)) ?_
   refine Xk (YV rfl rfl rfl) rfl ?_
   refine R ?_
   refine Z7 (Xi rfl (ZF H _ _ _ 17 (by decide) (by decide))) (YI rfl (XH (XQ rfl gh w0) rfl) (YI rfl (XH (XQ rfl gh w2) rfl) rfl)) ?_
   refine R ?_
   refine Z7 (Xi rfl (ZF H _ _ _ 19 (by decide) (by decide))) (YI rfl (XH (XQ rfl gh w0) rfl) (YI rfl (XH (XQ rfl gh w2) rfl) rfl)) ?_
   refine Xk (Wv rfl rfl rfl) rfl ?_
   refine R ?_
   refine Xk (VW rfl rfl) rfl ?_
   refine Xk (Wv rfl rfl rfl) rfl ?_
   refine Xk (YV rfl rfl rfl) rfl ?_
   refine R ?_
   refine Yw rfl (by conv => lhs; whnf) rfl gh rfl (by simp only [XhC, XhP, Xi5]; omega) (fun _ => rfl) fun H4 E4 L4 G4 => ?_
   refine R ?_
   refine ⟨hlt, ⟨rfl, rfl, rfl, rfl⟩, rfl, eh.same E4, L4.trans lh, G4.trans (congrArg (fun z => some (AObj.cells true z)) ?_), by omega⟩
   have hq : nextW (Yd bs i) = Zh (Zh (Zh ((Yd bs i).getD (i - 16) 0) (sigP ((Yd bs i).getD (i - 15) 0))) ((Yd bs i).getD (i - 7) 0)) (sigQ ((Yd bs i).getD (i - 2) 0)) := by unfold nextW; rw [hw]
   refine Eq.trans (put_arr (n := 64 - (i + 1)) (Yd bs i) (Zh (Zh (Zh ((Yd bs i).getD (i - 16) 0) (sigP ((Yd bs i).getD (i - 15) 0))) ((Yd bs i).getD (i - 7) 0)) (sigQ ((Yd bs i).getD (i - 2) 0))) hw _ (by rw [show 64 - i = 64 - (i + 1) + 1 by omega])) ?_
   show _ = List.map wd (Yd bs i ++ [if i < 16 then wordAt bs i else nextW (Yd bs i)]) ++ _
   rw [if_neg (by omega), hq]
  ·have h64 : i = 64 := by omega
   have g1' := eh.get1 (by omega) (by omega) (E3.get0 (by omega) (E2.get0 (by omega) G1))
   refine R2 ?_
   refine Xt fun H4 B4 E4 L4 G4 N4 Q4 => ?_
   refine Xm rfl (by conv => lhs; whnf) rfl G4 rfl (XhH rfl) fun H5 E5 L5 G5 => ?_
   refine R ?_
   refine Xj (Xi rfl (hash_words_ok H _ _)) ?_
   rintro v h6 ⟨rfl, e6⟩
   have l6 := e6.next
   refine R ?_
   obtain ⟨W, hW⟩ : ∃ W, W = Yd bs i := ⟨_, rfl⟩
   rw [<- hW] at gh hw
   have gh6 := e6.get0 (by omega) (E5.get1 (by omega) (by omega) (E4.get0 (by omega) gh))
   have g5' := e6.get0 (by omega) G5
   have g16 := e6.get0 (by omega) (E5.get1 (by omega) (by omega) (E4.get0 (by omega) g1'))
   refine Yl 64 0 (fun i t x hk => (g104 t = .agg ⟨Vo⟩ /\ g105 t = I6 i /\ g10 t = Pt B4 /\ g5 t = Pt B3 /\ g4 t = Pt B2 /\ g2 t = Pt B1) /\ x = ax /\ Ext [B4] h6 hk /\ hk.next = h6.next /\ hk.get B4 = some (.cells true (Vn s W i).cells)) ⟨⟨rfl, rfl, rfl, rfl, rfl, rfl⟩, rfl, ⟨XhE _, fun _ _ _ => rfl⟩, rfl, g5'⟩ (by decide) (XG (by omega)) ?_
   rintro j t x hk7 hj ⟨⟨r104, r105, r10, r5, r4, r2⟩, rfl, e7, l7, g7'⟩
   obtain ⟨t0, rfl⟩ : ∃ t0, t = p104 (.agg ⟨Vo⟩) (p105 (I6 j) (p10 (Pt B4) (p5 (Pt B3) (p4 (Pt B2) (p2 (Pt B1) t0))))) := ⟨t, by rw [<- r104, <- r105, <- r10, <- r5, <- r4, <- r2]; rfl⟩
   clear r104 r105 r10 r5 r4 r2
   obtain ⟨X, hX⟩ : ∃ X, X = Vn s W j := ⟨_, rfl⟩
   rw [<- hX] at g7'
   have gw := e7.get1 (by omega) (by omega) gh6
   by_cases hlj : j < 64
   ·have hc := const_at hlj
    have w0 := nth_arr W (XhY (64 - i) (wd 0)) (j := j) (by omega)
    refine R ?_
    refine Xd (l_ixVal1 rfl rfl (by omega) (by assumption)) ?_
    refine R2 ?_
    refine Z7 (Xi rfl (ZF H _ _ _ 6 (by decide) (by decide))) rfl ?_
    refine R ?_
    refine Z7 (Xi rfl (ZF H _ _ _ 11 (by decide) (by decide))) rfl ?_
    refine Xk (Wv rfl rfl rfl) rfl ?_
    refine R ?_
    refine Z7 (Xi rfl (ZF H _ _ _ 25 (by decide) (by decide))) rfl ?_
    refine Xk (Wv rfl rfl rfl) rfl ?_
    refine Xk (YV rfl rfl rfl) rfl ?_
    refine R ?_
    refine Xk (Kb rfl rfl rfl) rfl ?_
    refine R ?_
    refine Xk (l_xorU rfl) rfl ?_
    refine R ?_
    refine Xk (Kb rfl rfl rfl) rfl ?_
    refine Xk (Wv rfl rfl rfl) rfl ?_
    refine Xk (YV rfl rfl rfl) rfl ?_
    refine R ?_
    refine Xk (YV rfl rfl rfl) rfl ?_
    refine R ?_
    refine Xk (XQ rfl gw (by assumption)) (YH rfl (XH (XQ rfl gw (by assumption)) rfl) (YH rfl (XH (XQ rfl gw (by assumption)) rfl) (YH rfl (XH (XQ rfl gw (by assumption)) rfl) rfl))) ?_
    refine Xk (YV rfl rfl rfl) rfl ?_
    refine R ?_
    refine X6 (Xi rfl (ZF H _ _ _ 2 (by decide) (by decide))) ?_
    refine R ?_
    refine X6 (Xi rfl (ZF H _ _ _ 13 (by decide) (by decide))) ?_
    refine Xd (Wv rfl rfl rfl) ?_
    refine R ?_
    refine X6 (Xi rfl (ZF H _ _ _ 22 (by decide) (by decide))) ?_
    refine Xd (Wv rfl rfl rfl) ?_
    refine R ?_
    refine Xd (Kb rfl rfl rfl) ?_
    refine R ?_
    refine Xd (Kb rfl rfl rfl) ?_
    refine Xd (Wv rfl rfl rfl) ?_
    refine R ?_
    refine Xd (Kb rfl rfl rfl) ?_
    refine Xd (Wv rfl rfl rfl) ?_
    refine Xd (YV rfl rfl rfl) ?_
    refine R ?_
    refine Xd (YV rfl rfl rfl) ?_
    refine R2 ?_
    refine Xd (YV rfl rfl rfl) ?_
    refine R ?_
    refine Xd (Yo (Xf (by conv => lhs; whnf) rfl rfl rfl (Xf (by conv => lhs; whnf) rfl rfl rfl (Xf (by conv => lhs; whnf) rfl rfl rfl (Xf (by conv => lhs; whnf) rfl rfl rfl (Xf (by conv => lhs; whnf) rfl rfl rfl (Xf (by conv => lhs; whnf) rfl rfl rfl (Xf (by conv => lhs; whnf) rfl rfl rfl (Xf (by conv => lhs; whnf) rfl rfl rfl XB))))))))) ?_
    refine Xm rfl (by conv => lhs; whnf) rfl g7' rfl (XhH rfl) fun H7 E7 L7 G7 => ?_
    refine R ?_
    refine ⟨hlj, ⟨rfl, rfl, rfl, rfl, rfl, rfl⟩, rfl, e7.same E7, L7.trans l7, ?_⟩
    show _ = some (AObj.cells true ((Vn s W j).rnd (constAt j) (W.getD j 0)).cells)
    rw [<- hX]
    exact G7
   ·have hj64 : j = 64 := by omega
    have g17 := e7.get1 (by omega) (by omega) g16
    refine R ?_
    refine Yl 8 0 (fun i t x hm => (g183 t = I6 i /\ g10 t = Pt B4 /\ g4 t = Pt B2 /\ g2 t = Pt B1) /\ x = ax /\ Ext [B1] hk7 hm /\ hm.next = hk7.next /\ hm.get B1 = some (.cells true (mix8 s X i))) ⟨⟨rfl, rfl, rfl, rfl⟩, rfl, ⟨XhE _, fun _ _ _ => rfl⟩, rfl, g17⟩ (by decide) (XG (by omega)) ?_
    rintro l t x hm hl ⟨⟨r183, r10, r4, r2⟩, rfl, e8, l8, g8'⟩
    obtain ⟨t0, rfl⟩ : ∃ t0, t = p183 (I6 l) (p10 (Pt B4) (p4 (Pt B2) (p2 (Pt B1) t0))) := ⟨t, by rw [<- r183, <- r10, <- r4, <- r2]; rfl⟩
    clear r183 r10 r4 r2
    have gX := e8.get1 (by omega) (by omega) g7'
    by_cases hll : l < 8
    ·have m0 := mix8_at s X hll
     have m1 := X.at hll
     have m2 := mix8_length s X l
     refine R2 ?_
     refine Xk (YV rfl rfl rfl) rfl ?_
     refine R ?_
     refine Yw rfl (by conv => lhs; whnf) rfl g8' rfl (by omega) (fun _ => rfl) fun H8 E8 L8 G8 => ?_
     refine R ?_
     exact ⟨hll, ⟨rfl, rfl, rfl, rfl⟩, rfl, e8.same E8, L8.trans l8, G8.trans (congrArg (fun z => some (AObj.cells true z)) (mix8_put s X hll))⟩
    ·have hl8 : l = 8 := by omega
     have m3 : XU 8 (XY 0 (mix8 s X l)) = some (s.add X).cells := by rw [hl8]; rfl
     have gR := e8.get1 (by omega) (by omega) (e7.get1 (by omega) (by omega) (e6.get0 (by omega) (E5.get1 (by omega) (by omega) (E4.get0 (by omega) (eh.get1 (by omega) (by omega) (E3.get0 (by omega) G2))))))
     refine R2 ?_
     refine Xm rfl (by conv => lhs; whnf) rfl gR rfl (XhH rfl) fun H8 E8 L8 G8 => ?_
     refine R ?_
     refine ⟨rfl, _, Xb (Y4 (cs := (s.add X).cells) rfl G8 rfl) Xg, ?_, ?_⟩
     ·unfold Jd
      rw [h64] at hW
      rw [hj64] at hX
      rw [<- hW, <- hX]
      rfl
     ·exact ((((((((E1.trans E2 (fun s hs => nomatch hs)).trans0 E3).trans1 eh (by omega)).trans0 E4).trans1 E5 (by omega)).trans0 e6).trans1 e7 (by omega)).trans1 e8 (by omega)).trans1 E8 (by omega)
end
def S8.first : S8 := ⟨0x6a09e667, 0xbb67ae85, 0x3c6ef372, 0xa54ff53a, 0x510e527f, 0x9b05688c, 0x1f83d9ab, 0x5be0cd19⟩
def stN (M : LB) : Nat -> S8
 | 0 => S8.first
 | k + 1 => Jd (stN M k) ((M.drop (64 * k)).take 64)
theorem stN_append (M x : LB) : ∀ k, 64 * k <= M.length -> stN (M ++ x) k = stN M k
 | 0, _ => rfl
 | k + 1, h => by
  show Jd (stN (M ++ x) k) _ = Jd (stN M k) _
  rw [stN_append M x k (by omega), List.drop_append_of_le_length (by omega), XjI (by rw [Xif]; omega)]
def YF (s : S8) (part : LB) (n : Nat) : List Value := .bool true :: (s.cells ++ (Xa part ++ [I6 n]))
theorem Je {s : S8} {part : LB} (h : part.length = 64) : (YF s part n).length = 74 := by
 unfold YF
 rw [Xh8, XhC, XhC, Xc, h]; rfl
theorem dig_n {s : S8} {part : LB} (h : part.length = 64) : nth 73 (YF s part n) = some (I6 n) := by
 have e : YF s part n = (.bool true :: s.cells ++ Xa part) ++ (Value.int .i64 (XhA n) :: []) := by unfold YF; simp
 rw [e]
 exact nth_app (by simp [Xc, h, S8.cells])
theorem dig_put_n {s : S8} {part : LB} {m : Nat} (h : part.length = 64) : XZ [I6 m] 73 (YF s part n) = YF s part m := by
 have e : ∀ n, YF s part n = (.bool true :: s.cells ++ Xa part) ++ ([Value.int .i64 (XhA n)] ++ []) := fun n => by unfold YF; simp
 rw [e, e]
 exact Yk (by simp [Xc, h, S8.cells]) rfl
theorem dig_put_s {s s' : S8} {part : LB} : XZ s'.cells 1 (YF s part n) = YF s' part n := rfl
theorem dig_put_b {s : S8} {part x : LB} {o : Nat} (h : part.length = 64) (ho : o + x.length <= 64) : XZ (Xa x) (9 + o) (YF s part n) = YF s (part.take o ++ (x ++ part.drop (o + x.length))) n := by
 have e : YF s part n = (.bool true :: s.cells ++ Xa (part.take o)) ++ (Xa ((part.drop o).take x.length) ++ (Xa (part.drop (o + x.length)) ++ [Value.int .i64 (XhA n)])) := by
  have : part = part.take o ++ ((part.drop o).take x.length ++ part.drop (o + x.length)) := by
   rw [<- Xip, Xiw, Xiw]
  unfold YF
  conv => lhs; rw [this]
  rw [XS, XS]; simp
 rw [e]
 have e2 : YF s (part.take o ++ (x ++ part.drop (o + x.length))) n = (.bool true :: s.cells ++ Xa (part.take o)) ++ (Xa x ++ (Xa (part.drop (o + x.length)) ++ [Value.int .i64 (XhA n)])) := by
  unfold YF
  rw [XS, XS]; simp
 rw [e2]
 refine Yk ?_ ?_
 ·simp [Xc, S8.cells, h]; omega
 ·rw [Xc, Xc, Xie, Xif]; omega
theorem dig_part {s : S8} {part : LB} (h : part.length = 64) : XU 64 (XY 9 (YF s part n)) = some (Xa part) := by
 have e : YF s part n = (.bool true :: s.cells) ++ (Xa part ++ [Value.int .i64 (XhA n)]) := by unfold YF; simp
 rw [e]
 exact XeC rfl (by rw [Xc, h])
def Dg (h : Heap) (b : Nat) (M : LB) : Prop := ∃ part, part.length = 64 /\ part.take (M.length % 64) = M.drop (64 * (M.length / 64)) /\ h.get b = some (.cells true (YF (stN M (M.length / 64)) part M.length)) /\ b < h.next
theorem part_more {M part x : LB} (h1 : part.length = 64) (h2 : part.take (M.length % 64) = M.drop (64 * (M.length / 64))) (hx : M.length % 64 + x.length <= 64) :
  (part.take (M.length % 64) ++ (x ++ part.drop (M.length % 64 + x.length))).length = 64 /\ (part.take (M.length % 64) ++ (x ++ part.drop (M.length % 64 + x.length))).take (M.length % 64 + x.length) = (M ++ x).drop (64 * (M.length / 64)) := by
 constructor
 ·simp [h1]; omega
 ·rw [h2, List.drop_append_of_le_length (by omega), <- Xh1]
  have hl : (M.drop (64 * (M.length / 64)) ++ x).length = M.length % 64 + x.length := by rw [XhC, Xif]; omega
  rw [XjI (by omega), <- hl, Xh7]
def YX (n : Nat) : Nat := 1 + (119 - n % 64) % 64
def be8 (n : Nat) : LB := (Xir 8).map fun i => W4 (U1 .u64 (IntKind.u64.wrap (IntKind.u64.wrap (n : Int) * 8)) (56 - 8 * i))
def XbP (n : Nat) : LB := (128 :: XhY (YX n - 1) 0) ++ be8 n
def outB (s : S8) : LB := (Xir 32).map fun m => W4 (U1 .u32 (s.list.getD (m / 4) 0) (24 - 8 * (m % 4)))
def Sha (M : LB) : LB := outB (stN (M ++ XbP M.length) ((M ++ XbP M.length).length / 64))
theorem X5 (M : LB) : (Sha M).length = 32 := by unfold Sha outB; rw [XhP, Xjr]
theorem getD_range {f : Nat -> UInt8} {N m : Nat} (h : m < N) : ((Xir N).map f).getD m 0 = f m := by
 rw [Xih, Xic, List.getElem?_range h]; rfl
theorem XaG (n : Nat) : 1 <= YX n /\ YX n <= 64 := by unfold YX; omega
theorem be8_length (n : Nat) : (be8 n).length = 8 := by unfold be8; rw [XhP, Xjr]
theorem XdY (n : Nat) : (XbP n).length = YX n + 8 := by
 have := XaG n
 unfold XbP; rw [XhC, Xh8, Xi5, be8_length]; omega
theorem padF_zero (n : Nat) : Uw (XbP n) 72 (YX n) = 128 :: XhY 71 0 := by
 have := XaG n
 unfold Uw XbP
 rw [List.take_left' (by rw [Xh8, Xi5]; omega), List.cons_append, List.replicate_append_replicate]
 congr 2
 omega
theorem padF_get (hi : i < 8) : (XbP n).getD (YX n + i) 0 = W4 (U1 .u64 (IntKind.u64.wrap (IntKind.u64.wrap (n : Int) * 8)) (56 - 8 * i)) := by
 have := XaG n
 have hl : ((128 : UInt8) :: XhY (YX n - 1) 0).length = YX n := by rw [Xh8, Xi5]; omega
 unfold XbP
 rw [Xih, List.getElem?_append_right (by omega), hl, Nat.add_sub_cancel_left, <- Xih]
 exact getD_range hi
theorem padF_all (n : Nat) : Uw (XbP n) 72 (YX n + 8) = XbP n ++ XhY (72 - (YX n + 8)) 0 := by
 unfold Uw; rw [<- XdY, Xh7]
section
variable {E : Env} {sg : Bool} (H : Has E)
include H
theorem K9 (m : Nat) (h : Heap) (b : Nat) (w : Bool) (xs : List Value) (g : h.get b = some (.cells w (.bool true :: xs))) : (enter E (ctx E m) Xa1 [Pt b] h).Wp sg fun v h' => v = .bool false /\ h' = h := by
 refine H.run (k := V5) rfl rfl rfl ?_
 dsimp only [V5]
 refine R ?_
 refine Xd rfl ?_
 refine R2 ?_
 exact ⟨rfl, _, rfl, rfl, rfl⟩
theorem hash_first_ok (m : Nat) (h : Heap) : (enter E (ctx E m) f_hash_first [] h).Wp sg fun v h' => v = .agg ⟨S8.first.cells⟩ /\ Ext [] h h' := by
 refine H.run (k := Xgp) rfl rfl rfl ?_
 dsimp only [Xgp]
 refine X9 ?_
 refine Xt fun H1 B1 E1 L1 G1 N1 Q1 => ?_
 refine R ?_
 refine Xd (Yo (Xf (by conv => lhs; whnf) rfl rfl rfl (Xf (by conv => lhs; whnf) rfl rfl rfl (Xf (by conv => lhs; whnf) rfl rfl rfl (Xf (by conv => lhs; whnf) rfl rfl rfl (Xf (by conv => lhs; whnf) rfl rfl rfl (Xf (by conv => lhs; whnf) rfl rfl rfl (Xf (by conv => lhs; whnf) rfl rfl rfl (Xf (by conv => lhs; whnf) rfl rfl rfl XB))))))))) ?_
 refine Xm rfl (by conv => lhs; whnf) rfl G1 rfl (XhH rfl) fun H2 E2 L2 G2 => ?_
 refine R ?_
 exact ⟨rfl, _, Xb (Y4 (cs := S8.first.cells) rfl G2 rfl) Xg, rfl, E1.trans1 E2 (by omega)⟩
theorem hash_New_ok (m : Nat) (h : Heap) : (enter E (ctx E (m + 1)) f_hash_New [] h).Wp sg fun v h' => ∃ b, v = Pt b /\ h.next <= b /\ Dg h' b [] /\ Ext [] h h' := by
 refine H.run (k := k_hash_New) rfl rfl rfl ?_
 dsimp only [k_hash_New]
 refine R ?_
 refine Xj (Xi rfl (hash_first_ok H _ _)) ?_
 rintro v h1 ⟨rfl, e1⟩
 have l1 := e1.next
 refine Xd (Yo (Xf (by conv => lhs; whnf) rfl rfl rfl (Xf (by conv => lhs; whnf) rfl rfl rfl XB))) ?_
 refine X2 (by conv => lhs; whnf) rfl fun H2 B2 E2 L2 G2 N2 Q2 => ?_
 refine R ?_
 refine ⟨rfl, _, rfl, _, rfl, by omega, ⟨XhY 64 0, rfl, rfl, G2, N2⟩, e1.trans0 E2⟩
theorem XbQ (m : Nat) (hm : 100000000 <= m) (h : Heap) (b : Nat) (M bs : LB) (ao : OA) (ca : Nat) (d : Dg h b M) (k : Nat) (hk : bs.length = k) (sl : Slc h 1 ao k ca (Xa bs)) (hao : ∀ a, ao = some a -> a.block ≠ b) (hbig : M.length + k < 100000000) :
  (enter E (ctx E (m + 1002)) Xb5 [Pt b, .slice ao k ca] h).Wp sg fun v h' => v = .tuple ⟨[]⟩ /\ Dg h' b (M ++ bs) /\ Ext [b] h h' := by
 subst hk
 refine H.run (k := UL) rfl rfl rfl ?_
 dsimp only [UL]
 refine R ?_
 obtain ⟨part0, p1, p2, p3, p4⟩ := d
 refine X6 (Xi rfl (K9 H _ _ b true _ p3)) ?_
 refine R ?_
 have d : Dg h b M := ⟨part0, p1, p2, p3, p4⟩
 clear p1 p2 p3
 refine XdH (fun q t x hk => ∃ j ao' ca', j <= bs.length /\ q = bs.length - j /\ (g1 t = .slice ao' (bs.length - j) ca' /\ g0 t = Pt b) /\ x = ax /\ Slc hk 1 ao' (bs.length - j) ca' ((Xa bs).drop j) /\ (∀ a, ao' = some a -> a.block ≠ b) /\ Dg hk b (M ++ bs.take j) /\ Ext [b] h hk) bs.length ⟨0, ao, ca, XhO _, rfl, ⟨rfl, rfl⟩, rfl, sl, hao, by rw [List.take_zero, Xij]; exact d, ⟨XhE _, fun _ _ _ => rfl⟩⟩ (XG (by omega)) ?_
 clear sl hao
 rintro q t x hk ⟨j, ao', ca', hj, rfl, ⟨r1, r0⟩, rfl, sl, hao, d', ek⟩
 obtain ⟨t0, rfl⟩ : ∃ t0, t = p1 (.slice ao' (bs.length - j) ca') (p0 (Pt b) t0) := ⟨t, by rw [<- r1, <- r0]; rfl⟩
 clear r1 r0
 have lk := ek.next
 by_cases hlt : j < bs.length
 ·obtain ⟨part, d1, d2, d3, d4⟩ := d'
  have hM : (M ++ bs.take j).length = M.length + j := by rw [XhC, Xie]; omega
  obtain ⟨L, hL⟩ : ∃ L, L = (M ++ bs.take j).length := ⟨_, rfl⟩
  rw [<- hL] at d2 d3 hM
  have hn := dig_n (s := stN (M ++ bs.take j) (L / 64)) (n := L) d1
  have hLen := Je (s := stN (M ++ bs.take j) (L / 64)) (n := L) d1
  have c1 : 0 < bs.length - j := by omega
  refine R2 ?_
  refine Xk (Xga rfl rfl (by omega)) rfl ?_
  refine Xk (Jk rfl rfl rfl (by omega) (by omega) (by omega)) rfl ?_
  refine R ?_
  obtain ⟨k, hk0⟩ : ∃ k, k = min (64 - L % 64) (bs.length - j) := ⟨_, rfl⟩
  refine wp_dCopy sl rfl rfl d3 hk0 (by omega) (by rw [hLen]; omega) (fun _ => rfl) fun H1 E1 L1 G1 => ?_
  obtain ⟨y, hy⟩ : ∃ y, y = (bs.drop j).take k := ⟨_, rfl⟩
  have hyl : y.length = k := by rw [hy, Xie, Xif]; omega
  obtain ⟨part', hp'⟩ : ∃ part', part' = part.take (L % 64) ++ (y ++ part.drop (L % 64 + y.length)) := ⟨_, rfl⟩
  have pm := part_more (x := y) d1 (by rw [<- hL]; exact d2) (by rw [<- hL]; omega)
  rw [<- hL, <- hp', hyl] at pm
  obtain ⟨pm1, pm2⟩ := pm
  have hM2 : M ++ bs.take (j + k) = M ++ bs.take j ++ y := by rw [Xh1, hy, List.take_add]
  have G1' : H1.get b = some (.cells true (YF (stN (M ++ bs.take j) (L / 64)) part' L)) := by
   rw [G1, XhI, U3, U2, <- hy]
   show some (AObj.cells true (XZ (Xa y) (9 + (L % 64) * 1) _)) = _
   rw [XhI, dig_put_b d1 (by omega), hp', hyl]
  have hn1 := dig_n (s := stN (M ++ bs.take j) (L / 64)) (n := L) pm1
  have hLen1 := Je (s := stN (M ++ bs.take j) (L / 64)) (n := L) pm1
  clear G1
  refine R2 ?_
  refine Xd (ZI rfl rfl (by omega)) ?_
  refine R ?_
  refine Xm rfl (by conv => lhs; whnf) rfl G1' rfl (by omega) fun H2 E2 L2 G2 => ?_
  refine R ?_
  have G2' : H2.get b = some (.cells true (YF (stN (M ++ bs.take j) (L / 64)) part' (L + k))) := by
   rw [G2]
   exact congrArg (fun z => some (AObj.cells true z)) (dig_put_n pm1)
  clear G2
  have sl2 := (sl.ext1 E1 hao).ext1 E2 hao
  refine Xal sl2 rfl rfl rfl (by omega) (XhE _) fun ao3 ca3 sl3 ft3 => ?_
  have hlen3 : (M ++ bs.take (j + k)).length = L + k := by rw [hM2, XhC, <- hL, hyl]
  have hcs : ((List.drop j (Xa bs)).drop (k * 1)).take ((bs.length - j - k) * 1) = (Xa bs).drop (j + k) := by
   rw [XhI, XhI, Xip, List.take_of_length_le (by rw [Xif, Xc]; omega)]
  rw [hcs] at sl3
  have hao3 : ∀ a, ao3 = some a -> a.block ≠ b := fun a ha => by
   obtain ⟨a', e1, e2⟩ := ft3 a ha
   rw [e2]; exact hao a' e1
  have hn2 := dig_n (s := stN (M ++ bs.take j) (L / 64)) (n := L + k) pm1
  have hsub : bs.length - j - k = bs.length - (j + k) := by omega
  rw [hsub] at sl3 ⊢
  by_cases hz : (L + k) % 64 = 0
  ·refine R2 ?_
   refine Xd (Xga rfl rfl (by omega)) ?_
   refine R2 ?_
   refine Xk (Jk rfl rfl rfl (by omega) (by omega) (by omega)) rfl ?_
   refine YL (Xi rfl (hash_state_behind_ok H _ _ _ part' pm1 _ _ (Slc.of_part G2' (by omega) (by rw [Xc, pm1]) (XhE _) (dig_part pm1)))) (fun _ _ _ => rfl) ?_
   rintro v H3 ⟨rfl, E3⟩
   have L3 := E3.next
   have G3' := E3.get0 (by omega) G2'
   refine R ?_
   refine Yw rfl (by conv => lhs; whnf) rfl G3' rfl (XhH rfl) (fun _ => rfl) fun H4 E4 L4 G4 => ?_
   refine XdI ?_
   refine ⟨bs.length - (j + k), by omega, j + k, ao3, ca3, by omega, rfl, ⟨rfl, rfl⟩, rfl, (sl3.ext E3).ext1 E4 hao3, hao3, ?_, ((ek.same E1).same E2).trans0 E3 |>.same E4⟩
   refine ⟨part', pm1, ?_, ?_, by omega⟩
   ·rw [hlen3, hz, List.take_zero, Xjq (by rw [hlen3]; omega)]
   ·rw [G4, hlen3]
    have q1 : (L + k) / 64 = L / 64 + 1 := by omega
    have q2 : stN (M ++ bs.take (j + k)) ((L + k) / 64) = Jd (stN (M ++ bs.take j) (L / 64)) part' := by
     rw [q1]
     show Jd (stN _ (L / 64)) _ = _
     rw [hM2, stN_append _ _ _ (by omega)]
     congr 1
     rw [<- pm2, List.take_take]
     have : min 64 (L % 64 + k) = part'.length := by omega
     rw [this, Xh7]
    rw [q2]
    exact congrArg (fun z => some (AObj.cells true z)) dig_put_s
  ·refine R2 ?_
   refine Xd (Xga rfl rfl (by omega)) ?_
   refine R ?_
   refine ⟨bs.length - (j + k), by omega, j + k, ao3, ca3, by omega, rfl, ⟨rfl, rfl⟩, rfl, sl3, hao3, ?_, (ek.same E1).same E2⟩
   refine ⟨part', pm1, ?_, ?_, by omega⟩
   ·have q1 : (L + k) / 64 = L / 64 := by omega
    have q2 : (L + k) % 64 = L % 64 + k := by omega
    rw [hlen3, q1, q2, pm2, hM2]
   ·rw [hlen3]
    have q1 : (L + k) / 64 = L / 64 := by omega
    rw [q1, hM2, stN_append _ _ _ (by omega)]
    exact G2'
 ·refine R ?_
  have hje : j = bs.length := by omega
  refine ⟨rfl, _, Xg, rfl, ?_, ek⟩
  rw [hje, Xh7] at d'
  exact d'
theorem hash_Digest_Sum_ok (m : Nat) (hm : 100000000 <= m) (h : Heap) (b : Nat) (M : LB) (d : Dg h b M) (hbig : M.length < 90000000) :
  (enter E (ctx E (m + 1003)) XdM [Pt b] h).Wp sg fun v h' => v = .agg ⟨Xa (Sha M)⟩ /\ Ext [] h h' := by
 refine H.run (k := Kw) rfl rfl rfl ?_
 dsimp only [Kw]
 refine X9 ?_
 refine Xt fun H1 B1 E1 L1 G1 N1 Q1 => ?_
 refine R ?_
 obtain ⟨part, d1, d2, d3, d4⟩ := d
 have g1 := E1.get0 (by omega) d3
 refine X6 (Xi rfl (K9 H _ _ b true _ g1)) ?_
 obtain ⟨S, hS⟩ : ∃ S, S = stN M (M.length / 64) := ⟨_, rfl⟩
 obtain ⟨n, hn⟩ : ∃ n, n = M.length := ⟨_, rfl⟩
 rw [<- hS] at g1
 have hall := XK (Je (s := S) (n := M.length) d1)
 have hlen := Je (s := S) (n := M.length) d1
 have hnn := dig_n (s := S) (n := M.length) d1
 refine R2 ?_
 refine Xt fun H2 B2 E2 L2 G2 N2 Q2 => ?_
 refine Xm rfl (by conv => lhs; whnf) rfl G2 (by assumption) (XhH rfl) fun H3 E3 L3 G3 => ?_
 refine R ?_
 refine Xd (Yo (Xf (by conv => lhs; whnf) rfl rfl rfl XB)) ?_
 refine Xt fun H4 B4 E4 L4 G4 N4 Q4 => ?_
 refine Xm rfl (by conv => lhs; whnf) rfl G4 rfl (XhH rfl) fun H5 E5 L5 G5 => ?_
 refine R ?_
 have T6 := E2.get0 (by omega) g1
 have T7 := E3.get1 (by omega) (by omega) T6
 have T8 := E4.get0 (by omega) T7
 have T9 := E5.get1 (by omega) (by omega) T8
 refine R2 ?_
 refine Xd (Xga rfl rfl (by omega)) ?_
 refine Xd (YY rfl rfl (by omega) (by omega)) ?_
 refine Xd (Xga rfl rfl (by omega)) ?_
 refine Xd (ZI rfl rfl (by omega)) ?_
 refine R2 ?_
 refine Xd (l_mulI rfl rfl rfl) ?_
 refine R ?_
 have gx : H3.get B2 = some (.cells true (YF S part M.length)) := G3.trans (congrArg (fun z => some (AObj.cells true z)) (Yq (hlen.trans rfl)))
 have gr : H5.get B4 = some (.cells true (Xa (Uw (XbP M.length) 72 (YX M.length)))) := by
  rw [padF_zero]
  exact G5.trans (congrArg (fun z => some (AObj.cells true z)) (show _ = Xa (128 :: XhY 71 0) by kernel_rfl))
 have gx5 := E5.get1 (by omega) (by omega) (E4.get0 (by omega) gx)
 have l1 := XaG M.length
 have l2 := XdY M.length
 refine Yl 8 0 (fun i t x hk => (g33 t = I6 i /\ g6 t = .int .u64 (IntKind.u64.wrap (IntKind.u64.wrap (M.length : Int) * 8)) /\ g5 t = .int .i64 (XhA (YX M.length)) /\ g4 t = Pt B4 /\ g3 t = Pt B2 /\ g2 t = Pt B1) /\ x = ax /\ Ext [B4] H5 hk /\ hk.next = H5.next /\ hk.get B4 = some (.cells true (Xa (Uw (XbP M.length) 72 (YX M.length + i))))) ⟨⟨rfl, rfl, rfl, rfl, rfl, rfl⟩, rfl, ⟨XhE _, fun _ _ _ => rfl⟩, rfl, gr⟩ (by decide) (XG (by omega)) ?_
 rintro i t x hk hi ⟨⟨r33, r6, r5, r4, r3, r2⟩, rfl, ek, lk, gk⟩
 obtain ⟨t0, rfl⟩ : ∃ t0, t = p33 (I6 i) (p6 (.int .u64 (IntKind.u64.wrap (IntKind.u64.wrap (M.length : Int) * 8))) (p5 (.int .i64 (XhA (YX M.length))) (p4 (Pt B4) (p3 (Pt B2) (p2 (Pt B1) t0))))) := ⟨t, by rw [<- r33, <- r6, <- r5, <- r4, <- r3, <- r2]; rfl⟩
 clear r33 r6 r5 r4 r3 r2
 by_cases hlt : i < 8
 ·have hl72 : (Xa (Uw (XbP M.length) 72 (YX M.length + i))).length = 72 := by rw [Xc]; exact fillB_length (by omega) (by omega)
  refine R ?_
  refine Xd (ZI rfl rfl (by omega)) ?_
  refine R ?_
  refine Xd (Xc3 rfl rfl (by omega)) ?_
  refine Xd (YY rfl rfl (by omega) (by omega)) ?_
  refine Xd (VW rfl rfl) ?_
  refine R ?_
  refine Xm rfl (by conv => lhs; whnf) rfl gk rfl (by omega) fun H20 E20 L20 G20 => ?_
  refine R ?_
  refine ⟨hlt, ⟨rfl, rfl, rfl, rfl, rfl, rfl⟩, rfl, ek.same E20, L20.trans lk, ?_⟩
  rw [G20, Xc4]
  have := fillB_put (l := XbP M.length) (N := 72) (m := YX M.length + i) (by omega) (by omega)
  rw [padF_get hlt] at this
  exact congrArg (fun z => some (AObj.cells true z)) this
 ·have hi8 : i = 8 := by omega
  refine R ?_
  refine Xd (ZI rfl rfl (by omega)) ?_
  refine Xd (Jk rfl rfl rfl (by omega) (by omega) (by omega)) ?_
  have dx : Dg hk B2 M := ⟨part, d1, d2, by rw [<- hS]; exact ek.get1 (by omega) (by omega) gx5, by omega⟩
  rw [hi8, padF_all] at gk
  have sl : Slc hk 1 (some ⟨B4, 0 + 0 * 1, none⟩) (YX M.length + 8 - 0) (72 - 0) (Xa (XbP M.length)) := by
   refine Slc.of_part gk (by omega) (by rw [Xc]; omega) (by omega) ?_
   rw [XS, VR, UZ]
   have e : (YX M.length + 8 - 0) * 1 = (Xa (XbP M.length)).length := by rw [Xc]; omega
   rw [e, if_pos (by simp)]
   simp
  refine Xj (Xi rfl (XbQ H _ hm _ _ _ _ _ _ dx _ (by omega) sl (fun a e => by cases e; show B4 ≠ B2; omega) (by omega))) ?_
  rintro v H21 ⟨rfl, d21, E21⟩
  have L21 := E21.next
  obtain ⟨S2, hS2⟩ : ∃ S2, S2 = stN (M ++ XbP M.length) ((M ++ XbP M.length).length / 64) := ⟨_, rfl⟩
  obtain ⟨part2, f1, f2, f3, f4⟩ := d21
  rw [<- hS2] at f3
  have hw2 : XU 8 (XY 1 (YF S2 part2 (M ++ XbP M.length).length)) = some S2.cells := rfl
  refine R ?_
  refine Xt fun H22 B22 E22 L22 G22 N22 Q22 => ?_
  refine R ?_
  have T23 := E22.get0 (by omega) f3
  refine R2 ?_
  obtain ⟨ob, hob⟩ : ∃ ob, ob = outB S2 := ⟨_, rfl⟩
  have hol : ob.length = 32 := by rw [hob]; unfold outB; rw [XhP, Xjr]
  have g0' : H22.get B22 = some (.cells true (Xa (Uw ob 32 0))) := by rw [fillB_zero]; exact G22
  refine Yl 8 0 (fun i t x hk => (g53 t = I6 i /\ g52 t = .agg ⟨S2.cells⟩ /\ g8 t = Pt B22 /\ g2 t = Pt B1) /\ x = ax /\ Ext [B22] H22 hk /\ hk.next = H22.next /\ hk.get B22 = some (.cells true (Xa (Uw ob 32 (4 * i))))) ⟨⟨rfl, rfl, rfl, rfl⟩, rfl, ⟨XhE _, fun _ _ _ => rfl⟩, rfl, g0'⟩ (by decide) (XG (by omega)) ?_
  clear hlt hi8 hi
  rintro i t x hk2 hi ⟨⟨r53, r52, r8, r2⟩, rfl, e2, l2', gk2⟩
  obtain ⟨t0, rfl⟩ : ∃ t0, t = p53 (I6 i) (p52 (.agg ⟨S2.cells⟩) (p8 (Pt B22) (p2 (Pt B1) t0))) := ⟨t, by rw [<- r53, <- r52, <- r8, <- r2]; rfl⟩
  clear r53 r52 r8 r2
  by_cases hlt : i < 8
  ·have hat : nth i S2.cells = some (wd (S2.list.getD i 0)) := by have := S2.at hlt; rw [XhT, XhI] at this; exact this
   refine R ?_
   refine Xd (l_ixVal1 rfl rfl (by omega) (by assumption)) ?_
   refine R ?_
   refine Yl 4 0 (fun k t x hk => (g57 t = I6 k /\ g53 t = I6 i /\ g52 t = .agg ⟨S2.cells⟩ /\ g10 t = wd (S2.list.getD i 0) /\ g9 t = I6 i /\ g8 t = Pt B22 /\ g2 t = Pt B1) /\ x = ax /\ Ext [B22] H22 hk /\ hk.next = H22.next /\ hk.get B22 = some (.cells true (Xa (Uw ob 32 (4 * i + k))))) ⟨⟨rfl, rfl, rfl, rfl, rfl, rfl, rfl⟩, rfl, e2, l2', gk2⟩ (by decide) (XG (by omega)) ?_
   clear e2 l2' gk2
   rintro k t x hk3 hk ⟨⟨r57, r53, r52, r10, r9, r8, r2⟩, rfl, e2, l2', gk2⟩
   obtain ⟨t0, rfl⟩ : ∃ t0, t = p57 (I6 k) (p53 (I6 i) (p52 (.agg ⟨S2.cells⟩) (p10 (wd (S2.list.getD i 0)) (p9 (I6 i) (p8 (Pt B22) (p2 (Pt B1) t0)))))) := ⟨t, (show t = p57 (g57 t) (p53 (g53 t) (p52 (g52 t) (p10 (g10 t) (p9 (g9 t) (p8 (g8 t) (p2 (g2 t) t)))))) from rfl).trans (by rw [r57, r53, r52, r10, r9, r8, r2])⟩
   clear r57 r53 r52 r10 r9 r8 r2
   by_cases hkl : k < 4
   ·have hl32 : (Xa (Uw ob 32 (4 * i + k))).length = 32 := by rw [Xc]; exact fillB_length (by omega) (by omega)
    refine R ?_
    refine Xd (Xc3 rfl rfl (by omega)) ?_
    refine R ?_
    refine Xd (ZI rfl rfl (by omega)) ?_
    refine R ?_
    refine Xd (Xc3 rfl rfl (by omega)) ?_
    refine Xd (YY rfl rfl (by omega) (by omega)) ?_
    refine Xd (VW rfl rfl) ?_
    refine R ?_
    refine Xm rfl (by conv => lhs; whnf) rfl gk2 rfl (by omega) fun H30 E30 L30 G30 => ?_
    refine R ?_
    refine ⟨hkl, ⟨rfl, rfl, rfl, rfl, rfl, rfl, rfl⟩, rfl, e2.same E30, L30.trans l2', ?_⟩
    rw [G30, Xc4]
    have hp := fillB_put (l := ob) (N := 32) (m := 4 * i + k) (by omega) (by omega)
    have hq : ob.getD (4 * i + k) 0 = W4 (U1 .u32 (S2.list.getD i 0) (24 - 8 * k)) := by
     rw [hob]
     unfold outB
     rw [getD_range (by omega), show (4 * i + k) / 4 = i by omega, show (4 * i + k) % 4 = k by omega]
    rw [hq] at hp
    exact congrArg (fun z => some (AObj.cells true z)) hp
   ·have hk4 : k = 4 := by omega
    refine R ?_
    refine ⟨hlt, ⟨rfl, rfl, rfl, rfl⟩, rfl, e2, l2', ?_⟩
    rw [gk2, hk4]; rfl
  ·have hi8 : i = 8 := by omega
   rw [hi8, fillB_all hol] at gk2
   have ht : XU 32 (XY 0 (Xa ob)) = some (Xa ob) := XK (by rw [Xc, hol])
   have hol' : (Xa ob).length = 32 := by rw [Xc, hol]
   have gf := e2.get1 (by omega) (by omega) (E22.get0 (by omega) (E21.get1 (by omega) (by omega) (ek.get1 (by omega) (by omega) (E5.get1 (by omega) (by omega) (E4.get0 (by omega) (E3.get1 (by omega) (by omega) (E2.get0 (by omega) G1)))))))
   refine R2 ?_
   refine Xm rfl (by conv => lhs; whnf) rfl gf (by assumption) (XhH rfl) fun H30 E30 L30 G30 => ?_
   refine R ?_
   refine ⟨rfl, _, Xb (Y4 (cs := Xa ob) rfl G30 ?_) Xg, ?_, ?_⟩
   ·show XU 32 (XY 0 (XZ (Xa ob) 0 _)) = _
    rw [Yq hol']
    exact ht
   ·rw [hob, hS2]; rfl
   ·exact ((((((((E1.trans0 E2).trans1 E3 (by omega)).trans0 E4).trans1 E5 (by omega)).trans1 ek (by omega)).trans1 E21 (by omega)).trans0 E22).trans1 e2 (by omega)).trans1 E30 (by omega)
theorem hash_Sum_ok (m : Nat) (hm : 100000000 <= m) (h : Heap) (bs : LB) (ao : OA) (n ca : Nat) (hn : bs.length = n) (sl : Slc h 1 ao n ca (Xa bs)) (hbig : n < 90000000) :
  (enter E (ctx E (m + 1004)) f_hash_Sum [.slice ao n ca] h).Wp sg fun v h' => v = .agg ⟨Xa (Sha bs)⟩ /\ Ext [] h h' := by
 refine H.run (k := k_hash_Sum) rfl rfl rfl ?_
 dsimp only [k_hash_Sum]
 refine X9 ?_
 refine Xt fun H1 B1 E1 L1 G1 N1 Q1 => ?_
 refine R ?_
 refine Xj (Xi rfl (hash_New_ok H _ _)) ?_
 rintro v H2 ⟨b, rfl, hb, d, E2⟩
 have L2 := E2.next
 have hbn : b < H2.next := by obtain ⟨_, _, _, _, q⟩ := d; exact q
 refine R ?_
 have sl2 := (sl.ext E1).ext E2
 have foot : ∀ a, ao = some a -> a.block ≠ b := fun a ha => by obtain ⟨w, xs, q1, q2, q3⟩ := sl.rd a ha; omega
 refine Xj (Xi rfl (XbQ H _ (by omega) _ _ _ bs _ _ d _ hn sl2 foot (by rw [List.length_nil]; omega))) ?_
 rintro v H3 ⟨rfl, d3, E3⟩
 have L3 := E3.next
 rw [Xib] at d3
 refine R ?_
 refine Xj (Xi rfl (hash_Digest_Sum_ok H _ (by omega) _ _ _ d3 (by omega))) ?_
 rintro v H4 ⟨rfl, E4⟩
 have L4 := E4.next
 have gf := E4.get0 (by omega) (E3.get1 (by omega) (by omega) (E2.get0 (by omega) G1))
 have hs32 : (Xa (Sha bs)).length = 32 := by rw [Xc, X5]
 refine Xm rfl (by conv => lhs; whnf) rfl gf rfl (XhH rfl) fun H5 E5 L5 G5 => ?_
 refine R ?_
 refine ⟨rfl, _, Xb (Y4 (cs := Xa (Sha bs)) rfl G5 ?_) Xg, rfl, ?_⟩
 ·show XU 32 (XY 0 (XZ (Xa (Sha bs)) 0 _)) = _
  rw [Yq hs32]
  exact XK hs32
 ·exact (((E1.trans0 E2).trans1 E3 (by omega)).trans0 E4).trans1 E5 (by omega)
end
theorem UX {ao : OA} (q : ∀ a, ao = some a -> a.block ≠ b) : b ∉ XD ao := by
 cases ao with
 | none => exact fun h => nomatch h
 | some a => exact fun h => q a rfl (XhB.1 h).symm
def XA (k : Nat) : LB := if k < 128 then [UInt8.ofNat k] else UInt8.ofNat (k % 128 + 128) :: XA (k / 128)
termination_by k
decreasing_by omega
theorem YB {k : Nat} (h : k < 128) : XA k = [UInt8.ofNat k] := by rw [XA, if_pos h]
theorem WR {k : Nat} (h : ¬ k < 128) : XA k = UInt8.ofNat (k % 128 + 128) :: XA (k / 128) := by rw [XA, if_neg h]
theorem encInt_pos (k : Nat) : 0 < (XA k).length := by
 by_cases h : k < 128
 ·rw [YB h]; exact Nat.one_pos
 ·rw [WR h]; exact Nat.succ_pos _
def wrCells (ao : OA) (n ca : Nat) : List Value := [.bool true, .slice ao n ca, I6 0, I6 0]
def Wr (h : Heap) (b base : Nat) (bs : LB) : Prop :=
 ∃ ao ca, Own h 1 ao bs.length ca (Xa bs) /\ h.get b = some (.cells true (wrCells ao bs.length ca)) /\ b < h.next /\ base <= b /\ (∀ a, ao = some a -> a.block ≠ b) /\ ∀ a, ao = some a -> base <= a.block
section
variable {E : Env} {sg : Bool} (H : Has E)
include H
theorem VL (m : Nat) (h : Heap) (b : Nat) (w : Bool) (xs : List Value) (g : h.get b = some (.cells w (.bool true :: xs))) : (enter E (ctx E m) XeN [Pt b] h).Wp sg fun v h' => v = .bool false /\ h' = h := by
 refine H.run (k := XaC) rfl rfl rfl ?_
 dsimp only [XaC]
 refine R ?_
 refine Xd rfl ?_
 refine R2 ?_
 exact ⟨rfl, _, rfl, rfl, rfl⟩
theorem We (m : Nat) (h : Heap) (b : Nat) (w : Bool) (xs : List Value) (g : h.get b = some (.cells w (.bool true :: xs))) : (enter E (ctx E (m + 1)) Xa5 [Pt b] h).Wp sg fun v h' => v = .bool false /\ h' = h := by
 refine H.run (k := Ua) rfl rfl rfl ?_
 dsimp only [Ua]
 refine R ?_
 refine Xd rfl ?_
 refine R ?_
 refine X6 (Xi rfl (VL H _ _ _ _ _ g)) ?_
 refine R ?_
 exact ⟨rfl, _, rfl, rfl, rfl⟩
theorem word_Writer_Out_ok (m : Nat) (h : Heap) (b base : Nat) (bs : LB) (w : Wr h b base bs) (hbig : bs.length < 100000000) :
  (enter E (ctx E (m + 2)) XdS [Pt b] h).Wp sg fun v h' => ∃ ao ca, v = .tuple ⟨[.slice ao bs.length ca, I6 0]⟩ /\ Own h' 1 ao bs.length ca (Xa bs) /\ (∀ a, ao = some a -> h.next <= a.block) /\ Ext [] h h' := by
 refine H.run (k := KF) rfl rfl rfl ?_
 dsimp only [KF]
 refine R ?_
 obtain ⟨ao, ca, o, gb, hlt, hge, hne, hbase⟩ := w
 refine X6 (Xi rfl (We H _ _ _ _ _ gb)) ?_
 refine R2 ?_
 refine XJ XB fun H1 B1 E1 L1 G1 N1 Q1 => ?_
 refine R ?_
 have T2 := E1.get0 (by omega) gb
 refine R2 ?_
 have o0 : Own H1 1 (some ⟨B1, 0, none⟩) 0 0 [] := .lit G1 N1
 refine XP o0 rfl rfl rfl (o.ext E1).elemsAll (by rw [Xc, XhI]) (by omega) fun ao2 ca2 H2 o2 E2 L2 f2 => ?_
 refine R ?_
 rw [XhT, Xib] at o2
 refine ⟨rfl, _, Xb (Xw rfl) (Xb (Xw rfl) Xg), ao2, ca2, ?_, o2, fun a ha => ?_, E1.trans E2 (fun s hs => .inr ?_)⟩
 ·show Value.tuple ⟨[.slice ao2 (0 + bs.length) ca2, I6 0]⟩ = _
  rw [XhT]
 ·rcases f2 a ha with hx | hx
  ·have e : a.block = B1 := XhB.1 hx
   omega
  ·omega
 ·have e : s = B1 := XhB.1 hs
  omega
end
def rdCells (ao : OA) (n ca at' : Nat) : List Value := [.bool true, .slice ao n ca, I6 0, I6 0, I6 at']
structure Rd (h : Heap) (b : Nat) (ao : OA) (ca : Nat) (bs : LB) (at' : Nat) : Prop where
 sl : Slc h 1 ao bs.length ca (Xa bs)
 get : h.get b = some (.cells true (rdCells ao bs.length ca at'))
 le : at' <= bs.length
 lt : b < h.next
 ne : ∀ a, ao = some a -> a.block ≠ b
theorem Rd.extS {ao : OA} {ca : Nat} {bs : LB} (r : Rd h b ao ca bs p) {S : List Nat} (e : Ext S h h') (q : b ∉ S) (q' : ∀ a, ao = some a -> a.block ∉ S) : Rd h' b ao ca bs p :=
 ⟨r.sl.extS e q', e.getS r.lt q r.get, r.le, Xia r.lt e.next, r.ne⟩
theorem Rd.ext {ao : OA} {ca : Nat} {bs : LB} (r : Rd h b ao ca bs p) (e : Ext [] h h') : Rd h' b ao ca bs p := r.extS e (fun h => nomatch h) fun _ _ h => nomatch h
theorem Rd.ext1' {x : Nat} {ao : OA} {ca : Nat} {bs : LB} (r : Rd h b ao ca bs p) (e : Ext [x] h h') (q : b ≠ x) (q' : ∀ a, ao = some a -> a.block ≠ x) : Rd h' b ao ca bs p :=
 r.extS e (fun hm => q (XhB.1 hm)) fun a ha hm => q' a ha (XhB.1 hm)
theorem XfR {g : Xe} {t : Tm} {ao : OA} {ca : Nat} {bs : LB} (s : Slc h 1 ao n ca (Xa bs)) (hg : g t = .slice ao n ca) : Z5 g t h = some (sv bs) := by
 unfold Z5
 rw [hg]
 cases ao with
 | none =>
  have h0 := s.nil rfl
  have h1 := s.cap
  have h2 := s.len
  rw [Xc] at h2
  have : bs = [] := XiB (by omega)
  subst this
  rfl
 | some a =>
  obtain ⟨w, xs, h1, h2, h3⟩ := s.rd a rfl
  dsimp only
  rw [Heap.load_of h1 (by rw [<- XhI n]; exact h3)]
  dsimp only
  rw [bytesOf_vals]; rfl
theorem ofInt8 {a : Nat} (h : a < 256) : (XhZ 8 (a : Int)).toNat = a := by
 rw [BitVec.toNat_ofInt]
 show ((a : Int) % (2 ^ 8 : Nat)).toNat = a
 omega
theorem band8 {c : Nat} (hc : c < 256) : band .u8 (XhA c) (XhA 127) = XhA (c % 128) := by
 show IntKind.u8.wrap (((XhZ 8 (c : Int) &&& XhZ 8 ((127 : Nat) : Int)).toNat : Nat) : Int) = _
 rw [BitVec.toNat_and, ofInt8 hc, ofInt8 (by omega)]
 have : c &&& 127 = c % 128 := Nat.and_two_pow_sub_one_eq_mod c 7
 rw [this, wrap8]
 show ((c % 128 : Nat) : Int) % 256 = ((c % 128 : Nat) : Int)
 omega
theorem bor_shift {x : Nat} (hn : n < 128 ^ i) (hx : x < 128) (hi : i <= 3) : bor .i64 (XhA n) (bshl .i64 (IntKind.i64.wrap (XhA x)) (7 * i)) = XhA (n + x * 128 ^ i) := by
 have hp : 128 ^ i = 2 ^ (7 * i) := by rw [Nat.pow_mul]
 have h3 : 128 ^ i <= 128 ^ 3 := Nat.pow_le_pow_right (by decide) hi
 have h3' : (128 : Nat) ^ 3 = 2097152 := by decide
 have hxx : x * 128 ^ i <= 127 * 2097152 := Nat.mul_le_mul (by omega) (by omega)
 have e1 : bshl .i64 (IntKind.i64.wrap (XhA x)) (7 * i) = ((x * 128 ^ i : Nat) : Int) := by
  show IntKind.i64.wrap (IntKind.i64.wrap ((x : Nat) : Int) * 2 ^ (min (7 * i) 64)) = _
  rw [wrapN64 (by omega), Nat.min_eq_left (by omega)]
  have : ((x : Nat) : Int) * 2 ^ (7 * i) = ((x * 128 ^ i : Nat) : Int) := by rw [hp]; push_cast; rfl
  rw [this, wrapN64 (by omega)]
 rw [e1]
 show IntKind.i64.wrap (((XhZ 64 (n : Int) ||| XhZ 64 ((x * 128 ^ i : Nat) : Int)).toNat : Nat) : Int) = _
 rw [BitVec.toNat_or, ofInt64 (by omega), ofInt64 (by omega)]
 have h2 : 2 ^ (7 * i) * x + n = 2 ^ (7 * i) * x ||| n := Nat.two_pow_add_eq_or_of_lt (by rw [<- hp]; exact hn) x
 rw [<- hp, Nat.mul_comm] at h2
 rw [Nat.or_comm, <- h2, Xi1, wrapN64 (by omega)]; rfl
section
variable {E : Env} {sg : Bool} (H : Has E)
include H
theorem UY (m : Nat) (h : Heap) (b : Nat) (ao : OA) (ca : Nat) (bs : LB) (p n : Nat) (r : Rd h b ao ca bs p) (hn : p + n <= bs.length) (hbig : bs.length < 100000000) :
  (enter E (ctx E m) Xdc [Pt b, I6 n] h).Wp sg fun v h' => ∃ ao' ca', v = .slice ao' n ca' /\ Slc h' 1 ao' n ca' (Xa ((bs.drop p).take n)) /\ (∀ a', ao' = some a' -> ∃ a, ao = some a /\ a'.block = a.block) /\ Rd h' b ao ca bs (p + n) /\ Ext [b] h h' := by
 refine H.run (k := JD) rfl rfl rfl ?_
 dsimp only [JD]
 have gb := r.get
 have hle := r.le
 have hlt := r.lt
 refine R2 ?_
 refine Xk (YY rfl rfl (by omega) (by omega)) rfl ?_
 refine R2 ?_
 refine Xd (ZI rfl rfl (by omega)) ?_
 refine R ?_
 refine Xm rfl (by conv => lhs; whnf) rfl gb rfl (XhH rfl) fun H1 E1 L1 G1 => ?_
 refine R2 ?_
 refine Xk (YY rfl rfl (by omega) (by omega)) rfl ?_
 refine R2 ?_
 have r1 : Rd H1 b ao ca bs (p + n) := ⟨r.sl.ext1 E1 r.ne, G1, hn, by omega, r.ne⟩
 refine wp_dSub r1.sl rfl rfl rfl (by omega) hn rfl fun ao' ca' log sl' ft => ?_
 have e1 : p + n - (p + n - n) = n := by omega
 have e2 : ((Xa bs).drop ((p + n - n) * 1)).take ((p + n - (p + n - n)) * 1) = Xa ((bs.drop p).take n) := by
  rw [e1, XhI, XhI, Nat.add_sub_cancel, U3, U2]
 rw [e2] at sl'
 rw [e1] at sl' ⊢
 refine R ?_
 exact ⟨rfl, _, Xb (Xw rfl) Xg, ao', ca', rfl, sl', ft, r1, E1⟩
theorem VE (m : Nat) (hm : 100000000 <= m) (h : Heap) (b : Nat) (ao : OA) (ca : Nat) (bs rest : LB) (p lo hi k : Nat) (e : Int) (r : Rd h b ao ca bs p) (henc : bs.drop p = XA k ++ rest) (hlo : lo <= k) (hhi : k <= hi) (hk : k < 100000000) (hbig : bs.length < 100000000) :
  (enter E (ctx E (m + 1)) Xa2 [Pt b, I6 lo, I6 hi, .int .i64 e] h).Wp sg fun v h' => v = I6 k /\ Rd h' b ao ca bs (p + (XA k).length) /\ Ext [b] h h' := by
 refine H.run (k := V7) rfl rfl rfl ?_
 dsimp only [V7]
 have gb := r.get
 have hlt := r.lt
 refine R2 ?_
 refine Xt fun H1 B1 E1 L1 G1 N1 Q1 => ?_
 refine Xm rfl (by conv => lhs; whnf) rfl G1 rfl (XhH rfl) fun H2 E2 L2 G2 => ?_
 refine R ?_
 refine Xd rfl ?_
 refine R ?_
 have r1 : Rd H2 b ao ca bs p := (r.ext E1).extS E2 (fun hm => by rw [XhB] at hm; omega) fun a ha hm => by
  have := r.sl.lt a ha
  rw [XhB] at hm; omega
 have E12 : Ext [b] h H2 := (E1.trans1 E2 (by omega)).mono fun s hs => nomatch hs
 refine XdH (fun q t x hk => ∃ i n pre, bs.drop p = pre ++ (XA q ++ rest) /\ pre.length = i /\ XA k = pre ++ XA q /\ k = n + q * 128 ^ i /\ n < 128 ^ i /\ (0 < i -> 0 < q) /\ (g10 t = (I6 n) /\ g11 t = (I6 i) /\ g12 t = (.func (.func Vi) ⟨[]⟩ ⟨[Pt B1]⟩) /\ g3 t = (.int .i64 e) /\ g2 t = (I6 hi) /\ g1 t = (I6 lo) /\ g0 t = (Pt b)) /\ x = ax /\ Rd hk b ao ca bs (p + i) /\ Ext [b] h hk) k ⟨0, 0, [], henc, rfl, rfl, by simp, by simp, fun hx => absurd hx (Nat.lt_irrefl _), ⟨rfl, rfl, rfl, rfl, rfl, rfl, rfl⟩, rfl, r1, E12⟩ (XG (by omega)) ?_
 clear r1 E12 r gb
 rintro q t x hh ⟨i, n, pre, hd, hpl, hpk, hkn, hn, hq0, ⟨r10, r11, r12, r3, r2, r1, r0⟩, rfl, r, eh⟩
 obtain ⟨t0, rfl⟩ : ∃ t0, t = p10 (I6 n) (p11 (I6 i) (p12 (.func (.func Vi) ⟨[]⟩ ⟨[Pt B1]⟩) (p3 (.int .i64 e) (p2 (I6 hi) (p1 (I6 lo) (p0 (Pt b) t0)))))) := ⟨t, (show t = p10 (g10 t) (p11 (g11 t) (p12 (g12 t) (p3 (g3 t) (p2 (g2 t) (p1 (g1 t) (p0 (g0 t) t)))))) from rfl).trans (by rw [r10, r11, r12, r3, r2, r1, r0])⟩
 clear r10 r11 r12 r3 r2 r1 r0
 have lh := eh.next
 have hi3 : i <= 3 := by
  by_cases h4 : i <= 3
  ·exact h4
  ·have h128 : 128 ^ 4 <= 128 ^ i := Nat.pow_le_pow_right (by decide) (by omega)
   have hq1 := hq0 (by omega)
   have : 1 * 128 ^ i <= q * 128 ^ i := Xi2 _ hq1
   have h5 : (128 : Nat) ^ 4 = 268435456 := by decide
   omega
 have hpos := encInt_pos q
 have hlen : (bs.drop p).length = bs.length - p := Xif ..
 have hbl : p + i + 1 <= bs.length := by
  rw [hd, XhC, XhC] at hlen
  have := r.le
  omega
 refine R ?_
 refine Xj (Xi rfl (UY H _ _ _ _ _ _ _ 1 r (by omega) hbig)) ?_
 rintro v H3 ⟨ao', ca', rfl, sl', ft, r3, E3⟩
 have L3 := E3.next
 obtain ⟨a', w', xs', rfl, g', n', t'⟩ := sl'.nonempty (by decide)
 have hb1 : (bs.drop (p + i)).take 1 = (XA q).take 1 := by
  rw [<- Xip, hd, <- hpl, XiM, XjI (by omega)]
 rw [hb1] at t'
 by_cases hq : q < 128
 ·rw [YB hq] at t'
  have hc : nth (a'.off + 0 * 1) xs' = some (.int .u8 (XhA q)) := by
   rw [Yf t' (by decide)]
   show some (byteVal (UInt8.ofNat q)) = _
   unfold byteVal
   rw [UInt8.toNat_ofNat', Xjn (by omega)]; rfl
  have hv : bor .i64 (XhA n) (bshl .i64 (IntKind.i64.wrap (band .u8 (XhA q) (XhA 127))) (7 * i)) = XhA k := by
   rw [band8 (by omega), Xjn hq, bor_shift hn hq hi3, <- hkn]
  refine R2 ?_
  refine Xd (Kb rfl rfl rfl) ?_
  refine R ?_
  refine Xd (Xc3 rfl rfl (by omega)) ?_
  refine Xd (l_shlI rfl rfl) ?_
  refine Xd (lk_int (l_orI rfl rfl rfl) hv) ?_
  refine R ?_
  have hlast : pre.length + 1 = (XA k).length := by rw [hpk, YB hq, XhC]; rfl
  have hres : Rd H3 b ao ca bs (p + (XA k).length) := by rw [<- hlast, hpl, <- Xim]; exact r3
  by_cases hz : q = 0
  ·have hi0 : i = 0 := by
    by_cases h0 : 0 < i
    ·have := hq0 h0; omega
    ·omega
   refine R ?_
   refine exit_past rfl ?_
   refine R ?_
   exact ⟨rfl, _, Xb (Xw rfl) Xg, rfl, hres, eh.same E3⟩
  ·refine R ?_
   refine exit_past rfl ?_
   refine R ?_
   exact ⟨rfl, _, Xb (Xw rfl) Xg, rfl, hres, eh.same E3⟩
 ·rw [WR hq] at t'
  have hc : nth (a'.off + 0 * 1) xs' = some (.int .u8 (XhA (q % 128 + 128))) := by
   rw [Yf t' (by decide)]
   show some (byteVal (UInt8.ofNat (q % 128 + 128))) = _
   unfold byteVal
   rw [UInt8.toNat_ofNat', Xjn (by omega)]; rfl
  have hv : bor .i64 (XhA n) (bshl .i64 (IntKind.i64.wrap (band .u8 (XhA (q % 128 + 128)) (XhA 127))) (7 * i)) = XhA (n + q % 128 * 128 ^ i) := by
   rw [band8 (by omega), show (q % 128 + 128) % 128 = q % 128 by omega]
   exact bor_shift hn (by omega) hi3
  refine R2 ?_
  refine Xd (Kb rfl rfl rfl) ?_
  refine R ?_
  refine Xd (Xc3 rfl rfl (by omega)) ?_
  refine Xd (l_shlI rfl rfl) ?_
  refine Xd (l_orI rfl rfl rfl) ?_
  refine R ?_
  have hpow : 128 ^ (i + 1) = 128 ^ i * 128 := Nat.pow_succ ..
  refine ⟨q / 128, by omega, i + 1, n + q % 128 * 128 ^ i, pre ++ [UInt8.ofNat (q % 128 + 128)], ?_, ?_, ?_, ?_, ?_, fun _ => by omega, ⟨congrArg (Value.int .i64) hv, rfl, rfl, rfl, rfl, rfl, rfl⟩, rfl, by rw [<- Xim]; exact r3, eh.same E3⟩
  ·rw [hd, WR hq]; simp
  ·rw [XhC, hpl]; rfl
  ·rw [hpk, WR hq]; simp
  ·rw [hpow, hkn]
   have h1 := Nat.div_add_mod q 128
   have h2 : q * 128 ^ i = (128 * (q / 128) + q % 128) * 128 ^ i := by rw [h1]
   rw [h2, Nat.add_mul, Xim, Xi1 (q % 128 * 128 ^ i)]
   congr 2
   rw [Nat.mul_comm (128 ^ i) 128, <- Nat.mul_assoc, Nat.mul_comm (q / 128) 128]
  ·rw [hpow]
   have h1 : q % 128 * 128 ^ i <= 127 * 128 ^ i := Xi2 _ (by omega)
   omega
theorem Vp (m : Nat) (h : Heap) (b : Nat) (ao : OA) (ca : Nat) (bs : LB) (p : Nat) (r : Rd h b ao ca bs p) (f : Nat) (cap : List Value) (S : List Nat) (hS : ∀ s ∈ S, s < h.next) (P : Heap -> Prop)
  (hP : ∀ x h1 h2, h.next <= x -> Ext [x] h1 h2 -> P h1 -> P h2)
  (hf : ∀ h1, Ext [] h h1 -> (enter E (ctx E (m + 1)) f cap h1).Wp sg fun v h2 => P h2 /\ Ext S h1 h2) :
  (enter E (ctx E (m + 2)) XdT [Pt b, .func (.func f) ⟨[]⟩ ⟨cap⟩] h).Wp sg fun v h' => v = .bool true /\ P h' /\ Ext S h h' := by
 refine H.go (k := KG) rfl rfl ?_
 unfold KG
 refine wp_fnD (XhH rfl) ?_
 dsimp only
 have gb := r.get
 have hlt := r.lt
 refine X9 ?_
 refine X2 (by conv => lhs; whnf) rfl fun H1 B1 E1 L1 G1 N1 Q1 => ?_
 refine Xt fun H2 B2 E2 L2 G2 N2 Q2 => ?_
 refine R ?_
 have T3 := E2.get0 (by omega) G1
 refine R2 ?_
 refine Xd rfl ?_
 refine R2 ?_
 have gb2 := E2.get0 (by omega) (E1.get0 (by omega) gb)
 refine X6 (Xi rfl (VL H _ _ _ _ _ gb2)) ?_
 refine R2 ?_
 refine Xt fun H3 B3 E3 L3 G3 N3 Q3 => ?_
 refine Xm rfl (by conv => lhs; whnf) rfl G3 rfl (XhH rfl) fun H4 E4 L4 G4 => ?_
 refine R ?_
 refine Xd rfl ?_
 refine wp_defer rfl ?_
 refine R ?_
 have E14 : Ext [] h H4 := ((E1.trans0 E2).trans0 E3).trans1 E4 (by omega)
 refine Xj (Xi rfl (hf H4 E14)) ?_
 rintro v H5 ⟨hp5, E5⟩
 have L5 := E5.next
 have ns : ∀ x, h.next <= x -> x ∉ S := fun x hx hs => by have := hS x hs; omega
 have g2' := E5.getS (by omega) (ns B2 (by omega)) (E4.get1 (by omega) (by omega) (E3.get0 (by omega) G2))
 refine R ?_
 refine ⟨_, _, rfl, wp_enterD (k := UU) (H.fn _ _ rfl) rfl (XhH rfl) ?_⟩
 unfold UU
 dsimp only
 refine X9 ?_
 refine wp_recover0 ?_
 refine R ?_
 refine Xd rfl ?_
 refine R ?_
 refine Xm rfl (by conv => lhs; whnf) rfl g2' rfl (XhH rfl) fun H9 E9 L9 G9 => ?_
 refine Xf8 ?_
 refine ⟨rfl, rfl, ⟨_, Xg⟩, _, Xb (r_cell1 rfl G9 rfl) Xg, rfl, hP _ _ _ (by omega) E9 hp5, ?_⟩
 exact ((E14.mono fun s hs => nomatch hs).same E5).trans E9 fun s hs => by rw [XhB] at hs; exact .inr (by omega)
theorem word_Reader_Int_1_ok (m : Nat) (hm : 100000000 <= m) (h : Heap) (b B1 B2 B3 B4 : Nat) (ao : OA) (ca : Nat) (bs rest : LB) (p lo hi k : Nat) (r : Rd h b ao ca bs p) (henc : bs.drop p = XA k ++ rest) (hlo : lo <= k) (hhi : k <= hi) (hk : k < 100000000) (hbig : bs.length < 100000000)
  (q1 : h.get B1 = some (.cells true [Pt b])) (q2 : h.get B2 = some (.cells true [I6 lo])) (q3 : h.get B3 = some (.cells true [I6 hi])) (q4 : h.get B4 = some (.cells true [I6 0]))
  (n4 : B4 < h.next) (d4 : B4 ≠ b) (da : ∀ a, ao = some a -> a.block ≠ B4) :
  (enter E (ctx E (m + 2)) UF [Pt B1, Pt B2, Pt B3, Pt B4] h).Wp sg fun v h' => (Rd h' b ao ca bs (p + (XA k).length) /\ h'.get B4 = some (.cells true [I6 k])) /\ Ext [b, B4] h h' := by
 refine H.run (k := UT) rfl rfl rfl ?_
 dsimp only [UT]
 refine R2 ?_
 refine Xj (Xi rfl (VE H _ (by omega) _ _ _ _ _ rest _ lo hi k _ r henc hlo hhi hk hbig)) ?_
 rintro v h1 ⟨rfl, r1, e1⟩
 have l1 := e1.next
 have q4' := e1.get1 n4 d4 q4
 refine Xm rfl (by conv => lhs; whnf) rfl q4' rfl (XhH rfl) fun H2 E2 L2 G2 => ?_
 refine Xf8 ?_
 refine ⟨rfl, _, Xg, ⟨r1.ext1' E2 ?_ ?_, G2⟩, ?_⟩
 ·exact fun e => d4 e.symm
 ·exact da
 ·exact (e1.mono (T := [b, B4]) fun s hs => .inl (by rw [XhB] at hs; rw [hs]; exact Xh9 ..)).trans E2 fun s hs => .inl (by rw [XhB] at hs; rw [hs]; exact Xii _ (Xh9 ..))
theorem Xdq (m : Nat) (hm : 100000000 <= m) (h : Heap) (b : Nat) (ao : OA) (ca : Nat) (bs rest : LB) (p lo hi k : Nat) (r : Rd h b ao ca bs p) (henc : bs.drop p = XA k ++ rest) (hlo : lo <= k) (hhi : k <= hi) (hk : k < 100000000) (hbig : bs.length < 100000000) :
  (enter E (ctx E (m + 5)) XdO [Pt b, I6 lo, I6 hi] h).Wp sg fun v h' => v = I6 k /\ Rd h' b ao ca bs (p + (XA k).length) /\ Ext [b] h h' := by
 refine H.run (k := Kz) rfl rfl rfl ?_
 dsimp only [Kz]
 have hlt := r.lt
 have hal := r.sl.lt
 refine X9 ?_
 refine X2 (by conv => lhs; whnf) rfl fun H1 B1 E1 L1 G1 N1 Q1 => ?_
 refine X2 (by conv => lhs; whnf) rfl fun H2 B2 E2 L2 G2 N2 Q2 => ?_
 refine X2 (by conv => lhs; whnf) rfl fun H3 B3 E3 L3 G3 N3 Q3 => ?_
 refine R ?_
 refine Xt fun H4 B4 E4 L4 G4 N4 Q4 => ?_
 refine Xm rfl (by conv => lhs; whnf) rfl G4 rfl (XhH rfl) fun H5 E5 L5 G5 => ?_
 refine R ?_
 have T6 := E2.get0 (by omega) G1
 have T7 := E3.get0 (by omega) T6
 have T8 := E4.get0 (by omega) T7
 have T9 := E5.get1 (by omega) (by omega) T8
 refine R2 ?_
 refine Xd rfl ?_
 have E15 : Ext [] h H5 := (((E1.trans0 E2).trans0 E3).trans0 E4).trans1 E5 (by omega)
 have r5 := r.ext E15
 have q1 := E5.get1 (by omega) (by omega) (E4.get0 (by omega) (E3.get0 (by omega) (E2.get0 (by omega) G1)))
 have q2 := E5.get1 (by omega) (by omega) (E4.get0 (by omega) (E3.get0 (by omega) G2))
 have q3 := E5.get1 (by omega) (by omega) (E4.get0 (by omega) G3)
 refine Xj (Xi rfl (Vp H _ _ b ao ca bs p r5 UF [Pt B1, Pt B2, Pt B3, Pt B4] [b, B4]
  (fun s hs => by simp only [XhQ, XiQ, or_false] at hs; omega)
  (fun h2 => Rd h2 b ao ca bs (p + (XA k).length) /\ h2.get B4 = some (.cells true [I6 k]) /\ H5.next <= h2.next)
  (fun x h1 h2 hx e q => ⟨q.1.ext1' e (by omega) (fun a ha => by have := hal a ha; omega), e.get1 (by omega) (by omega) q.2.1, Xh4 q.2.2 e.next⟩)
  (fun h1 e => (word_Reader_Int_1_ok H _ (by omega) h1 b B1 B2 B3 B4 ao ca bs rest p lo hi k (r5.ext e) henc hlo hhi hk hbig (e.get0 (by omega) q1) (e.get0 (by omega) q2) (e.get0 (by omega) q3) (e.get0 (by omega) G5) (by have := e.next; omega) (by omega) (fun a ha => by have := hal a ha; omega)).mono fun v h2 q => ⟨⟨q.1.1, q.1.2, Xh4 e.next q.2.next⟩, q.2⟩))) ?_
 rintro v h6 ⟨rfl, ⟨r6, q4, l6⟩, e6⟩
 refine R2 ?_
 exact ⟨rfl, _, Xb (Xw rfl) Xg, rfl, r6, E15.join e6 (fun s hs => nomatch hs) fun s hs => by
  simp only [XhQ, XiQ, or_false] at hs
  rcases hs with rfl | rfl
  ·exact .inl (Xh9 ..)
  ·exact .inr (by omega)⟩
theorem Xgw (m : Nat) (hm : 100000000 <= m) (h : Heap) (b B1 B2 B4 : Nat) (ao : OA) (ca : Nat) (bs rest : LB) (p hi k : Nat) (r : Rd h b ao ca bs p) (henc : bs.drop p = XA k ++ rest) (hhi : k <= hi) (hk : k < 100000000) (hbig : bs.length < 100000000)
  (q1 : h.get B1 = some (.cells true [Pt b])) (q2 : h.get B2 = some (.cells true [I6 hi])) (q4 : h.get B4 = some (.cells true [I6 0]))
  (n4 : B4 < h.next) (d4 : B4 ≠ b) (da : ∀ a, ao = some a -> a.block ≠ B4) :
  (enter E (ctx E (m + 2)) Vv [Pt B1, Pt B2, Pt B4] h).Wp sg fun v h' => (Rd h' b ao ca bs (p + (XA k).length) /\ h'.get B4 = some (.cells true [I6 k])) /\ Ext [b, B4] h h' := by
 refine H.run (k := VA) rfl rfl rfl ?_
 dsimp only [VA]
 refine R2 ?_
 refine Xj (Xi rfl (VE H _ (by omega) _ _ _ _ _ rest _ 0 hi k _ r henc (XhO _) hhi hk hbig)) ?_
 rintro v h1 ⟨rfl, r1, e1⟩
 have l1 := e1.next
 have q4' := e1.get1 n4 d4 q4
 refine Xm rfl (by conv => lhs; whnf) rfl q4' rfl (XhH rfl) fun H2 E2 L2 G2 => ?_
 refine Xf8 ?_
 refine ⟨rfl, _, Xg, ⟨r1.ext1' E2 (fun e => d4 e.symm) da, G2⟩, ?_⟩
 exact e1.join E2 (fun s hs => by rw [XhB] at hs; rw [hs]; exact .inl (Xh9 ..)) fun s hs => by rw [XhB] at hs; rw [hs]; exact .inl (Xii _ (Xh9 ..))
theorem word_Reader_Count_ok (m : Nat) (hm : 100000000 <= m) (h : Heap) (b : Nat) (ao : OA) (ca : Nat) (bs rest : LB) (p hi k : Nat) (r : Rd h b ao ca bs p) (henc : bs.drop p = XA k ++ rest) (hhi : k <= hi) (hk : k < 100000000) (hbig : bs.length < 100000000) :
  (enter E (ctx E (m + 5)) Xb6 [Pt b, I6 hi] h).Wp sg fun v h' => v = I6 k /\ Rd h' b ao ca bs (p + (XA k).length) /\ Ext [b] h h' := by
 refine H.run (k := UN) rfl rfl rfl ?_
 dsimp only [UN]
 have hlt := r.lt
 have hal := r.sl.lt
 refine X9 ?_
 refine X2 (by conv => lhs; whnf) rfl fun H1 B1 E1 L1 G1 N1 Q1 => ?_
 refine X2 (by conv => lhs; whnf) rfl fun H2 B2 E2 L2 G2 N2 Q2 => ?_
 refine R ?_
 refine Xt fun H3 B3 E3 L3 G3 N3 Q3 => ?_
 refine Xm rfl (by conv => lhs; whnf) rfl G3 rfl (XhH rfl) fun H4 E4 L4 G4 => ?_
 refine R ?_
 have T5 := E2.get0 (by omega) G1
 have T6 := E3.get0 (by omega) T5
 have T7 := E4.get1 (by omega) (by omega) T6
 refine R2 ?_
 refine Xd rfl ?_
 have E15 : Ext [] h H4 := ((E1.trans0 E2).trans0 E3).trans1 E4 (by omega)
 have r5 := r.ext E15
 have q1 := E4.get1 (by omega) (by omega) (E3.get0 (by omega) (E2.get0 (by omega) G1))
 have q2 := E4.get1 (by omega) (by omega) (E3.get0 (by omega) G2)
 refine Xj (Xi rfl (Vp H _ _ b ao ca bs p r5 Vv [Pt B1, Pt B2, Pt B3] [b, B3]
  (fun s hs => by simp only [XhQ, XiQ, or_false] at hs; omega)
  (fun h2 => Rd h2 b ao ca bs (p + (XA k).length) /\ h2.get B3 = some (.cells true [I6 k]) /\ H4.next <= h2.next)
  (fun x h1 h2 hx e q => ⟨q.1.ext1' e (by omega) (fun a ha => by have := hal a ha; omega), e.get1 (by omega) (by omega) q.2.1, Xh4 q.2.2 e.next⟩)
  (fun h1 e => (Xgw H _ (by omega) h1 b B1 B2 B3 ao ca bs rest p hi k (r5.ext e) henc hhi hk hbig (e.get0 (by omega) q1) (e.get0 (by omega) q2) (e.get0 (by omega) G4) (by have := e.next; omega) (by omega) (fun a ha => by have := hal a ha; omega)).mono fun v h2 q => ⟨⟨q.1.1, q.1.2, Xh4 e.next q.2.next⟩, q.2⟩))) ?_
 rintro v h6 ⟨rfl, ⟨r6, q4, l6⟩, e6⟩
 refine R2 ?_
 exact ⟨rfl, _, Xb (Xw rfl) Xg, rfl, r6, E15.join e6 (fun s hs => nomatch hs) fun s hs => by
  simp only [XhQ, XiQ, or_false] at hs
  rcases hs with rfl | rfl
  ·exact .inl (Xh9 ..)
  ·exact .inr (by omega)⟩
theorem Xhw (m : Nat) (hm : 100000000 <= m) (h : Heap) (b B1 B2 B4 : Nat) (ao : OA) (ca : Nat) (bs s rest : LB) (p hi : Nat) (r : Rd h b ao ca bs p) (henc : bs.drop p = XA s.length ++ (s ++ rest)) (hhi : s.length <= hi) (hbig : bs.length < 100000000)
  (q1 : h.get B1 = some (.cells true [Pt b])) (q2 : h.get B2 = some (.cells true [I6 hi])) (q4 : h.get B4 = some (.cells true [sv []]))
  (n1 : B1 < h.next) (d1 : B1 ≠ b) (n4 : B4 < h.next) (d4 : B4 ≠ b) (da : ∀ a, ao = some a -> a.block ≠ B4) :
  (enter E (ctx E (m + 2)) VX [Pt B1, Pt B2, Pt B4] h).Wp sg fun v h' => (Rd h' b ao ca bs (p + (XA s.length).length + s.length) /\ h'.get B4 = some (.cells true [sv s])) /\ Ext [b, B4] h h' := by
 have hlen : (bs.drop p).length = bs.length - p := Xif ..
 have hlen2 : bs.length - p = (XA s.length).length + (s.length + rest.length) := by rw [<- hlen, henc, XhC, XhC]
 have hple := r.le
 refine H.run (k := Ue) rfl rfl rfl ?_
 dsimp only [Ue]
 refine R2 ?_
 refine YL (Xi rfl (VE H _ (by omega) _ _ _ _ _ (s ++ rest) _ 0 hi s.length _ r henc (XhO _) hhi (by omega) hbig)) (fun v h' q => YI rfl (XH (XQ rfl (q.2.2.get1 n1 d1 q1) rfl) rfl) rfl) ?_
 rintro v h1 ⟨rfl, r1, e1⟩
 have l1 := e1.next
 have q4' := e1.get1 n4 d4 q4
 refine YL (Xi rfl (UY H _ _ _ _ _ _ _ s.length r1 (by omega) hbig)) (fun _ _ _ => rfl) ?_
 rintro v h2 ⟨ao', ca', rfl, sl', ft, r2, e2⟩
 have l2 := e2.next
 have hs : (bs.drop (p + (XA s.length).length)).take s.length = s := by
  rw [<- Xip, henc, XiM, Xjj]
 rw [hs] at sl'
 have q4'' := e2.get1 (by omega) d4 q4'
 refine Xk (XfR sl' rfl) rfl ?_
 refine Yw rfl (by conv => lhs; whnf) rfl q4'' rfl (XhH rfl) (fun _ => rfl) fun H2 E2 L2 G2 => ?_
 refine XdI ?_
 refine ⟨rfl, _, Xg, ⟨r2.ext1' E2 (fun e => d4 e.symm) da, G2⟩, ?_⟩
 exact (e1.same e2).join E2 (fun s hs => by rw [XhB] at hs; rw [hs]; exact .inl (Xh9 ..)) fun s hs => by rw [XhB] at hs; rw [hs]; exact .inl (Xii _ (Xh9 ..))
theorem word_Reader_Text_ok (m : Nat) (hm : 100000000 <= m) (h : Heap) (b : Nat) (ao : OA) (ca : Nat) (bs s rest : LB) (p hi : Nat) (r : Rd h b ao ca bs p) (henc : bs.drop p = XA s.length ++ (s ++ rest)) (hhi : s.length <= hi) (hbig : bs.length < 100000000) :
  (enter E (ctx E (m + 5)) Xdf [Pt b, I6 hi] h).Wp sg fun v h' => v = sv s /\ Rd h' b ao ca bs (p + (XA s.length).length + s.length) /\ Ext [b] h h' := by
 refine H.run (k := JH) rfl rfl rfl ?_
 dsimp only [JH]
 have hlt := r.lt
 have hal := r.sl.lt
 refine X9 ?_
 refine X2 (by conv => lhs; whnf) rfl fun H1 B1 E1 L1 G1 N1 Q1 => ?_
 refine X2 (by conv => lhs; whnf) rfl fun H2 B2 E2 L2 G2 N2 Q2 => ?_
 refine R ?_
 refine Xt fun H3 B3 E3 L3 G3 N3 Q3 => ?_
 refine Xm rfl (by conv => lhs; whnf) rfl G3 rfl (XhH rfl) fun H4 E4 L4 G4 => ?_
 refine R ?_
 have T5 := E2.get0 (by omega) G1
 have T6 := E3.get0 (by omega) T5
 have T7 := E4.get1 (by omega) (by omega) T6
 refine R2 ?_
 refine Xd rfl ?_
 have E15 : Ext [] h H4 := ((E1.trans0 E2).trans0 E3).trans1 E4 (by omega)
 have r5 := r.ext E15
 have q1 := E4.get1 (by omega) (by omega) (E3.get0 (by omega) (E2.get0 (by omega) G1))
 have q2 := E4.get1 (by omega) (by omega) (E3.get0 (by omega) G2)
 refine Xj (Xi rfl (Vp H _ _ b ao ca bs p r5 VX [Pt B1, Pt B2, Pt B3] [b, B3]
  (fun s hs => by simp only [XhQ, XiQ, or_false] at hs; omega)
  (fun h2 => Rd h2 b ao ca bs (p + (XA s.length).length + s.length) /\ h2.get B3 = some (.cells true [sv s]) /\ H4.next <= h2.next)
  (fun x h1 h2 hx e q => ⟨q.1.ext1' e (by omega) (fun a ha => by have := hal a ha; omega), e.get1 (by omega) (by omega) q.2.1, Xh4 q.2.2 e.next⟩)
  (fun h1 e => (Xhw H _ (by omega) h1 b B1 B2 B3 ao ca bs s rest p hi (r5.ext e) henc hhi hbig (e.get0 (by omega) q1) (e.get0 (by omega) q2) (e.get0 (by omega) G4) (by have := e.next; omega) (by omega) (by have := e.next; omega) (by omega) (fun a ha => by have := hal a ha; omega)).mono fun v h2 q => ⟨⟨q.1.1, q.1.2, Xh4 e.next q.2.next⟩, q.2⟩))) ?_
 rintro v h6 ⟨rfl, ⟨r6, q4, l6⟩, e6⟩
 refine R2 ?_
 exact ⟨rfl, _, Xb (Xw rfl) Xg, rfl, r6, E15.join e6 (fun s hs => nomatch hs) fun s hs => by
  simp only [XhQ, XiQ, or_false] at hs
  rcases hs with rfl | rfl
  ·exact .inl (Xh9 ..)
  ·exact .inr (by omega)⟩
theorem word_Reader_ID_1_ok (m : Nat) (h : Heap) (b B1 B4 : Nat) (ao : OA) (ca : Nat) (bs d rest : LB) (p : Nat) (r : Rd h b ao ca bs p) (henc : bs.drop p = d ++ rest) (hd : d.length = 32) (hbig : bs.length < 100000000)
  (q1 : h.get B1 = some (.cells true [Pt b])) (q4 : h.get B4 = some (.cells true Xr))
  (n4 : B4 < h.next) (d4 : B4 ≠ b) (da : ∀ a, ao = some a -> a.block ≠ B4) :
  (enter E (ctx E (m + 1)) Jm [Pt B4, Pt B1] h).Wp sg fun v h' => (Rd h' b ao ca bs (p + 32) /\ h'.get B4 = some (.cells true (Xa d))) /\ Ext [b, B4] h h' := by
 have hlen : (bs.drop p).length = bs.length - p := Xif ..
 have hlen2 : bs.length - p = 32 + rest.length := by rw [<- hlen, henc, XhC, hd]
 have hple := r.le
 refine H.run (k := JC) rfl rfl rfl ?_
 dsimp only [JC]
 refine wp_draw ?_
 refine Xk (Jk rfl rfl rfl (by omega) (by omega) (by omega)) rfl ?_
 refine R2 ?_
 refine YL (Xi rfl (UY H _ _ _ _ _ _ _ 32 r (by omega) hbig)) (fun _ _ _ => rfl) ?_
 rintro v h2 ⟨ao', ca', rfl, sl', ft, r2, e2⟩
 have l2 := e2.next
 have hs : (bs.drop p).take 32 = d := by rw [henc, <- hd, Xjj]
 rw [hs] at sl'
 have q4' := e2.get1 n4 d4 q4
 refine wp_dCopy (k := 32) sl' rfl rfl q4' (by decide) (by decide) (XhH rfl) (fun _ => rfl) fun H3 E3 L3 G3 => ?_
 refine XdI ?_
 have hdl : (Xa d).length = 32 := by rw [Xc, hd]
 refine ⟨rfl, _, Xg, ⟨r2.ext1' E3 (fun e => d4 e.symm) da, ?_⟩, ?_⟩
 ·rw [G3]
  refine congrArg (fun z => some (AObj.cells true z)) ?_
  show XZ ((Xa d).take 32) 0 Xr = _
  rw [<- hdl, Xh7]
  exact Yq (hdl.trans rfl)
 ·exact e2.join E3 (fun s hs => by rw [XhB] at hs; rw [hs]; exact .inl (Xh9 ..)) fun s hs => by rw [XhB] at hs; rw [hs]; exact .inl (Xii _ (Xh9 ..))
theorem word_Reader_ID_ok (m : Nat) (h : Heap) (b : Nat) (ao : OA) (ca : Nat) (bs d rest : LB) (p : Nat) (r : Rd h b ao ca bs p) (henc : bs.drop p = d ++ rest) (hd : d.length = 32) (hbig : bs.length < 100000000) :
  (enter E (ctx E (m + 5)) XeJ [Pt b] h).Wp sg fun v h' => v = .agg ⟨Xa d⟩ /\ Rd h' b ao ca bs (p + 32) /\ Ext [b] h h' := by
 refine H.run (k := Xax) rfl rfl rfl ?_
 dsimp only [Xax]
 have hlt := r.lt
 have hal := r.sl.lt
 refine X9 ?_
 refine X2 (by conv => lhs; whnf) rfl fun H1 B1 E1 L1 G1 N1 Q1 => ?_
 refine Xt fun H2 B2 E2 L2 G2 N2 Q2 => ?_
 refine R ?_
 refine Xt fun H3 B3 E3 L3 G3 N3 Q3 => ?_
 refine R ?_
 have T4 := E2.get0 (by omega) G1
 have T5 := E3.get0 (by omega) T4
 refine R2 ?_
 refine Xd rfl ?_
 have E13 : Ext [] h H3 := (E1.trans0 E2).trans0 E3
 have r3 := r.ext E13
 have q1 := E3.get0 (by omega) (E2.get0 (by omega) G1)
 have q2 := E3.get0 (by omega) G2
 refine Xj (Xi rfl (Vp H _ _ b ao ca bs p r3 Jm [Pt B3, Pt B1] [b, B3]
  (fun s hs => by simp only [XhQ, XiQ, or_false] at hs; omega)
  (fun h2 => Rd h2 b ao ca bs (p + 32) /\ h2.get B3 = some (.cells true (Xa d)) /\ H3.next <= h2.next)
  (fun x h1 h2 hx e q => ⟨q.1.ext1' e (by omega) (fun a ha => by have := hal a ha; omega), e.get1 (by omega) (by omega) q.2.1, Xh4 q.2.2 e.next⟩)
  (fun h1 e => (word_Reader_ID_1_ok H _ h1 b B1 B3 ao ca bs d rest p (r3.ext e) henc hd hbig (e.get0 (by omega) q1) (e.get0 (by omega) G3) (by have := e.next; omega) (by omega) (fun a ha => by have := hal a ha; omega)).mono fun v h2 q => ⟨⟨q.1.1, q.1.2, Xh4 e.next q.2.next⟩, q.2⟩))) ?_
 rintro v h6 ⟨rfl, ⟨r6, q4, l6⟩, e6⟩
 have hdl : (Xa d).length = 32 := by rw [Xc, hd]
 have ht : XU 32 (XY 0 (Xa d)) = some (Xa d) := XK hdl
 have q2' := e6.getS (by omega) (by simp only [XhQ, XiQ, or_false]; omega) q2
 refine R2 ?_
 refine Xm rfl (by conv => lhs; whnf) rfl q2' (by assumption) (XhH rfl) fun H7 E7 L7 G7 => ?_
 refine R ?_
 refine ⟨rfl, _, Xb (Y4 (cs := Xa d) rfl G7 ?_) Xg, rfl, r6.ext1' E7 (by omega) (fun a ha => by have := hal a ha; omega), ?_⟩
 ·show XU 32 (XY 0 (XZ (Xa d) 0 _)) = _
  rw [Yq (hdl.trans rfl)]
  exact ht
 ·have e13 : Ext [b] h h6 := E13.join e6 (fun s hs => nomatch hs) fun s hs => by
   simp only [XhQ, XiQ, or_false] at hs
   rcases hs with rfl | rfl
   ·exact .inl (Xh9 ..)
   ·exact .inr (by omega)
  exact e13.trans E7 fun s hs => by rw [XhB] at hs; exact .inr (by omega)
theorem word_Reader_Fault_ok (m : Nat) (h : Heap) (b : Nat) (ao : OA) (ca : Nat) (bs : LB) (p : Nat) (r : Rd h b ao ca bs p) :
  (enter E (ctx E (m + 1)) Xb7 [Pt b] h).Wp sg fun v h' => v = .agg ⟨[I6 0, I6 0]⟩ /\ Ext [] h h' := by
 refine H.run (k := UO) rfl rfl rfl ?_
 dsimp only [UO]
 have hlt := r.lt
 have gb := r.get
 refine X9 ?_
 refine Xt fun H1 B1 E1 L1 G1 N1 Q1 => ?_
 refine R ?_
 refine Xd rfl ?_
 refine R ?_
 have gb1 := E1.get0 (by omega) gb
 refine X6 (Xi rfl (VL H _ _ _ _ _ gb1)) ?_
 refine R2 ?_
 refine Xm rfl (by conv => lhs; whnf) rfl G1 rfl (XhH rfl) fun H2 E2 L2 G2 => ?_
 refine R ?_
 exact ⟨rfl, _, Xb (Y4 (cs := [I6 0, I6 0]) rfl G2 rfl) Xg, rfl, E1.trans1 E2 (by omega)⟩
theorem word_Reader_Left_ok (m : Nat) (h : Heap) (b : Nat) (ao : OA) (ca : Nat) (bs : LB) (p : Nat) (r : Rd h b ao ca bs p) (hbig : bs.length < 100000000) :
  (enter E (ctx E (m + 1)) Xdd [Pt b] h).Wp sg fun v h' => v = .int .i64 (XhA (bs.length - p)) /\ h' = h := by
 refine H.run (k := JE) rfl rfl rfl ?_
 dsimp only [JE]
 have hlt := r.lt
 have hle := r.le
 have gb := r.get
 refine R ?_
 refine Xd rfl ?_
 refine R ?_
 refine X6 (Xi rfl (VL H _ _ _ _ _ gb)) ?_
 refine R2 ?_
 refine Xk (YY rfl rfl (by omega) (by omega)) rfl ?_
 refine R ?_
 exact ⟨rfl, _, Xb (Xw rfl) Xg, rfl, rfl⟩
theorem Xdr (m : Nat) (h : Heap) (b : Nat) (ao : OA) (ca : Nat) (bs : LB) (r : Rd h b ao ca bs bs.length) (hbig : bs.length < 100000000) :
  (enter E (ctx E (m + 2)) XdP [Pt b] h).Wp sg fun v h' => v = .agg ⟨[I6 0, I6 0]⟩ /\ Ext [] h h' := by
 refine H.run (k := KA) rfl rfl rfl ?_
 dsimp only [KA]
 have hlt := r.lt
 refine X9 ?_
 refine Xt fun H1 B1 E1 L1 G1 N1 Q1 => ?_
 refine R ?_
 have r1 := r.ext E1
 refine Xj (Xi rfl (word_Reader_Fault_ok H _ _ _ _ _ _ _ r1)) ?_
 rintro v H2 ⟨rfl, E2⟩
 have L2 := E2.next
 refine Xt fun H3 B3 E3 L3 G3 N3 Q3 => ?_
 refine Xm rfl (by conv => lhs; whnf) rfl G3 rfl (XhH rfl) fun H4 E4 L4 G4 => ?_
 refine R2 ?_
 have r4 := ((r1.ext E2).ext E3).ext1' E4 (by omega) (fun a ha => by have := r.sl.lt a ha; omega)
 refine X6 (Xi rfl (word_Reader_Left_ok H _ _ _ _ _ _ _ r4 hbig)) ?_
 rw [Nat.sub_self]
 refine R2 ?_
 have T5 := E2.get0 (by omega) G1
 have T6 := E3.get0 (by omega) T5
 have T7 := E4.get1 (by omega) (by omega) T6
 refine Xm rfl (by conv => lhs; whnf) rfl T7 rfl (XhH rfl) fun H8 E8 L8 G8 => ?_
 refine R ?_
 exact ⟨rfl, _, Xb (Y4 (cs := [I6 0, I6 0]) rfl G8 rfl) Xg, rfl, (((E1.trans0 E2).trans0 E3).trans1 E4 (by omega)).trans1 E8 (by omega)⟩
theorem word_Open_ok (m : Nat) (h : Heap) (bs : LB) (ao : OA) (n ca : Nat) (hn : bs.length = n) (sl : Slc h 1 ao n ca (Xa bs)) (hbig : n < 100000000) :
  (enter E (ctx E m) f_word_Open [.slice ao n ca] h).Wp sg fun v h' => ∃ b ao' ca', v = Pt b /\ Rd h' b ao' ca' bs 0 /\ h.next <= b /\ (∀ a, ao' = some a -> h.next <= a.block) /\ Ext [] h h' := by
 subst hn
 refine H.run (k := k_word_Open) rfl rfl rfl ?_
 dsimp only [k_word_Open]
 refine R ?_
 refine XJ XB fun H1 B1 E1 L1 G1 N1 Q1 => ?_
 refine R ?_
 have o0 : Own H1 1 (some ⟨B1, 0, none⟩) 0 0 [] := .lit G1 N1
 refine XP o0 rfl rfl rfl (sl.ext E1).elemsAll (by rw [Xc, XhI]) (by omega) fun ao2 ca2 H2 o2 E2 L2 f2 => ?_
 rw [XhT, Xib] at o2
 rw [XhT]
 have hge : ∀ a, ao2 = some a -> h.next <= a.block := fun a ha => by
  rcases f2 a ha with hx | hx
  ·have e : a.block = B1 := XhB.1 hx
   omega
  ·omega
 refine Xd (Yo (Xf (by conv => lhs; whnf) rfl rfl rfl (Xf (by conv => lhs; whnf) rfl rfl rfl XB))) ?_
 refine Xd (Yo (Xf (by conv => lhs; whnf) rfl rfl rfl XB)) ?_
 refine X2 (by conv => lhs; whnf) rfl fun H3 B3 E3 L3 G3 N3 Q3 => ?_
 refine R ?_
 refine ⟨rfl, _, Xb (Xw rfl) Xg, B3, ao2, ca2, rfl, ⟨(o2.ext E3).toSlc, G3, XhO _, N3, fun a ha => by have := o2.toSlc.lt a ha; omega⟩, by omega, hge, ?_⟩
 exact (E1.trans E2 fun s hs => .inr (by have e : s = B1 := XhB.1 hs; omega)).trans0 E3
theorem XdZ (m : Nat) (h : Heap) (n : Nat) (hn : n <= 65536) : (enter E (ctx E m) XeI [I6 n] h).Wp sg fun v h' => v = .int .i64 (XhA ((37 + n + 64 - 1) / 64)) /\ h' = h := by
 refine H.run (k := Xaw) rfl rfl rfl ?_
 dsimp only [Xaw]
 refine R ?_
 refine Xd (ZI rfl rfl (by omega)) ?_
 refine Xd (ZI rfl rfl (by omega)) ?_
 refine Xd (Xaj rfl rfl (by omega) (by omega)) ?_
 refine Xd (l_divN rfl rfl (by omega) (by omega)) ?_
 refine R ?_
 exact ⟨rfl, _, Xb (Xw rfl) Xg, rfl, rfl⟩
theorem KK (m : Nat) (h : Heap) (at' n : Nat) (hn : n <= 65536) : (enter E (ctx E (m + 1)) KT [.agg ⟨[I6 at', I6 n]⟩] h).Wp sg fun v h' => v = .int .i64 (XhA ((37 + n + 64 - 1) / 64)) /\ Ext [] h h' := by
 refine H.run (k := Vw) rfl rfl rfl ?_
 dsimp only [Vw]
 refine X9 ?_
 refine X2 (by conv => lhs; whnf) rfl fun H1 B1 E1 L1 G1 N1 Q1 => ?_
 refine R2 ?_
 refine X6 (Xi rfl (XdZ H _ _ n hn)) ?_
 refine R ?_
 exact ⟨rfl, _, Xb (Xw rfl) Xg, rfl, E1⟩
end
theorem XfS {o : Nat} {xs : List Value} {u v : Value} (t : XU (1 * 2) (XY o xs) = some [u, v]) : XU 2 (XY (o + 0 * 2) xs) = some [u, v] /\ nth (o + 0 * 2 + 0) xs = some u /\ nth (o + 0 * 2 + 1) xs = some v := by
 refine ⟨t, ?_, ?_⟩
 ·exact (Yf (i := 0) t (by decide)).trans rfl
 ·exact (Yf (i := 1) t (by decide)).trans rfl
def ex1 (A S : Nat) : List Value := [I6 A, I6 S]
section
variable {E : Env} {sg : Bool} (H : Has E)
include H
theorem Ja (m : Nat) (h : Heap) (A S : Nat) (hb : A + S <= 1000000) : (enter E (ctx E m) f_extent_end [.agg ⟨ex1 A S⟩] h).Wp sg fun v h' => v = .int .i64 (XhA (A + S)) /\ Ext [] h h' := by
 refine H.run (k := Xgu) rfl rfl rfl ?_
 dsimp only [Xgu]
 refine X9 ?_
 refine X2 (by conv => lhs; whnf) rfl fun H1 B1 E1 L1 G1 N1 Q1 => ?_
 refine R2 ?_
 refine Xd (ZI rfl rfl (by omega)) ?_
 refine R ?_
 exact ⟨rfl, _, Xb (Xw rfl) Xg, rfl, E1⟩
theorem Xhf (m : Nat) (h : Heap) (A S : Nat) (ao : OA) (ca : Nat) (sl : Slc h 2 ao 1 ca (ex1 A S)) (hS : 1 <= S) (hb : A + S <= 65536) : (enter E (ctx E (m + 10)) f_extent_Check [.slice ao 1 ca] h).Wp sg fun v h' => v = I6 0 /\ Ext [] h h' := by
 refine H.run (k := Xdp) rfl rfl rfl ?_
 dsimp only [Xdp]
 obtain ⟨a, w, xs, rfl, ga, na, ta⟩ := sl.nonempty (by decide)
 refine R ?_
 refine Yl 1 0 (fun i t x hk => ∃ z, (i = 0 -> z = -1) /\ (g8 t = (I6 i) /\ g7 t = (I6 1) /\ g6 t = (.slice (some a) 1 ca) /\ g3 t = (.int .i64 z)) /\ x = ax /\ Ext [] h hk) ⟨-1, fun _ => rfl, ⟨rfl, rfl, rfl, rfl⟩, rfl, .refl h⟩ (by decide) (XG (by omega)) ?_
 rintro i t x hk hi ⟨z, hz, ⟨r8, r7, r6, r3⟩, rfl, ek⟩
 obtain ⟨t0, rfl⟩ : ∃ t0, t = p8 (I6 i) (p7 (I6 1) (p6 (.slice (some a) 1 ca) (p3 (.int .i64 z) t0))) := ⟨t, (show t = p8 (g8 t) (p7 (g7 t) (p6 (g6 t) (p3 (g3 t) t))) from rfl).trans (by rw [r8, r7, r6, r3])⟩
 clear r8 r7 r6 r3
 by_cases hlt : i < 1
 ·have hi0 : i = 0 := by omega
  subst hi0
  have hz1 := hz rfl
  subst hz1
  have ga' := ek.get0 na ga
  have hlk := ek.next
  obtain ⟨t1, t2, t3⟩ := XfS ta
  have hneg : decide ((XhA A) <= -1) = false := decide_eq_false (by show ¬ ((A : Int) <= -1); omega)
  refine R2 ?_
  refine Xt fun H1 B1 E1 L1 G1 N1 Q1 => ?_
  refine Xm rfl (by conv => lhs; whnf) rfl G1 rfl (XhH rfl) fun H2 E2 L2 G2 => ?_
  refine R2 ?_
  refine Xd (l_leqI rfl rfl rfl) ?_
  refine R ?_
  refine wp_say (b := false) rfl (by assumption) ?_
  refine R2 ?_
  refine Xd (YY rfl rfl (by omega) (by omega)) ?_
  refine R2 ?_
  refine Xj (Xi rfl (Ja H _ _ A S (by omega))) ?_
  rintro v h3 ⟨rfl, e3⟩
  refine R ?_
  exact ⟨by decide, XhA (A + S), fun h => absurd h (Nat.succ_ne_zero _), ⟨rfl, rfl, rfl, rfl⟩, rfl, ((ek.trans0 E1).trans1 E2 (by omega)).trans0 e3⟩
 ·refine R ?_
  exact ⟨rfl, _, Xb (Xw rfl) Xg, rfl, ek⟩
theorem KL (m : Nat) (h : Heap) (A S p : Nat) (hb : A + S <= 1000000) (hp : p < A + S) : (enter E (ctx E (m + 1)) Zm [.agg ⟨ex1 A S⟩, I6 p] h).Wp sg fun v h' => v = I6 1 /\ Ext [] h h' := by
 refine H.run (k := VD) rfl rfl rfl ?_
 dsimp only [VD]
 refine X9 ?_
 refine X2 (by conv => lhs; whnf) rfl fun H1 B1 E1 L1 G1 N1 Q1 => ?_
 refine R2 ?_
 refine Xj (Xi rfl (Ja H _ _ A S hb)) ?_
 rintro v h2 ⟨rfl, e2⟩
 refine R ?_
 refine Xd (l_leqN rfl rfl rfl) ?_
 refine R ?_
 exact ⟨rfl, _, Xb (Xw rfl) Xg, rfl, E1.trans0 e2⟩
theorem extent_bad_ok (m : Nat) (h : Heap) (A S p n : Nat) (ao : OA) (ca : Nat) (sl : Slc h 2 ao 1 ca (ex1 A S)) (hS : 1 <= S) (hb : A + S <= 65536) (hn : 1 <= n) (hp : p + n <= 65536) : (enter E (ctx E (m + 11)) f_extent_bad [.slice ao 1 ca, I6 p, I6 n] h).Wp sg fun v h' => v = .bool false /\ Ext [] h h' := by
 refine H.run (k := Xgv) rfl rfl rfl ?_
 dsimp only [Xgv]
 refine R ?_
 refine Xj (Xi rfl (Xhf H _ _ A S ao ca sl hS hb)) ?_
 rintro v h1 ⟨rfl, e1⟩
 refine R ?_
 refine Xd (l_geqN rfl rfl rfl) ?_
 refine R ?_
 refine Xd (YY rfl rfl (by omega) (by omega)) ?_
 refine R ?_
 exact ⟨rfl, _, Xb (Xw rfl) Xg, congrArg Value.bool (decide_eq_false (by omega)), e1⟩
theorem Xds (m : Nat) (h : Heap) (A S p : Nat) (ao : OA) (ca : Nat) (sl : Slc h 2 ao 1 ca (ex1 A S)) (hb : A + S <= 65536) (hp : p < A + S) : (enter E (ctx E (m + 10)) YM [.slice ao 1 ca, I6 p, .func (.func Zm) ⟨[]⟩ ⟨[]⟩] h).Wp sg fun v h' => (∃ b, v = .tuple ⟨[I6 0, .bool b]⟩) /\ Ext [] h h' := by
 refine H.run (k := Yc) rfl rfl rfl ?_
 dsimp only [Yc]
 obtain ⟨a, w, xs, rfl, ga, na, ta⟩ := sl.nonempty (by decide)
 obtain ⟨t1, t2, t3⟩ := XfS ta
 refine R ?_
 refine XdH (fun q t x hk => q <= 1 /\ (g10 t = (I6 q) /\ g9 t = (I6 0) /\ g8 t = (I6 1) /\ g2 t = (.func (.func Zm) ⟨[]⟩ ⟨[]⟩) /\ g1 t = (I6 p) /\ g0 t = (.slice (some a) 1 ca)) /\ x = ax /\ Ext [] h hk) 1 ⟨XhE _, ⟨rfl, rfl, rfl, rfl, rfl, rfl⟩, rfl, .refl h⟩ (XG (by omega)) ?_
 rintro q t x hk ⟨hq, ⟨r10, r9, r8, r2, r1, r0⟩, rfl, ek⟩
 obtain ⟨t0, rfl⟩ : ∃ t0, t = p10 (I6 q) (p9 (I6 0) (p8 (I6 1) (p2 (.func (.func Zm) ⟨[]⟩ ⟨[]⟩) (p1 (I6 p) (p0 (.slice (some a) 1 ca) t0))))) := ⟨t, (show t = p10 (g10 t) (p9 (g9 t) (p8 (g8 t) (p2 (g2 t) (p1 (g1 t) (p0 (g0 t) t))))) from rfl).trans (by rw [r10, r9, r8, r2, r1, r0])⟩
 clear r10 r9 r8 r2 r1 r0
 have ga' := ek.get0 na ga
 have hlk := ek.next
 by_cases hq1 : q = 1
 ·subst hq1
  refine R ?_
  refine Xd (VW rfl rfl) ?_
  refine Xd (lk_int (b := XhA 0) (l_intTo rfl) (by decide)) ?_
  refine R2 ?_
  refine Xj (Xi rfl (KL H _ _ A S p (by omega) hp)) ?_
  rintro v h1 ⟨rfl, e1⟩
  refine R ?_
  exact ⟨0, by decide, XhO _, ⟨rfl, rfl, rfl, rfl, rfl, rfl⟩, rfl, ek.trans0 e1⟩
 ·have hq0 : q = 0 := by omega
  subst hq0
  refine R2 ?_
  refine Xj (Xi rfl (KL H _ _ A S p (by omega) hp)) ?_
  rintro v h1 ⟨rfl, e1⟩
  refine R ?_
  exact ⟨rfl, _, Xb (Xw rfl) (Xb (Xw rfl) Xg), ⟨_, rfl⟩, ek.trans0 e1⟩
theorem extent_list_place_ok (m : Nat) (h : Heap) (A S p : Nat) (ao : OA) (ca : Nat) (sl : Slc h 2 ao 1 ca (ex1 A S)) (hb : A + S <= 65536) (hp : p < A + S) : (enter E (ctx E (m + 11)) Xcc [.slice ao 1 ca, I6 p] h).Wp sg fun v h' => v = I6 0 /\ Ext [] h h' := by
 refine H.run (k := UW) rfl rfl rfl ?_
 dsimp only [UW]
 refine R ?_
 refine Xj (Xi rfl (Xds H _ _ A S p ao ca sl hb hp)) ?_
 rintro v h1 ⟨⟨b, rfl⟩, e1⟩
 refine R ?_
 exact ⟨rfl, _, Xb (Xw rfl) Xg, rfl, e1⟩
theorem slices_Clone_ext_ok (m : Nat) (h : Heap) (A S : Nat) (ao : OA) (ca : Nat) (sl : Slc h 2 ao 1 ca (ex1 A S)) : (enter E (ctx E m) ZO [.slice ao 1 ca] h).Wp sg fun v h' => ∃ b, v = .slice (some ⟨b, 0, some 2⟩) 1 1 /\ h'.get b = some (.cells true (ex1 A S)) /\ h.next <= b /\ b < h'.next /\ Ext [] h h' := by
 refine H.run (k := YW) rfl rfl rfl ?_
 dsimp only [YW]
 obtain ⟨a, w, xs, rfl, ga, na, ta⟩ := sl.nonempty (by decide)
 refine R ?_
 refine Xd rfl ?_
 refine R ?_
 refine XJ XB fun H1 B1 E1 L1 G1 N1 Q1 => ?_
 refine R ?_
 have o0 : Own H1 2 (some ⟨B1, 0, none⟩) 0 0 [] := .lit G1 N1
 refine XP o0 rfl rfl rfl (sl.ext E1).elemsAll rfl (by decide) fun ao2 ca2 H2 o2 E2 L2 f2 => ?_
 refine R ?_
 rw [Xib] at o2
 have hE := E1.trans E2 fun s hs => .inr (by have e : s = B1 := XhB.1 hs; omega)
 rcases o2.own with ⟨_, h0, _⟩ | ⟨b, rfl, hc, _, hg⟩ | ⟨b, _, h0, _⟩
 ·exact absurd h0 (by decide)
 ·subst hc
  refine ⟨rfl, _, Xb (Xw rfl) Xg, b, rfl, hg, ?_, o2.toSlc.lt _ rfl, hE⟩
  rcases f2 _ rfl with hx | hx
  ·have e : b = B1 := XhB.1 hx
   omega
  ·have : H1.next <= b := hx.1
   omega
 ·exact absurd h0 (by decide)
theorem slices_Delete_ext_ok (m : Nat) (h : Heap) (A S b : Nat) (g : h.get b = some (.cells true (ex1 A S))) (hb : b < h.next) : (enter E (ctx E m) ZJ [.slice (some ⟨b, 0, some 2⟩) 1 1, I6 0, I6 1] h).Wp sg fun v h' => v = .slice (some ⟨b, 0, some 2⟩) 0 1 /\ h'.get b = some (.cells true (ex1 0 0)) /\ h'.next = h.next /\ Ext [b] h h' := by
 refine H.run (k := YQ) rfl rfl rfl ?_
 dsimp only [YQ]
 refine R ?_
 refine Xd rfl ?_
 refine R ?_
 refine Xk rfl rfl ?_
 refine R ?_
 refine Xk rfl rfl ?_
 refine XaW (JS rfl rfl rfl (Heap.load_of g rfl) (append_zero g)) rfl ?_
 refine R ?_
 refine Xd rfl ?_
 refine wp_turnDo (tn_clear (z := X7) (b := b) (o := 0) (n := 1) rfl (by decide) (by decide) g (XhH rfl)) ?_
 refine R ?_
 exact ⟨rfl, _, Xb (Xw rfl) Xg, rfl, Heap.get_put_eq _ _ _, rfl, .put _ _ _⟩
theorem slices_Insert_ext_ok (m : Nat) (h : Heap) (A S b : Nat) (cs : List Value) (g : h.get b = some (.cells true cs)) (hcs : cs.length = 2) (hb : b < h.next) (ao : OA) (ca : Nat) (sl : Slc h 2 ao 1 ca (ex1 A S)) : (enter E (ctx E m) ZK [.slice (some ⟨b, 0, some 2⟩) 0 1, I6 0, .slice ao 1 ca] h).Wp sg fun v h' => v = .slice (some ⟨b, 0, some 2⟩) 1 1 /\ h'.get b = some (.cells true (ex1 A S)) /\ h'.next = h.next /\ Ext [b] h h' := by
 refine H.run (k := YR) rfl rfl rfl ?_
 dsimp only [YR]
 refine R ?_
 refine Xd rfl ?_
 refine R ?_
 refine VI (JS rfl rfl rfl sl.elemsAll (append_room g (by decide) (by decide) (by decide) (by rw [hcs]; decide))) ?_
 refine R ?_
 refine ⟨rfl, _, Xb (Xw rfl) Xg, rfl, ?_, rfl, .put _ _ _⟩
 rw [Heap.get_put_eq]
 exact congrArg (fun z => some (AObj.cells true z)) (Yq (hcs.symm ▸ rfl))
theorem Xdt (m : Nat) (h : Heap) (A S n : Nat) (ao : OA) (ca : Nat) (sl : Slc h 2 ao 1 ca (ex1 A S)) (hb : A + S <= 65536) (hn : n < S) : (enter E (ctx E (m + 2)) XdV [.slice ao 1 ca, I6 0, I6 A, I6 n] h).Wp sg fun v h' => ∃ b, v = .slice (some ⟨b, 0, some 2⟩) 1 1 /\ h'.get b = some (.cells true (ex1 (A + n) (S - n))) /\ h.next <= b /\ b < h'.next /\ Ext [] h h' := by
 refine H.run (k := KJ) rfl rfl rfl ?_
 dsimp only [KJ]
 obtain ⟨a, w, xs, rfl, ga, na, ta⟩ := sl.nonempty (by decide)
 obtain ⟨t1, t2, t3⟩ := XfS ta
 refine R2 ?_
 refine Xt fun H1 B1 E1 L1 G1 N1 Q1 => ?_
 refine Xm rfl (by conv => lhs; whnf) rfl G1 rfl (XhH rfl) fun H2 E2 L2 G2 => ?_
 refine R2 ?_
 refine Xd (ZI rfl rfl (by omega)) ?_
 refine R2 ?_
 refine Xj (Xi rfl (Ja H _ _ A S (by omega))) ?_
 rintro v h3 ⟨rfl, e3⟩
 have l3 := e3.next
 refine R ?_
 refine Xd (ZI rfl rfl (by omega)) ?_
 have T4 := e3.get0 (by omega) G2
 refine R2 ?_
 refine Xj (Xi rfl (Ja H _ _ A S (by omega))) ?_
 rintro v h5 ⟨rfl, e5⟩
 have l5 := e5.next
 refine R ?_
 refine Xd (YY rfl rfl (by omega) (by omega)) ?_
 refine R ?_
 refine Xd (YY rfl rfl (by omega) (by omega)) ?_
 refine Xd (Yo (Xf (by conv => lhs; whnf) rfl rfl rfl (Xf (by conv => lhs; whnf) rfl rfl rfl XB))) ?_
 refine XJ (Xf (by conv => lhs; whnf) rfl rfl rfl XB) fun H10 B10 E10 L10 G10 N10 Q10 => ?_
 have G10' : H10.get B10 = some (.cells true (ex1 (A + n) (S - n))) := by
  rw [show S - n = A + S - A - n by omega]; exact G10
 refine XP (Own.empty H10 2) rfl rfl rfl (Slc.of_get (z := 2) G10' N10 rfl).elemsAll rfl (by decide) fun ao2 ca2 h11 o2 E11 L11 f2 => ?_
 rw [Xib] at o2
 have E11' : Ext [] H10 h11 := E11
 have sP : Slc h11 2 ao2 1 ca2 (ex1 (A + n) (S - n)) := o2.toSlc
 have e11 : Ext [] h h11 := (((E1.trans1 E2 (by omega)).trans0 e3).trans0 e5).trans0 E10 |>.trans0 E11'
 refine R ?_
 refine Xj (Xi rfl (slices_Clone_ext_ok H _ _ A S _ ca (sl.ext e11))) ?_
 rintro v h12 ⟨b, rfl, gb, hbl, hbn, e12⟩
 have l12 := e12.next
 refine R ?_
 refine Xj (Xi rfl (slices_Delete_ext_ok H _ _ A S b gb hbn)) ?_
 rintro v h13 ⟨rfl, gb3, l13, e13⟩
 refine R ?_
 have hne : ∀ a, ao2 = some a -> a.block ≠ b := fun a ha => by have := sP.lt a ha; omega
 refine Xj (Xi rfl (slices_Insert_ext_ok H _ _ (A + n) (S - n) b _ gb3 rfl (by omega) ao2 ca2 ((sP.ext e12).ext1 e13 hne))) ?_
 rintro v h14 ⟨rfl, gb4, l14, e14⟩
 refine R ?_
 exact ⟨rfl, _, Xb (Xw rfl) Xg, b, rfl, gb4, by have := e11.next; omega, by omega, ((e11.trans0 e12).trans1 e13 (by have := e11.next; omega)).trans1 e14 (by have := e11.next; omega)⟩
theorem extent_Take_ok (m : Nat) (h : Heap) (A S n : Nat) (ao : OA) (ca : Nat) (sl : Slc h 2 ao 1 ca (ex1 A S)) (hb : A + S <= 65536) (hn : n < S) (hn1 : 1 <= n) : (enter E (ctx E (m + 12)) f_extent_Take [.slice ao 1 ca, I6 A, I6 n] h).Wp sg fun v h' => ∃ b, v = .tuple ⟨[.slice (some ⟨b, 0, some 2⟩) 1 1, I6 0]⟩ /\ h'.get b = some (.cells true (ex1 (A + n) (S - n))) /\ h.next <= b /\ b < h'.next /\ Ext [] h h' := by
 refine H.run (k := Xej) rfl rfl rfl ?_
 dsimp only [Xej]
 obtain ⟨a, w, xs, rfl, ga, na, ta⟩ := sl.nonempty (by decide)
 obtain ⟨t1, t2, t3⟩ := XfS ta
 refine R ?_
 refine Xj (Xi rfl (extent_bad_ok H _ _ A S A n _ ca sl (by omega) hb hn1 (by omega))) ?_
 rintro v h1 ⟨rfl, e1⟩
 have l1 := e1.next
 refine R ?_
 refine Xj (Xi rfl (extent_list_place_ok H _ _ A S A _ ca (sl.ext e1) hb (by omega))) ?_
 rintro v h2 ⟨rfl, e2⟩
 have l2 := e2.next
 refine R ?_
 have T3 := e1.get0 (by omega) ga
 have T4 := e2.get0 (by omega) T3
 refine R2 ?_
 refine Xj (Xi rfl (Ja H _ _ A S (by omega))) ?_
 rintro v h3 ⟨rfl, e3⟩
 have l3 := e3.next
 refine R ?_
 refine Xd (ZI rfl rfl (by omega)) ?_
 refine R ?_
 refine Xj (Xi rfl (Xdt H _ _ A S n _ ca (((sl.ext e1).ext e2).ext e3) hb hn)) ?_
 rintro v h4 ⟨b, rfl, gb, hbl, hbn, e4⟩
 refine R ?_
 exact ⟨rfl, _, Xb (Xw rfl) (Xb (Xw rfl) Xg), b, rfl, gb, by omega, hbn, ((e1.trans0 e2).trans0 e3).trans0 e4⟩
theorem extent_Alloc_1_ok (m : Nat) (h : Heap) (A S n b : Nat) (g : h.get b = some (.cells true [I6 n])) (hb : b < h.next) (hn : n <= S) : (enter E (ctx E m) W5 [.agg ⟨ex1 A S⟩, Pt b] h).Wp sg fun v h' => v = .bool true /\ Ext [] h h' := by
 refine H.run (k := XaE) rfl rfl rfl ?_
 dsimp only [XaE]
 refine X9 ?_
 refine X2 (by conv => lhs; whnf) rfl fun H1 B1 E1 L1 G1 N1 Q1 => ?_
 refine R2 ?_
 have T2 := E1.get0 (by omega) g
 refine R2 ?_
 refine Xd (l_geqN rfl rfl rfl) ?_
 refine R ?_
 exact ⟨rfl, _, Xb (Xw rfl) Xg, congrArg Value.bool (decide_eq_true hn), E1⟩
theorem XfT (m : Nat) (h : Heap) (A S n b : Nat) (g : h.get b = some (.cells true [I6 n])) (hb : b < h.next) (hn : n <= S) (ao : OA) (ca : Nat) (sl : Slc h 2 ao 1 ca (ex1 A S)) : (enter E (ctx E (m + 10)) Zl [.slice ao 1 ca, .func (.func W5) ⟨[]⟩ ⟨[Pt b]⟩] h).Wp sg fun v h' => v = I6 0 /\ Ext [] h h' := by
 refine H.run (k := YK) rfl rfl rfl ?_
 dsimp only [YK]
 obtain ⟨a, w, xs, rfl, ga, na, ta⟩ := sl.nonempty (by decide)
 obtain ⟨t1, t2, t3⟩ := XfS ta
 refine R ?_
 refine XdH (fun q t x hk => (g8 t = (I6 0) /\ g7 t = (I6 1) /\ g1 t = (.func (.func W5) ⟨[]⟩ ⟨[Pt b]⟩) /\ g0 t = (.slice (some a) 1 ca)) /\ x = ax /\ hk = h) 1 ⟨⟨rfl, rfl, rfl, rfl⟩, rfl, rfl⟩ (XG (by omega)) ?_
 rintro q t x hk ⟨⟨r8, r7, r1, r0⟩, rfl, rfl⟩
 obtain ⟨t0, rfl⟩ : ∃ t0, t = p8 (I6 0) (p7 (I6 1) (p1 (.func (.func W5) ⟨[]⟩ ⟨[Pt b]⟩) (p0 (.slice (some a) 1 ca) t0))) := ⟨t, (show t = p8 (g8 t) (p7 (g7 t) (p1 (g1 t) (p0 (g0 t) t))) from rfl).trans (by rw [r8, r7, r1, r0])⟩
 clear r8 r7 r1 r0
 refine R2 ?_
 refine Xj (Xi rfl (extent_Alloc_1_ok H _ _ A S n b g hb hn)) ?_
 rintro v h1 ⟨rfl, e1⟩
 refine R ?_
 exact ⟨rfl, _, Xb (Xw rfl) Xg, rfl, e1⟩
theorem extent_Alloc_ok (m : Nat) (h : Heap) (A S n : Nat) (ao : OA) (ca : Nat) (sl : Slc h 2 ao 1 ca (ex1 A S)) (hb : A + S <= 65536) (hn : n < S) (hn1 : 1 <= n) : (enter E (ctx E (m + 12)) f_extent_Alloc [.slice ao 1 ca, I6 n] h).Wp sg fun v h' => ∃ b, v = .tuple ⟨[I6 A, .slice (some ⟨b, 0, some 2⟩) 1 1, I6 0]⟩ /\ Ext [] h h' := by
 refine H.run (k := Xdo) rfl rfl rfl ?_
 dsimp only [Xdo]
 obtain ⟨a, w, xs, rfl, ga, na, ta⟩ := sl.nonempty (by decide)
 obtain ⟨t1, t2, t3⟩ := XfS ta
 refine X9 ?_
 refine X2 (by conv => lhs; whnf) rfl fun H1 B1 E1 L1 G1 N1 Q1 => ?_
 refine R ?_
 refine Xj (Xi rfl (Xhf H _ _ A S _ ca (sl.ext E1) (by omega) hb)) ?_
 rintro v h2 ⟨rfl, e2⟩
 have l2 := e2.next
 refine R ?_
 have T3 := e2.get0 (by omega) G1
 refine R2 ?_
 refine Xd rfl ?_
 refine Xj (Xi rfl (XfT H _ _ A S n B1 (e2.get0 (by omega) G1) (by omega) (by omega) _ ca ((sl.ext E1).ext e2))) ?_
 rintro v h3 ⟨rfl, e3⟩
 have l3 := e3.next
 refine R ?_
 have T5 := E1.get0 (by omega) ga
 have T6 := e2.get0 (by omega) T5
 have T7 := e3.get0 (by omega) T6
 refine R2 ?_
 have T8 := e3.get0 (by omega) T3
 refine R2 ?_
 refine Xj (Xi rfl (Xdt H _ _ A S n _ ca (((sl.ext E1).ext e2).ext e3) hb hn)) ?_
 rintro v h4 ⟨b, rfl, gb, hbl, hbn, e4⟩
 refine R ?_
 exact ⟨rfl, _, Xb (Xw rfl) (Xb (Xw rfl) (Xb (Xw rfl) Xg)), b, rfl, ((E1.trans0 e2).trans0 e3).trans0 e4⟩
end
structure Yg where
 at' : Nat
 bs : LB
 ao : OA
 ca : Nat
def Yg.cells (y : Yg) : List Value := I6 y.at' :: I6 y.bs.length :: (Xa (Sha y.bs) ++ [.slice y.ao y.bs.length y.ca])
def Xdu (l : List Yg) : List Value := (l.map Yg.cells).flatten
def stCells (po : OA) (pn pc gb db lb : Nat) : List Value :=
 .slice po pn pc :: .map (some gb) :: Pt db :: I6 0 :: (XhY 32 (.int .u8 (XhA 0)) ++ [I6 0, I6 0, .map (some lb), .bool false])
def X1 (n : Nat) : Nat := (37 + n + 64 - 1) / 64
def rowAt (o : Nat) : List Yg -> Prop
 | [] => True
 | y :: l => y.at' = o /\ y.bs.length <= 65536 /\ rowAt (o + X1 y.bs.length) l
def Wx : List Yg -> Nat
 | [] => 0
 | y :: l => X1 y.bs.length + Wx l
structure StoreAt (h : Heap) (p : Nat) (po : OA) (pc gb gv db lb many : Nat) (l : List Yg) : Prop where
 get : h.get p = some (.cells true (stCells po l.length pc gb db lb))
 put : Own h 35 po l.length pc (Xdu l)
 gone : h.get gb = some (.map (.many 32 .u8) gv [])
 laid : h.get lb = some (.map (.many 32 .u8) 0 [])
 disk : ∃ w dcs, h.get db = some (.cells w dcs) /\ nth 3 dcs = some (.bool true) /\ nth 4 dcs = some (I6 many)
 lt : p < h.next /\ gb < h.next /\ db < h.next /\ lb < h.next
 ne : p ≠ gb /\ p ≠ db /\ p ≠ lb /\ gb ≠ db /\ gb ≠ lb
 pne : ∀ a, po = some a -> a.block ≠ p /\ a.block ≠ gb /\ a.block ≠ db /\ a.block ≠ lb
 young : ∀ y ∈ l, Slc h 1 y.ao y.bs.length y.ca (Xa y.bs) /\ ∀ a, y.ao = some a -> a.block ≠ p /\ a.block ≠ gb /\ ∀ x, po = some x -> a.block ≠ x.block
 row : rowAt 2 l
theorem Yg.cells_length (y : Yg) : y.cells.length = 35 := by
 unfold Yg.cells
 rw [Xh8, Xh8, XhC, Xc, X5]; rfl
theorem ygFlat_cons (y : Yg) (l : List Yg) : Xdu (y :: l) = y.cells ++ Xdu l := by unfold Xdu; rw [List.map_cons, XiD]
theorem ygFlat_append (l m : List Yg) : Xdu (l ++ m) = Xdu l ++ Xdu m := by unfold Xdu; rw [Xh2, XiF]
theorem ygFlat_at {l : List Yg} {y : Yg} (h : l[i]? = some y) : ((Xdu l).drop (i * 35)).take 35 = y.cells := by
 induction l generalizing i with
 | nil => cases h
 | cons z l ih =>
  rw [ygFlat_cons z l]
  cases i with
  | zero =>
   cases h
   rw [Nat.zero_mul, List.drop_zero, <- Yg.cells_length y, Xjj]
  | succ i =>
   have hz := Yg.cells_length z
   rw [show (i + 1) * 35 = z.cells.length + i * 35 by omega, <- Xip, XiM]
   exact ih h
theorem used_append (l m : List Yg) : Wx (l ++ m) = Wx l + Wx m := by
 induction l with
 | nil => simp [Wx]
 | cons y l ih => show X1 _ + Wx (l ++ m) = X1 _ + Wx l + Wx m; rw [ih]; omega
theorem rowAt_at {l : List Yg} {o : Nat} {y : Yg} (h : rowAt o l) (hy : l[i]? = some y) : y.at' = o + Wx (l.take i) /\ y.bs.length <= 65536 := by
 induction l generalizing i o with
 | nil => cases hy
 | cons z l ih =>
  cases i with
  | zero => cases hy; exact ⟨h.1, h.2.1⟩
  | succ i =>
   have := ih h.2.2 hy
   refine ⟨?_, this.2⟩
   rw [this.1]
   show _ = o + (X1 z.bs.length + Wx (l.take i))
   omega
theorem rowAt_append {l m : List Yg} {o : Nat} (h : rowAt o l) (h' : rowAt (o + Wx l) m) : rowAt o (l ++ m) := by
 induction l generalizing o with
 | nil => exact h'
 | cons y l ih =>
  have e : o + Wx (y :: l) = o + X1 y.bs.length + Wx l := by
   show o + (X1 y.bs.length + Wx l) = _
   omega
  rw [e] at h'
  exact ⟨h.1, h.2.1, ih h.2.2 h'⟩
theorem used_take_le (l : List Yg) (i : Nat) : Wx (l.take i) <= Wx l := by
 have := used_append (l.take i) (l.drop i)
 rw [Xiw] at this
 omega
theorem sectors_pos (n : Nat) : 1 <= X1 n := by unfold X1; omega
section
variable {E : Env} {sg : Bool} (H : Has E)
include H
theorem disk_none_ok (m : Nat) (h : Heap) (b : Nat) (w : Bool) (dcs : List Value) (g : h.get b = some (.cells w dcs)) (h3 : nth 3 dcs = some (.bool true)) : (enter E (ctx E m) XeG [Pt b] h).Wp sg fun v h' => v = .bool false /\ h' = h := by
 refine H.run (k := Xau) rfl rfl rfl ?_
 dsimp only [Xau]
 refine R ?_
 refine Xd rfl ?_
 refine R2 ?_
 exact ⟨rfl, _, Xb (Xw rfl) Xg, rfl, rfl⟩
theorem disk_Len_ok (m : Nat) (h : Heap) (b many : Nat) (w : Bool) (dcs : List Value) (g : h.get b = some (.cells w dcs)) (h3 : nth 3 dcs = some (.bool true)) (h4 : nth 4 dcs = some (I6 many)) : (enter E (ctx E (m + 1)) XgJ [Pt b] h).Wp sg fun v h' => v = I6 many /\ h' = h := by
 refine H.run (k := XbW) rfl rfl rfl ?_
 dsimp only [XbW]
 refine R ?_
 refine X6 (Xi rfl (disk_none_ok H _ _ _ _ _ g h3)) ?_
 refine R2 ?_
 exact ⟨rfl, _, Xb (Xw rfl) Xg, rfl, rfl⟩
theorem store_none_ok (m : Nat) (h : Heap) (p pn pc gb db lb : Nat) (po : OA) (g : h.get p = some (.cells true (stCells po pn pc gb db lb))) : (enter E (ctx E m) Xc8 [Pt p] h).Wp sg fun v h' => v = .bool false /\ h' = h := by
 refine H.run (k := Jx) rfl rfl rfl ?_
 dsimp only [Jx]
 refine R ?_
 refine Xd rfl ?_
 refine R2 ?_
 refine Xd rfl ?_
 refine R ?_
 exact ⟨rfl, _, Xb (Xw rfl) Xg, rfl, rfl⟩
theorem Ug (m : Nat) (h : Heap) (p pn pc gb db lb : Nat) (po : OA) (g : h.get p = some (.cells true (stCells po pn pc gb db lb))) : (enter E (ctx E (m + 1)) Xb4 [Pt p] h).Wp sg fun v h' => v = I6 0 /\ h' = h := by
 refine H.run (k := UK) rfl rfl rfl ?_
 dsimp only [UK]
 refine R ?_
 refine X6 (Xi rfl (store_none_ok H _ _ _ _ _ _ _ _ _ g)) ?_
 refine R2 ?_
 exact ⟨rfl, _, Xb (Xw rfl) Xg, rfl, rfl⟩
theorem store_space_1_ok (m : Nat) (h : Heap) (B A S n : Nat) (ao : OA) (ca : Nat) (g : h.get B = some (.cells true [.slice ao 1 ca])) (sl : Slc h 2 ao 1 ca (ex1 A S)) (hne : ∀ a, ao = some a -> a.block ≠ B) (hB : B < h.next) (hb : A + S <= 65536) (hA : 0 < A) (hn : n <= 65536) (hs : X1 n < S) :
  (enter E (ctx E (m + 14)) YJ [.agg ⟨[I6 A, I6 n]⟩, Pt B] h).Wp sg fun v h' => ∃ b, h'.get B = some (.cells true [.slice (some ⟨b, 0, some 2⟩) 1 1]) /\ h'.get b = some (.cells true (ex1 (A + X1 n) (S - X1 n))) /\ h.next <= b /\ b < h'.next /\ Ext [B] h h' := by
 have hs1 : 1 <= X1 n := by unfold X1; omega
 refine H.run (k := Zp) rfl rfl rfl ?_
 dsimp only [Zp]
 refine X9 ?_
 refine X2 (by conv => lhs; whnf) rfl fun H1 B1 E1 L1 G1 N1 Q1 => ?_
 refine R2 ?_
 refine Xj (Xi rfl (KK H _ _ A n hn)) ?_
 rintro v h2 ⟨rfl, e2⟩
 have l2 := e2.next
 have hs2 : (37 + n + 64 - 1) / 64 = X1 n := rfl
 rw [hs2]
 refine R ?_
 have T3 := e2.get0 (by omega) G1
 refine R2 ?_
 have T4 := E1.get0 (by omega) g
 have T5 := e2.get0 (by omega) T4
 refine R2 ?_
 refine Xj (Xi rfl (extent_Take_ok H _ _ A S (X1 n) ao ca ((sl.ext E1).ext e2) hb hs hs1)) ?_
 rintro v h3 ⟨b, rfl, gb, hbl, hbn, e3⟩
 have l3 := e3.next
 refine R ?_
 have T20 := e3.get0 (by omega) T5
 refine Xm rfl (by conv => lhs; whnf) rfl T20 rfl (XhH rfl) fun H21 E21 L21 G21 => ?_
 refine Xf8 ?_
 exact ⟨rfl, _, Xg, b, G21, E21.get1 (by omega) (by omega) gb, by omega, by omega, ((E1.trans0 e2).trans0 e3).join E21 (fun s hs => nomatch hs) fun s hs => .inl hs⟩
theorem Xhx (m : Nat) (h : Heap) (B : Nat) : (enter E (ctx E (m + 14)) YJ [.agg ⟨[I6 0, I6 0]⟩, Pt B] h).Wp sg fun v h' => Ext [] h h' := by
 refine H.run (k := Zp) rfl rfl rfl ?_
 dsimp only [Zp]
 refine X9 ?_
 refine X2 (by conv => lhs; whnf) rfl fun H1 B1 E1 L1 G1 N1 Q1 => ?_
 refine R2 ?_
 refine Xj (Xi rfl (KK H _ _ 0 0 (by omega))) ?_
 rintro v h2 ⟨rfl, e2⟩
 have l2 := e2.next
 refine R ?_
 have T3 := e2.get0 (by omega) G1
 refine R2 ?_
 exact ⟨rfl, _, Xg, E1.trans0 e2⟩
theorem store_space_ok (m : Nat) (hm : 100000000 <= m) (h : Heap) (p : Nat) (po : OA) (pc gb gv db lb many : Nat) (l : List Yg) (s : StoreAt h p po pc gb gv db lb many l) (hmany : many <= 65536) (hu : 2 + Wx l < many) (hl : l.length <= 1000000) :
  (enter E (ctx E (m + 16)) Xcb [Pt p] h).Wp sg fun v h' => ∃ ao ca, v = .slice ao 1 ca /\ Slc h' 2 ao 1 ca (ex1 (2 + Wx l) (many - 2 - Wx l)) /\ Ext [] h h' := by
 obtain ⟨w, dcs, gd, d3, d4⟩ := s.disk
 have gp := s.get
 have gl := s.laid
 obtain ⟨lt1, lt2, lt3, lt4⟩ := s.lt
 refine H.run (k := UV) rfl rfl rfl ?_
 dsimp only [UV]
 refine R2 ?_
 refine X6 (Xi rfl (disk_Len_ok H _ _ _ many _ _ gd d3 d4)) ?_
 refine Xd (YY rfl rfl (by omega) (by omega)) ?_
 refine Xd (Yo (Xf (by conv => lhs; whnf) rfl rfl rfl (Xf (by conv => lhs; whnf) rfl rfl rfl XB))) ?_
 refine XJ (Xf (by conv => lhs; whnf) rfl rfl rfl XB) fun H1 B1 E1 L1 G1 N1 Q1 => ?_
 refine Xt fun H2 B2 E2 L2 G2 N2 Q2 => ?_
 refine Xm rfl (by conv => lhs; whnf) rfl G2 rfl (XhH rfl) fun H3 E3 L3 G3 => ?_
 refine R ?_
 refine Xd rfl ?_
 refine R ?_
 have T4 := E1.get0 (by omega) gp
 have T5 := E2.get0 (by omega) T4
 have T6 := E3.get1 (by omega) (by omega) T5
 refine R2 ?_
 have e14 : Ext [] h H3 := (E1.trans0 E2).trans1 E3 (by omega)
 refine wp_rangeMap rfl (e14.get0 (by omega) gl) fun H4 B4 E4 L4 G4 N4 Q4 => ?_
 have e15 := e14.trans0 E4
 have gp4 := e15.get0 (by omega) gp
 have gl4 := e15.get0 (by omega) gl
 refine R ?_
 refine XdH (fun q t x hk => (g22 t = (Pt B4) /\ g4 t = (.func (.func YJ) ⟨[]⟩ ⟨[Pt B2]⟩) /\ g3 t = (Pt B2) /\ g0 t = (Pt p)) /\ x = ax /\ hk = H4) 1 ⟨⟨rfl, rfl, rfl, rfl⟩, rfl, rfl⟩ (XG (by omega)) ?_
 rintro q t x hk ⟨⟨r22, r4, r3, r0⟩, rfl, rfl⟩
 obtain ⟨t0, rfl⟩ : ∃ t0, t = p22 (Pt B4) (p4 (.func (.func YJ) ⟨[]⟩ ⟨[Pt B2]⟩) (p3 (Pt B2) (p0 (Pt p) t0))) := ⟨t, (show t = p22 (g22 t) (p4 (g4 t) (p3 (g3 t) (p0 (g0 t) t))) from rfl).trans (by rw [r22, r4, r3, r0])⟩
 clear r22 r4 r3 r0
 refine X9 ?_
 refine wp_nextMap0 rfl G4 gl4 ?_
 refine R2 ?_
 have G3' : hk.get B2 = some (.cells true [.slice (some ⟨B1, 0, none⟩) 1 1]) := E4.get0 (by omega) G3
 have sl1 : Slc hk 2 (some ⟨B1, 0, none⟩) 1 1 (ex1 (2 + Wx (l.take 0)) (many - 2 - Wx (l.take 0))) := Slc.of_get (E4.get0 (by omega) (E3.get1 (by omega) (by omega) (E2.get0 (by omega) G1))) (by omega) rfl
 refine Yl l.length 0 (fun i t x hq => ∃ ao ca, (g36 t = (I6 i) /\ g35 t = (I6 l.length) /\ g34 t = (.slice po l.length pc) /\ g4 t = (.func (.func YJ) ⟨[]⟩ ⟨[Pt B2]⟩) /\ g3 t = (Pt B2) /\ g0 t = (Pt p)) /\ x = ax /\ Ext [] h hq /\ B2 < hq.next /\ hq.get B2 = some (.cells true [.slice ao 1 ca]) /\ Slc hq 2 ao 1 ca (ex1 (2 + Wx (l.take i)) (many - 2 - Wx (l.take i))) /\ ∀ a, ao = some a -> a.block ≠ B2) ⟨_, _, ⟨rfl, rfl, rfl, rfl, rfl, rfl⟩, rfl, e15, by omega, G3', sl1, fun a e => by cases e; show B1 ≠ B2; omega⟩ (XhO _) (XG (by omega)) ?_
 clear sl1 G3'
 rintro i t x hq hi ⟨ao, ca, ⟨r36, r35, r34, r4, r3, r0⟩, rfl, eq, nB, gB, sl, ne⟩
 obtain ⟨t0, rfl⟩ : ∃ t0, t = p36 (I6 i) (p35 (I6 l.length) (p34 (.slice po l.length pc) (p4 (.func (.func YJ) ⟨[]⟩ ⟨[Pt B2]⟩) (p3 (Pt B2) (p0 (Pt p) t0))))) := ⟨t, (show t = p36 (g36 t) (p35 (g35 t) (p34 (g34 t) (p4 (g4 t) (p3 (g3 t) (p0 (g0 t) t))))) from rfl).trans (by rw [r36, r35, r34, r4, r3, r0])⟩
 clear r36 r35 r34 r4 r3 r0
 have lq := eq.next
 by_cases hlt : i < l.length
 ·obtain ⟨y, hy⟩ : ∃ y, l[i]? = some y := ⟨_, XhL hlt⟩
  obtain ⟨ya, yl⟩ := rowAt_at s.row hy
  obtain ⟨a, w', xs, hpo, ga, na, ta⟩ := (s.put.toSlc.ext eq).nonempty (by omega)
  have te : XU 35 (XY (a.off + i * 35) xs) = some y.cells := by
   rw [take_take ta (by omega), ygFlat_at hy]
  have hyl := y.cells_length
  have hyc : y.cells = .int .i64 (XhA (2 + Wx (l.take i))) :: I6 y.bs.length :: (Xa (Sha y.bs) ++ [.slice y.ao y.bs.length y.ca]) := by unfold Yg.cells; rw [ya]
  rw [hpo]
  refine R2 ?_
  refine Xt fun H20 B20 E20 L20 G20 N20 Q20 => ?_
  refine Xm rfl (by conv => lhs; whnf) rfl G20 rfl (XhH rfl) fun H21 E21 L21 G21 => ?_
  refine R2 ?_
  have hu1 : Wx (l.take (i + 1)) = Wx (l.take i) + X1 y.bs.length := by
   rw [Xh6, hy, used_append]; rfl
  have hu2 := used_take_le l (i + 1)
  have hsp := sectors_pos y.bs.length
  have sl' := sl
  rw [<- ya] at sl'
  have e2 : Ext [] hq H21 := E20.trans1 E21 (by omega)
  refine Xj (Xi rfl (store_space_1_ok H _ _ B2 y.at' (many - 2 - Wx (l.take i)) y.bs.length ao ca (e2.get0 nB gB) (sl'.ext e2) ne (by omega) (by omega) (by omega) yl (by omega))) ?_
  rintro v h3 ⟨b, gB3, gb3, hbl, hbn, e3⟩
  refine R ?_
  refine ⟨hlt, some ⟨b, 0, some 2⟩, 1, by rw [<- hpo]; exact ⟨rfl, rfl, rfl, rfl, rfl, rfl⟩, rfl, (eq.trans0 e2).trans1 e3 (by omega), by have := e3.next; omega, gB3, ?_, fun a e => by cases e; show b ≠ B2; omega⟩
  refine ⟨rfl, XhE _, fun e => (nomatch e), fun a e => by cases e; exact .inr (.inr rfl), fun a e => ?_⟩
  cases e
  refine ⟨true, _, gb3, hbn, ?_⟩
  rw [hu1, ya, show 2 + (Wx (l.take i) + X1 y.bs.length) = 2 + Wx (l.take i) + X1 y.bs.length by omega, show many - 2 - (Wx (l.take i) + X1 y.bs.length) = many - 2 - Wx (l.take i) - X1 y.bs.length by omega]
  exact XK rfl
 ·have hil : i = l.length := by omega
  rw [hil, Xh7] at sl
  refine R ?_
  have T20 := eq.get0 (by omega) gp
  refine R2 ?_
  refine Xj (Xi rfl (Xhx H _ _ B2)) ?_
  intro v h3 e3
  have gB3 := e3.get0 nB gB
  refine R2 ?_
  exact ⟨rfl, _, Xb (Xw rfl) Xg, ao, ca, rfl, sl.ext e3, eq.trans0 e3⟩
end
theorem leafEq_byte (a b : UInt8) : Uy (.int .u8) (byteVal a) (byteVal b) = some (decide (a = b)) := by
 show (bif true && true then some (J2 (a.toNat : Int) (b.toNat : Int)) else none) = _
 show some (J2 (a.toNat : Int) (b.toNat : Int)) = _
 rw [XaX]
 congr 1
 refine decide_eq_decide.2 ⟨fun h => ?_, fun h => by rw [h]⟩
 exact UInt8.toNat_inj.1 (by omega)
theorem KM : ∀ (n : Nat) (x d : LB), x.length = n -> d.length = n -> YD (XhY n (.int .u8)) (Xa x) (Xa d) = some (decide (x = d))
 | 0, [], [], _, _ => rfl
 | n + 1, a :: x, b :: d, h1, h2 => by
  have ih := KM n x d (by simpa using h1) (by simpa using h2)
  show (match Uy (.int .u8) (byteVal a) (byteVal b) with
    | some true => YD (XhY n (.int .u8)) (Xa x) (Xa d)
    | some false => some false
    | none => none) = _
  rw [leafEq_byte]
  by_cases e : a = b
  ·subst e
   rw [decide_eq_true rfl]
   dsimp only
   rw [ih]
   congr 1
   exact decide_eq_decide.2 ⟨fun h => by rw [h], fun h => List.tail_eq_of_cons_eq h⟩
  ·rw [decide_eq_false e]
   dsimp only
   rw [decide_eq_false (fun h => e (List.head_eq_of_cons_eq h))]
theorem Yg.id_at (y : Yg) : XU 32 (XY 2 y.cells) = some (Xa (Sha y.bs)) := by
 have e : y.cells = [I6 y.at', I6 y.bs.length] ++ (Xa (Sha y.bs) ++ [.slice y.ao y.bs.length y.ca]) := rfl
 rw [e]
 exact XeC rfl (by rw [Xc, X5])
theorem Yg.sl_at (y : Yg) : nth 34 y.cells = some (.slice y.ao y.bs.length y.ca) := by
 have e : y.cells = ([I6 y.at', I6 y.bs.length] ++ Xa (Sha y.bs)) ++ (Value.slice y.ao y.bs.length y.ca :: []) := by unfold Yg.cells; simp
 rw [e]
 exact nth_app (by rw [XhC, Xc, X5]; rfl)
def XfU (l : List Yg) (d : LB) : Int := match l.findIdx? (fun y => decide (Sha y.bs = d)) with
 | some i => (i : Int)
 | none => -1
section
variable {E : Env} {sg : Bool} (H : Has E)
include H
theorem store_room_ok (m : Nat) (hm : 100000000 <= m) (h : Heap) (p n : Nat) (po : OA) (pc gb gv db lb many : Nat) (l : List Yg) (s : StoreAt h p po pc gb gv db lb many l) (hmany : many <= 65536) (hn : 1 <= n) (hu : 2 + Wx l + n < many) (hl : l.length <= 1000000) :
  (enter E (ctx E (m + 17)) Xde [Pt p, I6 n] h).Wp sg fun v h' => v = .tuple ⟨[.int .i64 (XhA (2 + Wx l)), I6 0]⟩ /\ Ext [] h h' := by
 refine H.run (k := JG) rfl rfl rfl ?_
 dsimp only [JG]
 refine R ?_
 refine Xj (Xi rfl (store_space_ok H _ hm _ _ _ _ _ _ _ _ many l s hmany (by omega) hl)) ?_
 rintro v h1 ⟨ao, ca, rfl, sl, e1⟩
 refine R ?_
 refine Xj (Xi rfl (extent_Alloc_ok H _ _ (2 + Wx l) (many - 2 - Wx l) n ao ca sl (by omega) (by omega) hn)) ?_
 rintro v h2 ⟨b, rfl, e2⟩
 refine R ?_
 exact ⟨rfl, _, Xb (Xw rfl) (Xb (Xw rfl) Xg), rfl, e1.trans0 e2⟩
theorem store_find_1_ok (m : Nat) (h : Heap) (y : Yg) (b : Nat) (d : LB) (hd : d.length = 32) (g : h.get b = some (.cells true (Xa d))) (hb : b < h.next) : (enter E (ctx E m) Z9 [.agg ⟨y.cells⟩, Pt b] h).Wp sg fun v h' => v = .bool (decide (Sha y.bs = d)) /\ Ext [] h h' := by
 have t1 := y.id_at
 have t2 : XU 32 (XY 0 (Xa d)) = some (Xa d) := XK (by rw [Xc, hd])
 have t3 := KM 32 (Sha y.bs) d (X5 _) hd
 refine H.run (k := JF) rfl rfl rfl ?_
 dsimp only [JF]
 refine X9 ?_
 refine X2 (by conv => lhs; whnf) rfl fun H1 B1 E1 L1 G1 N1 Q1 => ?_
 refine R2 ?_
 have T2 := E1.get0 (by omega) g
 refine R2 ?_
 refine Xd (l_eqFlat rfl rfl t3) ?_
 refine R ?_
 exact ⟨rfl, _, Xb (Xw rfl) Xg, rfl, E1⟩
end
theorem findY_hit {l : List Yg} {d : LB} {y : Yg} (hy : l[i]? = some y) (hd : Sha y.bs = d) (hn : ∀ j z, j < i -> l[j]? = some z -> Sha z.bs ≠ d) : XfU l d = (i : Int) := by
 have hi : i < l.length := by
  rcases Nat.lt_or_ge i l.length with h | h
  ·exact h
  ·rw [List.getElem?_eq_none h] at hy; cases hy
 have e : l.findIdx? (fun y => decide (Sha y.bs = d)) = some i := by
  rw [Xjy]
  refine ⟨hi, ?_, fun j hj => ?_⟩
  ·rw [XhL hi] at hy
   cases hy
   exact decide_eq_true hd
  ·have := hn j _ hj (XhL (by omega))
   simpa using this
 unfold XfU
 rw [e]
theorem findY_none {l : List Yg} {d : LB} (hn : ∀ z, z ∈ l -> Sha z.bs ≠ d) : XfU l d = -1 := by
 have e : l.findIdx? (fun y => decide (Sha y.bs = d)) = none := by
  rw [XjJ]
  intro z hz
  exact decide_eq_false (hn z hz)
 unfold XfU
 rw [e]
section
variable {E : Env} {sg : Bool} (H : Has E)
include H
theorem Xgx (m : Nat) (hm : 100000000 <= m) (h : Heap) (l : List Yg) (hl : l.length <= 1000000) (b : Nat) (d : LB) (hd : d.length = 32) (g : h.get b = some (.cells true (Xa d))) (hb : b < h.next) (po : OA) (pc : Nat) (sl : Slc h 35 po l.length pc (Xdu l)) : (enter E (ctx E (m + 10)) Zd [.slice po l.length pc, .func (.func Z9) ⟨[]⟩ ⟨[Pt b]⟩] h).Wp sg fun v h' => v = .int .i64 (XfU l d) /\ Ext [] h h' := by
 refine H.run (k := YA) rfl rfl rfl ?_
 dsimp only [YA]
 refine R ?_
 refine Yl l.length 0 (fun i t x hq => (g8 t = (I6 i) /\ g7 t = (I6 l.length) /\ g1 t = (.func (.func Z9) ⟨[]⟩ ⟨[Pt b]⟩) /\ g0 t = (.slice po l.length pc)) /\ x = ax /\ Ext [] h hq /\ ∀ j z, j < i -> l[j]? = some z -> Sha z.bs ≠ d) ⟨⟨rfl, rfl, rfl, rfl⟩, rfl, Ext.refl _, fun j z hj => absurd hj (Nat.not_lt_zero _)⟩ (XhO _) (XG (by omega)) ?_
 rintro i t x hq hi ⟨⟨r8, r7, r1, r0⟩, rfl, eq, hno⟩
 obtain ⟨t0, rfl⟩ : ∃ t0, t = p8 (I6 i) (p7 (I6 l.length) (p1 (.func (.func Z9) ⟨[]⟩ ⟨[Pt b]⟩) (p0 (.slice po l.length pc) t0))) := ⟨t, (show t = p8 (g8 t) (p7 (g7 t) (p1 (g1 t) (p0 (g0 t) t))) from rfl).trans (by rw [r8, r7, r1, r0])⟩
 clear r8 r7 r1 r0
 have lq := eq.next
 by_cases hlt : i < l.length
 ·obtain ⟨y, hy⟩ : ∃ y, l[i]? = some y := ⟨_, XhL hlt⟩
  obtain ⟨a, w', xs, hpo, ga, na, ta⟩ := (sl.ext eq).nonempty (by omega)
  have te : XU 35 (XY (a.off + i * 35) xs) = some y.cells := by
   rw [take_take ta (by omega), ygFlat_at hy]
  rw [hpo]
  refine R2 ?_
  refine Xj (Xi rfl (store_find_1_ok H _ _ y b d hd (eq.get0 hb g) (by omega))) ?_
  rintro v h3 ⟨rfl, e3⟩
  by_cases hs : Sha y.bs = d
  ·rw [decide_eq_true hs]
   refine R ?_
   exact ⟨rfl, _, Xb (Xw rfl) Xg, congrArg (Value.int .i64) (findY_hit hy hs hno).symm, eq.trans0 e3⟩
  ·rw [decide_eq_false hs]
   refine R ?_
   refine ⟨hlt, by rw [<- hpo]; exact ⟨rfl, rfl, rfl, rfl⟩, rfl, eq.trans0 e3, fun j z hj hz => ?_⟩
   rcases Nat.lt_or_ge j i with h' | h'
   ·exact hno j z h' hz
   ·have : j = i := by omega
    subst this
    rw [hy] at hz
    cases hz
    exact hs
 ·have hil : i = l.length := by omega
  subst hil
  refine R ?_
  refine ⟨rfl, _, Xb (Xw rfl) Xg, congrArg (Value.int .i64) (findY_none fun z hz => ?_).symm, eq⟩
  obtain ⟨j, hj, e⟩ := List.getElem_of_mem hz
  exact hno j z hj (by rw [XhL hj, e])
theorem XaM (m : Nat) (hm : 100000000 <= m) (h : Heap) (p : Nat) (po : OA) (pc gb gv db lb many : Nat) (l : List Yg) (s : StoreAt h p po pc gb gv db lb many l) (hl : l.length <= 1000000) (d : LB) (hd : d.length = 32) : (enter E (ctx E (m + 12)) XeK [Pt p, .agg ⟨Xa d⟩] h).Wp sg fun v h' => v = .int .i64 (XfU l d) /\ Ext [] h h' := by
 have gp := s.get
 obtain ⟨lt1, lt2, lt3, lt4⟩ := s.lt
 refine H.run (k := Xay) rfl rfl rfl ?_
 dsimp only [Xay]
 refine X9 ?_
 refine X2 (by conv => lhs; whnf) rfl fun H1 B1 E1 L1 G1 N1 Q1 => ?_
 refine R ?_
 have T2 := E1.get0 (by omega) gp
 refine R2 ?_
 refine Xd rfl ?_
 refine Xj (Xi rfl (Xgx H (m + 1) (by omega) _ l hl B1 d hd G1 (by omega) po pc (s.put.toSlc.ext E1))) ?_
 rintro v h2 ⟨rfl, e2⟩
 refine R ?_
 exact ⟨rfl, _, Xb (Xw rfl) Xg, rfl, E1.trans0 e2⟩
end
theorem Xek : ∀ (d : LB), VF (.int .u8) (Xa d) d.length = true
 | [] => rfl
 | b :: d => by
  show (XbT (.int .u8) (byteVal b) && VF (.int .u8) (Xa d) d.length) = true
  rw [Xek d]
  rfl
theorem keyOK_bytes {d : LB} (hd : d.length = 32) : Wg (.many 32 .u8) (.agg ⟨Xa d⟩) = true := by
 have := Xek d
 rw [hd] at this
 exact this
theorem l_lookup0 {t : Tm} {x i : Xe} {zero : Value} {ok : Bool} {r gv : Nat} {d : LB} (hx : x t = .map (some r)) (hi : i t = .agg ⟨Xa d⟩) (hd : d.length = 32) (g : h.get r = some (.map (.many 32 .u8) gv [])) : W1 (.many 32 .u8) zero ok x i t h = some (J3 zero ok none) := by
 unfold W1
 rw [hi, hx, keyOK_bytes hd]
 show (match h.get r with
  | some (.map sh' _ es) => bif !(XcT (.many 32 .u8) sh') then none else Yr none (fun v => some (J3 zero ok v)) (JM (.many 32 .u8) (.agg ⟨Xa d⟩) es)
  | _ => none) = _
 rw [g]
 rfl
theorem StoreAt.extS {S : List Nat} {po : OA} {pc gb gv db lb many : Nat} {l : List Yg} (s : StoreAt h p po pc gb gv db lb many l) (e : Ext S h h') (hp : p ∉ S) (hg : gb ∉ S) (hd : db ∉ S) (hl : lb ∉ S) (ho : ∀ a, po = some a -> a.block ∉ S) (hy : ∀ y ∈ l, ∀ a, y.ao = some a -> a.block ∉ S) : StoreAt h' p po pc gb gv db lb many l := by
 obtain ⟨lt1, lt2, lt3, lt4⟩ := s.lt
 have n := e.next
 refine ⟨e.getS lt1 hp s.get, s.put.extS e ho, e.getS lt2 hg s.gone, e.getS lt4 hl s.laid, ?_, ⟨by omega, by omega, by omega, by omega⟩, s.ne, s.pne, fun y hm => ⟨(s.young y hm).1.extS e (hy y hm), (s.young y hm).2⟩, s.row⟩
 obtain ⟨w, dcs, g, h3, h4⟩ := s.disk
 exact ⟨w, dcs, e.getS lt3 hd g, h3, h4⟩
theorem StoreAt.ext {po : OA} {pc gb gv db lb many : Nat} {l : List Yg} (s : StoreAt h p po pc gb gv db lb many l) (e : Ext [] h h') : StoreAt h' p po pc gb gv db lb many l :=
 s.extS e (fun h => nomatch h) (fun h => nomatch h) (fun h => nomatch h) (fun h => nomatch h) (fun _ _ h => nomatch h) (fun _ _ _ _ h => nomatch h)
section
variable {E : Env} {sg : Bool} (H : Has E)
include H
theorem store_Has_ok (m : Nat) (hm : 100000000 <= m) (h : Heap) (p : Nat) (po : OA) (pc gb gv db lb many : Nat) (l : List Yg) (s : StoreAt h p po pc gb gv db lb many l) (hl : l.length <= 1000000) (d : LB) (hd : d.length = 32) : (enter E (ctx E (m + 14)) XdQ [Pt p, .agg ⟨Xa d⟩] h).Wp sg fun v h' => v = .bool (decide (0 <= XfU l d)) /\ Ext [] h h' := by
 have gp := s.get
 have gl := s.laid
 obtain ⟨lt1, lt2, lt3, lt4⟩ := s.lt
 refine H.run (k := KC) rfl rfl rfl ?_
 dsimp only [KC]
 have t2 : XU 32 (XY 0 (Xa d)) = some (Xa d) := XK (by rw [Xc, hd])
 refine X9 ?_
 refine X2 (by conv => lhs; whnf) rfl fun H1 B1 E1 L1 G1 N1 Q1 => ?_
 refine R ?_
 refine Xj (Xi rfl (Ug H _ _ p _ _ _ _ _ _ (E1.get0 (by omega) gp))) ?_
 rintro v h2 ⟨rfl, rfl⟩
 refine R ?_
 have T5 := E1.get0 (by omega) gp
 refine R2 ?_
 refine Xk (l_lookup0 rfl rfl hd (E1.get0 lt4 gl)) rfl ?_
 refine R ?_
 refine Xf9 (fun _ => rfl) fun H10 B10 E10 L10 G10 N10 Q10 => ?_
 refine Yw rfl (by conv => lhs; whnf) rfl G10 rfl (XhH rfl) (fun _ => rfl) fun H11 E11 L11 G11 => ?_
 refine R ?_
 have T12 := E10.get0 (by omega) G1
 have T13 := E11.get1 (by omega) (by omega) T12
 refine R2 ?_
 have e11 : Ext [] h H11 := (E1.trans0 E10).trans1 E11 (by omega)
 refine YL (Xi rfl (XaM H (m + 1) (by omega) _ p po pc gb gv db lb many l (s.ext e11) hl d hd)) (fun _ _ _ => rfl) ?_
 rintro v h3 ⟨rfl, e3⟩
 refine R ?_
 refine Xk (l_geqI rfl rfl rfl) rfl ?_
 refine R ?_
 exact ⟨rfl, _, Xb (Xw rfl) Xg, rfl, e11.trans0 e3⟩
theorem Xhy (m : Nat) (h : Heap) (bs : LB) (hbs : bs.length <= 1000000) (ao : OA) (ca : Nat) (sl : Slc h 1 ao bs.length ca (Xa bs)) : (enter E (ctx E m) U5 [.slice ao bs.length ca] h).Wp sg fun v h' => ∃ ao' ca', v = .slice ao' bs.length ca' /\ Own h' 1 ao' bs.length ca' (Xa bs) /\ (∀ a, ao' = some a -> h.next <= a.block /\ a.block < h'.next) /\ Ext [] h h' := by
 refine H.run (k := WN) rfl rfl rfl ?_
 dsimp only [WN]
 cases ao with
 | none =>
  have c0 := sl.nil rfl
  have c1 := sl.cap
  have b0 : bs = [] := XiB (by omega)
  subst b0
  subst c0
  refine R ?_
  refine Xd rfl ?_
  refine R ?_
  exact ⟨rfl, _, Xb (Xw rfl) Xg, none, 0, rfl, .empty _ _, fun _ h => (nomatch h), Ext.refl _⟩
 | some a =>
  refine R ?_
  refine Xd rfl ?_
  refine R ?_
  refine XJ XB fun H1 B1 E1 L1 G1 N1 Q1 => ?_
  refine R ?_
  have o0 : Own H1 1 (some ⟨B1, 0, none⟩) 0 0 [] := .lit G1 N1
  refine XP o0 rfl rfl rfl (sl.ext E1).elemsAll (by rw [Xc, XhI]) (by omega) fun ao2 ca2 H2 o2 E2 L2 f2 => ?_
  refine R ?_
  rw [Xib, XhT] at o2
  have hE := E1.trans E2 fun s hs => .inr (by have e : s = B1 := XhB.1 hs; omega)
  refine ⟨rfl, _, Xb (Xw rfl) Xg, ao2, ca2, by rw [XhT]; rfl, o2, fun a ha => ?_, hE⟩
  rcases f2 _ ha with hx | hx
  ·have e : a.block = B1 := XhB.1 hx
   omega
  ·have : H1.next <= a.block := hx.1
   omega
end
theorem Xd0 : ∀ (l : LB), ∀ v ∈ Xa l, atomV v = true
 | [], v, hv => nomatch hv
 | b :: l, v, hv => by
  rcases XhQ.1 (show v ∈ byteVal b :: Xa l from hv) with rfl | h
  ·rfl
  ·exact Xd0 l v h
theorem l_lenMap {t : Tm} {g : Xe} {r gv : Nat} {sh : KSh} {es : List (Value × Value)} (hg : g t = .map (some r)) (hm : h.get r = some (.map sh gv es)) : lkLen .map g t h = some (I6 es.length) := by
 unfold lkLen
 dsimp only
 rw [hg]
 show (match h.get r with
   | some (.map _ _ es) => some (Value.int .i64 (.ofNat es.length))
   | _ => none) = _
 rw [hm]
section
variable {E : Env} {sg : Bool} (H : Has E)
include H
theorem store_Put_new_ok (m : Nat) (hm : 100000000 <= m) (h : Heap) (p : Nat) (po : OA) (pc gb gv db lb many : Nat) (l : List Yg) (s : StoreAt h p po pc gb gv db lb many l) (hmany : many <= 65536) (hl : l.length < 1500) (bs : LB) (hbs : bs.length <= 65536) (hu : 2 + Wx l + X1 bs.length < many) (hnew : XfU l (Sha bs) = -1) (ao : OA) (ca : Nat) (sl : Slc h 1 ao bs.length ca (Xa bs)) : (enter E (ctx E (m + 1005)) VK [Pt p, .slice ao bs.length ca] h).Wp sg fun v h' => v = .tuple ⟨[.agg ⟨Xa (Sha bs)⟩, I6 0]⟩ /\ ∃ po' pc' ao' ca', StoreAt h' p po' pc' gb gv db lb many (l ++ [⟨2 + Wx l, bs, ao', ca'⟩]) /\ Ext (p :: XD po) h h' /\ (∀ a, po' = some a -> a.block ∈ XD po \/ h.next <= a.block) /\ ∀ a, ao' = some a -> h.next <= a.block := by
 have gp := s.get
 have gl := s.laid
 obtain ⟨lt1, lt2, lt3, lt4⟩ := s.lt
 have hd := X5 bs
 refine H.run (k := WK) rfl rfl rfl ?_
 dsimp only [WK]
 have t2 : XU 32 (XY 0 (Xa (Sha bs))) = some (Xa (Sha bs)) := XK (by rw [Xc, hd])
 have t3 : XU 32 (XY 0 (XZ (Xa (Sha bs)) 0 Xr)) = some (Xa (Sha bs)) := by
  rw [Yq (by rw [Xc, hd]; rfl)]
  exact t2
 refine X9 ?_
 refine Xt fun H1 B1 E1 L1 G1 N1 Q1 => ?_
 refine R ?_
 have gp1 := E1.get0 (by omega) gp
 refine Xj (Xi rfl (Ug H _ _ p _ _ _ _ _ _ gp1)) ?_
 rintro v h2 ⟨rfl, rfl⟩
 refine R ?_
 refine Xj (Xi rfl (hash_Sum_ok H (m + 0) (by omega) _ bs ao _ ca rfl (sl.ext E1) (by omega))) ?_
 rintro v h3 ⟨rfl, e3⟩
 have l3 := e3.next
 refine Xt fun H10 B10 E10 L10 G10 N10 Q10 => ?_
 refine Xm rfl (by conv => lhs; whnf) rfl G10 rfl (XhH rfl) fun H11 E11 L11 G11 => ?_
 refine R ?_
 have T12 := e3.get0 (by omega) gp1
 have T13 := E10.get0 (by omega) T12
 have T14 := E11.get1 (by omega) (by omega) T13
 refine R2 ?_
 have e11 : Ext [] h H11 := ((E1.trans0 e3).trans0 E10).trans1 E11 (by omega)
 refine Xk (l_lookup0 rfl rfl hd (e11.get0 lt4 gl)) rfl ?_
 refine R ?_
 refine Xf9 (fun _ => rfl) fun H20 B20 E20 L20 G20 N20 Q20 => ?_
 refine Yw rfl (by conv => lhs; whnf) rfl G20 rfl (XhH rfl) (fun _ => rfl) fun H21 E21 L21 G21 => ?_
 refine R ?_
 have T22 := E20.get0 (by omega) G11
 have T23 := E21.get1 (by omega) (by omega) T22
 refine R2 ?_
 have e21 : Ext [] h H21 := (e11.trans0 E20).trans1 E21 (by omega)
 refine YL (Xi rfl (XaM H (m + 992) (by omega) _ p po pc gb gv db lb many l (s.ext e21) (by omega) _ hd)) (fun _ _ _ => rfl) ?_
 rintro v h4 ⟨rfl, e4⟩
 rw [hnew]
 have l4 := e4.next
 refine R ?_
 refine Xk (l_geqI rfl rfl rfl) rfl ?_
 refine R ?_
 refine Xj (Xi rfl (XdZ H _ _ bs.length hbs)) ?_
 rintro v h5 ⟨rfl, rfl⟩
 have hsp := sectors_pos bs.length
 refine Xj (Xi rfl (store_room_ok H (m + 987) (by omega) _ p (X1 bs.length) po pc gb gv db lb many l ((s.ext e21).ext e4) hmany hsp (by omega) (by omega))) ?_
 rintro v h6 ⟨rfl, e6⟩
 have l6 := e6.next
 have e66 : Ext [] h h6 := (e21.trans0 e4).trans0 e6
 have s6 := s.ext e66
 have gl6 := s6.laid
 refine R ?_
 have T40 := e66.get0 (by omega) gp
 refine R2 ?_
 refine Xk (l_lenMap rfl gl6) rfl ?_
 refine R2 ?_
 refine Xk (YV rfl rfl rfl) rfl ?_
 refine R ?_
 refine Xk (l_geqI rfl rfl rfl) rfl ?_
 refine R ?_
 have hlen : XhA ([] : List (Value × Value)).length + (l.length : Int) = (l.length : Int) := by
  show (0 : Int) + (l.length : Int) = (l.length : Int)
  omega
 have hno : decide (XhA 1500 <= IntKind.i64.wrap (XhA ([] : List (Value × Value)).length + (l.length : Int))) = false := by
  rw [hlen, wrap64 (by omega) (by omega)]
  exact decide_eq_false (show ¬ ((1500 : Int) <= (l.length : Int)) by omega)
 refine wp_condF rfl hno ?_
 clear hno
 have gp6 := s6.get
 have G6 : h6.get B10 = some (AObj.cells true (XZ (Xa (Sha bs)) 0 Xr)) := e6.get0 (by omega) (e4.get0 (by omega) (E21.get1 (by omega) (by omega) (E20.get0 (by omega) G11)))
 have lp6 : p < h6.next := s6.lt.1
 have lb6 : B10 < h6.next := by omega
 refine R2 ?_
 refine Xk (Yo (Xf (by conv => lhs; whnf) rfl rfl rfl (Xf (by conv => lhs; whnf) rfl rfl rfl XB))) rfl ?_
 refine R2 ?_
 refine YL (Xi rfl (Xhy H _ _ bs (by omega) ao ca (sl.ext e66))) (fun v h' q => by
  obtain ⟨_, _, _, _, _, e⟩ := q
  have k1 := e.get0 lp6 gp6
  have k2 := e.get0 lb6 G6
  first
  | exact YI rfl (XH (XQ rfl k1 rfl) rfl) (unTurn_none rfl (YI rfl (tells_agg (XdJ rfl k2 t3) (Xd0 (Sha bs))) rfl))
  | exact YI rfl (XH (XQ rfl k1 rfl) rfl) (YI rfl (XH (l_lenSl rfl) rfl) (YI rfl (tells_agg (XdJ rfl k2 t3) (Xd0 (Sha bs))) rfl))) ?_
 rintro v h7 ⟨ao', ca', rfl, o7, f7, e7⟩
 have l7 := e7.next
 refine Xk (Yo (Xf (by conv => lhs; whnf) rfl rfl rfl (Xf (by conv => lhs; whnf) rfl rfl rfl (Xf (by conv => lhs; whnf) rfl rfl rfl XB)))) rfl ?_
 refine Xak (Xf (by conv => lhs; whnf) rfl rfl rfl XB) (fun _ => rfl) fun H70 B70 E70 L70 G70 N70 Q70 => ?_
 have hyl := (Yg.mk (2 + Wx l) bs ao' ca').cells_length
 have e7a : Ext [] h H70 := (e66.trans0 e7).trans0 E70
 have sa := s.ext e7a
 have G70' : H70.get B70 = some (.cells true (Yg.mk (2 + Wx l) bs ao' ca').cells) := G70
 have sly : Slc H70 35 (some ⟨B70, 0, none⟩) 1 1 (Yg.mk (2 + Wx l) bs ao' ca').cells := Slc.of_get G70' N70 hyl
 have hpb : p ∉ XD po := fun hm => by
  cases hpo : po with
  | none => rw [hpo] at hm; cases hm
  | some a => rw [hpo] at hm; exact (s.pne a hpo).1 (XhB.1 hm).symm
 have hbb : ∀ b, h.next <= b -> b ∉ XD po := fun b hb hm => by
  cases hpo : po with
  | none => rw [hpo] at hm; cases hm
  | some a =>
   rw [hpo] at hm
   have e := XhB.1 hm
   have := s.put.toSlc.lt a hpo
   omega
 have g10 : H70.get B10 = _ := E70.get0 (by omega) (e7.get0 lb6 G6)
 have g1 : H70.get B1 = _ := E70.get0 (by omega) (e7.get0 (by omega) (e6.get0 (by omega) (e4.get0 (by omega) (E21.get1 (by omega) (by omega) (E20.get0 (by omega) (E11.get1 (by omega) (by omega) (E10.get0 (by omega) (e3.get0 N1 G1))))))))
 refine WM sa.put rfl rfl rfl sly.elemsAll hyl (by omega) (fun _ => rfl) fun ao2 ca2 H2 o2 E2 L2 f2 => ?_
 have gp2 := E2.getS sa.lt.1 hpb sa.get
 have g12 := E2.getS (by omega) (hbb B1 (by omega)) g1
 have g102 := E2.getS (by omega) (hbb B10 (by omega)) g10
 have lp2 : p < H2.next := by omega
 have lb12 : B1 < H2.next := by omega
 have lb102 : B10 < H2.next := by omega
 clear G70 G70' sly
 refine R ?_
 refine Yw rfl (by conv => lhs; whnf) rfl gp2 rfl (XhH rfl) (fun _ => rfl) fun H80 E80 L80 G80 => ?_
 refine R ?_
 have T81 := E80.get1 (by omega) (by omega) g102
 refine R2 ?_
 have T82 := E80.get1 (by omega) (by omega) g12
 refine Xm rfl (by conv => lhs; whnf) rfl T82 rfl (XhH rfl) fun H83 E83 L83 G83 => ?_
 refine R ?_
 have e66n := e66.next
 have e7n := e7a.next
 have eAll : Ext (p :: XD po) h H83 := (((e7a.mono (fun s hs => nomatch hs)).trans E2 (fun s hs => .inl (Xii _ hs))).trans E80 (fun s hs => .inl (by rw [XhB.1 hs]; exact Xh9))).trans E83 (fun s hs => .inr (by rw [XhB.1 hs]; omega))
 have fa : ∀ a, ao2 = some a -> (∃ a0, po = some a0 /\ a.block = a0.block /\ a.block < h.next) \/ (H70.next <= a.block) := fun a ha => by
  rcases f2 a ha with hm | hm
  ·left
   cases hpo : po with
   | none => rw [hpo] at hm; cases hm
   | some a0 =>
    rw [hpo] at hm
    have e := XhB.1 hm
    have := s.put.toSlc.lt a0 hpo
    exact ⟨a0, rfl, e, by omega⟩
  ·exact .inr hm.1
 have fb : ∀ b, b < h.next -> (∀ a0, po = some a0 -> a0.block ≠ b) -> ∀ a, ao2 = some a -> a.block ≠ b := fun b hb hq a ha => by
  rcases fa a ha with ⟨a0, h0, h1, _⟩ | hx
  ·rw [h1]; exact hq a0 h0
  ·omega
 have hbl : ∀ b, b ≠ p -> (∀ a0, po = some a0 -> a0.block ≠ b) -> b ∉ p :: XD po := fun b hb hq hm => by
  rcases XhQ.1 hm with hm | hm
  ·exact hb hm
  ·cases hpo : po with
   | none => rw [hpo] at hm; cases hm
   | some a0 => rw [hpo] at hm; exact hq a0 hpo (XhB.1 hm).symm
 obtain ⟨ne1, ne2, ne3, ne4, ne5⟩ := s.ne
 refine ⟨rfl, _, Xb (Y4 rfl G83 t3) (Xb (Xw rfl) Xg), rfl, ao2, ca2, ao', ca', ?_, eAll, fun a ha => by
  rcases fa a ha with ⟨a0, h0, h1, _⟩ | hx
  ·rw [h0, h1]; exact .inl (XhB.2 rfl)
  ·exact .inr (by omega), fun a ha => by have := f7 a ha; omega⟩
 have e83n := eAll.next
 refine ⟨?_, ?_, eAll.getS lt2 (hbl _ (Ne.symm ne1) fun a0 h0 => (s.pne a0 h0).2.1) s.gone, eAll.getS lt4 (hbl _ (Ne.symm ne3) fun a0 h0 => (s.pne a0 h0).2.2.2) s.laid, ?_, ⟨by omega, by omega, by omega, by omega⟩, s.ne, fun a ha => ⟨fb p lt1 (fun a0 h0 => (s.pne a0 h0).1) a ha, fb gb lt2 (fun a0 h0 => (s.pne a0 h0).2.1) a ha, fb db lt3 (fun a0 h0 => (s.pne a0 h0).2.2.1) a ha, fb lb lt4 (fun a0 h0 => (s.pne a0 h0).2.2.2) a ha⟩, ?_, rowAt_append s.row ⟨rfl, hbs, trivial⟩⟩
 ·rw [XhC]
  exact E83.get1 (by omega) (by omega) G80
 ·rw [XhC, ygFlat_append, show Xdu [Yg.mk (2 + Wx l) bs ao' ca'] = (Yg.mk (2 + Wx l) bs ao' ca').cells from by rw [ygFlat_cons]; exact Xij _]
  refine (o2.extS E80 fun a ha hm => ?_).extS E83 fun a ha hm => ?_
  ·exact fb p lt1 (fun a0 h0 => (s.pne a0 h0).1) a ha (XhB.1 hm)
  ·have e := XhB.1 hm
   rcases fa a ha with ⟨_, _, _, hx⟩ | hx <;> omega
 ·obtain ⟨w, dcs, gd, d3, d4⟩ := s.disk
  exact ⟨w, dcs, eAll.getS lt3 (hbl _ (Ne.symm ne2) fun a0 h0 => (s.pne a0 h0).2.2.1) gd, d3, d4⟩
 ·intro z hz
  rcases XhV.1 hz with hz | hz
  ·obtain ⟨z1, z2⟩ := s.young z hz
   refine ⟨z1.extS eAll fun a ha => hbl _ (z2 a ha).1 fun a0 h0 => Ne.symm ((z2 a ha).2.2 a0 h0), fun a ha => ⟨(z2 a ha).1, (z2 a ha).2.1, fun x hx => ?_⟩⟩
   exact Ne.symm (fb _ (z1.lt a ha) (fun a0 h0 => Ne.symm ((z2 a ha).2.2 a0 h0)) x hx)
  ·rw [XhB.1 hz]
   refine ⟨(((o7.toSlc.ext E70).extS E2 fun a ha => hbb _ (by have := f7 a ha; omega)).extS E80 fun a ha hm => ?_).extS E83 fun a ha hm => ?_, fun a ha => ?_⟩
   ·have e := XhB.1 hm
    have := f7 a ha
    omega
   ·have e := XhB.1 hm
    have := f7 a ha
    omega
   ·have k := f7 a ha
    refine ⟨by omega, by omega, fun x hx => ?_⟩
    rcases fa x hx with ⟨_, _, _, hq⟩ | hq <;> omega
theorem Xdv (m : Nat) (hm : 100000000 <= m) (h : Heap) (p : Nat) (po : OA) (pc gb gv db lb many : Nat) (l : List Yg) (s : StoreAt h p po pc gb gv db lb many l) (hl : l.length <= 1000000) (d : LB) (hd : d.length = 32) (i : Nat) (y : Yg) (hy : l[i]? = some y) (hf : XfU l d = (i : Int)) : (enter E (ctx E (m + 15)) WF [Pt p, .agg ⟨Xa d⟩] h).Wp sg fun v h' => ∃ ao' ca', v = .tuple ⟨[.slice ao' y.bs.length ca', I6 0]⟩ /\ Own h' 1 ao' y.bs.length ca' (Xa y.bs) /\ (∀ a, ao' = some a -> h.next <= a.block /\ a.block < h'.next) /\ Ext [] h h' := by
 have gp := s.get
 obtain ⟨lt1, lt2, lt3, lt4⟩ := s.lt
 have hi : i < l.length := by
  rcases Nat.lt_or_ge i l.length with h | h
  ·exact h
  ·rw [List.getElem?_eq_none h] at hy; cases hy
 have hyl : y.bs.length <= 65536 := (rowAt_at s.row hy).2
 have hys := (s.young y (Xh5 hy)).1
 refine H.run (k := WJ) rfl rfl rfl ?_
 dsimp only [WJ]
 have t2 : XU 32 (XY 0 (Xa d)) = some (Xa d) := XK (by rw [Xc, hd])
 refine X9 ?_
 refine X2 (by conv => lhs; whnf) rfl fun H1 B1 E1 L1 G1 N1 Q1 => ?_
 refine R ?_
 have gp1 := E1.get0 (by omega) gp
 refine Xj (Xi rfl (Ug H _ _ p _ _ _ _ _ _ gp1)) ?_
 rintro v h2 ⟨rfl, rfl⟩
 refine R2 ?_
 refine Xj (Xi rfl (store_Has_ok H m hm _ p po pc gb gv db lb many l (s.ext E1) hl d hd)) ?_
 rintro v h3 ⟨rfl, e3⟩
 rw [hf, decide_eq_true (show (0 : Int) <= (i : Int) by omega)]
 have l3 := e3.next
 refine R ?_
 have T10 := e3.get0 (by omega) G1
 refine R2 ?_
 have e13 := E1.trans0 e3
 refine YL (Xi rfl (XaM H (m + 2) (by omega) _ p po pc gb gv db lb many l (s.ext e13) hl d hd)) (fun _ _ _ => rfl) ?_
 rintro v h4 ⟨rfl, e4⟩
 rw [hf]
 have l4 := e4.next
 have e14 := e13.trans0 e4
 obtain ⟨a, w', xs, hpo, ga, na, ta⟩ := ((s.ext e14).put.toSlc).nonempty (by omega)
 have te : XU 35 (XY (a.off + i * 35) xs) = some y.cells := by
  rw [take_take ta (by omega), ygFlat_at hy]
 rw [hpo] at gp
 have t34 : nth (a.off + i * 35 + 34) xs = some (.slice y.ao y.bs.length y.ca) := by
  have e : y.cells[34]? = nth 34 y.cells := by
   have k := Yf (xs := y.cells) (o := 0) (m := 35) (i := 34) (XK (by rw [y.cells_length])) (by omega)
   rw [XhT] at k
   exact k.symm
  rw [Yf te (by omega), e, y.sl_at]
 refine R ?_
 refine Xd (l_geqN rfl rfl rfl) ?_
 refine R ?_
 refine XJ XB fun H20 B20 E20 L20 G20 N20 Q20 => ?_
 refine R ?_
 have T21 := e14.get0 (by omega) gp
 have T22 := E20.get0 (by omega) T21
 refine R2 ?_
 have T23 := E20.get0 (by omega) ga
 refine R2 ?_
 have o0 : Own H20 1 (some ⟨B20, 0, none⟩) 0 0 [] := .lit G20 N20
 refine XP o0 rfl rfl rfl (hys.ext (e14.trans0 E20)).elemsAll (by rw [Xc, XhI]) (by omega) fun ao2 ca2 H2 o2 E2 L2 f2 => ?_
 refine R ?_
 rw [Xib, XhT] at o2
 have l14 := e14.next
 have hE := (e14.trans0 E20).trans E2 fun s hs => .inr (by have e : s = B20 := XhB.1 hs; omega)
 refine ⟨rfl, _, Xb (Xw rfl) (Xb (Xw rfl) Xg), ao2, ca2, by rw [XhT]; rfl, o2, fun a ha => ?_, hE⟩
 rcases f2 _ ha with hx | hx
 ·have e : a.block = B20 := XhB.1 hx
  omega
 ·have : H20.next <= a.block := hx.1
  omega
end
theorem tn_delete0 {t : Tm} {x i : Xe} {r gv : Nat} {d : LB} (hx : x t = .map (some r)) (hi : i t = .agg ⟨Xa d⟩) (hd : d.length = 32) (g : h.get r = some (.map (.many 32 .u8) gv [])) : XaO (.many 32 .u8) x i t h = some (.tuple ⟨[]⟩, h.put r (some (.map (.many 32 .u8) (gv + 1) []))) := by
 unfold XaO
 rw [hi, hx, keyOK_bytes hd]
 show (match h.get r with
  | some (.map sh' ver es) => bif !(XcT (.many 32 .u8) sh') then none else match Xeo (.agg ⟨Xa d⟩) (JL (.many 32 .u8)) es with
   | some es' => some (Value.tuple ⟨[]⟩, h.put r (some (.map sh' (Nat.succ ver) es')))
   | none => none
  | _ => none) = _
 rw [g]
 rfl
section
variable {E : Env} {sg : Bool} (H : Has E)
include H
theorem store_Put_old_ok (m : Nat) (hm : 100000000 <= m) (h : Heap) (p : Nat) (po : OA) (pc gb gv db lb many : Nat) (l : List Yg) (s : StoreAt h p po pc gb gv db lb many l) (hl : l.length <= 1500) (bs : LB) (hbs : bs.length <= 65536) (i : Nat) (hold : XfU l (Sha bs) = (i : Int)) (ao : OA) (ca : Nat) (sl : Slc h 1 ao bs.length ca (Xa bs)) : (enter E (ctx E (m + 1005)) VK [Pt p, .slice ao bs.length ca] h).Wp sg fun v h' => v = .tuple ⟨[.agg ⟨Xa (Sha bs)⟩, I6 0]⟩ /\ StoreAt h' p po pc gb (gv + 1) db lb many l /\ Ext [gb] h h' := by
 have gp := s.get
 have gl := s.laid
 obtain ⟨lt1, lt2, lt3, lt4⟩ := s.lt
 have hd := X5 bs
 refine H.run (k := WK) rfl rfl rfl ?_
 dsimp only [WK]
 have t2 : XU 32 (XY 0 (Xa (Sha bs))) = some (Xa (Sha bs)) := XK (by rw [Xc, hd])
 have t3 : XU 32 (XY 0 (XZ (Xa (Sha bs)) 0 Xr)) = some (Xa (Sha bs)) := by
  rw [Yq (by rw [Xc, hd]; rfl)]
  exact t2
 refine X9 ?_
 refine Xt fun H1 B1 E1 L1 G1 N1 Q1 => ?_
 refine R ?_
 have gp1 := E1.get0 (by omega) gp
 refine Xj (Xi rfl (Ug H _ _ p _ _ _ _ _ _ gp1)) ?_
 rintro v h2 ⟨rfl, rfl⟩
 refine R ?_
 refine Xj (Xi rfl (hash_Sum_ok H (m + 0) (by omega) _ bs ao _ ca rfl (sl.ext E1) (by omega))) ?_
 rintro v h3 ⟨rfl, e3⟩
 have l3 := e3.next
 refine Xt fun H10 B10 E10 L10 G10 N10 Q10 => ?_
 refine Xm rfl (by conv => lhs; whnf) rfl G10 rfl (XhH rfl) fun H11 E11 L11 G11 => ?_
 refine R ?_
 have T12 := e3.get0 (by omega) gp1
 have T13 := E10.get0 (by omega) T12
 have T14 := E11.get1 (by omega) (by omega) T13
 refine R2 ?_
 have e11 : Ext [] h H11 := ((E1.trans0 e3).trans0 E10).trans1 E11 (by omega)
 refine Xk (l_lookup0 rfl rfl hd (e11.get0 lt4 gl)) rfl ?_
 refine R ?_
 refine Xf9 (fun _ => rfl) fun H20 B20 E20 L20 G20 N20 Q20 => ?_
 refine Yw rfl (by conv => lhs; whnf) rfl G20 rfl (XhH rfl) (fun _ => rfl) fun H21 E21 L21 G21 => ?_
 refine R ?_
 have T22 := E20.get0 (by omega) G11
 have T23 := E21.get1 (by omega) (by omega) T22
 refine R2 ?_
 have e21 : Ext [] h H21 := (e11.trans0 E20).trans1 E21 (by omega)
 refine YL (Xi rfl (XaM H (m + 992) (by omega) _ p po pc gb gv db lb many l (s.ext e21) (by omega) _ hd)) (fun _ _ _ => rfl) ?_
 rintro v h4 ⟨rfl, e4⟩
 rw [hold]
 have l4 := e4.next
 have hyes : decide (XhA 0 <= (i : Int)) = true := decide_eq_true (show (0 : Int) <= (i : Int) by omega)
 refine R ?_
 refine Xk (l_geqN rfl rfl rfl) rfl ?_
 refine R ?_
 have T30 := e21.get0 (by omega) gp
 have T31 := e4.get0 (by omega) T30
 refine R2 ?_
 have T32 := e4.get0 (by omega) T23
 refine R2 ?_
 have e24 : Ext [] h h4 := e21.trans0 e4
 have l24 := e24.next
 have s4 := s.ext e24
 have g10 : h4.get B10 = some (.cells true (XZ (Xa (Sha bs)) 0 Xr)) := e4.get0 (by omega) (E21.get1 (by omega) (by omega) (E20.get0 (by omega) G11))
 have g1 : h4.get B1 = some (.cells true Xr) := e4.get0 (by omega) (E21.get1 (by omega) (by omega) (E20.get0 (by omega) (E11.get1 (by omega) (by omega) (E10.get0 (by omega) (e3.get0 N1 G1)))))
 refine XaW (tn_delete0 rfl rfl hd s4.gone) rfl ?_
 have ed := Ext.put h4 gb (some (.map (.many 32 .u8) (gv + 1) []))
 have gd : (h4.put gb (some (.map (.many 32 .u8) (gv + 1) []))).get gb = some (.map (.many 32 .u8) (gv + 1) []) := by rw [Heap.get_put, if_pos rfl]
 have nd : (h4.put gb (some (.map (.many 32 .u8) (gv + 1) []))).next = h4.next := rfl
 generalize h4.put gb (some (.map (.many 32 .u8) (gv + 1) [])) = hp at ed gd nd ⊢
 have g105 := ed.get1 (by omega) (by omega) g10
 have g15 := ed.get1 (by omega) (by omega) g1
 have lb15 : B1 < hp.next := by omega
 have lb105 : B10 < hp.next := by omega
 refine R2 ?_
 refine Xm rfl (by conv => lhs; whnf) rfl g15 rfl (XhH rfl) fun H50 E50 L50 G50 => ?_
 refine R ?_
 have eAll : Ext [gb] h H50 := ((e24.mono (fun s hs => nomatch hs)).trans ed (fun s hs => .inl hs)).trans E50 (fun s hs => .inr (by rw [XhB.1 hs]; omega))
 have ln := eAll.next
 obtain ⟨ne1, ne2, ne3, ne4, ne5⟩ := s.ne
 refine ⟨rfl, _, Xb (Y4 rfl G50 t3) (Xb (Xw rfl) Xg), rfl, ?_, eAll⟩
 refine ⟨eAll.getS lt1 (fun hm => ne1 (XhB.1 hm)) gp, s.put.extS eAll fun a ha hm => (s.pne a ha).2.1 (XhB.1 hm), E50.get1 (by omega) (by omega) gd, eAll.getS lt4 (fun hm => ne5 (XhB.1 hm).symm) gl, ?_, ⟨by omega, by omega, by omega, by omega⟩, s.ne, s.pne, fun y hy => ⟨(s.young y hy).1.extS eAll fun a ha hm => ((s.young y hy).2 a ha).2.1 (XhB.1 hm), (s.young y hy).2⟩, s.row⟩
 obtain ⟨w, dcs, gdk, d3, d4⟩ := s.disk
 exact ⟨w, dcs, eAll.getS lt3 (fun hm => ne4 (XhB.1 hm).symm) gdk, d3, d4⟩
end
def Xd1 (level many : Nat) (id : LB) : Bool := decide (many = 8) || (decide ((id.getD 0 0).toNat % 8 = 0) && (decide (level = 0) || decide (1 < many)))
theorem l_remK {t : Tm} {g g' : Xe} {k : IntKind} {a : Nat} (h1 : g t = .int k (XhA a)) (h2 : g' t = .int k (XhA b)) (hb : 0 < b) : YE .rem g g' t h = some (.int k (XhA (a % b))) := by
 unfold YE
 rw [h1, h2]
 have e : binInt .rem k (XhA a) (XhA b) = some (.int k (XhA (a % b))) := by
  show (bif J2 (XhA b) 0 then none else some (Value.int k ((XhA a).tmod (XhA b)))) = _
  rw [XaX, decide_eq_false (by show ¬ ((b : Int) = 0); omega)]
  rfl
 rw [<- e]
 show (bif XL k k then binInt .rem k (XhA a) (XhA b) else none) = _
 rw [show XL k k = true by cases k <;> rfl]
 rfl
section
variable {E : Env} {sg : Bool} (H : Has E)
include H
theorem seg_ends_ok (m : Nat) (h : Heap) (level many : Nat) (id : LB) (hid : id.length = 32) : (enter E (ctx E m) f_seg_ends [I6 level, I6 many, .agg ⟨Xa id⟩] h).Wp sg fun v h' => v = .bool (Xd1 level many id) /\ Ext [] h h' := by
 refine H.run (k := k_seg_ends) rfl rfl rfl ?_
 dsimp only [k_seg_ends]
 have hb0 := XcH (bs := id) (i := 0) (by omega)
 have hn0 : nth 0 (Xa id) = some (byteVal (id.getD 0 0)) := by rw [Xea]; exact hb0
 by_cases h8 : many = 8
 ·refine X9 ?_
  refine X2 (by conv => lhs; whnf) rfl fun H1 B1 E1 L1 G1 N1 Q1 => ?_
  refine R ?_
  exact ⟨rfl, _, Xb (Xw rfl) Xg, by unfold Xd1; rw [decide_eq_true h8]; rfl, E1⟩
 ·refine X9 ?_
  refine X2 (by conv => lhs; whnf) rfl fun H1 B1 E1 L1 G1 N1 Q1 => ?_
  refine R2 ?_
  refine Xd (l_remK (a := (id.getD 0 0).toNat) rfl rfl (by decide)) ?_
  by_cases hr : (id.getD 0 0).toNat % 8 = 0
  ·by_cases hl : level = 0
   ·refine R ?_
    exact ⟨rfl, _, Xb (Xw rfl) Xg, by unfold Xd1; rw [decide_eq_true hr, decide_eq_true hl, decide_eq_false h8]; rfl, E1⟩
   ·refine R ?_
    exact ⟨rfl, _, Xb (Xw rfl) Xg, by unfold Xd1; rw [decide_eq_true hr, decide_eq_false hl, decide_eq_false h8]; rfl, E1⟩
  ·refine R ?_
   exact ⟨rfl, _, Xb (Xw rfl) Xg, by unfold Xd1; rw [decide_eq_false hr, decide_eq_false h8]; rfl, E1⟩
end
def X0 {α : Type} (e : Nat -> α -> Bool) : List α -> List α -> List (List α)
 | cur, [] => []
 | cur, x :: rest => if e (cur.length + 1) x || rest.isEmpty then (cur ++ [x]) :: X0 e [] rest else X0 e (cur ++ [x]) rest
def fl {α : Type} (enc : α -> List Value) (l : List α) : List Value := (l.map enc).flatten
theorem Us {α : Type} (enc : α -> List Value) (l m : List α) : fl enc (l ++ m) = fl enc l ++ fl enc m := by unfold fl; rw [Xh2, XiF]
theorem fl_cons {α : Type} (enc : α -> List Value) (x : α) (m : List α) : fl enc (x :: m) = enc x ++ fl enc m := by unfold fl; rw [List.map_cons, XiD]
theorem fl_length {α : Type} {enc : α -> List Value} {z : Nat} {l : List α} (h : ∀ x ∈ l, (enc x).length = z) : (fl enc l).length = l.length * z := by
 induction l with
 | nil => simp [fl]
 | cons x l ih => rw [fl_cons, XhC, h x (by simp), ih fun y hy => h y (by simp [hy]), Xh8, XiR]; omega
def Chs {α : Type} (h : Heap) (fp : List Nat) (z : Nat) (enc : α -> List Value) (vs : List Value) (cs : List (List α)) : Prop := All2 (fun v c => ∃ ao ca, v = .slice ao c.length ca /\ Slc h z ao c.length ca (fl enc c) /\ ∀ a, ao = some a -> a.block ∈ fp) vs cs
theorem Chs.extS {α : Type} {fp : List Nat} {z : Nat} {enc : α -> List Value} {vs : List Value} {cs : List (List α)} (c : Chs h fp z enc vs cs) {S : List Nat} (e : Ext S h h') (q : ∀ b ∈ fp, b ∉ S) : Chs h' fp z enc vs cs := All2.mono c fun v c ⟨ao, ca, h1, h2, h3⟩ => ⟨ao, ca, h1, h2.extS e fun a ha => q _ (h3 a ha), h3⟩
theorem Chs.ext {α : Type} {fp : List Nat} {z : Nat} {enc : α -> List Value} {vs : List Value} {cs : List (List α)} (c : Chs h fp z enc vs cs) (e : Ext [] h h') : Chs h' fp z enc vs cs := c.extS e fun _ _ h => nomatch h
def YU (s : LB) : List Value := [sv s]
theorem wp_toBytesE {sg : Bool} {N : Tm -> Aux -> Heap -> Prop} {X : Nat -> Tm -> Aux -> Heap -> Prop} {R : Tm -> Aux -> Heap -> Prop} {c : Ctx} {t : Tm} {x : Aux} {g : Xe} {p : Value -> Tm -> Tm} {rest : KB} {s : LB} (hg : g t = sv s)
  (K : ∀ h' b, Ext [] h h' -> h.next <= h'.next -> Slc h' 1 (some ⟨b, 0, some 1⟩) s.length s.length (Xa s) -> b < h'.next -> b = h.next -> (rest c (p (.slice (some ⟨b, 0, some 1⟩) s.length s.length) t) x h').Wp sg N X R) : (ZN (Yi (JN g)) p rest c t x h).Wp sg N X R := by
 refine VI (l := JN g) (v := .slice (some ⟨h.next, 0, some 1⟩) s.length s.length) (h' := h.push (.cells true (Xa s))) (by unfold JN; rw [hg]; rfl) (K _ _ (.push _ _) (Nat.le_succ _) ?_ (Xh0 _) rfl)
 exact ⟨by rw [Xc, XhI], XhE _, fun e => (nomatch e), fun a e => by cases e; exact .inr (.inr rfl), fun a e => by cases e; exact ⟨true, _, Heap.get_new _ _, Xh0 _, XK (by rw [Xc, XhI])⟩⟩
section
variable {E : Env} {sg : Bool} (H : Has E)
include H
theorem seg_Build_2_ok (m : Nat) (hm : 100000000 <= m) (h : Heap) (s : LB) (hs : s.length <= 65536) : (enter E (ctx E (m + 1005)) U4 [sv s] h).Wp sg fun v h' => v = .agg ⟨Xa (Sha s)⟩ /\ Ext [] h h' := by
 refine H.run (k := Xee) rfl rfl rfl ?_
 dsimp only [Xee]
 refine X9 ?_
 refine Xt fun H1 B1 E1 L1 G1 N1 Q1 => ?_
 refine R ?_
 refine wp_toBytesE rfl (fun H2 b2 E2 L2 s2 N2 Q2 => ?_)
 refine Xj (Xi rfl (hash_Sum_ok H m hm _ s _ _ _ rfl s2 (by omega))) ?_
 rintro v h3 ⟨rfl, e3⟩
 have l3 := e3.next
 have hl := X5 s
 have G3 := e3.get0 (by omega) (E2.get0 N1 G1)
 generalize Sha s = id at hl ⊢
 refine Xm rfl rfl rfl G3 (by rw [Xc, hl]) (by decide) (fun h4 E4 n4 G4 => ?_)
 have hp : XZ (Xa id) 0 Xr = Xa id := by
  have := Yk (k := 0) (a := []) (b := Xr) (ys := Xa id) (c := []) rfl (by rw [Xc, hl]; rfl)
  simpa using this
 rw [hp] at G4
 refine R ?_
 exact ⟨rfl, _, Xb (Y4 rfl G4 (XK (by rw [Xc, hl]))) Xg, rfl, ((E1.trans0 E2).trans0 e3).trans1 E4 (by omega)⟩
end
def eS : Nat -> LB -> Bool := fun k s => Xd1 0 k (Sha s)
theorem Xd2 {l : List (LB)} (hi : i < l.length) : (fl YU l)[i]? = some (sv (l.getD i [])) := by
 induction l generalizing i with
 | nil => cases hi
 | cons s l ih =>
  rw [fl_cons]
  cases i with
  | zero => rfl
  | succ i => exact ih (by simpa using hi)
theorem Zg (l : List (LB)) : (fl YU l).length = l.length := by rw [fl_length (z := 1) fun _ _ => rfl, XhI]
theorem Xgy {α : Type} {enc : α -> List Value} {z : Nat} {l : List α} (h : ∀ x ∈ l, (enc x).length = z) (i k : Nat) : ((fl enc l).drop (i * z)).take (k * z) = fl enc ((l.drop i).take k) := by
 have hd : ∀ (l : List α) (i : Nat), (∀ x ∈ l, (enc x).length = z) -> (fl enc l).drop (i * z) = fl enc (l.drop i) := by
  intro l
  induction l with
  | nil => intro i _; simp [fl]
  | cons x l ih =>
   intro i h
   cases i with
   | zero => simp
   | succ i =>
    rw [fl_cons, XiR, Xi1, <- Xip, <- h x (by simp), XiM, h x (by simp)]
    exact ih i fun y hy => h y (by simp [hy])
 have ht : ∀ (l : List α) (k : Nat), (∀ x ∈ l, (enc x).length = z) -> (fl enc l).take (k * z) = fl enc (l.take k) := by
  intro l
  induction l with
  | nil => intro k _; simp [fl]
  | cons x l ih =>
   intro k h
   cases k with
   | zero => simp [fl]
   | succ k =>
    rw [fl_cons, List.take_succ_cons, fl_cons, XiR, Xi1, <- h x (by simp), List.take_length_add_append, h x (by simp)]
    rw [ih k fun y hy => h y (by simp [hy])]
 rw [hd l i h, ht _ k fun x hx => h x (List.mem_of_mem_drop hx)]
section
variable {E : Env} {sg : Bool} (H : Has E)
include H
theorem seg_cut_string_ok (m : Nat) (hm : 100000000 <= m) (h : Heap) (texts : List (LB)) (ao : OA) (ca n : Nat) (hn : texts.length = n) (sl : Slc h 1 ao n ca (fl YU texts)) (hlen : n <= 2000) (hs : ∀ s ∈ texts, s.length <= 65536) :
  (enter E (ctx E (m + 1006)) XeE [.slice ao n ca, I6 0, .func (.func U4) ⟨[]⟩ ⟨[]⟩] h).Wp sg fun v h' => ∃ ao' ca' vs, v = .slice ao' vs.length ca' /\ Own h' 1 ao' vs.length ca' vs /\ Chs h' (XD ao) 1 YU vs (X0 eS [] texts) /\ Ext [] h h' /\ ∀ a, ao' = some a -> h.next <= a.block := by
 refine H.run (k := Xar) rfl rfl rfl ?_
 dsimp only [Xar]
 refine R ?_
 refine Yl n 0 (fun i t x hk => ∃ oo oc vs cs cur, (g0 t = (.slice ao n ca) /\ g1 t = (I6 0) /\ g2 t = (.func (.func U4) ⟨[]⟩ ⟨[]⟩) /\ g7 t = (.slice oo vs.length oc) /\ g8 t = (.int .i64 (XhA (i - cur.length))) /\ g11 t = (.slice ao n ca) /\ g12 t = (I6 n) /\ g13 t = (I6 i)) /\ x = ax /\ Ext [] h hk /\ cur.length <= i /\ vs.length <= i /\ (texts.drop (i - cur.length)).take cur.length = cur /\ X0 eS [] texts = cs ++ X0 eS cur (texts.drop i) /\ Own hk 1 oo vs.length oc vs /\ Chs hk (XD ao) 1 YU vs cs /\ ∀ a, oo = some a -> h.next <= a.block) ⟨none, 0, [], [], [], ⟨rfl, rfl, rfl, rfl, rfl, rfl, rfl, rfl⟩, rfl, .refl h, by simp, by simp, by simp, by simp, .empty h 1, .nil, fun a e => nomatch e⟩ (XhO _) (XG (by omega)) ?_
 rintro i t x hk hi ⟨oo, oc, vs, cs, cur, ⟨r0, r1, r2, r7, r8, r11, r12, r13⟩, rfl, ek, hcl, hvl, hcur, hcut, own, chs, fr⟩
 obtain ⟨t0, rfl⟩ : ∃ t0, t = p0 (.slice ao n ca) (p1 (I6 0) (p2 (.func (.func U4) ⟨[]⟩ ⟨[]⟩) (p7 (.slice oo vs.length oc) (p8 (.int .i64 (XhA (i - cur.length))) (p11 (.slice ao n ca) (p12 (I6 n) (p13 (I6 i) t0))))))) := ⟨t, (show t = p0 (g0 t) (p1 (g1 t) (p2 (g2 t) (p7 (g7 t) (p8 (g8 t) (p11 (g11 t) (p12 (g12 t) (p13 (g13 t) t))))))) from rfl).trans (by rw [r0, r1, r2, r7, r8, r11, r12, r13])⟩
 clear r0 r1 r2 r7 r8 r11 r12 r13
 have lk := ek.next
 by_cases hlt : i < n
 ·obtain ⟨a, wa, xa, hao, ga, na, ta⟩ := (sl.ext ek).nonempty (by omega)
  subst hao
  have hload : nth (a.off + i * 1) xa = some (sv (texts.getD i [])) := by
   rw [XhI, Yf ta (by omega), Xd2 (by omega)]
  have hsi : (texts.getD i []).length <= 65536 := hs _ (by
   rw [Xih, XhL (by omega)]; simp)
  have hdrop : texts.drop i = texts.getD i [] :: texts.drop (i + 1) := by
   rw [XiX (by omega), Xih, XhL (by omega)]; rfl
  generalize texts.getD i [] = s at hload hsi hdrop
  refine R2 ?_
  refine Xd (YY rfl rfl (by omega) (by omega)) ?_
  refine R ?_
  rw [show i + 1 - (i - cur.length) = cur.length + 1 by omega]
  refine Xj (Xi rfl (seg_Build_2_ok H m hm _ s hsi)) ?_
  rintro v h1 ⟨rfl, e1⟩
  have l1 := e1.next
  refine Xj (Xi rfl (seg_ends_ok H _ _ 0 (cur.length + 1) (Sha s) (X5 s))) ?_
  rintro v h2 ⟨rfl, e2⟩
  have l2 := e2.next
  have hE : Xd1 0 (cur.length + 1) (Sha s) = eS (cur.length + 1) s := rfl
  rw [hE]
  have ek2 : Ext [] hk h2 := e1.trans0 e2
  have hrest : texts.drop (i + 1) = [] ↔ i = n - 1 := by
   rw [Xjz]; omega
  have hcurS : (texts.drop (i - cur.length)).take (cur.length + 1) = cur ++ [s] := by
   rw [Xh6, hcur, Xjp, show i - cur.length + cur.length = i by omega]
   have : texts[i]? = some s := by
    have := congrArg (·[0]?) hdrop
    simpa using this
   rw [this]; rfl
  cases he : eS (cur.length + 1) s with
  | true =>
   have hstep : X0 eS cur (texts.drop i) = (cur ++ [s]) :: X0 eS [] (texts.drop (i + 1)) := by
    rw [hdrop, X0, he]; rfl
   refine R ?_
   have sl2 := sl.ext (ek.trans0 ek2)
   refine Xal (l := i - cur.length) (r := i + 1) sl2 rfl rfl rfl (by omega) (by omega) fun ao' ca' sl' hbl => ?_
   rw [show i + 1 - (i - cur.length) = cur.length + 1 by omega] at sl' ⊢
   rw [XhI, XhI] at sl'
   have hsl' : ((fl YU texts).drop (i - cur.length)).take (cur.length + 1) = fl YU (cur ++ [s]) := by
    have := Xgy (enc := YU) (z := 1) (l := texts) (fun _ _ => rfl) (i - cur.length) (cur.length + 1)
    rw [XhI, XhI] at this
    rw [this, hcurS]
   rw [hsl'] at sl'
   refine XJ (Xf (by conv => lhs; whnf) rfl rfl rfl XB) fun H40 B40 E40 L40 G40 N40 Q40 => ?_
   have o2 := own.ext (ek2.trans0 E40)
   refine XP o2 rfl rfl rfl (Slc.of_get (z := 1) G40 N40 rfl).elemsAll rfl (by omega) fun oo2 oc2 h5 o5 e5 l5 f5 => ?_
   refine R ?_
   have eS : ∀ s ∈ XD oo, h.next <= s := fun s hs => by
    cases oo with
    | none => exact nomatch hs
    | some q => have e : s = q.block := XhB.1 hs; rw [e]; exact fr q rfl
   have eF := ((ek.trans0 ek2).trans0 E40).trans e5 (fun s hs => .inr (eS s hs))
   have chs5 := ((chs.ext ek2).ext E40).extS e5 (fun b hb hm => by have e : b = a.block := XhB.1 hb; have := eS _ hm; have := (sl.rd a rfl).choose_spec.choose_spec.2.1; omega)
   have sl5 := (sl'.ext E40).extS e5 (fun b hb hm => by obtain ⟨a1, h1, h2⟩ := hbl b hb; cases h1; have := eS _ hm; have := (sl.rd a rfl).choose_spec.choose_spec.2.1; omega)
   have hlen1 : (vs ++ [Value.slice ao' (cur.length + 1) ca']).length = vs.length + 1 := by simp
   refine ⟨hlt, oo2, oc2, vs ++ [.slice ao' (cur.length + 1) ca'], cs ++ [cur ++ [s]], [], ?_, rfl, eF, by simp, by omega, by simp, by rw [hcut, hstep]; simp, by rw [hlen1]; exact o5, ?_, fun b hb => ?_⟩
   ·rw [hlen1]; exact ⟨rfl, rfl, rfl, rfl, rfl, rfl, rfl, rfl⟩
   ·exact All2.append chs5 (.cons ⟨ao', ca', by simp, by rw [XhC]; exact sl5, fun b hb => by obtain ⟨a1, h1, h2⟩ := hbl b hb; cases h1; rw [h2]; exact XhB.2 rfl⟩ .nil)
   ·rcases f5 b hb with hx | hx
    ·exact eS _ hx
    ·have := (ek.trans0 ek2).next; have := E40.next; omega
  | false =>
   by_cases hl : i = n - 1
   ·have hstep : X0 eS cur (texts.drop i) = (cur ++ [s]) :: X0 eS [] (texts.drop (i + 1)) := by
     rw [hdrop, X0, hrest.2 hl]; simp
    refine R ?_
    refine Xd (Xaj rfl rfl (by omega) (by omega)) ?_
    refine R ?_
    have sl2 := sl.ext (ek.trans0 ek2)
    refine Xal (l := i - cur.length) (r := i + 1) sl2 rfl rfl rfl (by omega) (by omega) fun ao' ca' sl' hbl => ?_
    rw [show i + 1 - (i - cur.length) = cur.length + 1 by omega] at sl' ⊢
    rw [XhI, XhI] at sl'
    have hsl' : ((fl YU texts).drop (i - cur.length)).take (cur.length + 1) = fl YU (cur ++ [s]) := by
     have := Xgy (enc := YU) (z := 1) (l := texts) (fun _ _ => rfl) (i - cur.length) (cur.length + 1)
     rw [XhI, XhI] at this
     rw [this, hcurS]
    rw [hsl'] at sl'
    refine XJ (Xf (by conv => lhs; whnf) rfl rfl rfl XB) fun H150 B150 E150 L150 G150 N150 Q150 => ?_
    have o2 := own.ext (ek2.trans0 E150)
    refine XP o2 rfl rfl rfl (Slc.of_get (z := 1) G150 N150 rfl).elemsAll rfl (by omega) fun oo2 oc2 h5 o5 e5 l5 f5 => ?_
    refine R ?_
    have eS : ∀ s ∈ XD oo, h.next <= s := fun s hs => by
     cases oo with
     | none => exact nomatch hs
     | some q => have e : s = q.block := XhB.1 hs; rw [e]; exact fr q rfl
    have eF := ((ek.trans0 ek2).trans0 E150).trans e5 (fun s hs => .inr (eS s hs))
    have chs5 := ((chs.ext ek2).ext E150).extS e5 (fun b hb hm => by have e : b = a.block := XhB.1 hb; have := eS _ hm; have := (sl.rd a rfl).choose_spec.choose_spec.2.1; omega)
    have sl5 := (sl'.ext E150).extS e5 (fun b hb hm => by obtain ⟨a1, h1, h2⟩ := hbl b hb; cases h1; have := eS _ hm; have := (sl.rd a rfl).choose_spec.choose_spec.2.1; omega)
    have hlen1 : (vs ++ [Value.slice ao' (cur.length + 1) ca']).length = vs.length + 1 := by simp
    refine ⟨hlt, oo2, oc2, vs ++ [.slice ao' (cur.length + 1) ca'], cs ++ [cur ++ [s]], [], ?_, rfl, eF, by simp, by omega, by simp, by rw [hcut, hstep]; simp, by rw [hlen1]; exact o5, ?_, fun b hb => ?_⟩
    ·rw [hlen1]; exact ⟨rfl, rfl, rfl, rfl, rfl, rfl, rfl, rfl⟩
    ·exact All2.append chs5 (.cons ⟨ao', ca', by simp, by rw [XhC]; exact sl5, fun b hb => by obtain ⟨a1, h1, h2⟩ := hbl b hb; cases h1; rw [h2]; exact XhB.2 rfl⟩ .nil)
    ·rcases f5 b hb with hx | hx
     ·exact eS _ hx
     ·have := (ek.trans0 ek2).next; have := E150.next; omega
   ·have hstep : X0 eS cur (texts.drop i) = X0 eS (cur ++ [s]) (texts.drop (i + 1)) := by
     have : (texts.drop (i + 1)).isEmpty = false := by
      rw [List.isEmpty_eq_false_iff]; exact fun e => hl (hrest.1 e)
     rw [hdrop, X0, he, this]; rfl
    refine R ?_
    refine Xd (Xaj rfl rfl (by omega) (by omega)) ?_
    refine R ?_
    refine ⟨hlt, oo, oc, vs, cs, cur ++ [s], ?_, rfl, ek.trans0 ek2, by simp; omega, by omega, ?_, by rw [hcut, hstep], own.ext ek2, chs.ext ek2, fr⟩
    ·rw [show i + 1 - (cur ++ [s]).length = i - cur.length by simp]; exact ⟨rfl, rfl, rfl, rfl, rfl, rfl, rfl, rfl⟩
    ·rw [XhC, show i + 1 - (cur.length + [s].length) = i - cur.length by simp]; exact hcurS
 ·have hin : i = n := by omega
  refine R ?_
  refine ⟨rfl, _, Xb (Xw rfl) Xg, oo, oc, vs, rfl, own, ?_, ek, fr⟩
  have : texts.drop i = [] := List.drop_eq_nil_of_le (by omega)
  rw [this] at hcut
  rw [hcut]
  simpa [X0] using chs
end
abbrev Lk := LB × Nat
def Yh (y : Lk) : List Value := Xa y.1 ++ [I6 y.2]
def LkOK (y : Lk) : Prop := y.1.length = 32 /\ y.2 <= 2000
theorem YS {y : Lk} (h : LkOK y) : (Yh y).length = 33 := by unfold Yh; rw [XhC, Xc, h.1]; rfl
def eL (level : Nat) : Nat -> Lk -> Bool := fun k y => Xd1 level k y.1
theorem XcK {α : Type} {enc : α -> List Value} {z : Nat} {l : List α} (h : ∀ x ∈ l, (enc x).length = z) {x : α} (hx : l[i]? = some x) : ((fl enc l).drop (i * z)).take z = enc x := by
 have := Xgy h i 1
 rw [Nat.one_mul] at this
 rw [this]
 have hi := (Xig.1 hx).1
 rw [XiX hi, (Xig.1 hx).2]
 simp [fl]
section
variable {E : Env} {sg : Bool} (H : Has E)
include H
theorem seg_lay_1_ok (m : Nat) (h : Heap) (y : Lk) (hy : LkOK y) : (enter E (ctx E m) Xa0 [.agg ⟨Yh y⟩] h).Wp sg fun v h' => v = .agg ⟨Xa y.1⟩ /\ Ext [] h h' := by
 obtain ⟨id, n⟩ := y
 obtain ⟨hl, _⟩ := hy
 replace hl : id.length = 32 := hl
 refine H.run (k := k_seg_lay_1) rfl rfl rfl ?_
 dsimp only [k_seg_lay_1]
 have t32 : XU 32 (XY 0 (Yh (id, n))) = some (Xa id) := by
  have := XeC (n := 32) (k := 0) (a := []) (b := Xa id) (c := [I6 n]) rfl (by rw [Xc, hl])
  exact this
 generalize Yh (id, n) = cells at t32
 refine X9 ?_
 refine X2 (by conv => lhs; whnf) rfl fun H1 B1 E1 L1 G1 N1 Q1 => ?_
 refine Xt fun H2 B2 E2 L2 G2 N2 Q2 => ?_
 refine R ?_
 have T3 := E2.get0 (by omega) G1
 refine R2 ?_
 have hp : XZ (Xa id) 0 Xr = Xa id := by
  have := Yk (k := 0) (a := []) (b := Xr) (ys := Xa id) (c := []) rfl (by rw [Xc, hl]; rfl)
  simpa using this
 refine Xm rfl rfl rfl G2 (by rw [Xc, hl]) (by decide) (fun h4 E4 n4 G4 => ?_)
 rw [hp] at G4
 refine R ?_
 exact ⟨rfl, _, Xb (Y4 rfl G4 (XK (by rw [Xc, hl]))) Xg, rfl, (E1.trans0 E2).trans1 E4 (by omega)⟩
theorem seg_cut_seg_link_ok (m : Nat) (hm : 100000000 <= m) (h : Heap) (level : Nat) (texts : List Lk) (ao : OA) (ca n : Nat) (hn : texts.length = n) (sl : Slc h 33 ao n ca (fl Yh texts)) (hlen : n <= 2000) (hs : ∀ s ∈ texts, LkOK s) :
  (enter E (ctx E (m + 1)) Xc7 [.slice ao n ca, I6 level, .func (.func Xa0) ⟨[]⟩ ⟨[]⟩] h).Wp sg fun v h' => ∃ ao' ca' vs, v = .slice ao' vs.length ca' /\ Own h' 1 ao' vs.length ca' vs /\ Chs h' (XD ao) 33 Yh vs (X0 (eL level) [] texts) /\ Ext [] h h' /\ ∀ a, ao' = some a -> h.next <= a.block := by
 refine H.run (k := Jv) rfl rfl rfl ?_
 dsimp only [Jv]
 refine R ?_
 refine Yl n 0 (fun i t x hk => ∃ oo oc vs cs cur, (g0 t = (.slice ao n ca) /\ g1 t = (I6 level) /\ g2 t = (.func (.func Xa0) ⟨[]⟩ ⟨[]⟩) /\ g7 t = (.slice oo vs.length oc) /\ g8 t = (.int .i64 (XhA (i - cur.length))) /\ g11 t = (.slice ao n ca) /\ g12 t = (I6 n) /\ g13 t = (I6 i)) /\ x = ax /\ Ext [] h hk /\ cur.length <= i /\ vs.length <= i /\ (texts.drop (i - cur.length)).take cur.length = cur /\ X0 (eL level) [] texts = cs ++ X0 (eL level) cur (texts.drop i) /\ Own hk 1 oo vs.length oc vs /\ Chs hk (XD ao) 33 Yh vs cs /\ ∀ a, oo = some a -> h.next <= a.block) ⟨none, 0, [], [], [], ⟨rfl, rfl, rfl, rfl, rfl, rfl, rfl, rfl⟩, rfl, .refl h, by simp, by simp, by simp, by simp, .empty h 1, .nil, fun a e => nomatch e⟩ (XhO _) (XG (by omega)) ?_
 rintro i t x hk hi ⟨oo, oc, vs, cs, cur, ⟨r0, r1, r2, r7, r8, r11, r12, r13⟩, rfl, ek, hcl, hvl, hcur, hcut, own, chs, fr⟩
 obtain ⟨t0, rfl⟩ : ∃ t0, t = p0 (.slice ao n ca) (p1 (I6 level) (p2 (.func (.func Xa0) ⟨[]⟩ ⟨[]⟩) (p7 (.slice oo vs.length oc) (p8 (.int .i64 (XhA (i - cur.length))) (p11 (.slice ao n ca) (p12 (I6 n) (p13 (I6 i) t0))))))) := ⟨t, (show t = p0 (g0 t) (p1 (g1 t) (p2 (g2 t) (p7 (g7 t) (p8 (g8 t) (p11 (g11 t) (p12 (g12 t) (p13 (g13 t) t))))))) from rfl).trans (by rw [r0, r1, r2, r7, r8, r11, r12, r13])⟩
 clear r0 r1 r2 r7 r8 r11 r12 r13
 have lk := ek.next
 by_cases hlt : i < n
 ·obtain ⟨a, wa, xa, hao, ga, na, ta⟩ := (sl.ext ek).nonempty (by omega)
  subst hao
  obtain ⟨s, hsg⟩ : ∃ s, texts[i]? = some s := ⟨_, XhL (by omega)⟩
  have hsi : LkOK s := hs _ (Xh5 hsg)
  have hz : ∀ x ∈ texts, (Yh x).length = 33 := fun x hx => YS (hs x hx)
  have hload : XU 33 (XY (a.off + i * 33) xa) = some (Yh s) := by
   rw [take_take ta (by omega), XcK hz hsg]
  have hdrop : texts.drop i = s :: texts.drop (i + 1) := by
   have hi' := (Xig.1 hsg).1
   rw [XiX hi', (Xig.1 hsg).2]
  have hel := YS hsi
  refine R2 ?_
  refine Xt fun H10 B10 E10 L10 G10 N10 Q10 => ?_
  refine R ?_
  refine Xm rfl (by conv => lhs; whnf) rfl G10 (by assumption) (XhH rfl) fun H11 E11 L11 G11 => ?_
  refine R ?_
  refine Xd (YY rfl rfl (by omega) (by omega)) ?_
  refine R ?_
  have hput : XZ (Yh s) 0 q_5ccab404 = Yh s := by
   have := Yk (k := 0) (a := []) (b := q_5ccab404) (ys := Yh s) (c := []) rfl hel
   simpa using this
  rw [hput] at G11
  have tl : XU 33 (XY 0 (Yh s)) = some (Yh s) := XK hel
  refine R2 ?_
  rw [show i + 1 - (i - cur.length) = cur.length + 1 by omega]
  refine Xj (Xi rfl (seg_lay_1_ok H _ _ s hsi)) ?_
  rintro v h1 ⟨rfl, e1⟩
  have l1 := e1.next
  refine Xj (Xi rfl (seg_ends_ok H _ _ level (cur.length + 1) s.1 hsi.1)) ?_
  rintro v h2 ⟨rfl, e2⟩
  have l2 := e2.next
  have hE : Xd1 level (cur.length + 1) s.1 = eL level (cur.length + 1) s := rfl
  rw [hE]
  have ek2 : Ext [] hk h2 := ((E10.trans1 E11 (by omega)).trans0 e1).trans0 e2
  have hrest : texts.drop (i + 1) = [] ↔ i = n - 1 := by
   rw [Xjz]; omega
  have hcurS : (texts.drop (i - cur.length)).take (cur.length + 1) = cur ++ [s] := by
   rw [Xh6, hcur, Xjp, show i - cur.length + cur.length = i by omega]
   rw [hsg]; rfl
  cases he : eL level (cur.length + 1) s with
  | true =>
   have hstep : X0 (eL level) cur (texts.drop i) = (cur ++ [s]) :: X0 (eL level) [] (texts.drop (i + 1)) := by
    rw [hdrop, X0, he]; rfl
   refine R ?_
   have sl2 := sl.ext (ek.trans0 ek2)
   refine Xal (l := i - cur.length) (r := i + 1) sl2 rfl rfl rfl (by omega) (by omega) fun ao' ca' sl' hbl => ?_
   rw [show i + 1 - (i - cur.length) = cur.length + 1 by omega] at sl' ⊢
   have hsl' : ((fl Yh texts).drop ((i - cur.length) * 33)).take ((cur.length + 1) * 33) = fl Yh (cur ++ [s]) := by
    have := Xgy (enc := Yh) (z := 33) (l := texts) hz (i - cur.length) (cur.length + 1)
    rw [this, hcurS]
   rw [hsl'] at sl'
   refine XJ (Xf (by conv => lhs; whnf) rfl rfl rfl XB) fun H40 B40 E40 L40 G40 N40 Q40 => ?_
   have o2 := own.ext (ek2.trans0 E40)
   refine XP o2 rfl rfl rfl (Slc.of_get (z := 1) G40 N40 rfl).elemsAll rfl (by omega) fun oo2 oc2 h5 o5 e5 l5 f5 => ?_
   refine R ?_
   have eS : ∀ s ∈ XD oo, h.next <= s := fun s hs => by
    cases oo with
    | none => exact nomatch hs
    | some q => have e : s = q.block := XhB.1 hs; rw [e]; exact fr q rfl
   have eF := ((ek.trans0 ek2).trans0 E40).trans e5 (fun s hs => .inr (eS s hs))
   have chs5 := ((chs.ext ek2).ext E40).extS e5 (fun b hb hm => by have e : b = a.block := XhB.1 hb; have := eS _ hm; have := (sl.rd a rfl).choose_spec.choose_spec.2.1; omega)
   have sl5 := (sl'.ext E40).extS e5 (fun b hb hm => by obtain ⟨a1, h1, h2⟩ := hbl b hb; cases h1; have := eS _ hm; have := (sl.rd a rfl).choose_spec.choose_spec.2.1; omega)
   have hlen1 : (vs ++ [Value.slice ao' (cur.length + 1) ca']).length = vs.length + 1 := by simp
   refine ⟨hlt, oo2, oc2, vs ++ [.slice ao' (cur.length + 1) ca'], cs ++ [cur ++ [s]], [], ?_, rfl, eF, by simp, by omega, by simp, by rw [hcut, hstep]; simp, by rw [hlen1]; exact o5, ?_, fun b hb => ?_⟩
   ·rw [hlen1]; exact ⟨rfl, rfl, rfl, rfl, rfl, rfl, rfl, rfl⟩
   ·exact All2.append chs5 (.cons ⟨ao', ca', by simp, by rw [XhC]; exact sl5, fun b hb => by obtain ⟨a1, h1, h2⟩ := hbl b hb; cases h1; rw [h2]; exact XhB.2 rfl⟩ .nil)
   ·rcases f5 b hb with hx | hx
    ·exact eS _ hx
    ·have := (ek.trans0 ek2).next; have := E40.next; omega
  | false =>
   by_cases hl : i = n - 1
   ·have hstep : X0 (eL level) cur (texts.drop i) = (cur ++ [s]) :: X0 (eL level) [] (texts.drop (i + 1)) := by
     rw [hdrop, X0, hrest.2 hl]; simp
    refine R ?_
    refine Xd (Xaj rfl rfl (by omega) (by omega)) ?_
    refine R ?_
    have sl2 := sl.ext (ek.trans0 ek2)
    refine Xal (l := i - cur.length) (r := i + 1) sl2 rfl rfl rfl (by omega) (by omega) fun ao' ca' sl' hbl => ?_
    rw [show i + 1 - (i - cur.length) = cur.length + 1 by omega] at sl' ⊢
    have hsl' : ((fl Yh texts).drop ((i - cur.length) * 33)).take ((cur.length + 1) * 33) = fl Yh (cur ++ [s]) := by
     have := Xgy (enc := Yh) (z := 33) (l := texts) hz (i - cur.length) (cur.length + 1)
     rw [this, hcurS]
    rw [hsl'] at sl'
    refine XJ (Xf (by conv => lhs; whnf) rfl rfl rfl XB) fun H150 B150 E150 L150 G150 N150 Q150 => ?_
    have o2 := own.ext (ek2.trans0 E150)
    refine XP o2 rfl rfl rfl (Slc.of_get (z := 1) G150 N150 rfl).elemsAll rfl (by omega) fun oo2 oc2 h5 o5 e5 l5 f5 => ?_
    refine R ?_
    have eS : ∀ s ∈ XD oo, h.next <= s := fun s hs => by
     cases oo with
     | none => exact nomatch hs
     | some q => have e : s = q.block := XhB.1 hs; rw [e]; exact fr q rfl
    have eF := ((ek.trans0 ek2).trans0 E150).trans e5 (fun s hs => .inr (eS s hs))
    have chs5 := ((chs.ext ek2).ext E150).extS e5 (fun b hb hm => by have e : b = a.block := XhB.1 hb; have := eS _ hm; have := (sl.rd a rfl).choose_spec.choose_spec.2.1; omega)
    have sl5 := (sl'.ext E150).extS e5 (fun b hb hm => by obtain ⟨a1, h1, h2⟩ := hbl b hb; cases h1; have := eS _ hm; have := (sl.rd a rfl).choose_spec.choose_spec.2.1; omega)
    have hlen1 : (vs ++ [Value.slice ao' (cur.length + 1) ca']).length = vs.length + 1 := by simp
    refine ⟨hlt, oo2, oc2, vs ++ [.slice ao' (cur.length + 1) ca'], cs ++ [cur ++ [s]], [], ?_, rfl, eF, by simp, by omega, by simp, by rw [hcut, hstep]; simp, by rw [hlen1]; exact o5, ?_, fun b hb => ?_⟩
    ·rw [hlen1]; exact ⟨rfl, rfl, rfl, rfl, rfl, rfl, rfl, rfl⟩
    ·exact All2.append chs5 (.cons ⟨ao', ca', by simp, by rw [XhC]; exact sl5, fun b hb => by obtain ⟨a1, h1, h2⟩ := hbl b hb; cases h1; rw [h2]; exact XhB.2 rfl⟩ .nil)
    ·rcases f5 b hb with hx | hx
     ·exact eS _ hx
     ·have := (ek.trans0 ek2).next; have := E150.next; omega
   ·have hstep : X0 (eL level) cur (texts.drop i) = X0 (eL level) (cur ++ [s]) (texts.drop (i + 1)) := by
     have : (texts.drop (i + 1)).isEmpty = false := by
      rw [List.isEmpty_eq_false_iff]; exact fun e => hl (hrest.1 e)
     rw [hdrop, X0, he, this]; rfl
    refine R ?_
    refine Xd (Xaj rfl rfl (by omega) (by omega)) ?_
    refine R ?_
    refine ⟨hlt, oo, oc, vs, cs, cur ++ [s], ?_, rfl, ek.trans0 ek2, by simp; omega, by omega, ?_, by rw [hcut, hstep], own.ext ek2, chs.ext ek2, fr⟩
    ·rw [show i + 1 - (cur ++ [s]).length = i - cur.length by simp]; exact ⟨rfl, rfl, rfl, rfl, rfl, rfl, rfl, rfl⟩
    ·rw [XhC, show i + 1 - (cur.length + [s].length) = i - cur.length by simp]; exact hcurS
 ·have hin : i = n := by omega
  refine R ?_
  refine ⟨rfl, _, Xb (Xw rfl) Xg, oo, oc, vs, rfl, own, ?_, ek, fr⟩
  have : texts.drop i = [] := List.drop_eq_nil_of_le (by omega)
  rw [this] at hcut
  rw [hcut]
  simpa [X0] using chs
end
def Y7 : List Lk -> Nat
 | [] => 0
 | y :: l => y.2 + Y7 l
theorem XbR (l m : List Lk) : Y7 (l ++ m) = Y7 l + Y7 m := by
 induction l with
 | nil => simp [Y7]
 | cons y l ih => show y.2 + Y7 (l ++ m) = y.2 + Y7 l + Y7 m; rw [ih]; omega
theorem sumN_le {l : List Lk} (h : ∀ y ∈ l, LkOK y) : Y7 l <= l.length * 2000 := by
 induction l with
 | nil => simp [Y7]
 | cons y l ih =>
  have := (h y (by simp)).2
  have := ih fun z hz => h z (by simp [hz])
  show y.2 + Y7 l <= (l.length + 1) * 2000
  omega
section
variable {E : Env} {sg : Bool} (H : Has E)
include H
theorem Ut (m : Nat) (hm : 100000000 <= m) (h : Heap) (level : Nat) (tao lao : OA) (tn tca lca : Nat) (links : List Lk) (hl : ∀ y ∈ links, LkOK y) (sl : Slc h 33 lao links.length lca (fl Yh links)) (ht : tn <= 2000) (hln : links.length <= 2000) :
  (enter E (ctx E m) XgK [.agg ⟨[I6 level, .slice tao tn tca, .slice lao links.length lca]⟩] h).Wp sg fun v h' => v = .int .i64 (XhA (tn + Y7 links)) /\ Ext [] h h' := by
 refine H.run (k := XbX) rfl rfl rfl ?_
 dsimp only [XbX]
 refine X9 ?_
 refine X2 (by conv => lhs; whnf) rfl fun H1 B1 E1 L1 G1 N1 Q1 => ?_
 refine R2 ?_
 refine Yl links.length 0 (fun i t x hk => (g3 t = (.int .i64 (XhA (tn + Y7 (links.take i)))) /\ g10 t = (.slice lao links.length lca) /\ g11 t = (I6 links.length) /\ g12 t = (I6 i)) /\ x = ax /\ Ext [] h hk) ⟨⟨rfl, rfl, rfl, rfl⟩, rfl, E1⟩ (XhO _) (XG (by omega)) ?_
 rintro i t x hk hi ⟨⟨r3, r10, r11, r12⟩, rfl, ek⟩
 obtain ⟨t0, rfl⟩ : ∃ t0, t = p3 (.int .i64 (XhA (tn + Y7 (links.take i)))) (p10 (.slice lao links.length lca) (p11 (I6 links.length) (p12 (I6 i) t0))) := ⟨t, (show t = p3 (g3 t) (p10 (g10 t) (p11 (g11 t) (p12 (g12 t) t))) from rfl).trans (by rw [r3, r10, r11, r12])⟩
 clear r3 r10 r11 r12
 have lk := ek.next
 have hz : ∀ x ∈ links, (Yh x).length = 33 := fun x hx => YS (hl x hx)
 by_cases hlt : i < links.length
 ·obtain ⟨a, wa, xa, hao, ga, na, ta⟩ := (sl.ext ek).nonempty (by omega)
  subst hao
  obtain ⟨s, hsg⟩ : ∃ s, links[i]? = some s := ⟨_, XhL hlt⟩
  have hsi : LkOK s := hl _ (Xh5 hsg)
  have hload : XU 33 (XY (a.off + i * 33) xa) = some (Yh s) := by
   rw [take_take ta (by omega), XcK hz hsg]
  have hel := YS hsi
  have hput : XZ (Yh s) 0 q_5ccab404 = Yh s := by
   have := Yk (k := 0) (a := []) (b := q_5ccab404) (ys := Yh s) (c := []) rfl hel
   simpa using this
  have hn : nth (0 + 32) (Yh s) = some (I6 s.2) := nth_app (k := 32) (a := Xa s.1) (c := []) (by rw [Xc, hsi.1])
  have h1 := sumN_le hl
  have h2 : Y7 (links.take (i + 1)) = Y7 (links.take i) + s.2 := by
   rw [Xh6, hsg, XbR]; rfl
  have h3 : Y7 (links.take (i + 1)) <= Y7 links := by
   have := XbR (links.take (i + 1)) (links.drop (i + 1))
   rw [Xiw] at this
   omega
  refine R2 ?_
  refine Xt fun H10 B10 E10 L10 G10 N10 Q10 => ?_
  refine Xm rfl (by conv => lhs; whnf) rfl G10 (by assumption) (XhH rfl) fun H11 E11 L11 G11 => ?_
  refine R ?_
  rw [hput] at G11
  refine R2 ?_
  refine Xd (ZI rfl rfl (by omega)) ?_
  refine R ?_
  refine ⟨hlt, ?_, rfl, (ek.trans0 E10).trans1 E11 (by omega)⟩
  rw [h2, <- Xim]; exact ⟨rfl, rfl, rfl, rfl⟩
 ·have hin : i = links.length := by omega
  refine R ?_
  exact ⟨rfl, _, Xb (Xw rfl) Xg, by rw [hin, Xh7]; rfl, ek⟩
end
def Yt : List (LB) -> Nat
 | [] => 0
 | b :: L => X1 b.length + Yt L
theorem XcL (L M : List (LB)) : Yt (L ++ M) = Yt L + Yt M := by
 induction L with
 | nil => simp [Yt]
 | cons b L ih => show X1 _ + Yt (L ++ M) = X1 _ + Yt L + Yt M; rw [ih]; omega
theorem used_map (l : List Yg) : Wx l = Yt (l.map (·.bs)) := by
 induction l with
 | nil => rfl
 | cons y l ih => show X1 _ + Wx l = X1 _ + Yt _; rw [ih]
def Y1 (L : List (LB)) (b : LB) : List (LB) := if Sha b ∈ L.map Sha then L else L ++ [b]
theorem stPut_sub {L : List (LB)} {b : LB} : ∀ x ∈ Y1 L b, x ∈ L \/ x = b := by
 intro x hx
 unfold Y1 at hx
 split at hx
 ·exact .inl hx
 ·rcases XhV.1 hx with h | h
  ·exact .inl h
  ·exact .inr (XhB.1 h)
theorem stPut_mono {L : List (LB)} {b : LB} : ∀ x ∈ L, x ∈ Y1 L b := by
 intro x hx
 unfold Y1
 split
 ·exact hx
 ·exact List.mem_append_left _ hx
theorem stPut_used {L : List (LB)} {b : LB} : Yt (Y1 L b) <= Yt L + X1 b.length /\ (Y1 L b).length <= L.length + 1 := by
 unfold Y1
 split
 ·exact ⟨Nat.le_add_right _ _, Nat.le_succ _⟩
 ·rw [XcL, XhC]; exact ⟨XhE _, XhE _⟩
def stBlk (p gb db lb : Nat) (po : OA) (l : List Yg) : List Nat := p :: gb :: db :: lb :: (XD po ++ l.flatMap fun y => XD y.ao)
theorem Xu {ao : OA} (h : b ∈ XD ao) : ∃ a, ao = some a /\ a.block = b := by
 cases ao with
 | none => exact nomatch h
 | some a => exact ⟨a, rfl, (XhB.1 h).symm⟩
theorem Va {ao : OA} {a : Addr} (h : ao = some a) : a.block ∈ XD ao := by rw [h]; exact XhB.2 rfl
theorem mem_stBlk {gb db lb : Nat} {po : OA} {l : List Yg} : b ∈ stBlk p gb db lb po l ↔ b = p \/ b = gb \/ b = db \/ b = lb \/ b ∈ XD po \/ ∃ y ∈ l, b ∈ XD y.ao := by
 unfold stBlk
 simp only [XhQ, XhV, List.mem_flatMap]
def StQ (h : Heap) (p gb db lb many : Nat) (L : List (LB)) (priv : List Nat) : Prop :=
 ∃ po pc gv l, StoreAt h p po pc gb gv db lb many l /\ l.map (·.bs) = L /\ priv = stBlk p gb db lb po l
theorem StQ.lt {gb db lb many : Nat} {L : List (LB)} {priv : List Nat} (s : StQ h p gb db lb many L priv) : ∀ b ∈ priv, b < h.next := by
 obtain ⟨po, pc, gv, l, s, _, rfl⟩ := s
 intro b hb
 obtain ⟨l1, l2, l3, l4⟩ := s.lt
 rcases mem_stBlk.1 hb with rfl | rfl | rfl | rfl | hb | ⟨y, hy, hb⟩
 ·exact l1
 ·exact l2
 ·exact l3
 ·exact l4
 ·obtain ⟨a, h1, rfl⟩ := Xu hb
  exact s.put.toSlc.lt a h1
 ·obtain ⟨a, h1, rfl⟩ := Xu hb
  exact (s.young y hy).1.lt a h1
theorem StQ.extS {gb db lb many : Nat} {L : List (LB)} {priv : List Nat} (s : StQ h p gb db lb many L priv) {S : List Nat} (e : Ext S h h') (q : ∀ b ∈ priv, b ∉ S) : StQ h' p gb db lb many L priv := by
 obtain ⟨po, pc, gv, l, s, h1, rfl⟩ := s
 exact ⟨po, pc, gv, l, s.extS e (q _ (mem_stBlk.2 (.inl rfl))) (q _ (mem_stBlk.2 (.inr (.inl rfl)))) (q _ (mem_stBlk.2 (.inr (.inr (.inl rfl))))) (q _ (mem_stBlk.2 (.inr (.inr (.inr (.inl rfl)))))) (fun a ha => q _ (mem_stBlk.2 (.inr (.inr (.inr (.inr (.inl (Va ha)))))))) (fun y hy a ha => q _ (mem_stBlk.2 (.inr (.inr (.inr (.inr (.inr ⟨y, hy, Va ha⟩))))))), h1, rfl⟩
theorem StQ.ext {gb db lb many : Nat} {L : List (LB)} {priv : List Nat} (s : StQ h p gb db lb many L priv) (e : Ext [] h h') : StQ h' p gb db lb many L priv := s.extS e fun _ _ h => nomatch h
theorem findY_map (l : List Yg) (d : LB) : XfU l d = match (l.map (·.bs)).findIdx? (fun b => decide (Sha b = d)) with
 | some i => (i : Int)
 | none => -1 := by
 unfold XfU
 rw [List.findIdx?_map]
 rfl
section
variable {E : Env} {sg : Bool} (H : Has E)
include H
theorem store_Put_ok (m : Nat) (hm : 100000000 <= m) (h : Heap) (p gb db lb many : Nat) (L : List (LB)) (priv : List Nat) (s : StQ h p gb db lb many L priv) (hmany : many <= 65536) (bs : LB) (hbs : bs.length <= 65536) (hl : (Y1 L bs).length <= 1500) (hu : 2 + Yt (Y1 L bs) < many) (ao : OA) (ca : Nat) (sl : Slc h 1 ao bs.length ca (Xa bs)) :
  (enter E (ctx E (m + 1005)) VK [Pt p, .slice ao bs.length ca] h).Wp sg fun v h' => v = .tuple ⟨[.agg ⟨Xa (Sha bs)⟩, I6 0]⟩ /\ ∃ priv', StQ h' p gb db lb many (Y1 L bs) priv' /\ Ext priv h h' /\ ∀ b ∈ priv', b ∈ priv \/ h.next <= b := by
 obtain ⟨po, pc, gv, l, s, rfl, rfl⟩ := s
 have hf := findY_map l (Sha bs)
 cases hi : (l.map (·.bs)).findIdx? (fun b => decide (Sha b = Sha bs)) with
 | none =>
  rw [hi] at hf
  have hnot : ¬ Sha bs ∈ (l.map (·.bs)).map Sha := by
   intro hm
   obtain ⟨b, hb, he⟩ := List.mem_map.1 hm
   rw [XjJ] at hi
   have := hi b hb
   rw [decide_eq_false_iff_not] at this
   exact this he
  have hst : Y1 (l.map (·.bs)) bs = l.map (·.bs) ++ [bs] := by unfold Y1; rw [if_neg hnot]
  rw [hst, XhC, XhP, List.length_singleton] at hl
  rw [hst, XcL, <- used_map, show Yt [bs] = X1 bs.length from rfl, <- Xim] at hu
  refine (store_Put_new_ok H m hm h p po pc gb gv db lb many l s hmany (by omega) bs hbs hu hf ao ca sl).mono ?_
  rintro v h' ⟨rfl, po', pc', ao', ca', s', e', f', f2⟩
  refine ⟨rfl, stBlk p gb db lb po' (l ++ [⟨2 + Wx l, bs, ao', ca'⟩]), ⟨po', pc', gv, _, s', ?_, rfl⟩, e'.mono fun b hb => .inl ?_, fun b hb => ?_⟩
  ·unfold Y1
   rw [if_neg hnot, Xh2]; rfl
  ·rcases XhQ.1 hb with rfl | hb
   ·exact mem_stBlk.2 (.inl rfl)
   ·exact mem_stBlk.2 (.inr (.inr (.inr (.inr (.inl hb)))))
  ·rcases mem_stBlk.1 hb with hb | hb | hb | hb | hb | ⟨y, hy, hb⟩
   ·exact .inl (mem_stBlk.2 (.inl hb))
   ·exact .inl (mem_stBlk.2 (.inr (.inl hb)))
   ·exact .inl (mem_stBlk.2 (.inr (.inr (.inl hb))))
   ·exact .inl (mem_stBlk.2 (.inr (.inr (.inr (.inl hb)))))
   ·obtain ⟨a, h1, rfl⟩ := Xu hb
    rcases f' a h1 with hx | hx
    ·exact .inl (mem_stBlk.2 (.inr (.inr (.inr (.inr (.inl hx))))))
    ·exact .inr hx
   ·rcases XhV.1 hy with hy | hy
    ·exact .inl (mem_stBlk.2 (.inr (.inr (.inr (.inr (.inr ⟨y, hy, hb⟩))))))
    ·rw [XhB.1 hy] at hb
     obtain ⟨a, h1, rfl⟩ := Xu hb
     exact .inr (f2 a h1)
 | some i =>
  rw [hi] at hf
  have hin : Sha bs ∈ (l.map (·.bs)).map Sha := by
   rw [Xjy] at hi
   obtain ⟨hlt, h1, _⟩ := hi
   rw [decide_eq_true_eq] at h1
   rw [<- h1]
   exact List.mem_map_of_mem (List.getElem_mem hlt)
  have hst : Y1 (l.map (·.bs)) bs = l.map (·.bs) := by unfold Y1; rw [if_pos hin]
  rw [hst, XhP] at hl
  refine (store_Put_old_ok H m hm h p po pc gb gv db lb many l s hl bs hbs i hf ao ca sl).mono ?_
  rintro v h' ⟨rfl, s', e'⟩
  refine ⟨rfl, stBlk p gb db lb po l, ⟨po, pc, gv + 1, l, s', ?_, rfl⟩, e'.mono fun b hb => .inl ?_, fun b hb => .inl hb⟩
  ·unfold Y1
   rw [if_pos hin]
  ·exact mem_stBlk.2 (.inr (.inl (XhB.1 hb)))
theorem store_Get_ok (m : Nat) (hm : 100000000 <= m) (h : Heap) (p gb db lb many : Nat) (L : List (LB)) (priv : List Nat) (s : StQ h p gb db lb many L priv) (hl : L.length <= 1000000) (bs : LB) (hin : bs ∈ L) (hone : ∀ b ∈ L, Sha b = Sha bs -> b = bs) :
  (enter E (ctx E (m + 15)) WF [Pt p, .agg ⟨Xa (Sha bs)⟩] h).Wp sg fun v h' => ∃ ao' ca', v = .tuple ⟨[.slice ao' bs.length ca', I6 0]⟩ /\ Own h' 1 ao' bs.length ca' (Xa bs) /\ (∀ a, ao' = some a -> h.next <= a.block /\ a.block < h'.next) /\ Ext [] h h' := by
 obtain ⟨po, pc, gv, l, s, rfl, rfl⟩ := s
 rw [XhP] at hl
 have hf := findY_map l (Sha bs)
 cases hi : (l.map (·.bs)).findIdx? (fun b => decide (Sha b = Sha bs)) with
 | none =>
  rw [XjJ] at hi
  have := hi bs hin
  rw [decide_eq_false_iff_not] at this
  exact absurd rfl this
 | some i =>
  rw [hi] at hf
  rw [Xjy] at hi
  obtain ⟨hlt, h1, _⟩ := hi
  rw [decide_eq_true_eq] at h1
  have hb := hone _ (List.getElem_mem hlt) h1
  rw [XhP] at hlt
  have hy : l[i]? = some l[i] := XhL hlt
  rw [List.getElem_map] at hb
  have := Xdv H (sg := sg) m hm h p po pc gb gv db lb many l s hl (Sha bs) (X5 bs) i l[i] hy hf
  rw [hb] at this
  exact this
end
def WrP (h : Heap) (b : Nat) (priv : List Nat) (bs : LB) : Prop :=
 ∃ ao ca, Own h 1 ao bs.length ca (Xa bs) /\ h.get b = some (.cells true (wrCells ao bs.length ca)) /\ b < h.next /\ (∀ a, ao = some a -> a.block ≠ b) /\ priv = b :: XD ao
def WrTo (priv : List Nat) (h h' : Heap) (priv' : List Nat) : Prop := Ext priv h h' /\ ∀ x ∈ priv', x ∈ priv \/ h.next <= x
theorem WrTo.trans {p q r : List Nat} {a b c : Heap} (k : WrTo p a b q) (l : WrTo q b c r) : WrTo p a c r :=
 ⟨k.1.trans l.1 k.2, fun x hx => by
  rcases l.2 x hx with h | h
  ·exact k.2 x h
  ·exact .inr (Xh4 k.1.next h)⟩
theorem WrTo.step {a b c d : Heap} {x : Nat} {ao ao2 : OA} (e1 : Ext [] a b) (e2 : Ext (XD ao) b c) (e3 : Ext [x] c d) (f : ∀ y, ao2 = some y -> y.block ∈ XD ao \/ (b.next <= y.block /\ y.block < c.next)) : WrTo (x :: XD ao) a d (x :: XD ao2) := by
 refine ⟨(e1.mono fun _ h => nomatch h).trans ((e2.mono (T := x :: XD ao) fun s hs => .inl (Xii _ hs)).trans (e3.mono (T := x :: XD ao) fun s hs => .inl (XhQ.2 (.inl (XhB.1 hs)))) fun s hs => .inl hs) fun s hs => .inl hs, fun y hy => ?_⟩
 rcases XhQ.1 hy with rfl | hy
 ·exact .inl Xh9
 ·cases ao2 with
  | none => exact nomatch hy
  | some q =>
   have e := XhB.1 hy
   rcases f q rfl with h | h
   ·rw [e]; exact .inl (Xii _ h)
   ·rw [e]; exact .inr (Xh4 e1.next h.1)
theorem WrP.ext {priv : List Nat} {bs : LB} (w : WrP h b priv bs) (e : Ext [] h h') : WrP h' b priv bs := by
 obtain ⟨ao, ca, o, g, l, n, r⟩ := w
 exact ⟨ao, ca, o.ext e, e.get0 l g, Xia l e.next, n, r⟩
theorem WrP.lt {priv : List Nat} {bs : LB} (w : WrP h b priv bs) : ∀ x ∈ priv, x < h.next := by
 obtain ⟨ao, ca, o, g, l, n, rfl⟩ := w
 intro x hx
 rcases XhQ.1 hx with rfl | hx
 ·exact l
 ·cases ao with
  | none => exact nomatch hx
  | some a => rw [XhB.1 hx]; exact o.toSlc.lt a rfl
theorem WrP.to {priv : List Nat} {bs : LB} (w : WrP h b priv bs) (base : Nat) (hb : ∀ x ∈ priv, base <= x) : Wr h b base bs := by
 obtain ⟨ao, ca, o, g, l, n, rfl⟩ := w
 exact ⟨ao, ca, o, g, l, hb b Xh9, n, fun a ha => hb a.block (by rw [ha]; exact Xii _ (XhB.2 rfl))⟩
section
variable {E : Env} {sg : Bool} (H : Has E)
include H
theorem word_New_p (m : Nat) (h : Heap) : (enter E (ctx E m) f_word_New [] h).Wp sg fun v h' => ∃ b, v = Pt b /\ WrP h' b [b] [] /\ h.next <= b /\ Ext [] h h' := by
 refine H.run (k := k_word_New) rfl rfl rfl ?_
 dsimp only [k_word_New]
 refine R ?_
 refine Xd (Yo (Xf (by conv => lhs; whnf) rfl rfl rfl XB)) ?_
 refine Xd (Yo (Xf (by conv => lhs; whnf) rfl rfl rfl XB)) ?_
 refine X2 (by conv => lhs; whnf) rfl fun H1 B1 E1 L1 G1 N1 Q1 => ?_
 refine R ?_
 exact ⟨rfl, _, rfl, _, rfl, ⟨none, 0, .empty _ _, G1, N1, fun a e => (nomatch e), rfl⟩, by omega, E1⟩
theorem VM (m : Nat) (hm : 100000000 <= m) (h : Heap) (b : Nat) (priv : List Nat) (bs : LB) (k : Nat) (hk : k < 100000000) (w : WrP h b priv bs) (hbig : bs.length + (XA k).length < 100000000) :
  (enter E (ctx E (m + 2)) XdR [Pt b, I6 k] h).Wp sg fun v h' => v = .tuple ⟨[]⟩ /\ ∃ priv', WrP h' b priv' (bs ++ XA k) /\ WrTo priv h h' priv' := by
 refine H.run (k := KE) rfl rfl rfl ?_
 dsimp only [KE]
 refine R ?_
 have w0 := w
 obtain ⟨ao, ca, o, gb, hlt, hne, rfl⟩ := w
 refine X6 (Xi rfl (We H _ _ _ _ _ gb)) ?_
 refine R ?_
 refine XdH (fun q t x hk => ∃ pre, q <= k /\ XA k = pre ++ XA q /\ (g1 t = (I6 q) /\ g0 t = (Pt b)) /\ x = ax /\ ∃ pr, WrP hk b pr (bs ++ pre) /\ WrTo (b :: XD ao) h hk pr) k ⟨[], XhE _, rfl, ⟨rfl, rfl⟩, rfl, _, by rw [Xij]; exact w0, (Ext.refl h).mono (fun _ hh => nomatch hh), fun x hx => .inl hx⟩ (XG (by omega)) ?_
 generalize b :: XD ao = priv at *
 clear o gb hlt hne w0 ao ca
 rintro q t x hk1 ⟨pre, hq, he, ⟨r1, r0⟩, rfl, _, ⟨ao, ca, o, gb, hlt, hne, rfl⟩, fr⟩
 obtain ⟨t0, rfl⟩ : ∃ t0, t = p1 (I6 q) (p0 (Pt b) t0) := ⟨t, (show t = p1 (g1 t) (p0 (g0 t) t) from rfl).trans (by rw [r1, r0])⟩
 clear r1 r0
 have lf := fr.1.next
 have hpl : pre.length + (XA q).length = (XA k).length := by rw [he, XhC]
 have hpos := encInt_pos q
 by_cases hq2 : 127 < q
 ·refine R2 ?_
  refine Xd (Kb rfl rfl rfl) ?_
  refine Xd (l_orI rfl rfl rfl) ?_
  refine R ?_
  refine XJ (Xf (by conv => lhs; whnf) rfl rfl rfl XB) fun H1 B1 E1 L1 G1 N1 Q1 => ?_
  have hv : Value.int .u8 (IntKind.u8.wrap (bor .i64 (band .i64 (XhA q) (XhA 127)) (XhA 128))) = byteVal (UInt8.ofNat (q % 128 + 128)) := by
   rw [band127 (by omega), bor128 (by omega), wrap8N (by omega)]
  have G1' : H1.get B1 = some (.cells true [byteVal (UInt8.ofNat (q % 128 + 128))]) := by rw [<- hv]; exact G1
  have o1 := o.ext E1
  refine XP o1 rfl rfl rfl (Slc.of_get (z := 1) G1' N1 rfl).elemsAll rfl (by rw [XhC]; omega) fun ao2 ca2 H2 o2 E2 L2 f2 => ?_
  have gb2 := E2.getS (by omega) (UX hne) (E1.get0 (by omega) gb)
  refine R ?_
  refine Xm rfl (by conv => lhs; whnf) rfl gb2 rfl (XhH rfl) fun H3 E3 L3 G3 => ?_
  refine R ?_
  refine Xd (VW rfl rfl) ?_
  refine R ?_
  have hB : H3.get b = some (.cells true (wrCells ao2 ((bs ++ pre ++ [UInt8.ofNat (q % 128 + 128)]).length) ca2)) := by
   rw [XhC]; exact G3
  refine ⟨q / 128, by omega, pre ++ [UInt8.ofNat (q % 128 + 128)], by omega, ?_, ⟨congrArg (Value.int .i64) bshr7, rfl⟩, rfl, _, ?_, fr.trans (.step E1 E2 E3 f2)⟩
  ·rw [he, WR (by omega)]; simp
  ·have hne2 : ∀ a, ao2 = some a -> a.block ≠ b := fun a ha => by
    rcases f2 a ha with hx | hx
    ·exact fun e => UX hne (e ▸ hx)
    ·omega
   refine ⟨ao2, ca2, ?_, by rw [<- Xh1]; exact hB, by omega, hne2, rfl⟩
   have o3 := o2.extS E3 (fun a ha hm => hne2 a ha (XhB.1 hm))
   rw [<- Xh1, XS, XhC]
   exact o3
 ·refine R2 ?_
  refine XJ (Xf (by conv => lhs; whnf) rfl rfl rfl XB) fun H1 B1 E1 L1 G1 N1 Q1 => ?_
  have hv : Value.int .u8 (IntKind.u8.wrap (XhA q)) = byteVal (UInt8.ofNat q) := wrap8N (by omega)
  have G1' : H1.get B1 = some (.cells true [byteVal (UInt8.ofNat q)]) := by rw [<- hv]; exact G1
  have o1 := o.ext E1
  refine XP o1 rfl rfl rfl (Slc.of_get (z := 1) G1' N1 rfl).elemsAll rfl (by rw [XhC]; omega) fun ao2 ca2 H2 o2 E2 L2 f2 => ?_
  have gb2 := E2.getS (by omega) (UX hne) (E1.get0 (by omega) gb)
  refine R ?_
  refine Xm rfl (by conv => lhs; whnf) rfl gb2 rfl (XhH rfl) fun H3 E3 L3 G3 => ?_
  refine Xf8 ?_
  have hfin : XA k = pre ++ [UInt8.ofNat q] := by rw [he, YB (by omega)]
  have hne2 : ∀ a, ao2 = some a -> a.block ≠ b := fun a ha => by
   rcases f2 a ha with hx | hx
   ·exact fun e => UX hne (e ▸ hx)
   ·omega
  refine ⟨rfl, _, Xg, rfl, _, ?_, fr.trans (.step E1 E2 E3 f2)⟩
  ·rw [hfin]
   refine ⟨ao2, ca2, ?_, ?_, by omega, hne2, rfl⟩
   ·have o3 := o2.extS E3 (fun a ha hm => hne2 a ha (XhB.1 hm))
    rw [<- Xh1, XS, XhC]
    exact o3
   ·rw [<- Xh1, XhC]; exact G3
theorem word_Writer_Text_p (m : Nat) (hm : 100000000 <= m) (h : Heap) (b : Nat) (priv : List Nat) (bs s : LB) (hs : s.length < 1000000) (w : WrP h b priv bs) (hbig : bs.length + (XA s.length).length + s.length < 100000000) :
  (enter E (ctx E (m + 3)) Xdb [Pt b, sv s] h).Wp sg fun v h' => v = .tuple ⟨[]⟩ /\ ∃ priv', WrP h' b priv' (bs ++ (XA s.length ++ s)) /\ WrTo priv h h' priv' := by
 refine H.run (k := JA) rfl rfl rfl ?_
 dsimp only [JA]
 refine R ?_
 have w0 := w
 obtain ⟨ao, ca, o, gb, hlt, hne, rfl⟩ := w
 refine X6 (Xi rfl (We H _ _ _ _ _ gb)) ?_
 refine R ?_
 refine Xd (l_lenStr rfl) ?_
 refine Xj (Xi rfl (VM H _ (by omega) _ _ _ bs s.length (by omega) w0 (by omega))) ?_
 generalize b :: XD ao = priv at *
 clear o gb hlt hne w0 ao ca
 rintro v h1 ⟨rfl, _, ⟨ao, ca, o, gb, hlt, hne, rfl⟩, fr⟩
 have lf := fr.1.next
 refine R2 ?_
 refine XP o rfl rfl rfl (elems_str s) (by rw [Xc, XhI]; rfl) (by rw [XhC]; show _ + s.length < _; omega) fun ao2 ca2 H2 o2 E2 L2 f2 => ?_
 have gb2 := E2.getS (by omega) (UX hne) gb
 refine R ?_
 refine Xm rfl (by conv => lhs; whnf) rfl gb2 rfl (XhH rfl) fun H3 E3 L3 G3 => ?_
 refine Xf8 ?_
 have hne2 : ∀ a, ao2 = some a -> a.block ≠ b := fun a ha => by
  rcases f2 a ha with hx | hx
  ·exact fun e => UX hne (e ▸ hx)
  ·omega
 refine ⟨rfl, _, Xg, rfl, _, ?_, fr.trans (.step (.refl _) E2 E3 f2)⟩
 refine ⟨ao2, ca2, ?_, ?_, by omega, hne2, rfl⟩
 ·have o3 := o2.extS E3 (fun a ha hm => hne2 a ha (XhB.1 hm))
  rw [<- Xh1, XS, XhC]
  exact o3
 ·rw [<- Xh1, XhC]; exact G3
theorem word_Writer_ID_p (m : Nat) (h : Heap) (b : Nat) (priv : List Nat) (bs d : LB) (hd : d.length = 32) (w : WrP h b priv bs) (hbig : bs.length + 32 < 100000000) :
  (enter E (ctx E (m + 2)) XeL [Pt b, .agg ⟨Xa d⟩] h).Wp sg fun v h' => v = .tuple ⟨[]⟩ /\ ∃ priv', WrP h' b priv' (bs ++ d) /\ WrTo priv h h' priv' := by
 refine H.run (k := Xaz) rfl rfl rfl ?_
 dsimp only [Xaz]
 refine X9 ?_
 refine X2 (by conv => lhs; whnf) rfl fun H1 B1 E1 L1 G1 N1 Q1 => ?_
 refine R ?_
 obtain ⟨ao, ca, o, gb, hlt, hne, rfl⟩ := w
 have gb1 := E1.get0 (by omega) gb
 refine X6 (Xi rfl (We H _ _ _ _ _ gb1)) ?_
 refine R2 ?_
 refine Xk (Jk rfl rfl rfl (by omega) (by omega) (by omega)) rfl ?_
 have hdl : (Xa d).length = 32 := by rw [Xc, hd]
 have sd : Slc H1 1 (some ⟨B1, 0 + 0 * 1, none⟩) (32 - 0) (32 - 0) (Xa d) := Slc.of_part G1 N1 hdl (XhE _) (XK hdl)
 refine WM (o.ext E1) rfl rfl rfl sd.elemsAll hdl (by omega) (fun _ => rfl) fun ao2 ca2 H2 o2 E2 L2 f2 => ?_
 have gb2 := E2.getS (by omega) (UX hne) gb1
 refine R ?_
 refine Yw rfl (by conv => lhs; whnf) rfl gb2 rfl (XhH rfl) (fun _ => rfl) fun H3 E3 L3 G3 => ?_
 refine XdI ?_
 have hne2 : ∀ a, ao2 = some a -> a.block ≠ b := fun a ha => by
  rcases f2 a ha with hx | hx
  ·exact fun e => UX hne (e ▸ hx)
  ·omega
 refine ⟨rfl, _, Xg, rfl, _, ?_, .step E1 E2 E3 f2⟩
 refine ⟨ao2, ca2, ?_, ?_, by omega, hne2, rfl⟩
 ·have o3 := o2.extS E3 (fun a ha hm => hne2 a ha (XhB.1 hm))
  rw [XS, XhC, hd]
  exact o3
 ·rw [XhC, hd]; exact G3
end
def X4 (s : LB) : LB := XA s.length ++ s
def Y2 (y : Lk) : LB := y.1 ++ XA y.2
def cat {α : Type} (f : α -> LB) (l : List α) : LB := (l.map f).flatten
theorem cat_append {α : Type} (f : α -> LB) (l m : List α) : cat f (l ++ m) = cat f l ++ cat f m := by unfold cat; rw [Xh2, XiF]
theorem XfV {α : Type} (f : α -> LB) {l : List α} {x : α} (hx : l[i]? = some x) : cat f (l.take (i + 1)) = cat f (l.take i) ++ f x := by
 rw [Xh6, hx, cat_append]
 congr 1
 simp [cat]
theorem Xel {α : Type} {f : α -> LB} {l : List α} {k : Nat} (h : ∀ x ∈ l, (f x).length <= k) : (cat f l).length <= l.length * k := by
 induction l with
 | nil => simp [cat]
 | cons x l ih =>
  have h1 := h x (by simp)
  have h2 := ih fun y hy => h y (by simp [hy])
  rw [show cat f (x :: l) = f x ++ cat f l by simp [cat], XhC, Xh8, XiR]
  omega
theorem JW {α : Type} (f : α -> LB) (l : List α) (i : Nat) : (cat f (l.take i)).length <= (cat f l).length := by
 have := cat_append f (l.take i) (l.drop i)
 rw [Xiw] at this
 rw [this, XhC]; omega
theorem wr_fr {h0 : Heap} {pr pr' : List Nat} (e : Ext [] h0 h) (q : ∀ x ∈ pr, h0.next <= x) (w : WrTo pr h h' pr') : Ext [] h0 h' /\ ∀ x ∈ pr', h0.next <= x :=
 ⟨e.trans w.1 fun s hs => .inr (q s hs), fun x hx => by
  rcases w.2 x hx with h | h
  ·exact q x h
  ·exact Xh4 e.next h⟩
def X3 (level : Nat) (texts : List (LB)) (links : List Lk) : LB := XA level ++ (XA (texts.length + links.length) ++ (cat X4 texts ++ cat Y2 links))
theorem Zs {k : Nat} (h : k < 100000000) : (XA k).length <= 4 := by
 by_cases h1 : k < 128
 ·rw [YB h1]; simp
 rw [WR h1, Xh8]
 by_cases h2 : k / 128 < 128
 ·rw [YB h2]; simp
 rw [WR h2, Xh8]
 by_cases h3 : k / 128 / 128 < 128
 ·rw [YB h3]; simp
 rw [WR h3, Xh8, YB (by omega)]
 simp
theorem encText_le {s : LB} (h : s.length <= 8000) : (X4 s).length <= 8004 := by
 unfold X4; rw [XhC]; have := Zs (k := s.length) (by omega); omega
theorem encLk_le {y : Lk} (h : LkOK y) : (Y2 y).length <= 36 := by
 unfold Y2; rw [XhC, h.1]; have := Zs (k := y.2) (by have := h.2; omega); omega
section
variable {E : Env} {sg : Bool} (H : Has E)
include H
theorem seg_node_put_ok (m : Nat) (hm : 100000000 <= m) (h : Heap) (p gb db lb many : Nat) (L : List (LB)) (priv : List Nat) (s : StQ h p gb db lb many L priv) (hmany : many <= 65536) (level : Nat) (hlev : level <= 130) (tao lao : OA) (tca lca : Nat) (texts : List (LB)) (links : List Lk) (ht8 : texts.length <= 8) (hl8 : links.length <= 8) (hts : ∀ s ∈ texts, s.length <= 8000) (hls : ∀ y ∈ links, LkOK y)
  (slt : Slc h 1 tao texts.length tca (fl YU texts)) (sll : Slc h 33 lao links.length lca (fl Yh links)) (hlp : ∀ a, lao = some a -> a.block ∉ priv) (hL : (Y1 L (X3 level texts links)).length <= 1500) (hu : 2 + Yt (Y1 L (X3 level texts links)) < many) :
  (enter E (ctx E (m + 1006)) f_seg_node_put [.agg ⟨[I6 level, .slice tao texts.length tca, .slice lao links.length lca]⟩, Pt p] h).Wp sg fun v h' => v = .tuple ⟨[.agg ⟨Yh (Sha (X3 level texts links), texts.length + Y7 links)⟩, I6 0]⟩ /\ ∃ priv', StQ h' p gb db lb many (Y1 L (X3 level texts links)) priv' /\ Ext priv h h' /\ ∀ b ∈ priv', b ∈ priv \/ h.next <= b := by
 refine H.run (k := Xdj) rfl rfl rfl ?_
 dsimp only [Xdj]
 refine X9 ?_
 refine X2 (by conv => lhs; whnf) rfl fun H1 B1 E1 L1 G1 N1 Q1 => ?_
 refine Xt fun H2 B2 E2 L2 G2 N2 Q2 => ?_
 refine R ?_
 have lt0 := s.lt
 have ct := Xel (f := X4) (l := texts) (k := 8004) fun x hx => encText_le (hts x hx)
 have cl := Xel (f := Y2) (l := links) (k := 36) fun x hx => encLk_le (hls x hx)
 have i1 := Zs (k := level) (by omega)
 have i2 := Zs (k := texts.length + links.length) (by omega)
 have hlen : (X3 level texts links).length <= 65536 := by
  unfold X3
  rw [XhC, XhC, XhC]
  omega
 have e02 : Ext [] h H2 := E1.trans0 E2
 have T1 := E2.get0 N1 G1
 refine Xj (Xi rfl (word_New_p H _ _)) ?_
 rintro v h3 ⟨b, rfl, w3, hbb, e3⟩
 have l3 := e3.next
 have q3 : ∀ x ∈ [b], H2.next <= x := fun x hx => by rw [XhB.1 hx]; exact hbb
 have T3 := e3.get0 (by omega) T1
 refine R2 ?_
 refine Xj (Xi rfl (VM H (m + 1003) (by omega) _ b _ [] level (by omega) w3 (by simp; omega))) ?_
 rintro v h4 ⟨rfl, pr4, w4, f4⟩
 obtain ⟨e4, q4⟩ := wr_fr e3 q3 f4
 have l4 := e4.next
 have T4 := e4.get0 (by omega) T1
 refine R2 ?_
 refine Xd (ZI rfl rfl (by omega)) ?_
 refine Xj (Xi rfl (VM H (m + 1003) (by omega) _ b _ _ (texts.length + links.length) (by omega) w4 (by simp; omega))) ?_
 rintro v h5 ⟨rfl, pr5, w5, f5⟩
 obtain ⟨e5, q5⟩ := wr_fr e4 q4 f5
 have l5 := e5.next
 have T5 := e5.get0 (by omega) T1
 rw [Xib] at w5
 refine R2 ?_
 generalize hpre : XA level ++ XA (texts.length + links.length) = pre at w5
 have lpre : pre.length <= 8 := by rw [<- hpre, XhC]; omega
 refine Yl texts.length 0 (fun i t x hk => (g1 t = (Pt p) /\ g2 t = (Pt B1) /\ g4 t = (Pt B2) /\ g6 t = (Pt b) /\ g29 t = (.slice tao texts.length tca) /\ g30 t = (I6 texts.length) /\ g31 t = (I6 i)) /\ x = ax /\ Ext [] H2 hk /\ ∃ pr, (∀ x ∈ pr, H2.next <= x) /\ WrP hk b pr (pre ++ cat X4 (texts.take i))) ⟨⟨rfl, rfl, rfl, rfl, rfl, rfl, rfl⟩, rfl, e5, pr5, q5, by simpa [cat] using w5⟩ (XhO _) (XG (by omega)) ?_
 ·rintro i t x hk hi ⟨⟨r1, r2, r4, r6, r29, r30, r31⟩, rfl, ek, pr, qk, wk⟩
  obtain ⟨t0, rfl⟩ : ∃ t0, t = p1 (Pt p) (p2 (Pt B1) (p4 (Pt B2) (p6 (Pt b) (p29 (.slice tao texts.length tca) (p30 (I6 texts.length) (p31 (I6 i) t0)))))) := ⟨t, (show t = p1 (g1 t) (p2 (g2 t) (p4 (g4 t) (p6 (g6 t) (p29 (g29 t) (p30 (g30 t) (p31 (g31 t) t)))))) from rfl).trans (by rw [r1, r2, r4, r6, r29, r30, r31])⟩
  clear r1 r2 r4 r6 r29 r30 r31
  have lk := ek.next
  have lN : H2.next <= hk.next := lk
  by_cases hlt : i < texts.length
  ·obtain ⟨a, wa, xa, hao, ga, na, ta⟩ := (slt.ext (e02.trans0 ek)).nonempty (by omega)
   subst hao
   obtain ⟨s1, hsg⟩ : ∃ s1, texts[i]? = some s1 := ⟨_, XhL hlt⟩
   have hsi : s1.length <= 8000 := hts _ (Xh5 hsg)
   have hload : nth (a.off + i * 1) xa = some (sv s1) := by
    rw [XhI, Yf ta (by omega), Xd2 hlt, Xih, hsg]; rfl
   have hct := XfV X4 hsg
   have hcl := JW X4 texts i
   have hcl1 := JW X4 texts (i + 1)
   rw [hct, XhC] at hcl1
   have hel : (X4 s1).length = (XA s1.length).length + s1.length := by unfold X4; rw [XhC]
   refine R2 ?_
   refine Xj (Xi rfl (word_Writer_Text_p H (m + 1002) (by omega) _ b _ _ s1 (by omega) wk (by rw [XhC]; omega))) ?_
   rintro v h6 ⟨rfl, pr6, w6, f6⟩
   obtain ⟨e6, q6⟩ := wr_fr ek qk f6
   refine R ?_
   exact ⟨hlt, ⟨rfl, rfl, rfl, rfl, rfl, rfl, rfl⟩, rfl, e6, pr6, q6, by rw [hct, <- Xh1]; exact w6⟩
  ·have hin : i = texts.length := by omega
   subst hin
   rw [Xh7] at wk
   have T6 := ek.get0 (by omega) T1
   refine R2 ?_
   have T2 := ek.get0 N2 G2
   have lct := ct
   refine Yl links.length 0 (fun i t x hk => (g1 t = (Pt p) /\ g2 t = (Pt B1) /\ g4 t = (Pt B2) /\ g6 t = (Pt b) /\ g40 t = (.slice lao links.length lca) /\ g41 t = (I6 links.length) /\ g42 t = (I6 i)) /\ x = ax /\ Ext [] H2 hk /\ ∃ pr, (∀ x ∈ pr, H2.next <= x) /\ WrP hk b pr ((pre ++ cat X4 texts) ++ cat Y2 (links.take i))) ⟨⟨rfl, rfl, rfl, rfl, rfl, rfl, rfl⟩, rfl, ek, pr, qk, by simpa [cat] using wk⟩ (XhO _) (XG (by omega)) ?_
   ·clear wk qk pr
    rintro i t x hk hi ⟨⟨r1, r2, r4, r6, r40, r41, r42⟩, rfl, ek, pr, qk, wk⟩
    obtain ⟨t0, rfl⟩ : ∃ t0, t = p1 (Pt p) (p2 (Pt B1) (p4 (Pt B2) (p6 (Pt b) (p40 (.slice lao links.length lca) (p41 (I6 links.length) (p42 (I6 i) t0)))))) := ⟨t, (show t = p1 (g1 t) (p2 (g2 t) (p4 (g4 t) (p6 (g6 t) (p40 (g40 t) (p41 (g41 t) (p42 (g42 t) t)))))) from rfl).trans (by rw [r1, r2, r4, r6, r40, r41, r42])⟩
    clear r1 r2 r4 r6 r40 r41 r42
    have lN : H2.next <= hk.next := ek.next
    by_cases hlt : i < links.length
    ·obtain ⟨a, wa, xa, hao, ga, na, ta⟩ := (sll.ext (e02.trans0 ek)).nonempty (by omega)
     subst hao
     obtain ⟨s1, hsg⟩ : ∃ s1, links[i]? = some s1 := ⟨_, XhL hlt⟩
     have hsi : LkOK s1 := hls _ (Xh5 hsg)
     have hz : ∀ x ∈ links, (Yh x).length = 33 := fun x hx => YS (hls x hx)
     have hload : XU 33 (XY (a.off + i * 33) xa) = some (Yh s1) := by
      rw [take_take ta (by omega), XcK hz hsg]
     have hel := YS hsi
     have hput : XZ (Yh s1) 0 q_5ccab404 = Yh s1 := by
      have := Yk (k := 0) (a := []) (b := q_5ccab404) (ys := Yh s1) (c := []) rfl hel
      simpa using this
     have hn : nth (0 + 32) (Yh s1) = some (I6 s1.2) := nth_app (k := 32) (a := Xa s1.1) (c := []) (by rw [Xc, hsi.1])
     have ht : XU 32 (XY (0 + 0) (Yh s1)) = some (Xa s1.1) := XeC (k := 0) (a := []) (b := Xa s1.1) (c := [I6 s1.2]) rfl (by rw [Xc, hsi.1])
     have hct := XfV Y2 hsg
     have hcl := JW Y2 links i
     have hcl1 := JW Y2 links (i + 1)
     rw [hct, XhC] at hcl1
     have hel2 : (Y2 s1).length = 32 + (XA s1.2).length := by unfold Y2; rw [XhC, hsi.1]
     have hs2 := hsi.2
     have hs1 := hsi.1
     refine R2 ?_
     refine Xt fun H70 B70 E70 L70 G70 N70 Q70 => ?_
     refine Xm rfl (by conv => lhs; whnf) rfl G70 (by assumption) (XhH rfl) fun H71 E71 L71 G71 => ?_
     refine R ?_
     rw [hput] at G71
     refine R2 ?_
     have e71 := E70.trans1 E71 (by omega)
     have w71 := wk.ext e71
     have hB : B70 ∉ pr := fun hm => by have := wk.lt _ hm; omega
     refine Xj (Xi rfl (word_Writer_ID_p H (m + 1003) _ b _ _ s1.1 hsi.1 w71 (by rw [XhC, XhC]; omega))) ?_
     rintro v h6 ⟨rfl, pr6, w6, f6⟩
     obtain ⟨e6, q6⟩ := wr_fr (ek.trans0 e71) qk f6
     have G6 := f6.1.getS (by omega) hB G71
     have l6 := f6.1.next
     refine R2 ?_
     refine Xj (Xi rfl (VM H (m + 1003) (by omega) _ b _ _ s1.2 (by omega) w6 (by rw [XhC, XhC, XhC]; omega))) ?_
     rintro v h7 ⟨rfl, pr7, w7, f7⟩
     obtain ⟨e7, q7⟩ := wr_fr e6 q6 f7
     refine R ?_
     exact ⟨hlt, ⟨rfl, rfl, rfl, rfl, rfl, rfl, rfl⟩, rfl, e7, pr7, q7, by rw [hct]; unfold Y2; rw [<- Xh1, <- Xh1]; exact w7⟩
    ·have hin : i = links.length := by omega
     subst hin
     rw [Xh7] at wk
     have henc : (pre ++ cat X4 texts) ++ cat Y2 links = X3 level texts links := by
      unfold X3; rw [<- hpre]; simp
     rw [henc] at wk
     refine R ?_
     refine Xj (Xi rfl (word_Writer_Out_ok H (m + 1003) _ b H2.next _ (wk.to H2.next qk) (by omega))) ?_
     rintro v h8 ⟨ao, ca, rfl, o8, fr8, e8⟩
     have s8 := s.ext ((e02.trans0 ek).trans0 e8)
     have T18 := (ek.trans0 e8).get0 (by omega) T1
     have T28 := (ek.trans0 e8).get0 (by omega) G2
     have l8 := e8.next
     refine R ?_
     refine Xj (Xi rfl (store_Put_ok H m hm _ p gb db lb many L priv s8 hmany (X3 level texts links) hlen hL hu ao ca o8.toSlc)) ?_
     rintro v h9 ⟨rfl, priv', s9, e9, f9⟩
     have n1 : B1 ∉ priv := fun hm => by have := lt0 _ hm; omega
     have n2 : B2 ∉ priv := fun hm => by have := lt0 _ hm; omega
     have T19 := e9.getS (by omega) n1 T18
     have T29 := e9.getS (by omega) n2 T28
     have l9 := e9.next
     have hd := X5 (X3 level texts links)
     generalize hid : Sha (X3 level texts links) = id at hd
     refine R ?_
     refine Xt fun H130 B130 E130 L130 G130 N130 Q130 => ?_
     refine Xm rfl rfl rfl G130 (by rw [Xc, hd]) (by decide) (fun h10 E10 n10 G10 => ?_)
     have hp : XZ (Xa id) 0 Xr = Xa id := by
      have := Yk (k := 0) (a := []) (b := Xr) (ys := Xa id) (c := []) rfl (by rw [Xc, hd]; rfl)
      simpa using this
     rw [hp] at G10
     have T110 := E10.get1 (by omega) (by omega) (E130.get0 (by omega) T19)
     have T210 := E10.get1 (by omega) (by omega) (E130.get0 (by omega) T29)
     have t2 : XU 32 (XY 0 (Xa id)) = some (Xa id) := XK (by rw [Xc, hd])
     refine R2 ?_
     have eAll0 : Ext [] h h8 := (e02.trans0 ek).trans0 e8
     have sl10 := (((sll.ext eAll0).extS e9 hlp).ext E130).extS E10 (fun a ha hm => by have := (sll.ext eAll0).lt a ha; have := XhB.1 hm; omega)
     refine YL (Xi rfl (Ut H (m + 1005) (by omega) _ level tao lao texts.length tca lca links hls sl10 (by omega) (by omega))) (fun v h' ⟨_, q⟩ => YI rfl (tells_agg (XdJ rfl (q.get0 (show B130 < h10.next by omega) G10) t2) (Xd0 id)) rfl) ?_
     rintro v h11 ⟨rfl, e11⟩
     have T111 := e11.get0 (by omega) T110
     have T211 := e11.get0 (by omega) T210
     have e33 : XZ [Value.int .i64 (XhA (texts.length + Y7 links))] 32 (XZ (Xa id) 0 q_5ccab404) = Yh (id, texts.length + Y7 links) := by
      have hb := Xc id
      have h1 := Yk (k := 0) (a := []) (b := q_5ccab404.take 32) (ys := Xa id) (c := q_5ccab404.drop 32) rfl (by rw [hb, hd]; rfl)
      rw [Xiw] at h1
      rw [Xib] at h1
      rw [h1]
      have h2 := Yk (k := 32) (a := Xa id) (b := q_5ccab404.drop 32) (ys := [Value.int .i64 (XhA (texts.length + Y7 links))]) (c := []) (by rw [hb, hd]) rfl
      rw [Xij] at h2
      simp only [Xib]
      rw [h2, Xij]; rfl
     refine Xk (Yo ((Xf rfl rfl (by rw [Xc, hd]) (by decide) (Xf rfl rfl rfl (by rw [Uj _ _ _ (by rw [Xc, hd]; decide)]; rfl) XB)).trans (congrArg some e33))) rfl ?_
     refine R ?_
     have hel : (Yh (id, texts.length + Y7 links)).length = 33 := by unfold Yh; rw [XhC, Xc, hd]; rfl
     refine Yw rfl rfl rfl T211 hel (by decide) (fun _ => rfl) (fun h12 E12 n12 G12 => ?_)
     have hp33 : XZ (Yh (id, texts.length + Y7 links)) 0 q_5ccab404 = Yh (id, texts.length + Y7 links) := by
      have := Yk (k := 0) (a := []) (b := q_5ccab404) (ys := Yh (id, texts.length + Y7 links)) (c := []) rfl hel
      simpa using this
     rw [hp33] at G12
     refine R ?_
     refine ⟨rfl, _, Xb (Y4 rfl G12 (XK hel)) (Xb (Xw rfl) Xg), rfl, priv', ?_, ?_, fun x hx => ?_⟩
     ·have hpr' : ∀ x ∈ priv', x ≠ B2 /\ x < h9.next := fun x hx => ⟨fun e => by
       rcases f9 x hx with h | h
       ·exact n2 (e ▸ h)
       ·omega, s9.lt x hx⟩
      exact ((s9.ext (E130.trans1 E10 (by omega))).ext e11).extS E12 fun x hx hm => (hpr' x hx).1 (XhB.1 hm)
     ·exact ((eAll0.mono fun _ h => nomatch h).trans e9 fun s hs => .inl hs).trans (((E130.trans1 E10 (by omega)).trans0 e11).mono (T := [B2]) (fun _ h => nomatch h) |>.trans E12 fun s hs => .inl hs) fun s hs => .inr (by rw [XhB.1 hs]; omega)
     ·rcases f9 x hx with h | h
      ·exact .inl h
      ·exact .inr (by have := eAll0.next; omega)
end
end Sp
end
