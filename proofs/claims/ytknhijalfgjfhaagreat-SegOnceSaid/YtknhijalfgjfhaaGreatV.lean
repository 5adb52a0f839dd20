/-
  The chapter's examples, run: they are answered as it says; the functions' table with them summed up. No condition.
-/
import Derived.Test.YtknhijalfgjfhaaGreatT
set_option linter.unusedVariables false
set_option linter.unusedSimpArgs false
set_option linter.unusedSectionVars false
open List renaming mem_cons -> XhQ
open Bool renaming rec -> Xh3
open Nat renaming beq -> XhD
noncomputable section
namespace Sp
open Go Go.Eng
set_option maxRecDepth 100000
def bts (l : List Nat) : List Value := l.map fun n => .int .u8 (.ofNat n)
def row0 : List Value × Value := (bts [97,98], .agg ⟨bts [251,142,32,252,46,76,63,36,140,96,195,155,214,82,243,193,52,114,152,187,151,123,139,77,89,3,184,80,85,98,6,3]⟩)
theorem row0_ok : tabRow E0 (nat_lit 5000) 33 row0 = true := by kernel_rfl
def row1 : List Value × Value := (bts [0,1,2,97,98], .agg ⟨bts [69,35,31,85,197,15,66,105,224,1,85,24,102,136,225,71,168,95,56,118,55,198,73,110,76,15,22,104,134,165,193,10]⟩)
theorem row1_ok : tabRow E0 (nat_lit 5000) 33 row1 = true := by kernel_rfl
def row2 : List Value × Value := (bts [0,0], .agg ⟨bts [150,162,150,210,36,242,133,198,123,238,147,195,15,138,48,145,87,240,218,163,93,197,184,126,65,11,120,99,10,9,207,199]⟩)
theorem row2_ok : tabRow E0 (nat_lit 5000) 33 row2 = true := by kernel_rfl
def hashTab : List (List Value × Value) := [row0, row1, row2]
theorem hashTab_ok : ∀ e ∈ hashTab, tabRow E0 (nat_lit 5000) 33 e = true := by
 intro e he
 unfold hashTab at he
 rcases XhQ.1 he with rfl | he
 ·exact row0_ok
 rcases XhQ.1 he with rfl | he
 ·exact row1_ok
 rcases XhQ.1 he with rfl | he
 ·exact row2_ok
 cases he
def Ek : Env := ⟨tab.get, fun n => Xh3 (motive := fun _ => Option Summ) none (some (tabSum hashTab)) (XhD n 33), cMethod Go.Proofs.Tryz.prog, Xd8 Go.Proofs.Tryz.prog⟩
theorem Ek_ok (B : Nat) : Xez Go.Proofs.Tryz.prog B Ek := by
 refine ⟨fun f k h => Tr.allP_get tab_ok f k h, rfl, rfl, fun f s h => ?_⟩
 replace h : (Xh3 (motive := fun _ => Option Summ) none (some (tabSum hashTab)) (XhD f 33)) = some s := h
 cases hb : XhD f 33 with
 | false => rw [hb] at h; cases h
 | true =>
  rw [hb] at h
  cases h
  rw [beq_iff] at hb
  subst hb
  exact fun ι H w args args' v H' s hr hv => tab_sound mixed (E0_ok B) (nat_lit 5000) 33 hashTab_ok s hr hv
theorem known_run : (enter Ek (ctx Ek (nat_lit 5000)) 6 [] ⟨0, .nil⟩).gives (.bool true) = true := by kernel_rfl
def E1 : Env := ⟨tab.get, fun n => Xh3 (motive := fun _ => Option Summ) none (some XcG) (XhD n 6), cMethod Go.Proofs.Tryz.prog, Xd8 Go.Proofs.Tryz.prog⟩
theorem E1_ok (B : Nat) : Xez Go.Proofs.Tryz.prog B E1 := by
 refine ⟨fun f k h => Tr.allP_get tab_ok f k h, rfl, rfl, fun f s h => ?_⟩
 replace h : (Xh3 (motive := fun _ => Option Summ) none (some XcG) (XhD f 6)) = some s := h
 cases hb : XhD f 6 with
 | false => rw [hb] at h; cases h
 | true =>
  rw [hb] at h
  cases h
  rw [beq_iff] at hb
  subst hb
  exact fun ι H w args args' v H' s hr hv => closed_sound mixed (Ek_ok B) (nat_lit 5000) 6 known_run s hr hv
theorem enter_eq {E : Env} {c : Ctx} {f : Nat} {k : XI} {xs : List Value} {h : Heap} (hs : E.sum f = none) (hf : E.fn f = some k) : enter E c f xs h = J7 E c k xs h := by
 unfold enter
 rw [hs, hf]
 rfl
theorem E1_has : Has E1 := ⟨fun f k h => h, fun f h => by
  show Xh3 (motive := fun _ => Option Summ) none (some XcG) (XhD f 6) = none
  rw [show XhD f 6 = false from h], fun f h => by
  show Xh3 (motive := fun _ => Option Summ) none (some XcG) (XhD f 6) = some XcG
  rw [show XhD f 6 = true from h]⟩
end Sp
end
