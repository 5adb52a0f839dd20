/-
  The chapter's examples, run: they are answered as it says; the functions' table with them summed up. No condition.
-/
import Derived.Test.YtmngpfjhbekbcaaGreatT
set_option linter.unusedVariables false
set_option linter.unusedSimpArgs false
set_option linter.unusedSectionVars false
open List renaming mem_cons -> Xiw
open Bool renaming rec -> XiL
open Nat renaming beq -> Xik
noncomputable section
namespace Sp
open Go Go.Eng
set_option maxRecDepth 100000
def bt (n : Nat) : Value := .int .u8 (.ofNat n)
def row0 : List Value × Value := ([bt 97, bt 98], (.agg ⟨[bt 251, bt 142, bt 32, bt 252, bt 46, bt 76, bt 63, bt 36, bt 140, bt 96, bt 195, bt 155, bt 214, bt 82, bt 243, bt 193, bt 52, bt 114, bt 152, bt 187, bt 151, bt 123, bt 139, bt 77, bt 89, bt 3, bt 184, bt 80, bt 85, bt 98, bt 6, bt 3]⟩))
theorem row0_ok : tabRow E0 (nat_lit 5000) 33 row0 = true := by kernel_rfl
def row1 : List Value × Value := ([bt 0, bt 1, bt 2, bt 97, bt 98], (.agg ⟨[bt 69, bt 35, bt 31, bt 85, bt 197, bt 15, bt 66, bt 105, bt 224, bt 1, bt 85, bt 24, bt 102, bt 136, bt 225, bt 71, bt 168, bt 95, bt 56, bt 118, bt 55, bt 198, bt 73, bt 110, bt 76, bt 15, bt 22, bt 104, bt 134, bt 165, bt 193, bt 10]⟩))
theorem row1_ok : tabRow E0 (nat_lit 5000) 33 row1 = true := by kernel_rfl
def row2 : List Value × Value := ([bt 0, bt 0], (.agg ⟨[bt 150, bt 162, bt 150, bt 210, bt 36, bt 242, bt 133, bt 198, bt 123, bt 238, bt 147, bt 195, bt 15, bt 138, bt 48, bt 145, bt 87, bt 240, bt 218, bt 163, bt 93, bt 197, bt 184, bt 126, bt 65, bt 11, bt 120, bt 99, bt 10, bt 9, bt 207, bt 199]⟩))
theorem row2_ok : tabRow E0 (nat_lit 5000) 33 row2 = true := by kernel_rfl
def hashTab : List (List Value × Value) := [row0, row1, row2]
theorem hashTab_ok : ∀ e ∈ hashTab, tabRow E0 (nat_lit 5000) 33 e = true := by
 intro e he
 unfold hashTab at he
 rcases Xiw.1 he with rfl | he
 ·exact row0_ok
 rcases Xiw.1 he with rfl | he
 ·exact row1_ok
 rcases Xiw.1 he with rfl | he
 ·exact row2_ok
 cases he
def Ek : Env := ⟨tab.get, fun n => XiL (motive := fun _ => Option Summ) none (some (tabSum hashTab)) (Xik n 33), cMethod Go.Proofs.Tryz.prog, XeY Go.Proofs.Tryz.prog⟩
theorem Ek_ok (B : Nat) : Xfl Go.Proofs.Tryz.prog B Ek := by
 refine ⟨fun f k h => Tr.allP_get tab_ok f k h, rfl, rfl, fun f s h => ?_⟩
 replace h : (XiL (motive := fun _ => Option Summ) none (some (tabSum hashTab)) (Xik f 33)) = some s := h
 cases hb : Xik f 33 with
 | false => rw [hb] at h; cases h
 | true =>
  rw [hb] at h
  cases h
  rw [beq_iff] at hb
  subst hb
  exact fun ι H w args args' v H' s hr hv => tab_sound mixed (E0_ok B) (nat_lit 5000) 33 hashTab_ok s hr hv
theorem known_run : (enter Ek (ctx Ek (nat_lit 5000)) 6 [] ⟨0, .nil⟩).gives (.bool true) = true := by kernel_rfl
def E1 : Env := ⟨tab.get, fun n => XiL (motive := fun _ => Option Summ) none (some Xdp) (Xik n 6), cMethod Go.Proofs.Tryz.prog, XeY Go.Proofs.Tryz.prog⟩
theorem E1_ok (B : Nat) : Xfl Go.Proofs.Tryz.prog B E1 := by
 refine ⟨fun f k h => Tr.allP_get tab_ok f k h, rfl, rfl, fun f s h => ?_⟩
 replace h : (XiL (motive := fun _ => Option Summ) none (some Xdp) (Xik f 6)) = some s := h
 cases hb : Xik f 6 with
 | false => rw [hb] at h; cases h
 | true =>
  rw [hb] at h
  cases h
  rw [beq_iff] at hb
  subst hb
  exact fun ι H w args args' v H' s hr hv => closed_sound mixed (Ek_ok B) (nat_lit 5000) 6 known_run s hr hv
theorem enter_eq {E : Env} {c : Ctx} {f : Nat} {k : XG} {xs : List Value} {h : Heap} (hs : E.sum f = none) (hf : E.fn f = some k) : enter E c f xs h = K3 E c k xs h := by
 unfold enter
 rw [hs, hf]
 rfl
theorem E1_has : Has E1 := ⟨fun f k h => h, fun f h => by
  show XiL (motive := fun _ => Option Summ) none (some Xdp) (Xik f 6) = none
  rw [show Xik f 6 = false from h], fun f h => by
  show XiL (motive := fun _ => Option Summ) none (some Xdp) (Xik f 6) = some Xdp
  rw [show Xik f 6 = true from h]⟩
end Sp
end
