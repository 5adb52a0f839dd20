/-
  forkKnown's run in parts: where the model leaves a choice open, each answer is gone by itself. No condition.
-/
import Derived.Test.YtfcicokigdebpaaGreatDoorH
import Derived.KernelRfl
namespace Go.Proofs.YtfcicokigdebpaaGreatDoor
namespace forkKnown
open Go Go.Eng
set_option linter.unusedVariables false
/-- Where there are n answers, the one of number j is gone on with, and of it f holds. -/
noncomputable def way (n j : Nat) (f : Er → Bool) (r : Er) : Bool := Er.rec (motive := fun _ => Bool) (fun _ _ => false) (fun _ _ => false) (fun _ => false) (fun m k _ => Nat.beq m n && f (k j)) r
theorem way_inv {n j : Nat} {f : Er → Bool} {r : Er} (h : way n j f r = true) : ∃ k, r = .any n k ∧ f (k j) = true := by
  cases r with
  | any m k =>
    have h : (Nat.beq m n && f (k j)) = true := h
    rw [Bool.and_eq_true] at h
    obtain rfl := Nat.eq_of_beq_eq_true h.1
    exact ⟨k, rfl, h.2⟩
  | ret v h' => cases h
  | panic c h' => cases h
  | fail s => cases h
theorem below_of {f : Nat → Bool} : ∀ {n : Nat}, (∀ j, j < n → f j = true) → below f n = true
  | 0, _ => rfl
  | n + 1, h => by
    show (below f n && f n) = true
    rw [below_of fun j hj => h j (by omega), h n (by omega)]; rfl
theorem sure_ways {n : Nat} (hn : 0 < n) {r : Er} (h : ∀ j, j < n → way n j Er.sure r = true) : r.sure = true := by
  obtain ⟨k, rfl, _⟩ := way_inv (h 0 hn)
  show below (fun j => (k j).sure) n = true
  refine below_of fun j hj => ?_
  obtain ⟨k', e, h'⟩ := way_inv (h j hj)
  cases e
  exact h'
theorem way_ways {n j m : Nat} (hm : 0 < m) {F : Nat → Er → Bool} {G : Er → Bool} {r : Er} (step : ∀ s, (∀ i, i < m → F i s = true) → G s = true) (h : ∀ i, i < m → way n j (F i) r = true) : way n j G r = true := by
  obtain ⟨k, rfl, _⟩ := way_inv (h 0 hm)
  show (Nat.beq n n && G (k j)) = true
  rw [Bool.and_eq_true]
  refine ⟨Nat.beq_refl n, step _ fun i hi => ?_⟩
  obtain ⟨k', e, h'⟩ := way_inv (h i hi)
  cases e
  exact h'
noncomputable def run : Er := enterK Eng.E3 (ctx Eng.E3 (nat_lit 100000)) Eng.k4 [] ⟨0, .nil⟩
end forkKnown
end Go.Proofs.YtfcicokigdebpaaGreatDoor
