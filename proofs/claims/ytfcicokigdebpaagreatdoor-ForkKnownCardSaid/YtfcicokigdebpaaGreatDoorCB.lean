/-
  Closed facts that the card asks of the program, second part. No condition.
-/
import Derived.Test.YtfcicokigdebpaaGreatDoorRows
import Derived.SevenTiedAt
import Derived.KernelRfl
namespace Go.Proofs.YtfcicokigdebpaaGreatDoor
namespace forkKnown
open Go
set_option linter.unusedVariables false
set_option maxRecDepth 100000
theorem card4 : true = Tryz.pinned.checked.prog.looks [] := by kernel_rfl
theorem goes_none {P : Program} (h : ∀ fn ∈ P.funcs.toList, fn.goes = false) (f : FuncId) : P.goes f = false := by
  have h0 : P.funcs.any Func.goes = false := by
    rw [← Array.any_toList, List.any_eq_false]
    intro fn hf
    rw [h fn hf]; exact Bool.false_ne_true
  unfold Program.goes
  rw [h0, Bool.and_false, Bool.or_false, List.any_eq_false]
  intro g _ hg
  cases hq : P.funcs[g]? with
  | none => rw [hq] at hg; cases hg
  | some fn =>
    rw [hq] at hg
    have := h fn (by rw [Array.mem_toList_iff]; exact Array.mem_of_getElem? hq)
    rw [Option.any_some, this] at hg; cases hg
theorem goes_by {P : Program} (h : ∀ fn ∈ P.funcs.toList, fn.goes = false) (c : OpenClaim) : false = c.goesBy P := by
  have h1 : ∀ o : Option FuncId, o.any P.goes = false := fun o => by cases o with
    | none => rfl
    | some f => rw [Option.any_some]; exact goes_none h f
  unfold OpenClaim.goesBy Program.goesAt Program.goesFrom
  rw [h1, Bool.false_or]
  split
  · rfl
  · symm
    rw [List.any_eq_false]
    intro f _
    rw [goes_none h f]; exact Bool.false_ne_true
theorem part_of {α : Type} {Q : α → Bool} {l : List α} (n : Nat) (hn : l.length ≤ n * 60) (h : ∀ k, k < n → ((l.drop (k * 60)).take 60).all Q = true) : ∀ x ∈ l, Q x = true := by
  intro x hx
  obtain ⟨i, hi, rfl⟩ := List.getElem_of_mem hx
  have := h (i / 60) (by omega)
  rw [List.all_eq_true] at this
  refine this _ ?_
  rw [List.mem_iff_getElem?]
  refine ⟨i % 60, ?_⟩
  rw [List.getElem?_take, if_pos (by omega), List.getElem?_drop, show i / 60 * 60 + i % 60 = i by omega, List.getElem?_eq_getElem hi]
theorem gp0 : ((Tryz.pinned.checked.prog.funcs.toList.drop (0 * 60)).take 60).all (fun fn => !fn.goes) = true := by kernel_rfl
theorem gp1 : ((Tryz.pinned.checked.prog.funcs.toList.drop (1 * 60)).take 60).all (fun fn => !fn.goes) = true := by kernel_rfl
theorem gp2 : ((Tryz.pinned.checked.prog.funcs.toList.drop (2 * 60)).take 60).all (fun fn => !fn.goes) = true := by kernel_rfl
theorem gp3 : ((Tryz.pinned.checked.prog.funcs.toList.drop (3 * 60)).take 60).all (fun fn => !fn.goes) = true := by kernel_rfl
theorem gp4 : ((Tryz.pinned.checked.prog.funcs.toList.drop (4 * 60)).take 60).all (fun fn => !fn.goes) = true := by kernel_rfl
theorem gp5 : ((Tryz.pinned.checked.prog.funcs.toList.drop (5 * 60)).take 60).all (fun fn => !fn.goes) = true := by kernel_rfl
theorem gp6 : ((Tryz.pinned.checked.prog.funcs.toList.drop (6 * 60)).take 60).all (fun fn => !fn.goes) = true := by kernel_rfl
theorem gp7 : ((Tryz.pinned.checked.prog.funcs.toList.drop (7 * 60)).take 60).all (fun fn => !fn.goes) = true := by kernel_rfl
theorem gp8 : ((Tryz.pinned.checked.prog.funcs.toList.drop (8 * 60)).take 60).all (fun fn => !fn.goes) = true := by kernel_rfl
theorem gpl : Tryz.pinned.checked.prog.funcs.toList.length = 497 := by kernel_rfl
theorem card5 : false = Rows.forkKnownRow.goesBy Tryz.pinned.checked.prog := goes_by (fun fn hf => by
  have := part_of (Q := fun fn => !fn.goes) 9 (by rw [gpl]; decide) (fun k hk => by
    rcases Nat.lt_or_ge k 1 with h | h
    · obtain rfl : k = 0 := by omega
      exact gp0
    rcases Nat.lt_or_ge k 2 with h | h
    · obtain rfl : k = 1 := by omega
      exact gp1
    rcases Nat.lt_or_ge k 3 with h | h
    · obtain rfl : k = 2 := by omega
      exact gp2
    rcases Nat.lt_or_ge k 4 with h | h
    · obtain rfl : k = 3 := by omega
      exact gp3
    rcases Nat.lt_or_ge k 5 with h | h
    · obtain rfl : k = 4 := by omega
      exact gp4
    rcases Nat.lt_or_ge k 6 with h | h
    · obtain rfl : k = 5 := by omega
      exact gp5
    rcases Nat.lt_or_ge k 7 with h | h
    · obtain rfl : k = 6 := by omega
      exact gp6
    rcases Nat.lt_or_ge k 8 with h | h
    · obtain rfl : k = 7 := by omega
      exact gp7
    rcases Nat.lt_or_ge k 9 with h | h
    · obtain rfl : k = 8 := by omega
      exact gp8
    omega) fn hf
  simpa using this) _

end forkKnown
end Go.Proofs.YtfcicokigdebpaaGreatDoor
