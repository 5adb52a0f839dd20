/-
  ForkNone: the tied card: the law's row holds (its call returns true whatever the model leaves open: a run of the abstract machine), and what it lays is tied to the program's text. No condition: the statement as given.
-/
import Derived.Test.YtfcicokigdebpaaGreatDoorQ
import Derived.Test.YtfcicokigdebpaaGreatDoorDA
import Derived.Test.YtfcicokigdebpaaGreatDoorDB
import Derived.Test.YtfcicokigdebpaaGreatDoorDC
import Derived.Test.YtfcicokigdebpaaGreatDoorJ
import Derived.Test.YtfcicokigdebpaaGreatDoorTie
import Derived.Test.YtfcicokigdebpaaGreatDoorCA
import Derived.Test.YtfcicokigdebpaaGreatDoorCB
import Derived.Test.YtfcicokigdebpaaGreatDoorCards
namespace Go.Proofs.YtfcicokigdebpaaGreatDoor
namespace forkNone
open Go Go.Eng Go.ChangeShapes Go.WideShapes Go.ChangeAt Go.RowKit
set_option linter.unusedVariables false

theorem door_met (os : Os) (args : Array Value) : laidMetH Tryz.prog Rows.forkNoneRow.laid ((laidWorld os).forCall (fun _ _ => 0) ⟨#[], args, []⟩).memory :=
  laidMetH_of_parts3 (fuel := 8) (laidMet_of_run' 8 (door1 os args) (by
    have h1 := door2a os args
    have h2 := door2b os args
    revert h1 h2
    cases DataW.laidRun Tryz.prog ((laidWorld os).forCall (fun _ _ => 0) ⟨#[], args, []⟩).memory 8 ((Rows.forkNoneRow.laid.filter fun x => x.2.handleName?.isNone).map (·.1)) with
    | none => intro h1; cases h1
    | some x => intro h1 h2; simp only [Option.map_some, Option.some.injEq] at h1 h2 ⊢; rw [h1, h2]; rfl)) (door3 os args) (door4 os args)

theorem over : Rows.forkNoneRow.holds Tryz.pinned (OpenSpec.ofChange Rows.forkNoneSpec) :=
  OpenClaim.holds_of_wide 3 Tryz.f3 rfl rfl rfl rfl rfl rfl rfl ⟨rfl, rfl, rfl, rfl, rfl⟩ rfl rfl rfl rfl rfl (by kernel_rfl) Tryz.func3 closed
    (of_decide_eq_true (by kernel_rfl)) (by unfold Func.isWrapper; first | (rw [if_pos (by decide +kernel)]; kernel_rfl) | (rw [if_neg (by decide +kernel)]; exact ⟨rfl, rfl⟩))
    (fun os started H enc _ => lifted door_met os started H enc)

end forkNone
/-- The statement: the tied card. -/
theorem forkNone_holds : Rows.ForkNoneCardSaid :=
  Claim7.holds_tied_plain_at .later [] [.data, .pinned] true (true, "4a9ac2f83b59bf4f7fea837701ff4836544302dc3fc8cc60ae34476ae704e974") true
    forkNone.over (fun _ h => by cases h) forkNone.card1 (fun _ h => by cases h) forkNone_row_tie rfl ⟨rfl, rfl⟩ forkNone.card2 rfl
    (fun f fn hf hfn => by
      obtain rfl : f = 3 := Option.some.inj (forkNone.card3.symm.trans hf) |>.symm
      obtain rfl : fn = Tryz.f3 := (Option.some.inj (Tryz.func3.symm.trans hfn)).symm
      exact ⟨forkNone.card4, fun j t ht => by
        rw [Tryz.params3] at ht
        rcases j with _ | _ | j
        · obtain rfl : t = 9 := by simpa using ht.symm
          exact forkNone.sin9
        · obtain rfl : t = 3 := by simpa using ht.symm
          exact forkNone.sin3
        · simp at ht⟩)
    forkNone.card5
#print axioms forkNone_holds
end Go.Proofs.YtfcicokigdebpaaGreatDoor
