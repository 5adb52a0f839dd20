/-
  ForkKnown: the tied card: the law's row holds (its call returns true whatever the model leaves open: a run of the abstract machine), and what it lays is tied to the program's text. No condition: the statement as given.
-/
import Derived.Test.YtfcicokigdebpaaGreatDoorQ
import Derived.Test.YtfcicokigdebpaaGreatDoorDA
import Derived.Test.YtfcicokigdebpaaGreatDoorDB
import Derived.Test.YtfcicokigdebpaaGreatDoorDC
import Derived.Test.YtfcicokigdebpaaGreatDoorJ
import Derived.Test.YtfcicokigdebpaaGreatDoorTie
import Derived.Test.YtfcicokigdebpaaGreatDoorCA
import Derived.Test.YtfcicokigdebpaaGreatDoorCB
import Derived.Test.YtfcicokigdebpaaGreatDoorCards
namespace Go.Proofs.YtfcicokigdebpaaGreatDoor
namespace forkKnown
open Go Go.Eng Go.ChangeShapes Go.WideShapes Go.ChangeAt Go.RowKit
set_option linter.unusedVariables false

theorem door_met (os : Os) (args : Array Value) : laidMetH Tryz.prog Rows.forkKnownRow.laid ((laidWorld os).forCall (fun _ _ => 0) ⟨#[], args, []⟩).memory :=
  laidMetH_of_parts3 (fuel := 8) (laidMet_of_run' 8 (door1 os args) (by
    have h1 := door2a os args
    have h2 := door2b os args
    revert h1 h2
    cases DataW.laidRun Tryz.prog ((laidWorld os).forCall (fun _ _ => 0) ⟨#[], args, []⟩).memory 8 ((Rows.forkKnownRow.laid.filter fun x => x.2.handleName?.isNone).map (·.1)) with
    | none => intro h1; cases h1
    | some x => intro h1 h2; simp only [Option.map_some, Option.some.injEq] at h1 h2 ⊢; rw [h1, h2]; rfl)) (door3 os args) (door4 os args)

theorem over : Rows.forkKnownRow.holds Tryz.pinned (OpenSpec.ofChange Rows.forkKnownSpec) :=
  OpenClaim.holds_of_wide 4 Tryz.f4 rfl rfl rfl rfl rfl rfl rfl ⟨rfl, rfl, rfl, rfl, rfl⟩ rfl rfl rfl rfl rfl (by kernel_rfl) Tryz.func4 closed
    (of_decide_eq_true (by kernel_rfl)) (by unfold Func.isWrapper; first | (rw [if_pos (by decide +kernel)]; kernel_rfl) | (rw [if_neg (by decide +kernel)]; exact ⟨rfl, rfl⟩))
    (fun os started H enc _ => lifted door_met os started H enc)

end forkKnown
/-- The statement: the tied card. -/
theorem forkKnown_holds : Rows.ForkKnownCardSaid :=
  Claim7.holds_tied_plain_at .later [] [.data, .pinned] true (true, "4a9ac2f83b59bf4f7fea837701ff4836544302dc3fc8cc60ae34476ae704e974") true
    forkKnown.over (fun _ h => by cases h) forkKnown.card1 (fun _ h => by cases h) forkKnown_row_tie rfl ⟨rfl, rfl⟩ forkKnown.card2 rfl
    (fun f fn hf hfn => by
      obtain rfl : f = 4 := Option.some.inj (forkKnown.card3.symm.trans hf) |>.symm
      obtain rfl : fn = Tryz.f4 := (Option.some.inj (Tryz.func4.symm.trans hfn)).symm
      exact ⟨forkKnown.card4, fun j t ht => by
        rw [Tryz.params4] at ht
        cases ht⟩)
    forkKnown.card5
#print axioms forkKnown_holds
end Go.Proofs.YtfcicokigdebpaaGreatDoor
