/-
  ModelKnown: the tied card: the law's row holds (its call returns true whatever the model leaves open: a run of the abstract machine), and what it lays is tied to the program's text. No condition: the statement as given.
-/
import Derived.Test.YtdgipehldjnfcaaGreatDoorQ
import Derived.Test.YtdgipehldjnfcaaGreatDoorDA
import Derived.Test.YtdgipehldjnfcaaGreatDoorDB
import Derived.Test.YtdgipehldjnfcaaGreatDoorDC
import Derived.Test.YtdgipehldjnfcaaGreatDoorJ
import Derived.Test.YtdgipehldjnfcaaGreatDoorTie
import Derived.Test.YtdgipehldjnfcaaGreatDoorCA
import Derived.Test.YtdgipehldjnfcaaGreatDoorCB
import Derived.Test.YtdgipehldjnfcaaGreatDoorCards
namespace Go.Proofs.YtdgipehldjnfcaaGreatDoor
namespace modelKnown
open Go Go.Eng Go.ChangeShapes Go.WideShapes Go.ChangeAt Go.RowKit
set_option linter.unusedVariables false

theorem door_met (os : Os) (args : Array Value) : laidMetH Tryz.prog Rows.modelKnownRow.laid ((laidWorld os).forCall (fun _ _ => 0) ⟨#[], args, []⟩).memory :=
  laidMetH_of_parts3 (fuel := 8) (laidMet_of_run' 8 (door1 os args) (by
    have h1 := door2a os args
    have h2 := door2b os args
    revert h1 h2
    cases DataW.laidRun Tryz.prog ((laidWorld os).forCall (fun _ _ => 0) ⟨#[], args, []⟩).memory 8 ((Rows.modelKnownRow.laid.filter fun x => x.2.handleName?.isNone).map (·.1)) with
    | none => intro h1; cases h1
    | some x => intro h1 h2; simp only [Option.map_some, Option.some.injEq] at h1 h2 ⊢; rw [h1, h2]; rfl)) (door3 os args) (door4 os args)

theorem over : Rows.modelKnownRow.holds Tryz.pinned (OpenSpec.ofChange Rows.modelKnownSpec) :=
  OpenClaim.holds_of_wide 3 Tryz.f3 rfl rfl rfl rfl rfl rfl rfl ⟨rfl, rfl, rfl, rfl, rfl⟩ rfl rfl rfl rfl rfl (by kernel_rfl) Tryz.func3 closed
    (of_decide_eq_true (by kernel_rfl)) (by unfold Func.isWrapper; first | (rw [if_pos (by decide +kernel)]; kernel_rfl) | (rw [if_neg (by decide +kernel)]; exact ⟨rfl, rfl⟩))
    (fun os started H enc _ => lifted door_met os started H enc)

end modelKnown
/-- The statement: the tied card. -/
theorem modelKnown_holds : Rows.ModelKnownCardSaid :=
  Claim7.holds_tied_plain_at .later [] [.data, .data, .data, .data, .pinned] true (true, "58e0e423668bb6907b479b769659ee323c434babcfd0df4b306ba473d1dea836") true
    modelKnown.over (fun _ h => by cases h) modelKnown.card1 (fun _ h => by cases h) modelKnown_row_tie rfl ⟨rfl, rfl⟩ modelKnown.card2 rfl
    (fun f fn hf hfn => by
      obtain rfl : f = 3 := Option.some.inj (modelKnown.card3.symm.trans hf) |>.symm
      obtain rfl : fn = Tryz.f3 := (Option.some.inj (Tryz.func3.symm.trans hfn)).symm
      exact ⟨modelKnown.card4, fun j t ht => by
        rw [Tryz.params3] at ht
        cases ht⟩)
    modelKnown.card5
#print axioms modelKnown_holds
end Go.Proofs.YtdgipehldjnfcaaGreatDoor
