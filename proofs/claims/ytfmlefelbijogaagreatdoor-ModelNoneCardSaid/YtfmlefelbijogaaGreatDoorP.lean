/-
  ModelNone: the tied card: the law's row holds (its call returns true whatever the model leaves open: a run of the abstract machine), and what it lays is tied to the program's text. No condition: the statement as given.
-/
import Derived.Test.YtfmlefelbijogaaGreatDoorQ
import Derived.Test.YtfmlefelbijogaaGreatDoorDA
import Derived.Test.YtfmlefelbijogaaGreatDoorDB
import Derived.Test.YtfmlefelbijogaaGreatDoorDC
import Derived.Test.YtfmlefelbijogaaGreatDoorJ
import Derived.Test.YtfmlefelbijogaaGreatDoorTie
import Derived.Test.YtfmlefelbijogaaGreatDoorCA
import Derived.Test.YtfmlefelbijogaaGreatDoorCB
import Derived.Test.YtfmlefelbijogaaGreatDoorCards
namespace Go.Proofs.YtfmlefelbijogaaGreatDoor
namespace modelNone
open Go Go.Eng Go.ChangeShapes Go.WideShapes Go.ChangeAt Go.RowKit
set_option linter.unusedVariables false

theorem door_met (os : Os) (args : Array Value) : laidMetH Tryz.prog Rows.modelNoneRow.laid ((laidWorld os).forCall (fun _ _ => 0) ⟨#[], args, []⟩).memory :=
  laidMetH_of_parts3 (fuel := 8) (laidMet_of_run' 8 (door1 os args) (by
    have h1 := door2a os args
    have h2 := door2b os args
    revert h1 h2
    cases DataW.laidRun Tryz.prog ((laidWorld os).forCall (fun _ _ => 0) ⟨#[], args, []⟩).memory 8 ((Rows.modelNoneRow.laid.filter fun x => x.2.handleName?.isNone).map (·.1)) with
    | none => intro h1; cases h1
    | some x => intro h1 h2; simp only [Option.map_some, Option.some.injEq] at h1 h2 ⊢; rw [h1, h2]; rfl)) (door3 os args) (door4 os args)

theorem over : Rows.modelNoneRow.holds Tryz.pinned (OpenSpec.ofChange Rows.modelNoneSpec) :=
  OpenClaim.holds_of_wide 4 Tryz.f4 rfl rfl rfl rfl rfl rfl rfl ⟨rfl, rfl, rfl, rfl, rfl⟩ rfl rfl rfl rfl rfl (by kernel_rfl) Tryz.func4 closed
    (of_decide_eq_true (by kernel_rfl)) (by unfold Func.isWrapper; first | (rw [if_pos (by decide +kernel)]; kernel_rfl) | (rw [if_neg (by decide +kernel)]; exact ⟨rfl, rfl⟩))
    (fun os started H enc _ => lifted door_met os started H enc)

end modelNone
/-- The statement: the tied card. -/
theorem modelNone_holds : Rows.ModelNoneCardSaid :=
  Claim7.holds_tied_plain_at .later [] [.data, .data, .data, .data, .pinned] true (true, "b33b1e22f73e0a55d4a237ae9b55fba00b19cb5a008fc7c8e34017b4a0233cef") true
    modelNone.over (fun _ h => by cases h) modelNone.card1 (fun _ h => by cases h) modelNone_row_tie rfl ⟨rfl, rfl⟩ modelNone.card2 rfl
    (fun f fn hf hfn => by
      obtain rfl : f = 4 := Option.some.inj (modelNone.card3.symm.trans hf) |>.symm
      obtain rfl : fn = Tryz.f4 := (Option.some.inj (Tryz.func4.symm.trans hfn)).symm
      exact ⟨modelNone.card4, fun j t ht => by
        rw [Tryz.params4] at ht
        rcases j with _ | j
        · obtain rfl : t = 44 := by simpa using ht.symm
          exact modelNone.sin44
        · simp at ht⟩)
    modelNone.card5
#print axioms modelNone_holds
end Go.Proofs.YtfmlefelbijogaaGreatDoor
