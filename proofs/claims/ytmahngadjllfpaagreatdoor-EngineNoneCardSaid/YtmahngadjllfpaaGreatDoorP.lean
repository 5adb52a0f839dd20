/-
  EngineNone: the tied card: the law's row holds (its call returns true whatever the model leaves open: a run of the abstract machine), and what it lays is tied to the program's text. No condition: the statement as given.
-/
import Derived.Test.YtmahngadjllfpaaGreatDoorQ
import Derived.Test.YtmahngadjllfpaaGreatDoorDA
import Derived.Test.YtmahngadjllfpaaGreatDoorDB
import Derived.Test.YtmahngadjllfpaaGreatDoorDC
import Derived.Test.YtmahngadjllfpaaGreatDoorJ
import Derived.Test.YtmahngadjllfpaaGreatDoorTie
import Derived.Test.YtmahngadjllfpaaGreatDoorCA
import Derived.Test.YtmahngadjllfpaaGreatDoorCB
import Derived.Test.YtmahngadjllfpaaGreatDoorCards
namespace Go.Proofs.YtmahngadjllfpaaGreatDoor
namespace engineNone
open Go Go.Eng Go.ChangeShapes Go.WideShapes Go.ChangeAt Go.RowKit
set_option linter.unusedVariables false

theorem door_met (os : Os) (args : Array Value) : laidMetH Tryz.prog Rows.engineNoneRow.laid ((laidWorld os).forCall (fun _ _ => 0) ⟨#[], args, []⟩).memory :=
  laidMetH_of_parts3 (fuel := 8) (laidMet_of_run' 8 (door1 os args) (by
    have h1 := door2a os args
    have h2 := door2b os args
    revert h1 h2
    cases DataW.laidRun Tryz.prog ((laidWorld os).forCall (fun _ _ => 0) ⟨#[], args, []⟩).memory 8 ((Rows.engineNoneRow.laid.filter fun x => x.2.handleName?.isNone).map (·.1)) with
    | none => intro h1; cases h1
    | some x => intro h1 h2; simp only [Option.map_some, Option.some.injEq] at h1 h2 ⊢; rw [h1, h2]; rfl)) (door3 os args) (door4 os args)

theorem over : Rows.engineNoneRow.holds Tryz.pinned (OpenSpec.ofChange Rows.engineNoneSpec) :=
  OpenClaim.holds_of_wide 3 Tryz.f3 rfl rfl rfl rfl rfl rfl rfl ⟨rfl, rfl, rfl, rfl, rfl⟩ rfl rfl rfl rfl rfl (by kernel_rfl) Tryz.func3 closed
    (of_decide_eq_true (by kernel_rfl)) (by unfold Func.isWrapper; first | (rw [if_pos (by decide +kernel)]; kernel_rfl) | (rw [if_neg (by decide +kernel)]; exact ⟨rfl, rfl⟩))
    (fun os started H enc _ => lifted door_met os started H enc)

end engineNone
/-- The statement: the tied card. -/
theorem engineNone_holds : Rows.EngineNoneCardSaid :=
  Claim7.holds_tied_plain_at .later [] [.data, .pinned] true (true, "ee9f9ae3efc341d02ae40c90ef192432cef60d3f96d538f406ab922be6582b42") true
    engineNone.over (fun _ h => by cases h) engineNone.card1 (fun _ h => by cases h) engineNone_row_tie rfl ⟨rfl, rfl⟩ engineNone.card2 rfl
    (fun f fn hf hfn => by
      obtain rfl : f = 3 := Option.some.inj (engineNone.card3.symm.trans hf) |>.symm
      obtain rfl : fn = Tryz.f3 := (Option.some.inj (Tryz.func3.symm.trans hfn)).symm
      exact ⟨engineNone.card4, fun j t ht => by
        rw [Tryz.params3] at ht
        rcases j with _ | _ | j
        · obtain rfl : t = 9 := by simpa using ht.symm
          exact engineNone.sin9
        · obtain rfl : t = 3 := by simpa using ht.symm
          exact engineNone.sin3
        · simp at ht⟩)
    engineNone.card5
#print axioms engineNone_holds
end Go.Proofs.YtmahngadjllfpaaGreatDoor
