/-
  PortNone: the tied card: the law's row holds (its call returns true whatever the model leaves open: a run of the abstract machine), and what it lays is tied to the program's text. No condition: the statement as given.
-/
import Derived.Test.YtobifggnopkeeaaGreatDoorQ
import Derived.Test.YtobifggnopkeeaaGreatDoorDA
import Derived.Test.YtobifggnopkeeaaGreatDoorDB
import Derived.Test.YtobifggnopkeeaaGreatDoorDC
import Derived.Test.YtobifggnopkeeaaGreatDoorJ
import Derived.Test.YtobifggnopkeeaaGreatDoorTie
import Derived.Test.YtobifggnopkeeaaGreatDoorCA
import Derived.Test.YtobifggnopkeeaaGreatDoorCB
import Derived.Test.YtobifggnopkeeaaGreatDoorCards
namespace Go.Proofs.YtobifggnopkeeaaGreatDoor
namespace portNone
open Go Go.Eng Go.ChangeShapes Go.WideShapes Go.ChangeAt Go.RowKit
set_option linter.unusedVariables false

theorem door_met (os : Os) (args : Array Value) : laidMetH Tryz.prog Rows.portNoneRow.laid ((laidWorld os).forCall (fun _ _ => 0) ⟨#[], args, []⟩).memory :=
  laidMetH_of_parts3 (fuel := 8) (laidMet_of_run' 8 (door1 os args) (by
    have h1 := door2a os args
    have h2 := door2b os args
    revert h1 h2
    cases DataW.laidRun Tryz.prog ((laidWorld os).forCall (fun _ _ => 0) ⟨#[], args, []⟩).memory 8 ((Rows.portNoneRow.laid.filter fun x => x.2.handleName?.isNone).map (·.1)) with
    | none => intro h1; cases h1
    | some x => intro h1 h2; simp only [Option.map_some, Option.some.injEq] at h1 h2 ⊢; rw [h1, h2]; rfl)) (door3 os args) (door4 os args)

theorem over : Rows.portNoneRow.holds Tryz.pinned (OpenSpec.ofChange Rows.portNoneSpec) :=
  OpenClaim.holds_of_wide 3 Tryz.f3 rfl rfl rfl rfl rfl rfl rfl ⟨rfl, rfl, rfl, rfl, rfl⟩ rfl rfl rfl rfl rfl (by kernel_rfl) Tryz.func3 closed
    (of_decide_eq_true (by kernel_rfl)) (by unfold Func.isWrapper; first | (rw [if_pos (by decide +kernel)]; kernel_rfl) | (rw [if_neg (by decide +kernel)]; exact ⟨rfl, rfl⟩))
    (fun os started H enc _ => lifted door_met os started H enc)

end portNone
/-- The statement: the tied card. -/
theorem portNone_holds : Rows.PortNoneCardSaid :=
  Claim7.holds_tied_plain_at .later [] [.data, .data, .data, .data, .pinned] true (true, "f283194de193ca260d32dae549c31456d922ce85216ee69e24320eb70f5334be") true
    portNone.over (fun _ h => by cases h) portNone.card1 (fun _ h => by cases h) portNone_row_tie rfl ⟨rfl, rfl⟩ portNone.card2 rfl
    (fun f fn hf hfn => by
      obtain rfl : f = 3 := Option.some.inj (portNone.card3.symm.trans hf) |>.symm
      obtain rfl : fn = Tryz.f3 := (Option.some.inj (Tryz.func3.symm.trans hfn)).symm
      exact ⟨portNone.card4, fun j t ht => by
        rw [Tryz.params3] at ht
        rcases j with _ | _ | _ | j
        · obtain rfl : t = 22 := by simpa using ht.symm
          exact portNone.sin22
        · obtain rfl : t = 23 := by simpa using ht.symm
          exact portNone.sin23
        · obtain rfl : t = 3 := by simpa using ht.symm
          exact portNone.sin3
        · simp at ht⟩)
    portNone.card5
#print axioms portNone_holds
end Go.Proofs.YtobifggnopkeeaaGreatDoor
