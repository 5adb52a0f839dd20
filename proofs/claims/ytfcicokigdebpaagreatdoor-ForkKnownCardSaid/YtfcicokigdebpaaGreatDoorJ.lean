/-
  The closed facts that the statement of ForkKnown asks of its row and of the program: each checked by the kernel. No condition.
-/
import Derived.Test.YtfcicokigdebpaaGreatDoorLO
import Derived.JoinedOf
namespace Go.Proofs.YtfcicokigdebpaaGreatDoor
namespace forkKnown
open Go
set_option linter.unusedVariables false
set_option maxRecDepth 100000

theorem j0 : Rows.forkKnownRow.wf (OpenSpec.ofChange Rows.forkKnownSpec) = true := by kernel_rfl
theorem j1 : laidOutB Tryz.checked.prog = true := Parts.laidOut
theorem j2 : mapsRowed Tryz.checked.prog = true := by kernel_rfl
theorem j3 : Tryz.f4.params.all (Tryz.checked.prog.readableRec ·) = true := by kernel_rfl
theorem j4 : namedTie Tryz.checked.prog Rows.forkKnownRow.named Rows.forkKnownSpec.vars = true := by kernel_rfl
theorem j5 : (Rows.forkKnownRow.stops == []) = true := by kernel_rfl
theorem j6 : (Tryz.checked.prog.stops == []) = true := by kernel_rfl
theorem j7 : (Rows.forkKnownRow.knobs == []) = true := by kernel_rfl
theorem j8 : (Tryz.checked.prog.stopKnobs == []) = true := by kernel_rfl
theorem j9 : (Rows.forkKnownRow.inPlace == Tryz.checked.prog.inPlace 4) = true := by kernel_rfl
theorem j10 : (Rows.forkKnownRow.unfollowed == Tryz.checked.prog.unfollowed 4) = true := by kernel_rfl
theorem j11 : (Rows.forkKnownRow.recurses == Tryz.checked.prog.recurses 4) = true := by kernel_rfl
theorem j12 : (Rows.forkKnownRow.named == Tryz.checked.prog.varsNamed 4) = true := by kernel_rfl
theorem j13 : (Rows.forkKnownRow.maps == (Tryz.f4.params.toList ++ Rows.forkKnownSpec.plain.varTypes Tryz.checked.prog).any (Tryz.checked.prog.mapsRec ·)) = true := by kernel_rfl
theorem j14 : (Rows.forkKnownRow.ifaces == (Tryz.f4.params.toList ++ Rows.forkKnownSpec.plain.varTypes Tryz.checked.prog).any (Tryz.checked.prog.ifacesRec ·)) = true := by kernel_rfl
theorem j15 : (Rows.forkKnownRow.mapsOut == Tryz.checked.prog.mapsAmong Tryz.f4.resultTypes.toList) = true := by kernel_rfl
theorem j16 : (Rows.forkKnownRow.loops == (Tryz.f4.params.toList ++ Rows.forkKnownSpec.plain.varTypes Tryz.checked.prog).any (Tryz.checked.prog.loopsFrom ·)) = true := by kernel_rfl
theorem j17 : (Rows.forkKnownRow.wideKeys == (Tryz.f4.params.toList ++ Rows.forkKnownSpec.plain.varTypes Tryz.checked.prog ++ Tryz.f4.resultTypes.toList).any (Tryz.checked.prog.wideKeysFrom ·)) = true := by kernel_rfl
theorem j18 : Rows.forkKnownSpec.vars.all (Tryz.checked.prog.varReadable ·) = true := by kernel_rfl
theorem j19 : Tryz.f4.resultTypes.all (fun t => Tryz.checked.prog.readableRec t && decide (t < Tryz.checked.prog.types.size)) = true := by kernel_rfl
theorem j20 : (Rows.forkKnownRow.ifacesOut == Tryz.f4.resultTypes.toList.any (Tryz.checked.prog.ifacesRec ·)) = true := by kernel_rfl
theorem j21 : (Rows.forkKnownRow.loopsOut == Tryz.f4.resultTypes.toList.any (Tryz.checked.prog.loopsFrom ·)) = true := by kernel_rfl
theorem j22 : (Rows.forkKnownRow.plainKeys == Tryz.checked.prog.plainKeys) = true := by kernel_rfl
theorem j23 : Rows.forkKnownRow.shortTexts.isNone = true := by kernel_rfl
theorem j24 : Tryz.checked.prog.stopsHeard = true := by kernel_rfl
theorem j25 : Tryz.checked.prog.mayEnter = true := by kernel_rfl
theorem j26 : (Rows.forkKnownRow.lifted == Tryz.checked.prog.liftsFinal) = true := by kernel_rfl
theorem j27 : (Tryz.checked.prog.make == some Rows.forkKnownRow.make) = true := by kernel_rfl
theorem j28 : (Rows.forkKnownRow.kinds == (if Rows.forkKnownRow.domain.isEmpty then [] else Tryz.f4.params.toList.map fun t => match Tryz.checked.prog.underlying t with | some (.int k) => some k | _ => none)) = true := by kernel_rfl
theorem j29 : (Rows.forkKnownRow.pinned == Rows.forkKnownRow.pinnedBy) = true := by kernel_rfl
theorem j30 : (Rows.forkKnownRow.veiled == (Tryz.f4.params.toList ++ Rows.forkKnownSpec.plain.varTypes Tryz.checked.prog ++ Tryz.f4.resultTypes.toList).any (Tryz.checked.prog.veiledRec ·)) = true := by kernel_rfl
theorem j31 : Rows.forkKnownRow.veiledFits Tryz.checked.prog Tryz.f4.params.toList (Tryz.f4.params.toList ++ Rows.forkKnownSpec.plain.varTypes Tryz.checked.prog ++ Tryz.f4.resultTypes.toList) = true := by kernel_rfl

theorem closed : joinedFacts Tryz.checked.prog 4 Tryz.f4 Rows.forkKnownSpec Rows.forkKnownRow = true := by
  unfold joinedFacts
  exact (Bool.and_eq_true _ _).mpr ⟨(Bool.and_eq_true _ _).mpr ⟨(Bool.and_eq_true _ _).mpr ⟨(Bool.and_eq_true _ _).mpr ⟨(Bool.and_eq_true _ _).mpr ⟨(Bool.and_eq_true _ _).mpr ⟨(Bool.and_eq_true _ _).mpr ⟨(Bool.and_eq_true _ _).mpr ⟨(Bool.and_eq_true _ _).mpr ⟨(Bool.and_eq_true _ _).mpr ⟨(Bool.and_eq_true _ _).mpr ⟨(Bool.and_eq_true _ _).mpr ⟨(Bool.and_eq_true _ _).mpr ⟨(Bool.and_eq_true _ _).mpr ⟨(Bool.and_eq_true _ _).mpr ⟨(Bool.and_eq_true _ _).mpr ⟨(Bool.and_eq_true _ _).mpr ⟨(Bool.and_eq_true _ _).mpr ⟨(Bool.and_eq_true _ _).mpr ⟨(Bool.and_eq_true _ _).mpr ⟨(Bool.and_eq_true _ _).mpr ⟨(Bool.and_eq_true _ _).mpr ⟨(Bool.and_eq_true _ _).mpr ⟨(Bool.and_eq_true _ _).mpr ⟨(Bool.and_eq_true _ _).mpr ⟨(Bool.and_eq_true _ _).mpr ⟨(Bool.and_eq_true _ _).mpr ⟨(Bool.and_eq_true _ _).mpr ⟨(Bool.and_eq_true _ _).mpr ⟨(Bool.and_eq_true _ _).mpr ⟨(Bool.and_eq_true _ _).mpr ⟨j0, j1⟩, j2⟩, j3⟩, j4⟩, j5⟩, j6⟩, j7⟩, j8⟩, j9⟩, j10⟩, j11⟩, j12⟩, j13⟩, j14⟩, j15⟩, j16⟩, j17⟩, j18⟩, j19⟩, j20⟩, j21⟩, j22⟩, j23⟩, j24⟩, j25⟩, j26⟩, j27⟩, j28⟩, j29⟩, j30⟩, j31⟩
end forkKnown
end Go.Proofs.YtfcicokigdebpaaGreatDoor
