/-
  The closed facts that the statement of TreeKnown asks of its row and of the program: each checked by the kernel. No condition.
-/
import Derived.Test.YtlajogneffpnlaaGreatRows
import Derived.JoinedOf
namespace Go.Proofs.YtlajogneffpnlaaGreat
namespace treeKnown
open Go
set_option linter.unusedVariables false
set_option maxRecDepth 100000

theorem j0 : Rows.treeKnownRow.wf (OpenSpec.ofChange Rows.treeKnownSpec) = true := by kernel_rfl
theorem j1 : laidOutB Tryz.checked.prog = true := by kernel_rfl
theorem j2 : mapsRowed Tryz.checked.prog = true := by kernel_rfl
theorem j3 : Tryz.f8.params.all (Tryz.checked.prog.readableRec ·) = true := by kernel_rfl
theorem j4 : namedTie Tryz.checked.prog Rows.treeKnownRow.named Rows.treeKnownSpec.vars = true := by kernel_rfl
theorem j5 : (Rows.treeKnownRow.stops == []) = true := by kernel_rfl
theorem j6 : (Tryz.checked.prog.stops == []) = true := by kernel_rfl
theorem j7 : (Rows.treeKnownRow.knobs == []) = true := by kernel_rfl
theorem j8 : (Tryz.checked.prog.stopKnobs == []) = true := by kernel_rfl
theorem j9 : (Rows.treeKnownRow.inPlace == Tryz.checked.prog.inPlace 8) = true := by kernel_rfl
theorem j10 : (Rows.treeKnownRow.unfollowed == Tryz.checked.prog.unfollowed 8) = true := by kernel_rfl
theorem j11 : (Rows.treeKnownRow.recurses == Tryz.checked.prog.recurses 8) = true := by kernel_rfl
theorem j12 : (Rows.treeKnownRow.named == Tryz.checked.prog.varsNamed 8) = true := by kernel_rfl
theorem j13 : (Rows.treeKnownRow.maps == (Tryz.f8.params.toList ++ Rows.treeKnownSpec.plain.varTypes Tryz.checked.prog).any (Tryz.checked.prog.mapsRec ·)) = true := by kernel_rfl
theorem j14 : (Rows.treeKnownRow.ifaces == (Tryz.f8.params.toList ++ Rows.treeKnownSpec.plain.varTypes Tryz.checked.prog).any (Tryz.checked.prog.ifacesRec ·)) = true := by kernel_rfl
theorem j15 : (Rows.treeKnownRow.mapsOut == Tryz.checked.prog.mapsAmong Tryz.f8.resultTypes.toList) = true := by kernel_rfl
theorem j16 : (Rows.treeKnownRow.loops == (Tryz.f8.params.toList ++ Rows.treeKnownSpec.plain.varTypes Tryz.checked.prog).any (Tryz.checked.prog.loopsFrom ·)) = true := by kernel_rfl
theorem j17 : (Rows.treeKnownRow.wideKeys == (Tryz.f8.params.toList ++ Rows.treeKnownSpec.plain.varTypes Tryz.checked.prog ++ Tryz.f8.resultTypes.toList).any (Tryz.checked.prog.wideKeysFrom ·)) = true := by kernel_rfl
theorem j18 : Rows.treeKnownSpec.vars.all (Tryz.checked.prog.varReadable ·) = true := by kernel_rfl
theorem j19 : Tryz.f8.resultTypes.all (fun t => Tryz.checked.prog.readableRec t && decide (t < Tryz.checked.prog.types.size)) = true := by kernel_rfl
theorem j20 : (Rows.treeKnownRow.ifacesOut == Tryz.f8.resultTypes.toList.any (Tryz.checked.prog.ifacesRec ·)) = true := by kernel_rfl
theorem j21 : (Rows.treeKnownRow.loopsOut == Tryz.f8.resultTypes.toList.any (Tryz.checked.prog.loopsFrom ·)) = true := by kernel_rfl
theorem j22 : (Rows.treeKnownRow.plainKeys == Tryz.checked.prog.plainKeys) = true := by kernel_rfl
theorem j23 : Rows.treeKnownRow.shortTexts.isNone = true := by kernel_rfl
theorem j24 : Tryz.checked.prog.stopsHeard = true := by kernel_rfl
theorem j25 : Tryz.checked.prog.mayEnter = true := by kernel_rfl
theorem j26 : (Rows.treeKnownRow.lifted == Tryz.checked.prog.liftsFinal) = true := by kernel_rfl
theorem j27 : (Tryz.checked.prog.make == some Rows.treeKnownRow.make) = true := by kernel_rfl
theorem j28 : (Rows.treeKnownRow.kinds == (if Rows.treeKnownRow.domain.isEmpty then [] else Tryz.f8.params.toList.map fun t => match Tryz.checked.prog.underlying t with | some (.int k) => some k | _ => none)) = true := by kernel_rfl
theorem j29 : (Rows.treeKnownRow.pinned == Rows.treeKnownRow.pinnedBy) = true := by kernel_rfl
theorem j30 : (Rows.treeKnownRow.veiled == (Tryz.f8.params.toList ++ Rows.treeKnownSpec.plain.varTypes Tryz.checked.prog ++ Tryz.f8.resultTypes.toList).any (Tryz.checked.prog.veiledRec ·)) = true := by kernel_rfl
theorem j31 : Rows.treeKnownRow.veiledFits Tryz.checked.prog Tryz.f8.params.toList (Tryz.f8.params.toList ++ Rows.treeKnownSpec.plain.varTypes Tryz.checked.prog ++ Tryz.f8.resultTypes.toList) = true := by kernel_rfl

theorem closed : joinedFacts Tryz.checked.prog 8 Tryz.f8 Rows.treeKnownSpec Rows.treeKnownRow = true := by
  unfold joinedFacts
  exact (Bool.and_eq_true _ _).mpr ⟨(Bool.and_eq_true _ _).mpr ⟨(Bool.and_eq_true _ _).mpr ⟨(Bool.and_eq_true _ _).mpr ⟨(Bool.and_eq_true _ _).mpr ⟨(Bool.and_eq_true _ _).mpr ⟨(Bool.and_eq_true _ _).mpr ⟨(Bool.and_eq_true _ _).mpr ⟨(Bool.and_eq_true _ _).mpr ⟨(Bool.and_eq_true _ _).mpr ⟨(Bool.and_eq_true _ _).mpr ⟨(Bool.and_eq_true _ _).mpr ⟨(Bool.and_eq_true _ _).mpr ⟨(Bool.and_eq_true _ _).mpr ⟨(Bool.and_eq_true _ _).mpr ⟨(Bool.and_eq_true _ _).mpr ⟨(Bool.and_eq_true _ _).mpr ⟨(Bool.and_eq_true _ _).mpr ⟨(Bool.and_eq_true _ _).mpr ⟨(Bool.and_eq_true _ _).mpr ⟨(Bool.and_eq_true _ _).mpr ⟨(Bool.and_eq_true _ _).mpr ⟨(Bool.and_eq_true _ _).mpr ⟨(Bool.and_eq_true _ _).mpr ⟨(Bool.and_eq_true _ _).mpr ⟨(Bool.and_eq_true _ _).mpr ⟨(Bool.and_eq_true _ _).mpr ⟨(Bool.and_eq_true _ _).mpr ⟨(Bool.and_eq_true _ _).mpr ⟨(Bool.and_eq_true _ _).mpr ⟨(Bool.and_eq_true _ _).mpr ⟨j0, j1⟩, j2⟩, j3⟩, j4⟩, j5⟩, j6⟩, j7⟩, j8⟩, j9⟩, j10⟩, j11⟩, j12⟩, j13⟩, j14⟩, j15⟩, j16⟩, j17⟩, j18⟩, j19⟩, j20⟩, j21⟩, j22⟩, j23⟩, j24⟩, j25⟩, j26⟩, j27⟩, j28⟩, j29⟩, j30⟩, j31⟩
end treeKnown
end Go.Proofs.YtlajogneffpnlaaGreat
