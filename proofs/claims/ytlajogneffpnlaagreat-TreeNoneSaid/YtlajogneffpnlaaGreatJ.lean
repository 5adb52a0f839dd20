/-
  The closed facts that the statement of TreeNone asks of its row and of the program: each checked by the kernel. No condition.
-/
import Derived.Test.YtlajogneffpnlaaGreatRows
import Derived.JoinedOf
namespace Go.Proofs.YtlajogneffpnlaaGreat
namespace treeNone
open Go
set_option linter.unusedVariables false
set_option maxRecDepth 100000

theorem j0 : Rows.treeNoneRow.wf (OpenSpec.ofChange Rows.treeNoneSpec) = true := by kernel_rfl
theorem j1 : laidOutB Tryz.checked.prog = true := by kernel_rfl
theorem j2 : mapsRowed Tryz.checked.prog = true := by kernel_rfl
theorem j3 : Tryz.f7.params.all (Tryz.checked.prog.readableRec ·) = true := by kernel_rfl
theorem j4 : namedTie Tryz.checked.prog Rows.treeNoneRow.named Rows.treeNoneSpec.vars = true := by kernel_rfl
theorem j5 : (Rows.treeNoneRow.stops == []) = true := by kernel_rfl
theorem j6 : (Tryz.checked.prog.stops == []) = true := by kernel_rfl
theorem j7 : (Rows.treeNoneRow.knobs == []) = true := by kernel_rfl
theorem j8 : (Tryz.checked.prog.stopKnobs == []) = true := by kernel_rfl
theorem j9 : (Rows.treeNoneRow.inPlace == Tryz.checked.prog.inPlace 7) = true := by kernel_rfl
theorem j10 : (Rows.treeNoneRow.unfollowed == Tryz.checked.prog.unfollowed 7) = true := by kernel_rfl
theorem j11 : (Rows.treeNoneRow.recurses == Tryz.checked.prog.recurses 7) = true := by kernel_rfl
theorem j12 : (Rows.treeNoneRow.named == Tryz.checked.prog.varsNamed 7) = true := by kernel_rfl
theorem j13 : (Rows.treeNoneRow.maps == (Tryz.f7.params.toList ++ Rows.treeNoneSpec.plain.varTypes Tryz.checked.prog).any (Tryz.checked.prog.mapsRec ·)) = true := by kernel_rfl
theorem j14 : (Rows.treeNoneRow.ifaces == (Tryz.f7.params.toList ++ Rows.treeNoneSpec.plain.varTypes Tryz.checked.prog).any (Tryz.checked.prog.ifacesRec ·)) = true := by kernel_rfl
theorem j15 : (Rows.treeNoneRow.mapsOut == Tryz.checked.prog.mapsAmong Tryz.f7.resultTypes.toList) = true := by kernel_rfl
theorem j16 : (Rows.treeNoneRow.loops == (Tryz.f7.params.toList ++ Rows.treeNoneSpec.plain.varTypes Tryz.checked.prog).any (Tryz.checked.prog.loopsFrom ·)) = true := by kernel_rfl
theorem j17 : (Rows.treeNoneRow.wideKeys == (Tryz.f7.params.toList ++ Rows.treeNoneSpec.plain.varTypes Tryz.checked.prog ++ Tryz.f7.resultTypes.toList).any (Tryz.checked.prog.wideKeysFrom ·)) = true := by kernel_rfl
theorem j18 : Rows.treeNoneSpec.vars.all (Tryz.checked.prog.varReadable ·) = true := by kernel_rfl
theorem j19 : Tryz.f7.resultTypes.all (fun t => Tryz.checked.prog.readableRec t && decide (t < Tryz.checked.prog.types.size)) = true := by kernel_rfl
theorem j20 : (Rows.treeNoneRow.ifacesOut == Tryz.f7.resultTypes.toList.any (Tryz.checked.prog.ifacesRec ·)) = true := by kernel_rfl
theorem j21 : (Rows.treeNoneRow.loopsOut == Tryz.f7.resultTypes.toList.any (Tryz.checked.prog.loopsFrom ·)) = true := by kernel_rfl
theorem j22 : (Rows.treeNoneRow.plainKeys == Tryz.checked.prog.plainKeys) = true := by kernel_rfl
theorem j23 : Rows.treeNoneRow.shortTexts.isNone = true := by kernel_rfl
theorem j24 : Tryz.checked.prog.stopsHeard = true := by kernel_rfl
theorem j25 : Tryz.checked.prog.mayEnter = true := by kernel_rfl
theorem j26 : (Rows.treeNoneRow.lifted == Tryz.checked.prog.liftsFinal) = true := by kernel_rfl
theorem j27 : (Tryz.checked.prog.make == some Rows.treeNoneRow.make) = true := by kernel_rfl
theorem j28 : (Rows.treeNoneRow.kinds == (if Rows.treeNoneRow.domain.isEmpty then [] else Tryz.f7.params.toList.map fun t => match Tryz.checked.prog.underlying t with | some (.int k) => some k | _ => none)) = true := by kernel_rfl
theorem j29 : (Rows.treeNoneRow.pinned == Rows.treeNoneRow.pinnedBy) = true := by kernel_rfl
theorem j30 : (Rows.treeNoneRow.veiled == (Tryz.f7.params.toList ++ Rows.treeNoneSpec.plain.varTypes Tryz.checked.prog ++ Tryz.f7.resultTypes.toList).any (Tryz.checked.prog.veiledRec ·)) = true := by kernel_rfl
theorem j31 : Rows.treeNoneRow.veiledFits Tryz.checked.prog Tryz.f7.params.toList (Tryz.f7.params.toList ++ Rows.treeNoneSpec.plain.varTypes Tryz.checked.prog ++ Tryz.f7.resultTypes.toList) = true := by kernel_rfl

theorem closed : joinedFacts Tryz.checked.prog 7 Tryz.f7 Rows.treeNoneSpec Rows.treeNoneRow = true := by
  unfold joinedFacts
  exact (Bool.and_eq_true _ _).mpr ⟨(Bool.and_eq_true _ _).mpr ⟨(Bool.and_eq_true _ _).mpr ⟨(Bool.and_eq_true _ _).mpr ⟨(Bool.and_eq_true _ _).mpr ⟨(Bool.and_eq_true _ _).mpr ⟨(Bool.and_eq_true _ _).mpr ⟨(Bool.and_eq_true _ _).mpr ⟨(Bool.and_eq_true _ _).mpr ⟨(Bool.and_eq_true _ _).mpr ⟨(Bool.and_eq_true _ _).mpr ⟨(Bool.and_eq_true _ _).mpr ⟨(Bool.and_eq_true _ _).mpr ⟨(Bool.and_eq_true _ _).mpr ⟨(Bool.and_eq_true _ _).mpr ⟨(Bool.and_eq_true _ _).mpr ⟨(Bool.and_eq_true _ _).mpr ⟨(Bool.and_eq_true _ _).mpr ⟨(Bool.and_eq_true _ _).mpr ⟨(Bool.and_eq_true _ _).mpr ⟨(Bool.and_eq_true _ _).mpr ⟨(Bool.and_eq_true _ _).mpr ⟨(Bool.and_eq_true _ _).mpr ⟨(Bool.and_eq_true _ _).mpr ⟨(Bool.and_eq_true _ _).mpr ⟨(Bool.and_eq_true _ _).mpr ⟨(Bool.and_eq_true _ _).mpr ⟨(Bool.and_eq_true _ _).mpr ⟨(Bool.and_eq_true _ _).mpr ⟨(Bool.and_eq_true _ _).mpr ⟨(Bool.and_eq_true _ _).mpr ⟨j0, j1⟩, j2⟩, j3⟩, j4⟩, j5⟩, j6⟩, j7⟩, j8⟩, j9⟩, j10⟩, j11⟩, j12⟩, j13⟩, j14⟩, j15⟩, j16⟩, j17⟩, j18⟩, j19⟩, j20⟩, j21⟩, j22⟩, j23⟩, j24⟩, j25⟩, j26⟩, j27⟩, j28⟩, j29⟩, j30⟩, j31⟩
end treeNone
end Go.Proofs.YtlajogneffpnlaaGreat
