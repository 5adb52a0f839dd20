/-
  The closed facts that the statement of SegBack asks of its row and of the program: each checked by the kernel. No condition.
-/
import Derived.Test.YtknhijalfgjfhaaGreatRows
import Derived.JoinedOf
set_option linter.unusedVariables false
set_option linter.unusedSimpArgs false
set_option linter.unusedSectionVars false
open Bool renaming and_eq_true -> Xip
namespace Go.Proofs.YtknhijalfgjfhaaGreat
namespace segBack
open Go
set_option maxRecDepth 100000
theorem j0 : Rows.segBackRow.wf (OpenSpec.ofChange Rows.segBackSpec) = true := by kernel_rfl
theorem j1 : laidOutB Tryz.checked.prog = true := by kernel_rfl
theorem j2 : mapsRowed Tryz.checked.prog = true := by kernel_rfl
theorem j3 : Tryz.f5.params.all (Tryz.checked.prog.readableRec ·) = true := by kernel_rfl
theorem j4 : namedTie Tryz.checked.prog Rows.segBackRow.named Rows.segBackSpec.vars = true := by kernel_rfl
theorem j5 : (Rows.segBackRow.stops == []) = true := by kernel_rfl
theorem j6 : (Tryz.checked.prog.stops == []) = true := by kernel_rfl
theorem j7 : (Rows.segBackRow.knobs == []) = true := by kernel_rfl
theorem j8 : (Tryz.checked.prog.stopKnobs == []) = true := by kernel_rfl
theorem j9 : (Rows.segBackRow.inPlace == Tryz.checked.prog.inPlace 5) = true := by kernel_rfl
theorem j10 : (Rows.segBackRow.unfollowed == Tryz.checked.prog.unfollowed 5) = true := by kernel_rfl
theorem j11 : (Rows.segBackRow.recurses == Tryz.checked.prog.recurses 5) = true := by kernel_rfl
theorem j12 : (Rows.segBackRow.named == Tryz.checked.prog.varsNamed 5) = true := by kernel_rfl
theorem j13 : (Rows.segBackRow.maps == (Tryz.f5.params.toList ++ Rows.segBackSpec.plain.varTypes Tryz.checked.prog).any (Tryz.checked.prog.mapsRec ·)) = true := by kernel_rfl
theorem j14 : (Rows.segBackRow.ifaces == (Tryz.f5.params.toList ++ Rows.segBackSpec.plain.varTypes Tryz.checked.prog).any (Tryz.checked.prog.ifacesRec ·)) = true := by kernel_rfl
theorem j15 : (Rows.segBackRow.mapsOut == Tryz.checked.prog.mapsAmong Tryz.f5.resultTypes.toList) = true := by kernel_rfl
theorem j16 : (Rows.segBackRow.loops == (Tryz.f5.params.toList ++ Rows.segBackSpec.plain.varTypes Tryz.checked.prog).any (Tryz.checked.prog.loopsFrom ·)) = true := by kernel_rfl
theorem j17 : (Rows.segBackRow.wideKeys == (Tryz.f5.params.toList ++ Rows.segBackSpec.plain.varTypes Tryz.checked.prog ++ Tryz.f5.resultTypes.toList).any (Tryz.checked.prog.wideKeysFrom ·)) = true := by kernel_rfl
theorem j18 : Rows.segBackSpec.vars.all (Tryz.checked.prog.varReadable ·) = true := by kernel_rfl
theorem j19 : Tryz.f5.resultTypes.all (fun t => Tryz.checked.prog.readableRec t && decide (t < Tryz.checked.prog.types.size)) = true := by kernel_rfl
theorem j20 : (Rows.segBackRow.ifacesOut == Tryz.f5.resultTypes.toList.any (Tryz.checked.prog.ifacesRec ·)) = true := by kernel_rfl
theorem j21 : (Rows.segBackRow.loopsOut == Tryz.f5.resultTypes.toList.any (Tryz.checked.prog.loopsFrom ·)) = true := by kernel_rfl
theorem j22 : (Rows.segBackRow.plainKeys == Tryz.checked.prog.plainKeys) = true := by kernel_rfl
theorem j23 : Rows.segBackRow.shortTexts.isNone = true := by kernel_rfl
theorem j24 : Tryz.checked.prog.stopsHeard = true := by kernel_rfl
theorem j25 : Tryz.checked.prog.mayEnter = true := by kernel_rfl
theorem j26 : (Rows.segBackRow.lifted == Tryz.checked.prog.liftsFinal) = true := by kernel_rfl
theorem j27 : (Tryz.checked.prog.make == some Rows.segBackRow.make) = true := by kernel_rfl
theorem j28 : (Rows.segBackRow.kinds == (if Rows.segBackRow.domain.isEmpty then [] else Tryz.f5.params.toList.map fun t => match Tryz.checked.prog.underlying t with | some (.int k) => some k | _ => none)) = true := by kernel_rfl
theorem j29 : (Rows.segBackRow.pinned == Rows.segBackRow.pinnedBy) = true := by kernel_rfl
theorem j30 : (Rows.segBackRow.veiled == (Tryz.f5.params.toList ++ Rows.segBackSpec.plain.varTypes Tryz.checked.prog ++ Tryz.f5.resultTypes.toList).any (Tryz.checked.prog.veiledRec ·)) = true := by kernel_rfl
theorem j31 : Rows.segBackRow.veiledFits Tryz.checked.prog Tryz.f5.params.toList (Tryz.f5.params.toList ++ Rows.segBackSpec.plain.varTypes Tryz.checked.prog ++ Tryz.f5.resultTypes.toList) = true := by kernel_rfl
theorem closed : joinedFacts Tryz.checked.prog 5 Tryz.f5 Rows.segBackSpec Rows.segBackRow = true := by
 unfold joinedFacts
 exact (Xip _ _).mpr ⟨(Xip _ _).mpr ⟨(Xip _ _).mpr ⟨(Xip _ _).mpr ⟨(Xip _ _).mpr ⟨(Xip _ _).mpr ⟨(Xip _ _).mpr ⟨(Xip _ _).mpr ⟨(Xip _ _).mpr ⟨(Xip _ _).mpr ⟨(Xip _ _).mpr ⟨(Xip _ _).mpr ⟨(Xip _ _).mpr ⟨(Xip _ _).mpr ⟨(Xip _ _).mpr ⟨(Xip _ _).mpr ⟨(Xip _ _).mpr ⟨(Xip _ _).mpr ⟨(Xip _ _).mpr ⟨(Xip _ _).mpr ⟨(Xip _ _).mpr ⟨(Xip _ _).mpr ⟨(Xip _ _).mpr ⟨(Xip _ _).mpr ⟨(Xip _ _).mpr ⟨(Xip _ _).mpr ⟨(Xip _ _).mpr ⟨(Xip _ _).mpr ⟨(Xip _ _).mpr ⟨(Xip _ _).mpr ⟨(Xip _ _).mpr ⟨j0, j1⟩, j2⟩, j3⟩, j4⟩, j5⟩, j6⟩, j7⟩, j8⟩, j9⟩, j10⟩, j11⟩, j12⟩, j13⟩, j14⟩, j15⟩, j16⟩, j17⟩, j18⟩, j19⟩, j20⟩, j21⟩, j22⟩, j23⟩, j24⟩, j25⟩, j26⟩, j27⟩, j28⟩, j29⟩, j30⟩, j31⟩
end segBack
end Go.Proofs.YtknhijalfgjfhaaGreat
