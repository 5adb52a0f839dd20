/-
  The closed facts that the statement of SegOnce asks of its row and of the program: each checked by the kernel. No condition.
-/
import Derived.Test.YtknhijalfgjfhaaGreatRows
import Derived.JoinedOf
set_option linter.unusedVariables false
set_option linter.unusedSimpArgs false
set_option linter.unusedSectionVars false
open Bool renaming and_eq_true -> XhN
namespace Go.Proofs.YtknhijalfgjfhaaGreat
namespace segOnce
open Go
set_option maxRecDepth 100000
theorem j0 : Rows.segOnceRow.wf (OpenSpec.ofChange Rows.segOnceSpec) = true := by kernel_rfl
theorem j1 : laidOutB Tryz.checked.prog = true := by kernel_rfl
theorem j2 : mapsRowed Tryz.checked.prog = true := by kernel_rfl
theorem j3 : Tryz.f3.params.all (Tryz.checked.prog.readableRec ·) = true := by kernel_rfl
theorem j4 : namedTie Tryz.checked.prog Rows.segOnceRow.named Rows.segOnceSpec.vars = true := by kernel_rfl
theorem j5 : (Rows.segOnceRow.stops == []) = true := by kernel_rfl
theorem j6 : (Tryz.checked.prog.stops == []) = true := by kernel_rfl
theorem j7 : (Rows.segOnceRow.knobs == []) = true := by kernel_rfl
theorem j8 : (Tryz.checked.prog.stopKnobs == []) = true := by kernel_rfl
theorem j9 : (Rows.segOnceRow.inPlace == Tryz.checked.prog.inPlace 3) = true := by kernel_rfl
theorem j10 : (Rows.segOnceRow.unfollowed == Tryz.checked.prog.unfollowed 3) = true := by kernel_rfl
theorem j11 : (Rows.segOnceRow.recurses == Tryz.checked.prog.recurses 3) = true := by kernel_rfl
theorem j12 : (Rows.segOnceRow.named == Tryz.checked.prog.varsNamed 3) = true := by kernel_rfl
theorem j13 : (Rows.segOnceRow.maps == (Tryz.f3.params.toList ++ Rows.segOnceSpec.plain.varTypes Tryz.checked.prog).any (Tryz.checked.prog.mapsRec ·)) = true := by kernel_rfl
theorem j14 : (Rows.segOnceRow.ifaces == (Tryz.f3.params.toList ++ Rows.segOnceSpec.plain.varTypes Tryz.checked.prog).any (Tryz.checked.prog.ifacesRec ·)) = true := by kernel_rfl
theorem j15 : (Rows.segOnceRow.mapsOut == Tryz.checked.prog.mapsAmong Tryz.f3.resultTypes.toList) = true := by kernel_rfl
theorem j16 : (Rows.segOnceRow.loops == (Tryz.f3.params.toList ++ Rows.segOnceSpec.plain.varTypes Tryz.checked.prog).any (Tryz.checked.prog.loopsFrom ·)) = true := by kernel_rfl
theorem j17 : (Rows.segOnceRow.wideKeys == (Tryz.f3.params.toList ++ Rows.segOnceSpec.plain.varTypes Tryz.checked.prog ++ Tryz.f3.resultTypes.toList).any (Tryz.checked.prog.wideKeysFrom ·)) = true := by kernel_rfl
theorem j18 : Rows.segOnceSpec.vars.all (Tryz.checked.prog.varReadable ·) = true := by kernel_rfl
theorem j19 : Tryz.f3.resultTypes.all (fun t => Tryz.checked.prog.readableRec t && decide (t < Tryz.checked.prog.types.size)) = true := by kernel_rfl
theorem j20 : (Rows.segOnceRow.ifacesOut == Tryz.f3.resultTypes.toList.any (Tryz.checked.prog.ifacesRec ·)) = true := by kernel_rfl
theorem j21 : (Rows.segOnceRow.loopsOut == Tryz.f3.resultTypes.toList.any (Tryz.checked.prog.loopsFrom ·)) = true := by kernel_rfl
theorem j22 : (Rows.segOnceRow.plainKeys == Tryz.checked.prog.plainKeys) = true := by kernel_rfl
theorem j23 : Rows.segOnceRow.shortTexts.isNone = true := by kernel_rfl
theorem j24 : Tryz.checked.prog.stopsHeard = true := by kernel_rfl
theorem j25 : Tryz.checked.prog.mayEnter = true := by kernel_rfl
theorem j26 : (Rows.segOnceRow.lifted == Tryz.checked.prog.liftsFinal) = true := by kernel_rfl
theorem j27 : (Tryz.checked.prog.make == some Rows.segOnceRow.make) = true := by kernel_rfl
theorem j28 : (Rows.segOnceRow.kinds == (if Rows.segOnceRow.domain.isEmpty then [] else Tryz.f3.params.toList.map fun t => match Tryz.checked.prog.underlying t with | some (.int k) => some k | _ => none)) = true := by kernel_rfl
theorem j29 : (Rows.segOnceRow.pinned == Rows.segOnceRow.pinnedBy) = true := by kernel_rfl
theorem j30 : (Rows.segOnceRow.veiled == (Tryz.f3.params.toList ++ Rows.segOnceSpec.plain.varTypes Tryz.checked.prog ++ Tryz.f3.resultTypes.toList).any (Tryz.checked.prog.veiledRec ·)) = true := by kernel_rfl
theorem j31 : Rows.segOnceRow.veiledFits Tryz.checked.prog Tryz.f3.params.toList (Tryz.f3.params.toList ++ Rows.segOnceSpec.plain.varTypes Tryz.checked.prog ++ Tryz.f3.resultTypes.toList) = true := by kernel_rfl
theorem closed : joinedFacts Tryz.checked.prog 3 Tryz.f3 Rows.segOnceSpec Rows.segOnceRow = true := by
 unfold joinedFacts
 exact (XhN _ _).mpr ⟨(XhN _ _).mpr ⟨(XhN _ _).mpr ⟨(XhN _ _).mpr ⟨(XhN _ _).mpr ⟨(XhN _ _).mpr ⟨(XhN _ _).mpr ⟨(XhN _ _).mpr ⟨(XhN _ _).mpr ⟨(XhN _ _).mpr ⟨(XhN _ _).mpr ⟨(XhN _ _).mpr ⟨(XhN _ _).mpr ⟨(XhN _ _).mpr ⟨(XhN _ _).mpr ⟨(XhN _ _).mpr ⟨(XhN _ _).mpr ⟨(XhN _ _).mpr ⟨(XhN _ _).mpr ⟨(XhN _ _).mpr ⟨(XhN _ _).mpr ⟨(XhN _ _).mpr ⟨(XhN _ _).mpr ⟨(XhN _ _).mpr ⟨(XhN _ _).mpr ⟨(XhN _ _).mpr ⟨(XhN _ _).mpr ⟨(XhN _ _).mpr ⟨(XhN _ _).mpr ⟨(XhN _ _).mpr ⟨(XhN _ _).mpr ⟨j0, j1⟩, j2⟩, j3⟩, j4⟩, j5⟩, j6⟩, j7⟩, j8⟩, j9⟩, j10⟩, j11⟩, j12⟩, j13⟩, j14⟩, j15⟩, j16⟩, j17⟩, j18⟩, j19⟩, j20⟩, j21⟩, j22⟩, j23⟩, j24⟩, j25⟩, j26⟩, j27⟩, j28⟩, j29⟩, j30⟩, j31⟩
end segOnce
end Go.Proofs.YtknhijalfgjfhaaGreat
