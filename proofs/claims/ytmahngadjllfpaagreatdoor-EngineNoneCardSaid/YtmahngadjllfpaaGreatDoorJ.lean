/-
  The closed facts that the statement of EngineNone asks of its row and of the program: each checked by the kernel. No condition.
-/
import Derived.Test.YtmahngadjllfpaaGreatDoorLO
import Derived.JoinedOf
namespace Go.Proofs.YtmahngadjllfpaaGreatDoor
namespace engineNone
open Go
set_option linter.unusedVariables false
set_option maxRecDepth 100000

theorem j0 : Rows.engineNoneRow.wf (OpenSpec.ofChange Rows.engineNoneSpec) = true := by kernel_rfl
theorem j1 : laidOutB Tryz.checked.prog = true := Parts.laidOut
theorem j2 : mapsRowed Tryz.checked.prog = true := by kernel_rfl
theorem j3 : Tryz.f3.params.all (Tryz.checked.prog.readableRec ·) = true := by kernel_rfl
theorem j4 : namedTie Tryz.checked.prog Rows.engineNoneRow.named Rows.engineNoneSpec.vars = true := by kernel_rfl
theorem j5 : (Rows.engineNoneRow.stops == []) = true := by kernel_rfl
theorem j6 : (Tryz.checked.prog.stops == []) = true := by kernel_rfl
theorem j7 : (Rows.engineNoneRow.knobs == []) = true := by kernel_rfl
theorem j8 : (Tryz.checked.prog.stopKnobs == []) = true := by kernel_rfl
theorem j9 : (Rows.engineNoneRow.inPlace == Tryz.checked.prog.inPlace 3) = true := by kernel_rfl
theorem j10 : (Rows.engineNoneRow.unfollowed == Tryz.checked.prog.unfollowed 3) = true := by kernel_rfl
theorem j11 : (Rows.engineNoneRow.recurses == Tryz.checked.prog.recurses 3) = true := by kernel_rfl
theorem j12 : (Rows.engineNoneRow.named == Tryz.checked.prog.varsNamed 3) = true := by kernel_rfl
theorem j13 : (Rows.engineNoneRow.maps == (Tryz.f3.params.toList ++ Rows.engineNoneSpec.plain.varTypes Tryz.checked.prog).any (Tryz.checked.prog.mapsRec ·)) = true := by kernel_rfl
theorem j14 : (Rows.engineNoneRow.ifaces == (Tryz.f3.params.toList ++ Rows.engineNoneSpec.plain.varTypes Tryz.checked.prog).any (Tryz.checked.prog.ifacesRec ·)) = true := by kernel_rfl
theorem j15 : (Rows.engineNoneRow.mapsOut == Tryz.checked.prog.mapsAmong Tryz.f3.resultTypes.toList) = true := by kernel_rfl
theorem j16 : (Rows.engineNoneRow.loops == (Tryz.f3.params.toList ++ Rows.engineNoneSpec.plain.varTypes Tryz.checked.prog).any (Tryz.checked.prog.loopsFrom ·)) = true := by kernel_rfl
theorem j17 : (Rows.engineNoneRow.wideKeys == (Tryz.f3.params.toList ++ Rows.engineNoneSpec.plain.varTypes Tryz.checked.prog ++ Tryz.f3.resultTypes.toList).any (Tryz.checked.prog.wideKeysFrom ·)) = true := by kernel_rfl
theorem j18 : Rows.engineNoneSpec.vars.all (Tryz.checked.prog.varReadable ·) = true := by kernel_rfl
theorem j19 : Tryz.f3.resultTypes.all (fun t => Tryz.checked.prog.readableRec t && decide (t < Tryz.checked.prog.types.size)) = true := by kernel_rfl
theorem j20 : (Rows.engineNoneRow.ifacesOut == Tryz.f3.resultTypes.toList.any (Tryz.checked.prog.ifacesRec ·)) = true := by kernel_rfl
theorem j21 : (Rows.engineNoneRow.loopsOut == Tryz.f3.resultTypes.toList.any (Tryz.checked.prog.loopsFrom ·)) = true := by kernel_rfl
theorem j22 : (Rows.engineNoneRow.plainKeys == Tryz.checked.prog.plainKeys) = true := by kernel_rfl
theorem j23 : Rows.engineNoneRow.shortTexts.isNone = true := by kernel_rfl
theorem j24 : Tryz.checked.prog.stopsHeard = true := by kernel_rfl
theorem j25 : Tryz.checked.prog.mayEnter = true := by kernel_rfl
theorem j26 : (Rows.engineNoneRow.lifted == Tryz.checked.prog.liftsFinal) = true := by kernel_rfl
theorem j27 : (Tryz.checked.prog.make == some Rows.engineNoneRow.make) = true := by kernel_rfl
theorem j28 : (Rows.engineNoneRow.kinds == (if Rows.engineNoneRow.domain.isEmpty then [] else Tryz.f3.params.toList.map fun t => match Tryz.checked.prog.underlying t with | some (.int k) => some k | _ => none)) = true := by kernel_rfl
theorem j29 : (Rows.engineNoneRow.pinned == Rows.engineNoneRow.pinnedBy) = true := by kernel_rfl
theorem j30 : (Rows.engineNoneRow.veiled == (Tryz.f3.params.toList ++ Rows.engineNoneSpec.plain.varTypes Tryz.checked.prog ++ Tryz.f3.resultTypes.toList).any (Tryz.checked.prog.veiledRec ·)) = true := by kernel_rfl
theorem j31 : Rows.engineNoneRow.veiledFits Tryz.checked.prog Tryz.f3.params.toList (Tryz.f3.params.toList ++ Rows.engineNoneSpec.plain.varTypes Tryz.checked.prog ++ Tryz.f3.resultTypes.toList) = true := by kernel_rfl

theorem closed : joinedFacts Tryz.checked.prog 3 Tryz.f3 Rows.engineNoneSpec Rows.engineNoneRow = true := by
  unfold joinedFacts
  exact (Bool.and_eq_true _ _).mpr ⟨(Bool.and_eq_true _ _).mpr ⟨(Bool.and_eq_true _ _).mpr ⟨(Bool.and_eq_true _ _).mpr ⟨(Bool.and_eq_true _ _).mpr ⟨(Bool.and_eq_true _ _).mpr ⟨(Bool.and_eq_true _ _).mpr ⟨(Bool.and_eq_true _ _).mpr ⟨(Bool.and_eq_true _ _).mpr ⟨(Bool.and_eq_true _ _).mpr ⟨(Bool.and_eq_true _ _).mpr ⟨(Bool.and_eq_true _ _).mpr ⟨(Bool.and_eq_true _ _).mpr ⟨(Bool.and_eq_true _ _).mpr ⟨(Bool.and_eq_true _ _).mpr ⟨(Bool.and_eq_true _ _).mpr ⟨(Bool.and_eq_true _ _).mpr ⟨(Bool.and_eq_true _ _).mpr ⟨(Bool.and_eq_true _ _).mpr ⟨(Bool.and_eq_true _ _).mpr ⟨(Bool.and_eq_true _ _).mpr ⟨(Bool.and_eq_true _ _).mpr ⟨(Bool.and_eq_true _ _).mpr ⟨(Bool.and_eq_true _ _).mpr ⟨(Bool.and_eq_true _ _).mpr ⟨(Bool.and_eq_true _ _).mpr ⟨(Bool.and_eq_true _ _).mpr ⟨(Bool.and_eq_true _ _).mpr ⟨(Bool.and_eq_true _ _).mpr ⟨(Bool.and_eq_true _ _).mpr ⟨(Bool.and_eq_true _ _).mpr ⟨j0, j1⟩, j2⟩, j3⟩, j4⟩, j5⟩, j6⟩, j7⟩, j8⟩, j9⟩, j10⟩, j11⟩, j12⟩, j13⟩, j14⟩, j15⟩, j16⟩, j17⟩, j18⟩, j19⟩, j20⟩, j21⟩, j22⟩, j23⟩, j24⟩, j25⟩, j26⟩, j27⟩, j28⟩, j29⟩, j30⟩, j31⟩
end engineNone
end Go.Proofs.YtmahngadjllfpaaGreatDoor
