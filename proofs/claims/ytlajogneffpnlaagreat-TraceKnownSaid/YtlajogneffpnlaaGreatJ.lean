/-
  The closed facts that the statement of TraceKnown asks of its row and of the program: each checked by the kernel. No condition.
-/
import Derived.Test.YtlajogneffpnlaaGreatRows
import Derived.JoinedOf
namespace Go.Proofs.YtlajogneffpnlaaGreat
namespace traceKnown
open Go
set_option linter.unusedVariables false
set_option maxRecDepth 100000

theorem j0 : Rows.traceKnownRow.wf (OpenSpec.ofChange Rows.traceKnownSpec) = true := by kernel_rfl
theorem j1 : laidOutB Tryz.checked.prog = true := by kernel_rfl
theorem j2 : mapsRowed Tryz.checked.prog = true := by kernel_rfl
theorem j3 : Tryz.f9.params.all (Tryz.checked.prog.readableRec ·) = true := by kernel_rfl
theorem j4 : namedTie Tryz.checked.prog Rows.traceKnownRow.named Rows.traceKnownSpec.vars = true := by kernel_rfl
theorem j5 : (Rows.traceKnownRow.stops == []) = true := by kernel_rfl
theorem j6 : (Tryz.checked.prog.stops == []) = true := by kernel_rfl
theorem j7 : (Rows.traceKnownRow.knobs == []) = true := by kernel_rfl
theorem j8 : (Tryz.checked.prog.stopKnobs == []) = true := by kernel_rfl
theorem j9 : (Rows.traceKnownRow.inPlace == Tryz.checked.prog.inPlace 9) = true := by kernel_rfl
theorem j10 : (Rows.traceKnownRow.unfollowed == Tryz.checked.prog.unfollowed 9) = true := by kernel_rfl
theorem j11 : (Rows.traceKnownRow.recurses == Tryz.checked.prog.recurses 9) = true := by kernel_rfl
theorem j12 : (Rows.traceKnownRow.named == Tryz.checked.prog.varsNamed 9) = true := by kernel_rfl
theorem j13 : (Rows.traceKnownRow.maps == (Tryz.f9.params.toList ++ Rows.traceKnownSpec.plain.varTypes Tryz.checked.prog).any (Tryz.checked.prog.mapsRec ·)) = true := by kernel_rfl
theorem j14 : (Rows.traceKnownRow.ifaces == (Tryz.f9.params.toList ++ Rows.traceKnownSpec.plain.varTypes Tryz.checked.prog).any (Tryz.checked.prog.ifacesRec ·)) = true := by kernel_rfl
theorem j15 : (Rows.traceKnownRow.mapsOut == Tryz.checked.prog.mapsAmong Tryz.f9.resultTypes.toList) = true := by kernel_rfl
theorem j16 : (Rows.traceKnownRow.loops == (Tryz.f9.params.toList ++ Rows.traceKnownSpec.plain.varTypes Tryz.checked.prog).any (Tryz.checked.prog.loopsFrom ·)) = true := by kernel_rfl
theorem j17 : (Rows.traceKnownRow.wideKeys == (Tryz.f9.params.toList ++ Rows.traceKnownSpec.plain.varTypes Tryz.checked.prog ++ Tryz.f9.resultTypes.toList).any (Tryz.checked.prog.wideKeysFrom ·)) = true := by kernel_rfl
theorem j18 : Rows.traceKnownSpec.vars.all (Tryz.checked.prog.varReadable ·) = true := by kernel_rfl
theorem j19 : Tryz.f9.resultTypes.all (fun t => Tryz.checked.prog.readableRec t && decide (t < Tryz.checked.prog.types.size)) = true := by kernel_rfl
theorem j20 : (Rows.traceKnownRow.ifacesOut == Tryz.f9.resultTypes.toList.any (Tryz.checked.prog.ifacesRec ·)) = true := by kernel_rfl
theorem j21 : (Rows.traceKnownRow.loopsOut == Tryz.f9.resultTypes.toList.any (Tryz.checked.prog.loopsFrom ·)) = true := by kernel_rfl
theorem j22 : (Rows.traceKnownRow.plainKeys == Tryz.checked.prog.plainKeys) = true := by kernel_rfl
theorem j23 : Rows.traceKnownRow.shortTexts.isNone = true := by kernel_rfl
theorem j24 : Tryz.checked.prog.stopsHeard = true := by kernel_rfl
theorem j25 : Tryz.checked.prog.mayEnter = true := by kernel_rfl
theorem j26 : (Rows.traceKnownRow.lifted == Tryz.checked.prog.liftsFinal) = true := by kernel_rfl
theorem j27 : (Tryz.checked.prog.make == some Rows.traceKnownRow.make) = true := by kernel_rfl
theorem j28 : (Rows.traceKnownRow.kinds == (if Rows.traceKnownRow.domain.isEmpty then [] else Tryz.f9.params.toList.map fun t => match Tryz.checked.prog.underlying t with | some (.int k) => some k | _ => none)) = true := by kernel_rfl
theorem j29 : (Rows.traceKnownRow.pinned == Rows.traceKnownRow.pinnedBy) = true := by kernel_rfl
theorem j30 : (Rows.traceKnownRow.veiled == (Tryz.f9.params.toList ++ Rows.traceKnownSpec.plain.varTypes Tryz.checked.prog ++ Tryz.f9.resultTypes.toList).any (Tryz.checked.prog.veiledRec ·)) = true := by kernel_rfl
theorem j31 : Rows.traceKnownRow.veiledFits Tryz.checked.prog Tryz.f9.params.toList (Tryz.f9.params.toList ++ Rows.traceKnownSpec.plain.varTypes Tryz.checked.prog ++ Tryz.f9.resultTypes.toList) = true := by kernel_rfl

theorem closed : joinedFacts Tryz.checked.prog 9 Tryz.f9 Rows.traceKnownSpec Rows.traceKnownRow = true := by
  unfold joinedFacts
  exact (Bool.and_eq_true _ _).mpr ⟨(Bool.and_eq_true _ _).mpr ⟨(Bool.and_eq_true _ _).mpr ⟨(Bool.and_eq_true _ _).mpr ⟨(Bool.and_eq_true _ _).mpr ⟨(Bool.and_eq_true _ _).mpr ⟨(Bool.and_eq_true _ _).mpr ⟨(Bool.and_eq_true _ _).mpr ⟨(Bool.and_eq_true _ _).mpr ⟨(Bool.and_eq_true _ _).mpr ⟨(Bool.and_eq_true _ _).mpr ⟨(Bool.and_eq_true _ _).mpr ⟨(Bool.and_eq_true _ _).mpr ⟨(Bool.and_eq_true _ _).mpr ⟨(Bool.and_eq_true _ _).mpr ⟨(Bool.and_eq_true _ _).mpr ⟨(Bool.and_eq_true _ _).mpr ⟨(Bool.and_eq_true _ _).mpr ⟨(Bool.and_eq_true _ _).mpr ⟨(Bool.and_eq_true _ _).mpr ⟨(Bool.and_eq_true _ _).mpr ⟨(Bool.and_eq_true _ _).mpr ⟨(Bool.and_eq_true _ _).mpr ⟨(Bool.and_eq_true _ _).mpr ⟨(Bool.and_eq_true _ _).mpr ⟨(Bool.and_eq_true _ _).mpr ⟨(Bool.and_eq_true _ _).mpr ⟨(Bool.and_eq_true _ _).mpr ⟨(Bool.and_eq_true _ _).mpr ⟨(Bool.and_eq_true _ _).mpr ⟨(Bool.and_eq_true _ _).mpr ⟨j0, j1⟩, j2⟩, j3⟩, j4⟩, j5⟩, j6⟩, j7⟩, j8⟩, j9⟩, j10⟩, j11⟩, j12⟩, j13⟩, j14⟩, j15⟩, j16⟩, j17⟩, j18⟩, j19⟩, j20⟩, j21⟩, j22⟩, j23⟩, j24⟩, j25⟩, j26⟩, j27⟩, j28⟩, j29⟩, j30⟩, j31⟩
end traceKnown
end Go.Proofs.YtlajogneffpnlaaGreat
