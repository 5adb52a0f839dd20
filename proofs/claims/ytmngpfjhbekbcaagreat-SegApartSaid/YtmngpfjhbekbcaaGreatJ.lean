/-
  The closed facts that the statement of SegApart asks of its row and of the program: each checked by the kernel. No condition.
-/
import Derived.Test.YtmngpfjhbekbcaaGreatRows
import Derived.JoinedOf
set_option linter.unusedVariables false
set_option linter.unusedSimpArgs false
set_option linter.unusedSectionVars false
open Bool renaming and_eq_true -> Xiu
namespace Go.Proofs.YtmngpfjhbekbcaaGreat
namespace segApart
open Go
set_option maxRecDepth 100000
theorem j0 : Rows.segApartRow.wf (OpenSpec.ofChange Rows.segApartSpec) = true := by kernel_rfl
theorem j1 : laidOutB Tryz.checked.prog = true := by kernel_rfl
theorem j2 : mapsRowed Tryz.checked.prog = true := by kernel_rfl
theorem j3 : Tryz.f4.params.all (Tryz.checked.prog.readableRec ·) = true := by kernel_rfl
theorem j4 : namedTie Tryz.checked.prog Rows.segApartRow.named Rows.segApartSpec.vars = true := by kernel_rfl
theorem j5 : (Rows.segApartRow.stops == []) = true := by kernel_rfl
theorem j6 : (Tryz.checked.prog.stops == []) = true := by kernel_rfl
theorem j7 : (Rows.segApartRow.knobs == []) = true := by kernel_rfl
theorem j8 : (Tryz.checked.prog.stopKnobs == []) = true := by kernel_rfl
theorem j9 : (Rows.segApartRow.inPlace == Tryz.checked.prog.inPlace 4) = true := by kernel_rfl
theorem j10 : (Rows.segApartRow.unfollowed == Tryz.checked.prog.unfollowed 4) = true := by kernel_rfl
theorem j11 : (Rows.segApartRow.recurses == Tryz.checked.prog.recurses 4) = true := by kernel_rfl
theorem j12 : (Rows.segApartRow.named == Tryz.checked.prog.varsNamed 4) = true := by kernel_rfl
theorem j13 : (Rows.segApartRow.maps == (Tryz.f4.params.toList ++ Rows.segApartSpec.plain.varTypes Tryz.checked.prog).any (Tryz.checked.prog.mapsRec ·)) = true := by kernel_rfl
theorem j14 : (Rows.segApartRow.ifaces == (Tryz.f4.params.toList ++ Rows.segApartSpec.plain.varTypes Tryz.checked.prog).any (Tryz.checked.prog.ifacesRec ·)) = true := by kernel_rfl
theorem j15 : (Rows.segApartRow.mapsOut == Tryz.checked.prog.mapsAmong Tryz.f4.resultTypes.toList) = true := by kernel_rfl
theorem j16 : (Rows.segApartRow.loops == (Tryz.f4.params.toList ++ Rows.segApartSpec.plain.varTypes Tryz.checked.prog).any (Tryz.checked.prog.loopsFrom ·)) = true := by kernel_rfl
theorem j17 : (Rows.segApartRow.wideKeys == (Tryz.f4.params.toList ++ Rows.segApartSpec.plain.varTypes Tryz.checked.prog ++ Tryz.f4.resultTypes.toList).any (Tryz.checked.prog.wideKeysFrom ·)) = true := by kernel_rfl
theorem j18 : Rows.segApartSpec.vars.all (Tryz.checked.prog.varReadable ·) = true := by kernel_rfl
theorem j19 : Tryz.f4.resultTypes.all (fun t => Tryz.checked.prog.readableRec t && decide (t < Tryz.checked.prog.types.size)) = true := by kernel_rfl
theorem j20 : (Rows.segApartRow.ifacesOut == Tryz.f4.resultTypes.toList.any (Tryz.checked.prog.ifacesRec ·)) = true := by kernel_rfl
theorem j21 : (Rows.segApartRow.loopsOut == Tryz.f4.resultTypes.toList.any (Tryz.checked.prog.loopsFrom ·)) = true := by kernel_rfl
theorem j22 : (Rows.segApartRow.plainKeys == Tryz.checked.prog.plainKeys) = true := by kernel_rfl
theorem j23 : Rows.segApartRow.shortTexts.isNone = true := by kernel_rfl
theorem j24 : Tryz.checked.prog.stopsHeard = true := by kernel_rfl
theorem j25 : Tryz.checked.prog.mayEnter = true := by kernel_rfl
theorem j26 : (Rows.segApartRow.lifted == Tryz.checked.prog.liftsFinal) = true := by kernel_rfl
theorem j27 : (Tryz.checked.prog.make == some Rows.segApartRow.make) = true := by kernel_rfl
theorem j28 : (Rows.segApartRow.kinds == (if Rows.segApartRow.domain.isEmpty then [] else Tryz.f4.params.toList.map fun t => match Tryz.checked.prog.underlying t with | some (.int k) => some k | _ => none)) = true := by kernel_rfl
theorem j29 : (Rows.segApartRow.pinned == Rows.segApartRow.pinnedBy) = true := by kernel_rfl
theorem j30 : (Rows.segApartRow.veiled == (Tryz.f4.params.toList ++ Rows.segApartSpec.plain.varTypes Tryz.checked.prog ++ Tryz.f4.resultTypes.toList).any (Tryz.checked.prog.veiledRec ·)) = true := by kernel_rfl
theorem j31 : Rows.segApartRow.veiledFits Tryz.checked.prog Tryz.f4.params.toList (Tryz.f4.params.toList ++ Rows.segApartSpec.plain.varTypes Tryz.checked.prog ++ Tryz.f4.resultTypes.toList) = true := by kernel_rfl
theorem closed : joinedFacts Tryz.checked.prog 4 Tryz.f4 Rows.segApartSpec Rows.segApartRow = true := by
 unfold joinedFacts
 exact (Xiu _ _).mpr ⟨(Xiu _ _).mpr ⟨(Xiu _ _).mpr ⟨(Xiu _ _).mpr ⟨(Xiu _ _).mpr ⟨(Xiu _ _).mpr ⟨(Xiu _ _).mpr ⟨(Xiu _ _).mpr ⟨(Xiu _ _).mpr ⟨(Xiu _ _).mpr ⟨(Xiu _ _).mpr ⟨(Xiu _ _).mpr ⟨(Xiu _ _).mpr ⟨(Xiu _ _).mpr ⟨(Xiu _ _).mpr ⟨(Xiu _ _).mpr ⟨(Xiu _ _).mpr ⟨(Xiu _ _).mpr ⟨(Xiu _ _).mpr ⟨(Xiu _ _).mpr ⟨(Xiu _ _).mpr ⟨(Xiu _ _).mpr ⟨(Xiu _ _).mpr ⟨(Xiu _ _).mpr ⟨(Xiu _ _).mpr ⟨(Xiu _ _).mpr ⟨(Xiu _ _).mpr ⟨(Xiu _ _).mpr ⟨(Xiu _ _).mpr ⟨(Xiu _ _).mpr ⟨(Xiu _ _).mpr ⟨j0, j1⟩, j2⟩, j3⟩, j4⟩, j5⟩, j6⟩, j7⟩, j8⟩, j9⟩, j10⟩, j11⟩, j12⟩, j13⟩, j14⟩, j15⟩, j16⟩, j17⟩, j18⟩, j19⟩, j20⟩, j21⟩, j22⟩, j23⟩, j24⟩, j25⟩, j26⟩, j27⟩, j28⟩, j29⟩, j30⟩, j31⟩
end segApart
end Go.Proofs.YtmngpfjhbekbcaaGreat
