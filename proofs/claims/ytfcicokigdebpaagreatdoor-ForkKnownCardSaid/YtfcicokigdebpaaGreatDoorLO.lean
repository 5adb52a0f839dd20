/-
  The program's types, variables and functions are laid out as they should be: checked in parts. No condition.
-/
import Derived.Test.YtfcicokigdebpaaGreatDoorRows
import Derived.KernelRfl
namespace Go.Proofs.YtfcicokigdebpaaGreatDoor
namespace Parts
open Go
set_option linter.unusedVariables false
set_option maxRecDepth 100000
theorem o0 : (List.range' 0 100).all (rowFine Tryz.checked.prog) = true := by kernel_rfl
theorem o1 : (List.range' 100 100).all (rowFine Tryz.checked.prog) = true := by kernel_rfl
theorem o2 : (List.range' 200 100).all (rowFine Tryz.checked.prog) = true := by kernel_rfl
theorem o3 : (List.range' 300 100).all (rowFine Tryz.checked.prog) = true := by kernel_rfl
theorem o4 : (List.range' 400 100).all (rowFine Tryz.checked.prog) = true := by kernel_rfl
theorem o5 : (List.range' 500 100).all (rowFine Tryz.checked.prog) = true := by kernel_rfl
theorem o6 : (List.range' 600 38).all (rowFine Tryz.checked.prog) = true := by kernel_rfl
theorem gl : Tryz.checked.prog.globals.all (fun g => decide (g.type < Tryz.checked.prog.types.size)) = true := by kernel_rfl
theorem fu : Tryz.checked.prog.funcs.all (fun f => f.params.all fun t => decide (t < Tryz.checked.prog.types.size)) = true := by kernel_rfl
theorem sz : Tryz.checked.prog.types.size = 638 := by kernel_rfl
theorem part {Q : Nat → Bool} {t : Nat} (lo k : Nat) (h : (List.range' lo k).all Q = true) (h1 : lo ≤ t) (h2 : t < lo + k) : Q t = true := List.all_eq_true.1 h t (List.mem_range'_1.2 ⟨h1, h2⟩)
theorem all : (List.range Tryz.checked.prog.types.size).all (rowFine Tryz.checked.prog) = true := by
  rw [sz, List.all_eq_true]
  intro t ht
  rw [List.mem_range] at ht
  by_cases h0 : t < 100
  · exact part 0 100 o0 (by omega) (by omega)
  by_cases h1 : t < 200
  · exact part 100 100 o1 (by omega) (by omega)
  by_cases h2 : t < 300
  · exact part 200 100 o2 (by omega) (by omega)
  by_cases h3 : t < 400
  · exact part 300 100 o3 (by omega) (by omega)
  by_cases h4 : t < 500
  · exact part 400 100 o4 (by omega) (by omega)
  by_cases h5 : t < 600
  · exact part 500 100 o5 (by omega) (by omega)
  exact part 600 38 o6 (by omega) (by omega)
theorem laidOut : laidOutB Tryz.checked.prog = true := by
  unfold laidOutB
  exact (Bool.and_eq_true _ _).mpr ⟨(Bool.and_eq_true _ _).mpr ⟨all, gl⟩, fu⟩
end Parts
end Go.Proofs.YtfcicokigdebpaaGreatDoor
