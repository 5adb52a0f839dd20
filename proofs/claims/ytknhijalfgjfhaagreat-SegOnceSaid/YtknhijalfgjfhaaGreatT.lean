/-
  What is printed of the functions is what the machine's compiler makes of the program's own code: for each function an equation that the kernel checks. No condition.
-/
import Derived.Test.YtknhijalfgjfhaaGreatRows
import Derived.Test.YtknhijalfgjfhaaGreatK2
set_option linter.unusedVariables false
set_option linter.unusedSimpArgs false
set_option linter.unusedSectionVars false
noncomputable section
namespace Sp
open Go Go.Eng Go.Proofs
set_option maxRecDepth 100000
theorem tab_ok : Tr.allP (fun n k => fnOf Go.Proofs.Tryz.prog n = some k) tab (fun n => n) := Tr.allP_re (by kernel_rfl)
def E0 : Env := ⟨tab.get, fun _ => none, cMethod Go.Proofs.Tryz.prog, Xd8 Go.Proofs.Tryz.prog⟩
theorem E0_ok (B : Nat) : Xez Go.Proofs.Tryz.prog B E0 := ⟨fun f k h => Tr.allP_get tab_ok f k h, rfl, rfl, fun f s h => by cases h⟩
theorem mixed : Go.Proofs.Tryz.prog.follows .mixedOrders = true := by kernel_rfl
end Sp
end
