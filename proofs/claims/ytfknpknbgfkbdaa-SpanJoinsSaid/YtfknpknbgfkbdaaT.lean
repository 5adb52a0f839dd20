/-
  What is printed of the functions is what the machine's compiler makes of the program's own code: for each function an equation that the kernel checks. No condition.
-/
import Derived.Test.YtfknpknbgfkbdaaRows
import Derived.Test.YtfknpknbgfkbdaaF
import Derived.Test.YtfknpknbgfkbdaaS
namespace Go.Proofs.Ytfknpknbgfkbdaa.Eng
open Go Go.Eng
set_option linter.unusedVariables false
set_option maxRecDepth 100000

theorem e3 : fnOf Try.prog 3 = some k3 := by kernel_rfl
theorem e4 : fnOf Try.prog 4 = some k4 := by kernel_rfl
theorem e5 : fnOf Try.prog 5 = some k5 := by kernel_rfl
theorem e6 : fnOf Try.prog 6 = some k6 := by kernel_rfl
theorem e7 : fnOf Try.prog 7 = some k7 := by kernel_rfl
theorem e9 : fnOf Try.prog 9 = some k9 := by kernel_rfl
theorem e10 : fnOf Try.prog 10 = some k10 := by kernel_rfl
theorem e11 : fnOf Try.prog 11 = some k11 := by kernel_rfl
theorem e12 : fnOf Try.prog 12 = some k12 := by kernel_rfl
theorem e13 : fnOf Try.prog 13 = some k13 := by kernel_rfl
theorem e14 : fnOf Try.prog 14 = some k14 := by kernel_rfl
theorem e15 : fnOf Try.prog 15 = some k15 := by kernel_rfl
theorem e16 : fnOf Try.prog 16 = some k16 := by kernel_rfl
theorem e17 : fnOf Try.prog 17 = some k17 := by kernel_rfl
theorem e18 : fnOf Try.prog 18 = some k18 := by kernel_rfl
theorem e19 : fnOf Try.prog 19 = some k19 := by kernel_rfl
theorem e20 : fnOf Try.prog 20 = some k20 := by kernel_rfl
theorem e21 : fnOf Try.prog 21 = some k21 := by kernel_rfl
theorem e22 : fnOf Try.prog 22 = some k22 := by kernel_rfl
theorem e23 : fnOf Try.prog 23 = some k23 := by kernel_rfl
theorem e24 : fnOf Try.prog 24 = some k24 := by kernel_rfl
theorem e25 : fnOf Try.prog 25 = some k25 := by kernel_rfl
theorem e26 : fnOf Try.prog 26 = some k26 := by kernel_rfl
theorem e27 : fnOf Try.prog 27 = some k27 := by kernel_rfl
theorem e28 : fnOf Try.prog 28 = some k28 := by kernel_rfl
theorem e29 : fnOf Try.prog 29 = some k29 := by kernel_rfl
theorem e30 : fnOf Try.prog 30 = some k30 := by kernel_rfl
theorem e31 : fnOf Try.prog 31 = some k31 := by kernel_rfl
theorem e32 : fnOf Try.prog 32 = some k32 := by kernel_rfl
theorem e33 : fnOf Try.prog 33 = some k33 := by kernel_rfl
theorem e34 : fnOf Try.prog 34 = some k34 := by kernel_rfl
theorem e35 : fnOf Try.prog 35 = some k35 := by kernel_rfl
theorem e36 : fnOf Try.prog 36 = some k36 := by kernel_rfl
theorem e37 : fnOf Try.prog 37 = some k37 := by kernel_rfl
theorem e38 : fnOf Try.prog 38 = some k38 := by kernel_rfl
theorem e39 : fnOf Try.prog 39 = some k39 := by kernel_rfl
theorem e40 : fnOf Try.prog 40 = some k40 := by kernel_rfl
theorem e41 : fnOf Try.prog 41 = some k41 := by kernel_rfl
theorem e42 : fnOf Try.prog 42 = some k42 := by kernel_rfl
theorem e43 : fnOf Try.prog 43 = some k43 := by kernel_rfl
theorem e44 : fnOf Try.prog 44 = some k44 := by kernel_rfl
theorem e45 : fnOf Try.prog 45 = some k45 := by kernel_rfl
theorem e46 : fnOf Try.prog 46 = some k46 := by kernel_rfl
theorem e47 : fnOf Try.prog 47 = some k47 := by kernel_rfl
theorem e48 : fnOf Try.prog 48 = some k48 := by kernel_rfl
theorem e49 : fnOf Try.prog 49 = some k49 := by kernel_rfl
theorem e50 : fnOf Try.prog 50 = some k50 := by kernel_rfl
theorem e51 : fnOf Try.prog 51 = some k51 := by kernel_rfl
theorem e52 : fnOf Try.prog 52 = some k52 := by kernel_rfl
theorem e53 : fnOf Try.prog 53 = some k53 := by kernel_rfl
theorem e54 : fnOf Try.prog 54 = some k54 := by kernel_rfl
theorem e55 : fnOf Try.prog 55 = some k55 := by kernel_rfl
theorem e56 : fnOf Try.prog 56 = some k56 := by kernel_rfl
theorem e57 : fnOf Try.prog 57 = some k57 := by kernel_rfl
theorem e58 : fnOf Try.prog 58 = some k58 := by kernel_rfl
theorem e59 : fnOf Try.prog 59 = some k59 := by kernel_rfl
theorem e60 : fnOf Try.prog 60 = some k60 := by kernel_rfl
theorem e61 : fnOf Try.prog 61 = some k61 := by kernel_rfl
theorem e62 : fnOf Try.prog 62 = some k62 := by kernel_rfl
theorem e63 : fnOf Try.prog 63 = some k63 := by kernel_rfl
theorem e64 : fnOf Try.prog 64 = some k64 := by kernel_rfl

theorem tab_ok : Tr.allP (fun n k => fnOf Try.prog n = some k) tab (fun n => n) := ⟨trivial, ⟨trivial, ⟨e3, ⟨e7, ⟨e15, ⟨e31, ⟨e63, trivial, trivial⟩, trivial⟩, ⟨e47, trivial, trivial⟩⟩, ⟨e23, ⟨e39, trivial, trivial⟩, ⟨e55, trivial, trivial⟩⟩⟩, ⟨e11, ⟨e19, ⟨e35, trivial, trivial⟩, ⟨e51, trivial, trivial⟩⟩, ⟨e27, ⟨e43, trivial, trivial⟩, ⟨e59, trivial, trivial⟩⟩⟩⟩, ⟨e5, ⟨e9, ⟨e17, ⟨e33, trivial, trivial⟩, ⟨e49, trivial, trivial⟩⟩, ⟨e25, ⟨e41, trivial, trivial⟩, ⟨e57, trivial, trivial⟩⟩⟩, ⟨e13, ⟨e21, ⟨e37, trivial, trivial⟩, ⟨e53, trivial, trivial⟩⟩, ⟨e29, ⟨e45, trivial, trivial⟩, ⟨e61, trivial, trivial⟩⟩⟩⟩⟩, ⟨trivial, ⟨e4, ⟨trivial, ⟨e16, ⟨e32, ⟨e64, trivial, trivial⟩, trivial⟩, ⟨e48, trivial, trivial⟩⟩, ⟨e24, ⟨e40, trivial, trivial⟩, ⟨e56, trivial, trivial⟩⟩⟩, ⟨e12, ⟨e20, ⟨e36, trivial, trivial⟩, ⟨e52, trivial, trivial⟩⟩, ⟨e28, ⟨e44, trivial, trivial⟩, ⟨e60, trivial, trivial⟩⟩⟩⟩, ⟨e6, ⟨e10, ⟨e18, ⟨e34, trivial, trivial⟩, ⟨e50, trivial, trivial⟩⟩, ⟨e26, ⟨e42, trivial, trivial⟩, ⟨e58, trivial, trivial⟩⟩⟩, ⟨e14, ⟨e22, ⟨e38, trivial, trivial⟩, ⟨e54, trivial, trivial⟩⟩, ⟨e30, ⟨e46, trivial, trivial⟩, ⟨e62, trivial, trivial⟩⟩⟩⟩⟩⟩
noncomputable def E0 : Env := ⟨tab.get, fun _ => none, cMethod Try.prog, cNilOk Try.prog⟩
theorem E0_ok (B : Nat) : EnvOK Try.prog B E0 := ⟨fun f k h => Tr.allP_get tab_ok f k h, rfl, rfl, fun f s h => by cases h⟩
theorem mixed : Try.prog.follows .mixedOrders = true := by kernel_rfl
theorem awake_run : (enter E0 (ctx E0 (nat_lit 300)) 9 [] ⟨0, .nil⟩).gives (.bool true) = true := by kernel_rfl
end Go.Proofs.Ytfknpknbgfkbdaa.Eng
