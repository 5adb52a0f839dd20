/-
  What is printed of the functions is what the machine's compiler makes of the program's own code: for each function an equation that the kernel checks. No condition.
-/
import Derived.Test.YtlppncaohmbihaaGreatRows
import Derived.Test.YtlppncaohmbihaaGreatF
import Derived.Test.YtlppncaohmbihaaGreatS
namespace Go.Proofs.YtlppncaohmbihaaGreat.Eng
open Go Go.Eng
set_option linter.unusedVariables false
set_option maxRecDepth 100000

theorem e3 : fnOf Tryz.prog 3 = some k3 := by kernel_rfl
theorem e4 : fnOf Tryz.prog 4 = some k4 := by kernel_rfl
theorem e5 : fnOf Tryz.prog 5 = some k5 := by kernel_rfl
theorem e6 : fnOf Tryz.prog 6 = some k6 := by kernel_rfl
theorem e7 : fnOf Tryz.prog 7 = some k7 := by kernel_rfl
theorem e8 : fnOf Tryz.prog 8 = some k8 := by kernel_rfl
theorem e9 : fnOf Tryz.prog 9 = some k9 := by kernel_rfl
theorem e10 : fnOf Tryz.prog 10 = some k10 := by kernel_rfl
theorem e11 : fnOf Tryz.prog 11 = some k11 := by kernel_rfl
theorem e12 : fnOf Tryz.prog 12 = some k12 := by kernel_rfl
theorem e13 : fnOf Tryz.prog 13 = some k13 := by kernel_rfl
theorem e14 : fnOf Tryz.prog 14 = some k14 := by kernel_rfl
theorem e15 : fnOf Tryz.prog 15 = some k15 := by kernel_rfl
theorem e16 : fnOf Tryz.prog 16 = some k16 := by kernel_rfl
theorem e17 : fnOf Tryz.prog 17 = some k17 := by kernel_rfl
theorem e18 : fnOf Tryz.prog 18 = some k18 := by kernel_rfl
theorem e19 : fnOf Tryz.prog 19 = some k19 := by kernel_rfl
theorem e20 : fnOf Tryz.prog 20 = some k20 := by kernel_rfl
theorem e21 : fnOf Tryz.prog 21 = some k21 := by kernel_rfl
theorem e22 : fnOf Tryz.prog 22 = some k22 := by kernel_rfl
theorem e23 : fnOf Tryz.prog 23 = some k23 := by kernel_rfl
theorem e24 : fnOf Tryz.prog 24 = some k24 := by kernel_rfl
theorem e25 : fnOf Tryz.prog 25 = some k25 := by kernel_rfl
theorem e26 : fnOf Tryz.prog 26 = some k26 := by kernel_rfl
theorem e27 : fnOf Tryz.prog 27 = some k27 := by kernel_rfl
theorem e30 : fnOf Tryz.prog 30 = some k30 := by kernel_rfl
theorem e31 : fnOf Tryz.prog 31 = some k31 := by kernel_rfl
theorem e34 : fnOf Tryz.prog 34 = some k34 := by kernel_rfl
theorem e35 : fnOf Tryz.prog 35 = some k35 := by kernel_rfl
theorem e36 : fnOf Tryz.prog 36 = some k36 := by kernel_rfl
theorem e37 : fnOf Tryz.prog 37 = some k37 := by kernel_rfl
theorem e38 : fnOf Tryz.prog 38 = some k38 := by kernel_rfl
theorem e41 : fnOf Tryz.prog 41 = some k41 := by kernel_rfl
theorem e44 : fnOf Tryz.prog 44 = some k44 := by kernel_rfl
theorem e45 : fnOf Tryz.prog 45 = some k45 := by kernel_rfl
theorem e46 : fnOf Tryz.prog 46 = some k46 := by kernel_rfl
theorem e47 : fnOf Tryz.prog 47 = some k47 := by kernel_rfl
theorem e48 : fnOf Tryz.prog 48 = some k48 := by kernel_rfl
theorem e49 : fnOf Tryz.prog 49 = some k49 := by kernel_rfl
theorem e50 : fnOf Tryz.prog 50 = some k50 := by kernel_rfl
theorem e53 : fnOf Tryz.prog 53 = some k53 := by kernel_rfl
theorem e54 : fnOf Tryz.prog 54 = some k54 := by kernel_rfl
theorem e55 : fnOf Tryz.prog 55 = some k55 := by kernel_rfl
theorem e58 : fnOf Tryz.prog 58 = some k58 := by kernel_rfl
theorem e59 : fnOf Tryz.prog 59 = some k59 := by kernel_rfl
theorem e60 : fnOf Tryz.prog 60 = some k60 := by kernel_rfl
theorem e62 : fnOf Tryz.prog 62 = some k62 := by kernel_rfl
theorem e63 : fnOf Tryz.prog 63 = some k63 := by kernel_rfl
theorem e64 : fnOf Tryz.prog 64 = some k64 := by kernel_rfl
theorem e65 : fnOf Tryz.prog 65 = some k65 := by kernel_rfl
theorem e66 : fnOf Tryz.prog 66 = some k66 := by kernel_rfl
theorem e67 : fnOf Tryz.prog 67 = some k67 := by kernel_rfl
theorem e68 : fnOf Tryz.prog 68 = some k68 := by kernel_rfl
theorem e69 : fnOf Tryz.prog 69 = some k69 := by kernel_rfl
theorem e70 : fnOf Tryz.prog 70 = some k70 := by kernel_rfl
theorem e71 : fnOf Tryz.prog 71 = some k71 := by kernel_rfl
theorem e73 : fnOf Tryz.prog 73 = some k73 := by kernel_rfl
theorem e74 : fnOf Tryz.prog 74 = some k74 := by kernel_rfl
theorem e75 : fnOf Tryz.prog 75 = some k75 := by kernel_rfl
theorem e77 : fnOf Tryz.prog 77 = some k77 := by kernel_rfl
theorem e78 : fnOf Tryz.prog 78 = some k78 := by kernel_rfl
theorem e79 : fnOf Tryz.prog 79 = some k79 := by kernel_rfl
theorem e80 : fnOf Tryz.prog 80 = some k80 := by kernel_rfl
theorem e81 : fnOf Tryz.prog 81 = some k81 := by kernel_rfl
theorem e82 : fnOf Tryz.prog 82 = some k82 := by kernel_rfl
theorem e83 : fnOf Tryz.prog 83 = some k83 := by kernel_rfl
theorem e84 : fnOf Tryz.prog 84 = some k84 := by kernel_rfl
theorem e86 : fnOf Tryz.prog 86 = some k86 := by kernel_rfl
theorem e87 : fnOf Tryz.prog 87 = some k87 := by kernel_rfl
theorem e88 : fnOf Tryz.prog 88 = some k88 := by kernel_rfl
theorem e89 : fnOf Tryz.prog 89 = some k89 := by kernel_rfl
theorem e90 : fnOf Tryz.prog 90 = some k90 := by kernel_rfl
theorem e91 : fnOf Tryz.prog 91 = some k91 := by kernel_rfl
theorem e92 : fnOf Tryz.prog 92 = some k92 := by kernel_rfl
theorem e93 : fnOf Tryz.prog 93 = some k93 := by kernel_rfl
theorem e102 : fnOf Tryz.prog 102 = some k102 := by kernel_rfl
theorem e103 : fnOf Tryz.prog 103 = some k103 := by kernel_rfl
theorem e104 : fnOf Tryz.prog 104 = some k104 := by kernel_rfl
theorem e105 : fnOf Tryz.prog 105 = some k105 := by kernel_rfl
theorem e106 : fnOf Tryz.prog 106 = some k106 := by kernel_rfl
theorem e108 : fnOf Tryz.prog 108 = some k108 := by kernel_rfl
theorem e109 : fnOf Tryz.prog 109 = some k109 := by kernel_rfl
theorem e110 : fnOf Tryz.prog 110 = some k110 := by kernel_rfl
theorem e111 : fnOf Tryz.prog 111 = some k111 := by kernel_rfl
theorem e114 : fnOf Tryz.prog 114 = some k114 := by kernel_rfl
theorem e115 : fnOf Tryz.prog 115 = some k115 := by kernel_rfl
theorem e116 : fnOf Tryz.prog 116 = some k116 := by kernel_rfl
theorem e117 : fnOf Tryz.prog 117 = some k117 := by kernel_rfl
theorem e118 : fnOf Tryz.prog 118 = some k118 := by kernel_rfl
theorem e119 : fnOf Tryz.prog 119 = some k119 := by kernel_rfl
theorem e121 : fnOf Tryz.prog 121 = some k121 := by kernel_rfl
theorem e129 : fnOf Tryz.prog 129 = some k129 := by kernel_rfl
theorem e133 : fnOf Tryz.prog 133 = some k133 := by kernel_rfl
theorem e134 : fnOf Tryz.prog 134 = some k134 := by kernel_rfl
theorem e135 : fnOf Tryz.prog 135 = some k135 := by kernel_rfl
theorem e136 : fnOf Tryz.prog 136 = some k136 := by kernel_rfl
theorem e147 : fnOf Tryz.prog 147 = some k147 := by kernel_rfl
theorem e148 : fnOf Tryz.prog 148 = some k148 := by kernel_rfl
theorem e149 : fnOf Tryz.prog 149 = some k149 := by kernel_rfl
theorem e150 : fnOf Tryz.prog 150 = some k150 := by kernel_rfl
theorem e151 : fnOf Tryz.prog 151 = some k151 := by kernel_rfl
theorem e152 : fnOf Tryz.prog 152 = some k152 := by kernel_rfl
theorem e156 : fnOf Tryz.prog 156 = some k156 := by kernel_rfl
theorem e157 : fnOf Tryz.prog 157 = some k157 := by kernel_rfl
theorem e158 : fnOf Tryz.prog 158 = some k158 := by kernel_rfl
theorem e159 : fnOf Tryz.prog 159 = some k159 := by kernel_rfl
theorem e160 : fnOf Tryz.prog 160 = some k160 := by kernel_rfl
theorem e161 : fnOf Tryz.prog 161 = some k161 := by kernel_rfl
theorem e165 : fnOf Tryz.prog 165 = some k165 := by kernel_rfl
theorem e166 : fnOf Tryz.prog 166 = some k166 := by kernel_rfl

theorem tab_ok : Tr.allP (fun n k => fnOf Tryz.prog n = some k) tab (fun n => n) := ⟨trivial, ⟨trivial, ⟨e3, ⟨e7, ⟨e15, ⟨e31, ⟨e63, trivial, trivial⟩, ⟨trivial, ⟨e159, trivial, trivial⟩, trivial⟩⟩, ⟨e47, ⟨e79, trivial, trivial⟩, ⟨e111, trivial, trivial⟩⟩⟩, ⟨e23, ⟨trivial, ⟨e71, ⟨e135, trivial, trivial⟩, trivial⟩, ⟨e103, trivial, trivial⟩⟩, ⟨e55, ⟨e87, ⟨e151, trivial, trivial⟩, trivial⟩, ⟨e119, trivial, trivial⟩⟩⟩⟩, ⟨e11, ⟨e19, ⟨e35, ⟨e67, trivial, trivial⟩, trivial⟩, ⟨trivial, ⟨e83, ⟨e147, trivial, trivial⟩, trivial⟩, ⟨e115, trivial, trivial⟩⟩⟩, ⟨e27, ⟨trivial, ⟨e75, trivial, trivial⟩, trivial⟩, ⟨e59, ⟨e91, trivial, trivial⟩, trivial⟩⟩⟩⟩, ⟨e5, ⟨e9, ⟨e17, ⟨trivial, ⟨e65, ⟨e129, trivial, trivial⟩, trivial⟩, ⟨trivial, ⟨e161, trivial, trivial⟩, trivial⟩⟩, ⟨e49, ⟨e81, trivial, trivial⟩, trivial⟩⟩, ⟨e25, ⟨e41, ⟨e73, trivial, trivial⟩, ⟨e105, trivial, trivial⟩⟩, ⟨trivial, ⟨e89, trivial, trivial⟩, ⟨e121, trivial, trivial⟩⟩⟩⟩, ⟨e13, ⟨e21, ⟨e37, ⟨e69, ⟨e133, trivial, trivial⟩, trivial⟩, ⟨trivial, ⟨e165, trivial, trivial⟩, trivial⟩⟩, ⟨e53, ⟨trivial, ⟨e149, trivial, trivial⟩, trivial⟩, ⟨e117, trivial, trivial⟩⟩⟩, ⟨trivial, ⟨e45, ⟨e77, trivial, trivial⟩, ⟨e109, trivial, trivial⟩⟩, ⟨trivial, ⟨e93, ⟨e157, trivial, trivial⟩, trivial⟩, trivial⟩⟩⟩⟩⟩, ⟨trivial, ⟨e4, ⟨e8, ⟨e16, ⟨trivial, ⟨e64, trivial, trivial⟩, ⟨trivial, ⟨e160, trivial, trivial⟩, trivial⟩⟩, ⟨e48, ⟨e80, trivial, trivial⟩, trivial⟩⟩, ⟨e24, ⟨trivial, ⟨trivial, ⟨e136, trivial, trivial⟩, trivial⟩, ⟨e104, trivial, trivial⟩⟩, ⟨trivial, ⟨e88, ⟨e152, trivial, trivial⟩, trivial⟩, trivial⟩⟩⟩, ⟨e12, ⟨e20, ⟨e36, ⟨e68, trivial, trivial⟩, trivial⟩, ⟨trivial, ⟨e84, ⟨e148, trivial, trivial⟩, trivial⟩, ⟨e116, trivial, trivial⟩⟩⟩, ⟨trivial, ⟨e44, trivial, ⟨e108, trivial, trivial⟩⟩, ⟨e60, ⟨e92, ⟨e156, trivial, trivial⟩, trivial⟩, trivial⟩⟩⟩⟩, ⟨e6, ⟨e10, ⟨e18, ⟨e34, ⟨e66, trivial, trivial⟩, trivial⟩, ⟨e50, ⟨e82, trivial, trivial⟩, ⟨e114, trivial, trivial⟩⟩⟩, ⟨e26, ⟨trivial, ⟨e74, trivial, trivial⟩, ⟨e106, trivial, trivial⟩⟩, ⟨e58, ⟨e90, trivial, trivial⟩, trivial⟩⟩⟩, ⟨e14, ⟨e22, ⟨e38, ⟨e70, ⟨e134, trivial, trivial⟩, trivial⟩, ⟨e102, ⟨e166, trivial, trivial⟩, trivial⟩⟩, ⟨e54, ⟨e86, ⟨e150, trivial, trivial⟩, trivial⟩, ⟨e118, trivial, trivial⟩⟩⟩, ⟨e30, ⟨e46, ⟨e78, trivial, trivial⟩, ⟨e110, trivial, trivial⟩⟩, ⟨e62, ⟨trivial, ⟨e158, trivial, trivial⟩, trivial⟩, trivial⟩⟩⟩⟩⟩⟩
noncomputable def E0 : Env := ⟨tab.get, fun _ => none, cMethod Tryz.prog, cNilOk Tryz.prog⟩
theorem E0_ok (B : Nat) : EnvOK Tryz.prog B E0 := ⟨fun f k h => Tr.allP_get tab_ok f k h, rfl, rfl, fun f s h => by cases h⟩
theorem mixed : Tryz.prog.follows .mixedOrders = true := by kernel_rfl
end Go.Proofs.YtlppncaohmbihaaGreat.Eng
