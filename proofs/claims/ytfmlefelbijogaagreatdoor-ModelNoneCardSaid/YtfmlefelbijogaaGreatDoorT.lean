/-
  What is printed of the functions is what the machine's compiler makes of the program's own code: for each function an equation that the kernel checks. No condition.
-/
import Derived.Test.YtfmlefelbijogaaGreatDoorRows
import Derived.Test.YtfmlefelbijogaaGreatDoorF
import Derived.Test.YtfmlefelbijogaaGreatDoorS
namespace Go.Proofs.YtfmlefelbijogaaGreatDoor.Eng
open Go Go.Eng
set_option linter.unusedVariables false
set_option maxRecDepth 100000

theorem e4 : fnOf Tryz.prog 4 = some k4 := by kernel_rfl
theorem e5 : fnOf Tryz.prog 5 = some k5 := by kernel_rfl
theorem e6 : fnOf Tryz.prog 6 = some k6 := by kernel_rfl
theorem e7 : fnOf Tryz.prog 7 = some k7 := by kernel_rfl
theorem e8 : fnOf Tryz.prog 8 = some k8 := by kernel_rfl
theorem e10 : fnOf Tryz.prog 10 = some k10 := by kernel_rfl
theorem e11 : fnOf Tryz.prog 11 = some k11 := by kernel_rfl
theorem e12 : fnOf Tryz.prog 12 = some k12 := by kernel_rfl
theorem e13 : fnOf Tryz.prog 13 = some k13 := by kernel_rfl
theorem e14 : fnOf Tryz.prog 14 = some k14 := by kernel_rfl
theorem e15 : fnOf Tryz.prog 15 = some k15 := by kernel_rfl
theorem e16 : fnOf Tryz.prog 16 = some k16 := by kernel_rfl
theorem e17 : fnOf Tryz.prog 17 = some k17 := by kernel_rfl
theorem e18 : fnOf Tryz.prog 18 = some k18 := by kernel_rfl
theorem e19 : fnOf Tryz.prog 19 = some k19 := by kernel_rfl
theorem e21 : fnOf Tryz.prog 21 = some k21 := by kernel_rfl
theorem e22 : fnOf Tryz.prog 22 = some k22 := by kernel_rfl
theorem e23 : fnOf Tryz.prog 23 = some k23 := by kernel_rfl
theorem e24 : fnOf Tryz.prog 24 = some k24 := by kernel_rfl
theorem e25 : fnOf Tryz.prog 25 = some k25 := by kernel_rfl
theorem e26 : fnOf Tryz.prog 26 = some k26 := by kernel_rfl
theorem e27 : fnOf Tryz.prog 27 = some k27 := by kernel_rfl
theorem e28 : fnOf Tryz.prog 28 = some k28 := by kernel_rfl
theorem e29 : fnOf Tryz.prog 29 = some k29 := by kernel_rfl
theorem e30 : fnOf Tryz.prog 30 = some k30 := by kernel_rfl
theorem e31 : fnOf Tryz.prog 31 = some k31 := by kernel_rfl
theorem e32 : fnOf Tryz.prog 32 = some k32 := by kernel_rfl
theorem e33 : fnOf Tryz.prog 33 = some k33 := by kernel_rfl
theorem e34 : fnOf Tryz.prog 34 = some k34 := by kernel_rfl
theorem e35 : fnOf Tryz.prog 35 = some k35 := by kernel_rfl
theorem e36 : fnOf Tryz.prog 36 = some k36 := by kernel_rfl
theorem e37 : fnOf Tryz.prog 37 = some k37 := by kernel_rfl
theorem e38 : fnOf Tryz.prog 38 = some k38 := by kernel_rfl
theorem e39 : fnOf Tryz.prog 39 = some k39 := by kernel_rfl
theorem e40 : fnOf Tryz.prog 40 = some k40 := by kernel_rfl
theorem e42 : fnOf Tryz.prog 42 = some k42 := by kernel_rfl
theorem e43 : fnOf Tryz.prog 43 = some k43 := by kernel_rfl
theorem e44 : fnOf Tryz.prog 44 = some k44 := by kernel_rfl
theorem e45 : fnOf Tryz.prog 45 = some k45 := by kernel_rfl
theorem e46 : fnOf Tryz.prog 46 = some k46 := by kernel_rfl
theorem e47 : fnOf Tryz.prog 47 = some k47 := by kernel_rfl
theorem e48 : fnOf Tryz.prog 48 = some k48 := by kernel_rfl
theorem e49 : fnOf Tryz.prog 49 = some k49 := by kernel_rfl
theorem e50 : fnOf Tryz.prog 50 = some k50 := by kernel_rfl
theorem e51 : fnOf Tryz.prog 51 = some k51 := by kernel_rfl
theorem e52 : fnOf Tryz.prog 52 = some k52 := by kernel_rfl
theorem e53 : fnOf Tryz.prog 53 = some k53 := by kernel_rfl
theorem e54 : fnOf Tryz.prog 54 = some k54 := by kernel_rfl
theorem e55 : fnOf Tryz.prog 55 = some k55 := by kernel_rfl
theorem e56 : fnOf Tryz.prog 56 = some k56 := by kernel_rfl
theorem e58 : fnOf Tryz.prog 58 = some k58 := by kernel_rfl
theorem e59 : fnOf Tryz.prog 59 = some k59 := by kernel_rfl
theorem e60 : fnOf Tryz.prog 60 = some k60 := by kernel_rfl
theorem e61 : fnOf Tryz.prog 61 = some k61 := by kernel_rfl
theorem e62 : fnOf Tryz.prog 62 = some k62 := by kernel_rfl
theorem e63 : fnOf Tryz.prog 63 = some k63 := by kernel_rfl
theorem e64 : fnOf Tryz.prog 64 = some k64 := by kernel_rfl
theorem e65 : fnOf Tryz.prog 65 = some k65 := by kernel_rfl
theorem e66 : fnOf Tryz.prog 66 = some k66 := by kernel_rfl
theorem e67 : fnOf Tryz.prog 67 = some k67 := by kernel_rfl
theorem e68 : fnOf Tryz.prog 68 = some k68 := by kernel_rfl
theorem e69 : fnOf Tryz.prog 69 = some k69 := by kernel_rfl
theorem e74 : fnOf Tryz.prog 74 = some k74 := by kernel_rfl
theorem e75 : fnOf Tryz.prog 75 = some k75 := by kernel_rfl
theorem e86 : fnOf Tryz.prog 86 = some k86 := by kernel_rfl
theorem e87 : fnOf Tryz.prog 87 = some k87 := by kernel_rfl
theorem e88 : fnOf Tryz.prog 88 = some k88 := by kernel_rfl
theorem e89 : fnOf Tryz.prog 89 = some k89 := by kernel_rfl
theorem e93 : fnOf Tryz.prog 93 = some k93 := by kernel_rfl
theorem e94 : fnOf Tryz.prog 94 = some k94 := by kernel_rfl
theorem e95 : fnOf Tryz.prog 95 = some k95 := by kernel_rfl
theorem e98 : fnOf Tryz.prog 98 = some k98 := by kernel_rfl
theorem e99 : fnOf Tryz.prog 99 = some k99 := by kernel_rfl
theorem e100 : fnOf Tryz.prog 100 = some k100 := by kernel_rfl
theorem e101 : fnOf Tryz.prog 101 = some k101 := by kernel_rfl
theorem e102 : fnOf Tryz.prog 102 = some k102 := by kernel_rfl
theorem e103 : fnOf Tryz.prog 103 = some k103 := by kernel_rfl
theorem e106 : fnOf Tryz.prog 106 = some k106 := by kernel_rfl
theorem e110 : fnOf Tryz.prog 110 = some k110 := by kernel_rfl
theorem e111 : fnOf Tryz.prog 111 = some k111 := by kernel_rfl
theorem e112 : fnOf Tryz.prog 112 = some k112 := by kernel_rfl
theorem e115 : fnOf Tryz.prog 115 = some k115 := by kernel_rfl
theorem e119 : fnOf Tryz.prog 119 = some k119 := by kernel_rfl
theorem e126 : fnOf Tryz.prog 126 = some k126 := by kernel_rfl
theorem e130 : fnOf Tryz.prog 130 = some k130 := by kernel_rfl
theorem e131 : fnOf Tryz.prog 131 = some k131 := by kernel_rfl
theorem e132 : fnOf Tryz.prog 132 = some k132 := by kernel_rfl
theorem e135 : fnOf Tryz.prog 135 = some k135 := by kernel_rfl
theorem e141 : fnOf Tryz.prog 141 = some k141 := by kernel_rfl
theorem e145 : fnOf Tryz.prog 145 = some k145 := by kernel_rfl
theorem e146 : fnOf Tryz.prog 146 = some k146 := by kernel_rfl
theorem e147 : fnOf Tryz.prog 147 = some k147 := by kernel_rfl
theorem e148 : fnOf Tryz.prog 148 = some k148 := by kernel_rfl
theorem e149 : fnOf Tryz.prog 149 = some k149 := by kernel_rfl
theorem e150 : fnOf Tryz.prog 150 = some k150 := by kernel_rfl
theorem e151 : fnOf Tryz.prog 151 = some k151 := by kernel_rfl
theorem e154 : fnOf Tryz.prog 154 = some k154 := by kernel_rfl
theorem e155 : fnOf Tryz.prog 155 = some k155 := by kernel_rfl
theorem e156 : fnOf Tryz.prog 156 = some k156 := by kernel_rfl
theorem e167 : fnOf Tryz.prog 167 = some k167 := by kernel_rfl
theorem e177 : fnOf Tryz.prog 177 = some k177 := by kernel_rfl
theorem e178 : fnOf Tryz.prog 178 = some k178 := by kernel_rfl
theorem e179 : fnOf Tryz.prog 179 = some k179 := by kernel_rfl
theorem e180 : fnOf Tryz.prog 180 = some k180 := by kernel_rfl
theorem e184 : fnOf Tryz.prog 184 = some k184 := by kernel_rfl
theorem e186 : fnOf Tryz.prog 186 = some k186 := by kernel_rfl
theorem e187 : fnOf Tryz.prog 187 = some k187 := by kernel_rfl
theorem e188 : fnOf Tryz.prog 188 = some k188 := by kernel_rfl
theorem e189 : fnOf Tryz.prog 189 = some k189 := by kernel_rfl
theorem e190 : fnOf Tryz.prog 190 = some k190 := by kernel_rfl
theorem e192 : fnOf Tryz.prog 192 = some k192 := by kernel_rfl
theorem e196 : fnOf Tryz.prog 196 = some k196 := by kernel_rfl
theorem e201 : fnOf Tryz.prog 201 = some k201 := by kernel_rfl
theorem e202 : fnOf Tryz.prog 202 = some k202 := by kernel_rfl
theorem e204 : fnOf Tryz.prog 204 = some k204 := by kernel_rfl
theorem e205 : fnOf Tryz.prog 205 = some k205 := by kernel_rfl
theorem e206 : fnOf Tryz.prog 206 = some k206 := by kernel_rfl
theorem e212 : fnOf Tryz.prog 212 = some k212 := by kernel_rfl
theorem e218 : fnOf Tryz.prog 218 = some k218 := by kernel_rfl
theorem e219 : fnOf Tryz.prog 219 = some k219 := by kernel_rfl
theorem e220 : fnOf Tryz.prog 220 = some k220 := by kernel_rfl
theorem e221 : fnOf Tryz.prog 221 = some k221 := by kernel_rfl
theorem e222 : fnOf Tryz.prog 222 = some k222 := by kernel_rfl
theorem e223 : fnOf Tryz.prog 223 = some k223 := by kernel_rfl
theorem e224 : fnOf Tryz.prog 224 = some k224 := by kernel_rfl
theorem e225 : fnOf Tryz.prog 225 = some k225 := by kernel_rfl
theorem e226 : fnOf Tryz.prog 226 = some k226 := by kernel_rfl
theorem e228 : fnOf Tryz.prog 228 = some k228 := by kernel_rfl
theorem e231 : fnOf Tryz.prog 231 = some k231 := by kernel_rfl
theorem e241 : fnOf Tryz.prog 241 = some k241 := by kernel_rfl
theorem e246 : fnOf Tryz.prog 246 = some k246 := by kernel_rfl
theorem e248 : fnOf Tryz.prog 248 = some k248 := by kernel_rfl
theorem e251 : fnOf Tryz.prog 251 = some k251 := by kernel_rfl
theorem e263 : fnOf Tryz.prog 263 = some k263 := by kernel_rfl
theorem e264 : fnOf Tryz.prog 264 = some k264 := by kernel_rfl
theorem e266 : fnOf Tryz.prog 266 = some k266 := by kernel_rfl
theorem e270 : fnOf Tryz.prog 270 = some k270 := by kernel_rfl
theorem e271 : fnOf Tryz.prog 271 = some k271 := by kernel_rfl
theorem e274 : fnOf Tryz.prog 274 = some k274 := by kernel_rfl
theorem e285 : fnOf Tryz.prog 285 = some k285 := by kernel_rfl
theorem e286 : fnOf Tryz.prog 286 = some k286 := by kernel_rfl
theorem e287 : fnOf Tryz.prog 287 = some k287 := by kernel_rfl
theorem e288 : fnOf Tryz.prog 288 = some k288 := by kernel_rfl
theorem e291 : fnOf Tryz.prog 291 = some k291 := by kernel_rfl
theorem e293 : fnOf Tryz.prog 293 = some k293 := by kernel_rfl
theorem e300 : fnOf Tryz.prog 300 = some k300 := by kernel_rfl
theorem e301 : fnOf Tryz.prog 301 = some k301 := by kernel_rfl
theorem e302 : fnOf Tryz.prog 302 = some k302 := by kernel_rfl
theorem e309 : fnOf Tryz.prog 309 = some k309 := by kernel_rfl
theorem e310 : fnOf Tryz.prog 310 = some k310 := by kernel_rfl
theorem e311 : fnOf Tryz.prog 311 = some k311 := by kernel_rfl
theorem e312 : fnOf Tryz.prog 312 = some k312 := by kernel_rfl
theorem e316 : fnOf Tryz.prog 316 = some k316 := by kernel_rfl
theorem e331 : fnOf Tryz.prog 331 = some k331 := by kernel_rfl
theorem e332 : fnOf Tryz.prog 332 = some k332 := by kernel_rfl
theorem e353 : fnOf Tryz.prog 353 = some k353 := by kernel_rfl
theorem e354 : fnOf Tryz.prog 354 = some k354 := by kernel_rfl
theorem e355 : fnOf Tryz.prog 355 = some k355 := by kernel_rfl
theorem e356 : fnOf Tryz.prog 356 = some k356 := by kernel_rfl
theorem e357 : fnOf Tryz.prog 357 = some k357 := by kernel_rfl
theorem e358 : fnOf Tryz.prog 358 = some k358 := by kernel_rfl

theorem tab_ok : Tr.allP (fun n k => fnOf Tryz.prog n = some k) tab (fun n => n) := ⟨trivial, ⟨trivial, ⟨trivial, ⟨e7, ⟨e15, ⟨e31, ⟨e63, trivial, trivial⟩, ⟨e95, ⟨trivial, ⟨e287, trivial, trivial⟩, trivial⟩, ⟨e223, trivial, trivial⟩⟩⟩, ⟨e47, ⟨trivial, ⟨trivial, ⟨e271, trivial, trivial⟩, trivial⟩, trivial⟩, ⟨e111, trivial, trivial⟩⟩⟩, ⟨e23, ⟨e39, ⟨trivial, ⟨e135, ⟨e263, trivial, trivial⟩, trivial⟩, trivial⟩, ⟨e103, ⟨e167, trivial, trivial⟩, ⟨e231, trivial, trivial⟩⟩⟩, ⟨e55, ⟨e87, ⟨e151, trivial, trivial⟩, trivial⟩, ⟨e119, ⟨trivial, ⟨e311, trivial, trivial⟩, trivial⟩, trivial⟩⟩⟩⟩, ⟨e11, ⟨e19, ⟨e35, ⟨e67, ⟨e131, trivial, trivial⟩, trivial⟩, ⟨e99, ⟨trivial, ⟨e291, trivial, trivial⟩, trivial⟩, ⟨trivial, ⟨e355, trivial, trivial⟩, trivial⟩⟩⟩, ⟨e51, ⟨trivial, ⟨e147, trivial, trivial⟩, trivial⟩, ⟨e115, ⟨e179, trivial, trivial⟩, trivial⟩⟩⟩, ⟨e27, ⟨e43, ⟨e75, trivial, ⟨trivial, ⟨e331, trivial, trivial⟩, trivial⟩⟩, trivial⟩, ⟨e59, ⟨trivial, ⟨e155, trivial, trivial⟩, ⟨e219, trivial, trivial⟩⟩, ⟨trivial, ⟨e187, trivial, trivial⟩, ⟨e251, trivial, trivial⟩⟩⟩⟩⟩⟩, ⟨e5, ⟨trivial, ⟨e17, ⟨e33, ⟨e65, trivial, trivial⟩, ⟨trivial, trivial, ⟨e225, ⟨e353, trivial, trivial⟩, trivial⟩⟩⟩, ⟨e49, ⟨trivial, ⟨e145, trivial, trivial⟩, trivial⟩, ⟨trivial, ⟨e177, trivial, trivial⟩, ⟨e241, trivial, trivial⟩⟩⟩⟩, ⟨e25, ⟨trivial, ⟨trivial, trivial, ⟨e201, trivial, trivial⟩⟩, trivial⟩, ⟨trivial, ⟨e89, trivial, trivial⟩, trivial⟩⟩⟩, ⟨e13, ⟨e21, ⟨e37, ⟨e69, trivial, trivial⟩, ⟨e101, ⟨trivial, ⟨e293, trivial, trivial⟩, trivial⟩, ⟨trivial, ⟨e357, trivial, trivial⟩, trivial⟩⟩⟩, ⟨e53, ⟨trivial, ⟨e149, trivial, trivial⟩, trivial⟩, ⟨trivial, ⟨trivial, ⟨e309, trivial, trivial⟩, trivial⟩, trivial⟩⟩⟩, ⟨e29, ⟨e45, ⟨trivial, ⟨e141, trivial, trivial⟩, ⟨e205, trivial, trivial⟩⟩, ⟨trivial, ⟨trivial, ⟨e301, trivial, trivial⟩, trivial⟩, trivial⟩⟩, ⟨e61, ⟨e93, ⟨trivial, ⟨e285, trivial, trivial⟩, trivial⟩, ⟨e221, trivial, trivial⟩⟩, ⟨trivial, ⟨e189, trivial, trivial⟩, trivial⟩⟩⟩⟩⟩⟩, ⟨trivial, ⟨e4, ⟨e8, ⟨e16, ⟨e32, ⟨e64, trivial, ⟨e192, trivial, trivial⟩⟩, ⟨trivial, ⟨trivial, ⟨e288, trivial, trivial⟩, trivial⟩, ⟨e224, trivial, trivial⟩⟩⟩, ⟨e48, trivial, ⟨e112, trivial, trivial⟩⟩⟩, ⟨e24, ⟨e40, ⟨trivial, ⟨trivial, ⟨e264, trivial, trivial⟩, trivial⟩, trivial⟩, trivial⟩, ⟨e56, ⟨e88, trivial, trivial⟩, ⟨trivial, ⟨e184, ⟨e312, trivial, trivial⟩, trivial⟩, ⟨e248, trivial, trivial⟩⟩⟩⟩⟩, ⟨e12, ⟨trivial, ⟨e36, ⟨e68, ⟨e132, trivial, trivial⟩, ⟨e196, trivial, trivial⟩⟩, ⟨e100, trivial, ⟨e228, ⟨e356, trivial, trivial⟩, trivial⟩⟩⟩, ⟨e52, ⟨trivial, ⟨e148, trivial, trivial⟩, ⟨e212, trivial, trivial⟩⟩, ⟨trivial, ⟨e180, trivial, trivial⟩, trivial⟩⟩⟩, ⟨e28, ⟨e44, ⟨trivial, trivial, ⟨e204, ⟨e332, trivial, trivial⟩, trivial⟩⟩, ⟨trivial, ⟨trivial, ⟨e300, trivial, trivial⟩, trivial⟩, trivial⟩⟩, ⟨e60, ⟨trivial, ⟨e156, trivial, trivial⟩, ⟨e220, trivial, trivial⟩⟩, ⟨trivial, ⟨e188, ⟨e316, trivial, trivial⟩, trivial⟩, trivial⟩⟩⟩⟩⟩, ⟨e6, ⟨e10, ⟨e18, ⟨e34, ⟨e66, ⟨e130, trivial, trivial⟩, trivial⟩, ⟨e98, trivial, ⟨e226, ⟨e354, trivial, trivial⟩, trivial⟩⟩⟩, ⟨e50, ⟨trivial, ⟨e146, ⟨e274, trivial, trivial⟩, trivial⟩, trivial⟩, ⟨trivial, ⟨e178, trivial, trivial⟩, trivial⟩⟩⟩, ⟨e26, ⟨e42, ⟨e74, ⟨trivial, ⟨e266, trivial, trivial⟩, trivial⟩, ⟨e202, trivial, trivial⟩⟩, ⟨e106, trivial, trivial⟩⟩, ⟨e58, ⟨trivial, ⟨e154, trivial, trivial⟩, ⟨e218, trivial, trivial⟩⟩, ⟨trivial, ⟨e186, trivial, trivial⟩, trivial⟩⟩⟩⟩, ⟨e14, ⟨e22, ⟨e38, trivial, ⟨e102, trivial, ⟨trivial, ⟨e358, trivial, trivial⟩, trivial⟩⟩⟩, ⟨e54, ⟨e86, ⟨e150, trivial, trivial⟩, trivial⟩, ⟨trivial, ⟨trivial, ⟨e310, trivial, trivial⟩, trivial⟩, ⟨e246, trivial, trivial⟩⟩⟩⟩, ⟨e30, ⟨e46, ⟨trivial, ⟨trivial, ⟨e270, trivial, trivial⟩, trivial⟩, ⟨e206, trivial, trivial⟩⟩, ⟨e110, ⟨trivial, ⟨e302, trivial, trivial⟩, trivial⟩, trivial⟩⟩, ⟨e62, ⟨e94, ⟨trivial, ⟨e286, trivial, trivial⟩, trivial⟩, ⟨e222, trivial, trivial⟩⟩, ⟨e126, ⟨e190, trivial, trivial⟩, trivial⟩⟩⟩⟩⟩⟩⟩
noncomputable def E0 : Env := ⟨tab.get, fun _ => none, cMethod Tryz.prog, cNilOk Tryz.prog⟩
theorem E0_ok (B : Nat) : EnvOK Tryz.prog B E0 := ⟨fun f k h => Tr.allP_get tab_ok f k h, rfl, rfl, fun f s h => by cases h⟩
theorem mixed : Tryz.prog.follows .mixedOrders = true := by kernel_rfl
end Go.Proofs.YtfmlefelbijogaaGreatDoor.Eng
