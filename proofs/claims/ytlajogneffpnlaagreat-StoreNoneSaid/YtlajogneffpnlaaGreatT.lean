/-
  What is printed of the functions is what the machine's compiler makes of the program's own code: for each function an equation that the kernel checks. No condition.
-/
import Derived.Test.YtlajogneffpnlaaGreatRows
import Derived.Test.YtlajogneffpnlaaGreatF
import Derived.Test.YtlajogneffpnlaaGreatS
namespace Go.Proofs.YtlajogneffpnlaaGreat.Eng
open Go Go.Eng
set_option linter.unusedVariables false
set_option maxRecDepth 100000

theorem e5 : fnOf Tryz.prog 5 = some k5 := by kernel_rfl
theorem e17 : fnOf Tryz.prog 17 = some k17 := by kernel_rfl
theorem e18 : fnOf Tryz.prog 18 = some k18 := by kernel_rfl
theorem e19 : fnOf Tryz.prog 19 = some k19 := by kernel_rfl
theorem e20 : fnOf Tryz.prog 20 = some k20 := by kernel_rfl
theorem e21 : fnOf Tryz.prog 21 = some k21 := by kernel_rfl
theorem e22 : fnOf Tryz.prog 22 = some k22 := by kernel_rfl
theorem e23 : fnOf Tryz.prog 23 = some k23 := by kernel_rfl
theorem e24 : fnOf Tryz.prog 24 = some k24 := by kernel_rfl
theorem e25 : fnOf Tryz.prog 25 = some k25 := by kernel_rfl
theorem e26 : fnOf Tryz.prog 26 = some k26 := by kernel_rfl
theorem e27 : fnOf Tryz.prog 27 = some k27 := by kernel_rfl
theorem e28 : fnOf Tryz.prog 28 = some k28 := by kernel_rfl
theorem e29 : fnOf Tryz.prog 29 = some k29 := by kernel_rfl
theorem e30 : fnOf Tryz.prog 30 = some k30 := by kernel_rfl
theorem e31 : fnOf Tryz.prog 31 = some k31 := by kernel_rfl
theorem e32 : fnOf Tryz.prog 32 = some k32 := by kernel_rfl
theorem e33 : fnOf Tryz.prog 33 = some k33 := by kernel_rfl
theorem e61 : fnOf Tryz.prog 61 = some k61 := by kernel_rfl
theorem e70 : fnOf Tryz.prog 70 = some k70 := by kernel_rfl
theorem e72 : fnOf Tryz.prog 72 = some k72 := by kernel_rfl
theorem e76 : fnOf Tryz.prog 76 = some k76 := by kernel_rfl
theorem e77 : fnOf Tryz.prog 77 = some k77 := by kernel_rfl
theorem e78 : fnOf Tryz.prog 78 = some k78 := by kernel_rfl
theorem e79 : fnOf Tryz.prog 79 = some k79 := by kernel_rfl
theorem e80 : fnOf Tryz.prog 80 = some k80 := by kernel_rfl
theorem e81 : fnOf Tryz.prog 81 = some k81 := by kernel_rfl
theorem e82 : fnOf Tryz.prog 82 = some k82 := by kernel_rfl
theorem e83 : fnOf Tryz.prog 83 = some k83 := by kernel_rfl
theorem e84 : fnOf Tryz.prog 84 = some k84 := by kernel_rfl
theorem e85 : fnOf Tryz.prog 85 = some k85 := by kernel_rfl
theorem e86 : fnOf Tryz.prog 86 = some k86 := by kernel_rfl
theorem e87 : fnOf Tryz.prog 87 = some k87 := by kernel_rfl
theorem e88 : fnOf Tryz.prog 88 = some k88 := by kernel_rfl
theorem e89 : fnOf Tryz.prog 89 = some k89 := by kernel_rfl
theorem e90 : fnOf Tryz.prog 90 = some k90 := by kernel_rfl
theorem e91 : fnOf Tryz.prog 91 = some k91 := by kernel_rfl
theorem e92 : fnOf Tryz.prog 92 = some k92 := by kernel_rfl
theorem e93 : fnOf Tryz.prog 93 = some k93 := by kernel_rfl
theorem e94 : fnOf Tryz.prog 94 = some k94 := by kernel_rfl
theorem e95 : fnOf Tryz.prog 95 = some k95 := by kernel_rfl
theorem e96 : fnOf Tryz.prog 96 = some k96 := by kernel_rfl
theorem e97 : fnOf Tryz.prog 97 = some k97 := by kernel_rfl
theorem e98 : fnOf Tryz.prog 98 = some k98 := by kernel_rfl
theorem e99 : fnOf Tryz.prog 99 = some k99 := by kernel_rfl
theorem e100 : fnOf Tryz.prog 100 = some k100 := by kernel_rfl
theorem e101 : fnOf Tryz.prog 101 = some k101 := by kernel_rfl
theorem e102 : fnOf Tryz.prog 102 = some k102 := by kernel_rfl
theorem e103 : fnOf Tryz.prog 103 = some k103 := by kernel_rfl
theorem e104 : fnOf Tryz.prog 104 = some k104 := by kernel_rfl
theorem e133 : fnOf Tryz.prog 133 = some k133 := by kernel_rfl
theorem e134 : fnOf Tryz.prog 134 = some k134 := by kernel_rfl
theorem e138 : fnOf Tryz.prog 138 = some k138 := by kernel_rfl
theorem e139 : fnOf Tryz.prog 139 = some k139 := by kernel_rfl
theorem e140 : fnOf Tryz.prog 140 = some k140 := by kernel_rfl
theorem e141 : fnOf Tryz.prog 141 = some k141 := by kernel_rfl
theorem e142 : fnOf Tryz.prog 142 = some k142 := by kernel_rfl
theorem e143 : fnOf Tryz.prog 143 = some k143 := by kernel_rfl
theorem e144 : fnOf Tryz.prog 144 = some k144 := by kernel_rfl
theorem e145 : fnOf Tryz.prog 145 = some k145 := by kernel_rfl
theorem e146 : fnOf Tryz.prog 146 = some k146 := by kernel_rfl
theorem e147 : fnOf Tryz.prog 147 = some k147 := by kernel_rfl
theorem e148 : fnOf Tryz.prog 148 = some k148 := by kernel_rfl
theorem e149 : fnOf Tryz.prog 149 = some k149 := by kernel_rfl
theorem e150 : fnOf Tryz.prog 150 = some k150 := by kernel_rfl
theorem e151 : fnOf Tryz.prog 151 = some k151 := by kernel_rfl
theorem e152 : fnOf Tryz.prog 152 = some k152 := by kernel_rfl
theorem e153 : fnOf Tryz.prog 153 = some k153 := by kernel_rfl
theorem e154 : fnOf Tryz.prog 154 = some k154 := by kernel_rfl
theorem e155 : fnOf Tryz.prog 155 = some k155 := by kernel_rfl
theorem e156 : fnOf Tryz.prog 156 = some k156 := by kernel_rfl
theorem e157 : fnOf Tryz.prog 157 = some k157 := by kernel_rfl
theorem e158 : fnOf Tryz.prog 158 = some k158 := by kernel_rfl
theorem e159 : fnOf Tryz.prog 159 = some k159 := by kernel_rfl
theorem e160 : fnOf Tryz.prog 160 = some k160 := by kernel_rfl
theorem e161 : fnOf Tryz.prog 161 = some k161 := by kernel_rfl
theorem e162 : fnOf Tryz.prog 162 = some k162 := by kernel_rfl
theorem e163 : fnOf Tryz.prog 163 = some k163 := by kernel_rfl
theorem e164 : fnOf Tryz.prog 164 = some k164 := by kernel_rfl
theorem e165 : fnOf Tryz.prog 165 = some k165 := by kernel_rfl
theorem e166 : fnOf Tryz.prog 166 = some k166 := by kernel_rfl
theorem e167 : fnOf Tryz.prog 167 = some k167 := by kernel_rfl
theorem e168 : fnOf Tryz.prog 168 = some k168 := by kernel_rfl
theorem e195 : fnOf Tryz.prog 195 = some k195 := by kernel_rfl
theorem e196 : fnOf Tryz.prog 196 = some k196 := by kernel_rfl
theorem e197 : fnOf Tryz.prog 197 = some k197 := by kernel_rfl
theorem e198 : fnOf Tryz.prog 198 = some k198 := by kernel_rfl
theorem e199 : fnOf Tryz.prog 199 = some k199 := by kernel_rfl
theorem e200 : fnOf Tryz.prog 200 = some k200 := by kernel_rfl
theorem e201 : fnOf Tryz.prog 201 = some k201 := by kernel_rfl
theorem e202 : fnOf Tryz.prog 202 = some k202 := by kernel_rfl
theorem e203 : fnOf Tryz.prog 203 = some k203 := by kernel_rfl
theorem e204 : fnOf Tryz.prog 204 = some k204 := by kernel_rfl
theorem e205 : fnOf Tryz.prog 205 = some k205 := by kernel_rfl
theorem e206 : fnOf Tryz.prog 206 = some k206 := by kernel_rfl
theorem e207 : fnOf Tryz.prog 207 = some k207 := by kernel_rfl
theorem e208 : fnOf Tryz.prog 208 = some k208 := by kernel_rfl
theorem e209 : fnOf Tryz.prog 209 = some k209 := by kernel_rfl
theorem e210 : fnOf Tryz.prog 210 = some k210 := by kernel_rfl
theorem e211 : fnOf Tryz.prog 211 = some k211 := by kernel_rfl
theorem e212 : fnOf Tryz.prog 212 = some k212 := by kernel_rfl
theorem e213 : fnOf Tryz.prog 213 = some k213 := by kernel_rfl
theorem e214 : fnOf Tryz.prog 214 = some k214 := by kernel_rfl
theorem e215 : fnOf Tryz.prog 215 = some k215 := by kernel_rfl
theorem e216 : fnOf Tryz.prog 216 = some k216 := by kernel_rfl
theorem e217 : fnOf Tryz.prog 217 = some k217 := by kernel_rfl
theorem e218 : fnOf Tryz.prog 218 = some k218 := by kernel_rfl
theorem e219 : fnOf Tryz.prog 219 = some k219 := by kernel_rfl
theorem e220 : fnOf Tryz.prog 220 = some k220 := by kernel_rfl
theorem e221 : fnOf Tryz.prog 221 = some k221 := by kernel_rfl
theorem e222 : fnOf Tryz.prog 222 = some k222 := by kernel_rfl
theorem e223 : fnOf Tryz.prog 223 = some k223 := by kernel_rfl
theorem e224 : fnOf Tryz.prog 224 = some k224 := by kernel_rfl
theorem e225 : fnOf Tryz.prog 225 = some k225 := by kernel_rfl
theorem e226 : fnOf Tryz.prog 226 = some k226 := by kernel_rfl
theorem e227 : fnOf Tryz.prog 227 = some k227 := by kernel_rfl
theorem e228 : fnOf Tryz.prog 228 = some k228 := by kernel_rfl
theorem e229 : fnOf Tryz.prog 229 = some k229 := by kernel_rfl
theorem e230 : fnOf Tryz.prog 230 = some k230 := by kernel_rfl
theorem e231 : fnOf Tryz.prog 231 = some k231 := by kernel_rfl
theorem e232 : fnOf Tryz.prog 232 = some k232 := by kernel_rfl
theorem e256 : fnOf Tryz.prog 256 = some k256 := by kernel_rfl
theorem e257 : fnOf Tryz.prog 257 = some k257 := by kernel_rfl
theorem e258 : fnOf Tryz.prog 258 = some k258 := by kernel_rfl
theorem e259 : fnOf Tryz.prog 259 = some k259 := by kernel_rfl
theorem e260 : fnOf Tryz.prog 260 = some k260 := by kernel_rfl
theorem e261 : fnOf Tryz.prog 261 = some k261 := by kernel_rfl
theorem e262 : fnOf Tryz.prog 262 = some k262 := by kernel_rfl
theorem e263 : fnOf Tryz.prog 263 = some k263 := by kernel_rfl
theorem e264 : fnOf Tryz.prog 264 = some k264 := by kernel_rfl
theorem e265 : fnOf Tryz.prog 265 = some k265 := by kernel_rfl
theorem e266 : fnOf Tryz.prog 266 = some k266 := by kernel_rfl
theorem e267 : fnOf Tryz.prog 267 = some k267 := by kernel_rfl
theorem e268 : fnOf Tryz.prog 268 = some k268 := by kernel_rfl
theorem e269 : fnOf Tryz.prog 269 = some k269 := by kernel_rfl
theorem e270 : fnOf Tryz.prog 270 = some k270 := by kernel_rfl
theorem e271 : fnOf Tryz.prog 271 = some k271 := by kernel_rfl
theorem e272 : fnOf Tryz.prog 272 = some k272 := by kernel_rfl
theorem e273 : fnOf Tryz.prog 273 = some k273 := by kernel_rfl
theorem e274 : fnOf Tryz.prog 274 = some k274 := by kernel_rfl
theorem e275 : fnOf Tryz.prog 275 = some k275 := by kernel_rfl
theorem e276 : fnOf Tryz.prog 276 = some k276 := by kernel_rfl
theorem e277 : fnOf Tryz.prog 277 = some k277 := by kernel_rfl
theorem e291 : fnOf Tryz.prog 291 = some k291 := by kernel_rfl
theorem e293 : fnOf Tryz.prog 293 = some k293 := by kernel_rfl
theorem e294 : fnOf Tryz.prog 294 = some k294 := by kernel_rfl
theorem e295 : fnOf Tryz.prog 295 = some k295 := by kernel_rfl
theorem e296 : fnOf Tryz.prog 296 = some k296 := by kernel_rfl
theorem e297 : fnOf Tryz.prog 297 = some k297 := by kernel_rfl
theorem e298 : fnOf Tryz.prog 298 = some k298 := by kernel_rfl
theorem e299 : fnOf Tryz.prog 299 = some k299 := by kernel_rfl
theorem e300 : fnOf Tryz.prog 300 = some k300 := by kernel_rfl
theorem e301 : fnOf Tryz.prog 301 = some k301 := by kernel_rfl
theorem e302 : fnOf Tryz.prog 302 = some k302 := by kernel_rfl
theorem e306 : fnOf Tryz.prog 306 = some k306 := by kernel_rfl
theorem e307 : fnOf Tryz.prog 307 = some k307 := by kernel_rfl
theorem e308 : fnOf Tryz.prog 308 = some k308 := by kernel_rfl
theorem e309 : fnOf Tryz.prog 309 = some k309 := by kernel_rfl
theorem e326 : fnOf Tryz.prog 326 = some k326 := by kernel_rfl
theorem e327 : fnOf Tryz.prog 327 = some k327 := by kernel_rfl

theorem tab_ok : Tr.allP (fun n k => fnOf Tryz.prog n = some k) tab (fun n => n) := ⟨trivial, ⟨trivial, ⟨trivial, ⟨trivial, ⟨trivial, ⟨e31, trivial, ⟨e95, ⟨e159, trivial, trivial⟩, ⟨e223, trivial, trivial⟩⟩⟩, ⟨trivial, ⟨e79, ⟨e143, ⟨e271, trivial, trivial⟩, trivial⟩, ⟨e207, trivial, trivial⟩⟩, trivial⟩⟩, ⟨e23, ⟨trivial, ⟨trivial, ⟨trivial, ⟨e263, trivial, trivial⟩, trivial⟩, ⟨e199, ⟨e327, trivial, trivial⟩, trivial⟩⟩, ⟨e103, ⟨e167, ⟨e295, trivial, trivial⟩, trivial⟩, ⟨e231, trivial, trivial⟩⟩⟩, ⟨trivial, ⟨e87, ⟨e151, trivial, trivial⟩, ⟨e215, trivial, trivial⟩⟩, trivial⟩⟩⟩, ⟨trivial, ⟨e19, ⟨trivial, ⟨trivial, ⟨trivial, ⟨e259, trivial, trivial⟩, trivial⟩, ⟨e195, trivial, trivial⟩⟩, ⟨e99, ⟨e163, ⟨e291, trivial, trivial⟩, trivial⟩, ⟨e227, trivial, trivial⟩⟩⟩, ⟨trivial, ⟨e83, ⟨e147, ⟨e275, trivial, trivial⟩, trivial⟩, ⟨e211, trivial, trivial⟩⟩, ⟨trivial, ⟨trivial, ⟨e307, trivial, trivial⟩, trivial⟩, trivial⟩⟩⟩, ⟨e27, ⟨trivial, ⟨trivial, ⟨e139, ⟨e267, trivial, trivial⟩, trivial⟩, ⟨e203, trivial, trivial⟩⟩, ⟨trivial, ⟨trivial, ⟨e299, trivial, trivial⟩, trivial⟩, trivial⟩⟩, ⟨trivial, ⟨e91, ⟨e155, trivial, trivial⟩, ⟨e219, trivial, trivial⟩⟩, trivial⟩⟩⟩⟩, ⟨e5, ⟨trivial, ⟨e17, ⟨e33, ⟨trivial, ⟨trivial, ⟨e257, trivial, trivial⟩, trivial⟩, trivial⟩, ⟨e97, ⟨e161, trivial, trivial⟩, ⟨e225, trivial, trivial⟩⟩⟩, ⟨trivial, ⟨e81, ⟨e145, ⟨e273, trivial, trivial⟩, trivial⟩, ⟨e209, trivial, trivial⟩⟩, trivial⟩⟩, ⟨e25, ⟨trivial, ⟨trivial, ⟨trivial, ⟨e265, trivial, trivial⟩, trivial⟩, ⟨e201, trivial, trivial⟩⟩, ⟨trivial, ⟨trivial, ⟨e297, trivial, trivial⟩, trivial⟩, trivial⟩⟩, ⟨trivial, ⟨e89, ⟨e153, trivial, trivial⟩, ⟨e217, trivial, trivial⟩⟩, trivial⟩⟩⟩, ⟨trivial, ⟨e21, ⟨trivial, ⟨trivial, ⟨e133, ⟨e261, trivial, trivial⟩, trivial⟩, ⟨e197, trivial, trivial⟩⟩, ⟨e101, ⟨e165, ⟨e293, trivial, trivial⟩, trivial⟩, ⟨e229, trivial, trivial⟩⟩⟩, ⟨trivial, ⟨e85, ⟨e149, ⟨e277, trivial, trivial⟩, trivial⟩, ⟨e213, trivial, trivial⟩⟩, ⟨trivial, ⟨trivial, ⟨e309, trivial, trivial⟩, trivial⟩, trivial⟩⟩⟩, ⟨e29, ⟨trivial, ⟨e77, ⟨e141, ⟨e269, trivial, trivial⟩, trivial⟩, ⟨e205, trivial, trivial⟩⟩, ⟨trivial, ⟨trivial, ⟨e301, trivial, trivial⟩, trivial⟩, trivial⟩⟩, ⟨e61, ⟨e93, ⟨e157, trivial, trivial⟩, ⟨e221, trivial, trivial⟩⟩, trivial⟩⟩⟩⟩⟩, ⟨trivial, ⟨trivial, ⟨trivial, ⟨trivial, ⟨e32, ⟨trivial, ⟨trivial, ⟨e256, trivial, trivial⟩, trivial⟩, trivial⟩, ⟨e96, ⟨e160, trivial, trivial⟩, ⟨e224, trivial, trivial⟩⟩⟩, ⟨trivial, ⟨e80, ⟨e144, ⟨e272, trivial, trivial⟩, trivial⟩, ⟨e208, trivial, trivial⟩⟩, trivial⟩⟩, ⟨e24, ⟨trivial, ⟨e72, ⟨trivial, ⟨e264, trivial, trivial⟩, trivial⟩, ⟨e200, trivial, trivial⟩⟩, ⟨e104, ⟨e168, ⟨e296, trivial, trivial⟩, trivial⟩, ⟨e232, trivial, trivial⟩⟩⟩, ⟨trivial, ⟨e88, ⟨e152, trivial, trivial⟩, ⟨e216, trivial, trivial⟩⟩, trivial⟩⟩⟩, ⟨trivial, ⟨e20, ⟨trivial, ⟨trivial, ⟨trivial, ⟨e260, trivial, trivial⟩, trivial⟩, ⟨e196, trivial, trivial⟩⟩, ⟨e100, ⟨e164, trivial, trivial⟩, ⟨e228, trivial, trivial⟩⟩⟩, ⟨trivial, ⟨e84, ⟨e148, ⟨e276, trivial, trivial⟩, trivial⟩, ⟨e212, trivial, trivial⟩⟩, ⟨trivial, ⟨trivial, ⟨e308, trivial, trivial⟩, trivial⟩, trivial⟩⟩⟩, ⟨e28, ⟨trivial, ⟨e76, ⟨e140, ⟨e268, trivial, trivial⟩, trivial⟩, ⟨e204, trivial, trivial⟩⟩, ⟨trivial, ⟨trivial, ⟨e300, trivial, trivial⟩, trivial⟩, trivial⟩⟩, ⟨trivial, ⟨e92, ⟨e156, trivial, trivial⟩, ⟨e220, trivial, trivial⟩⟩, trivial⟩⟩⟩⟩, ⟨trivial, ⟨trivial, ⟨e18, ⟨trivial, ⟨trivial, ⟨trivial, ⟨e258, trivial, trivial⟩, trivial⟩, trivial⟩, ⟨e98, ⟨e162, trivial, trivial⟩, ⟨e226, trivial, trivial⟩⟩⟩, ⟨trivial, ⟨e82, ⟨e146, ⟨e274, trivial, trivial⟩, trivial⟩, ⟨e210, trivial, trivial⟩⟩, ⟨trivial, ⟨trivial, ⟨e306, trivial, trivial⟩, trivial⟩, trivial⟩⟩⟩, ⟨e26, ⟨trivial, ⟨trivial, ⟨e138, ⟨e266, trivial, trivial⟩, trivial⟩, ⟨e202, trivial, trivial⟩⟩, ⟨trivial, ⟨trivial, ⟨e298, trivial, trivial⟩, trivial⟩, trivial⟩⟩, ⟨trivial, ⟨e90, ⟨e154, trivial, trivial⟩, ⟨e218, trivial, trivial⟩⟩, trivial⟩⟩⟩, ⟨trivial, ⟨e22, ⟨trivial, ⟨e70, ⟨e134, ⟨e262, trivial, trivial⟩, trivial⟩, ⟨e198, ⟨e326, trivial, trivial⟩, trivial⟩⟩, ⟨e102, ⟨e166, ⟨e294, trivial, trivial⟩, trivial⟩, ⟨e230, trivial, trivial⟩⟩⟩, ⟨trivial, ⟨e86, ⟨e150, trivial, trivial⟩, ⟨e214, trivial, trivial⟩⟩, trivial⟩⟩, ⟨e30, ⟨trivial, ⟨e78, ⟨e142, ⟨e270, trivial, trivial⟩, trivial⟩, ⟨e206, trivial, trivial⟩⟩, ⟨trivial, ⟨trivial, ⟨e302, trivial, trivial⟩, trivial⟩, trivial⟩⟩, ⟨trivial, ⟨e94, ⟨e158, trivial, trivial⟩, ⟨e222, trivial, trivial⟩⟩, trivial⟩⟩⟩⟩⟩⟩
noncomputable def E0 : Env := ⟨tab.get, fun _ => none, cMethod Tryz.prog, cNilOk Tryz.prog⟩
theorem E0_ok (B : Nat) : EnvOK Tryz.prog B E0 := ⟨fun f k h => Tr.allP_get tab_ok f k h, rfl, rfl, fun f s h => by cases h⟩
theorem mixed : Tryz.prog.follows .mixedOrders = true := by kernel_rfl
end Go.Proofs.YtlajogneffpnlaaGreat.Eng
