/-
  What is printed of the functions is what the machine's compiler makes of the program's own code: for each function an equation that the kernel checks. No condition.
-/
import Derived.Test.YtlajogneffpnlaaGreatRows
import Derived.Test.YtlajogneffpnlaaGreatF
import Derived.Test.YtlajogneffpnlaaGreatS
namespace Go.Proofs.YtlajogneffpnlaaGreat.Eng
open Go Go.Eng
set_option linter.unusedVariables false
set_option maxRecDepth 100000

theorem e3 : fnOf Tryz.prog 3 = some k3 := by kernel_rfl
theorem e10 : fnOf Tryz.prog 10 = some k10 := by kernel_rfl
theorem e11 : fnOf Tryz.prog 11 = some k11 := by kernel_rfl
theorem e12 : fnOf Tryz.prog 12 = some k12 := by kernel_rfl
theorem e13 : fnOf Tryz.prog 13 = some k13 := by kernel_rfl
theorem e14 : fnOf Tryz.prog 14 = some k14 := by kernel_rfl
theorem e15 : fnOf Tryz.prog 15 = some k15 := by kernel_rfl
theorem e16 : fnOf Tryz.prog 16 = some k16 := by kernel_rfl
theorem e20 : fnOf Tryz.prog 20 = some k20 := by kernel_rfl
theorem e23 : fnOf Tryz.prog 23 = some k23 := by kernel_rfl
theorem e26 : fnOf Tryz.prog 26 = some k26 := by kernel_rfl
theorem e28 : fnOf Tryz.prog 28 = some k28 := by kernel_rfl
theorem e30 : fnOf Tryz.prog 30 = some k30 := by kernel_rfl
theorem e61 : fnOf Tryz.prog 61 = some k61 := by kernel_rfl
theorem e62 : fnOf Tryz.prog 62 = some k62 := by kernel_rfl
theorem e63 : fnOf Tryz.prog 63 = some k63 := by kernel_rfl
theorem e64 : fnOf Tryz.prog 64 = some k64 := by kernel_rfl
theorem e65 : fnOf Tryz.prog 65 = some k65 := by kernel_rfl
theorem e66 : fnOf Tryz.prog 66 = some k66 := by kernel_rfl
theorem e67 : fnOf Tryz.prog 67 = some k67 := by kernel_rfl
theorem e68 : fnOf Tryz.prog 68 = some k68 := by kernel_rfl
theorem e69 : fnOf Tryz.prog 69 = some k69 := by kernel_rfl
theorem e70 : fnOf Tryz.prog 70 = some k70 := by kernel_rfl
theorem e71 : fnOf Tryz.prog 71 = some k71 := by kernel_rfl
theorem e72 : fnOf Tryz.prog 72 = some k72 := by kernel_rfl
theorem e73 : fnOf Tryz.prog 73 = some k73 := by kernel_rfl
theorem e74 : fnOf Tryz.prog 74 = some k74 := by kernel_rfl
theorem e75 : fnOf Tryz.prog 75 = some k75 := by kernel_rfl
theorem e76 : fnOf Tryz.prog 76 = some k76 := by kernel_rfl
theorem e77 : fnOf Tryz.prog 77 = some k77 := by kernel_rfl
theorem e78 : fnOf Tryz.prog 78 = some k78 := by kernel_rfl
theorem e79 : fnOf Tryz.prog 79 = some k79 := by kernel_rfl
theorem e81 : fnOf Tryz.prog 81 = some k81 := by kernel_rfl
theorem e82 : fnOf Tryz.prog 82 = some k82 := by kernel_rfl
theorem e85 : fnOf Tryz.prog 85 = some k85 := by kernel_rfl
theorem e86 : fnOf Tryz.prog 86 = some k86 := by kernel_rfl
theorem e87 : fnOf Tryz.prog 87 = some k87 := by kernel_rfl
theorem e88 : fnOf Tryz.prog 88 = some k88 := by kernel_rfl
theorem e89 : fnOf Tryz.prog 89 = some k89 := by kernel_rfl
theorem e90 : fnOf Tryz.prog 90 = some k90 := by kernel_rfl
theorem e91 : fnOf Tryz.prog 91 = some k91 := by kernel_rfl
theorem e92 : fnOf Tryz.prog 92 = some k92 := by kernel_rfl
theorem e93 : fnOf Tryz.prog 93 = some k93 := by kernel_rfl
theorem e96 : fnOf Tryz.prog 96 = some k96 := by kernel_rfl
theorem e97 : fnOf Tryz.prog 97 = some k97 := by kernel_rfl
theorem e99 : fnOf Tryz.prog 99 = some k99 := by kernel_rfl
theorem e100 : fnOf Tryz.prog 100 = some k100 := by kernel_rfl
theorem e103 : fnOf Tryz.prog 103 = some k103 := by kernel_rfl
theorem e104 : fnOf Tryz.prog 104 = some k104 := by kernel_rfl
theorem e127 : fnOf Tryz.prog 127 = some k127 := by kernel_rfl
theorem e128 : fnOf Tryz.prog 128 = some k128 := by kernel_rfl
theorem e129 : fnOf Tryz.prog 129 = some k129 := by kernel_rfl
theorem e130 : fnOf Tryz.prog 130 = some k130 := by kernel_rfl
theorem e131 : fnOf Tryz.prog 131 = some k131 := by kernel_rfl
theorem e132 : fnOf Tryz.prog 132 = some k132 := by kernel_rfl
theorem e133 : fnOf Tryz.prog 133 = some k133 := by kernel_rfl
theorem e134 : fnOf Tryz.prog 134 = some k134 := by kernel_rfl
theorem e136 : fnOf Tryz.prog 136 = some k136 := by kernel_rfl
theorem e137 : fnOf Tryz.prog 137 = some k137 := by kernel_rfl
theorem e138 : fnOf Tryz.prog 138 = some k138 := by kernel_rfl
theorem e139 : fnOf Tryz.prog 139 = some k139 := by kernel_rfl
theorem e140 : fnOf Tryz.prog 140 = some k140 := by kernel_rfl
theorem e141 : fnOf Tryz.prog 141 = some k141 := by kernel_rfl
theorem e142 : fnOf Tryz.prog 142 = some k142 := by kernel_rfl
theorem e143 : fnOf Tryz.prog 143 = some k143 := by kernel_rfl
theorem e144 : fnOf Tryz.prog 144 = some k144 := by kernel_rfl
theorem e145 : fnOf Tryz.prog 145 = some k145 := by kernel_rfl
theorem e150 : fnOf Tryz.prog 150 = some k150 := by kernel_rfl
theorem e151 : fnOf Tryz.prog 151 = some k151 := by kernel_rfl
theorem e152 : fnOf Tryz.prog 152 = some k152 := by kernel_rfl
theorem e153 : fnOf Tryz.prog 153 = some k153 := by kernel_rfl
theorem e154 : fnOf Tryz.prog 154 = some k154 := by kernel_rfl
theorem e155 : fnOf Tryz.prog 155 = some k155 := by kernel_rfl
theorem e156 : fnOf Tryz.prog 156 = some k156 := by kernel_rfl
theorem e157 : fnOf Tryz.prog 157 = some k157 := by kernel_rfl
theorem e158 : fnOf Tryz.prog 158 = some k158 := by kernel_rfl
theorem e159 : fnOf Tryz.prog 159 = some k159 := by kernel_rfl
theorem e160 : fnOf Tryz.prog 160 = some k160 := by kernel_rfl
theorem e161 : fnOf Tryz.prog 161 = some k161 := by kernel_rfl
theorem e162 : fnOf Tryz.prog 162 = some k162 := by kernel_rfl
theorem e163 : fnOf Tryz.prog 163 = some k163 := by kernel_rfl
theorem e164 : fnOf Tryz.prog 164 = some k164 := by kernel_rfl
theorem e165 : fnOf Tryz.prog 165 = some k165 := by kernel_rfl
theorem e166 : fnOf Tryz.prog 166 = some k166 := by kernel_rfl
theorem e183 : fnOf Tryz.prog 183 = some k183 := by kernel_rfl
theorem e191 : fnOf Tryz.prog 191 = some k191 := by kernel_rfl
theorem e192 : fnOf Tryz.prog 192 = some k192 := by kernel_rfl
theorem e193 : fnOf Tryz.prog 193 = some k193 := by kernel_rfl
theorem e194 : fnOf Tryz.prog 194 = some k194 := by kernel_rfl
theorem e195 : fnOf Tryz.prog 195 = some k195 := by kernel_rfl
theorem e196 : fnOf Tryz.prog 196 = some k196 := by kernel_rfl
theorem e197 : fnOf Tryz.prog 197 = some k197 := by kernel_rfl
theorem e198 : fnOf Tryz.prog 198 = some k198 := by kernel_rfl
theorem e199 : fnOf Tryz.prog 199 = some k199 := by kernel_rfl
theorem e200 : fnOf Tryz.prog 200 = some k200 := by kernel_rfl
theorem e201 : fnOf Tryz.prog 201 = some k201 := by kernel_rfl
theorem e202 : fnOf Tryz.prog 202 = some k202 := by kernel_rfl
theorem e203 : fnOf Tryz.prog 203 = some k203 := by kernel_rfl
theorem e204 : fnOf Tryz.prog 204 = some k204 := by kernel_rfl
theorem e205 : fnOf Tryz.prog 205 = some k205 := by kernel_rfl
theorem e206 : fnOf Tryz.prog 206 = some k206 := by kernel_rfl
theorem e207 : fnOf Tryz.prog 207 = some k207 := by kernel_rfl
theorem e208 : fnOf Tryz.prog 208 = some k208 := by kernel_rfl
theorem e209 : fnOf Tryz.prog 209 = some k209 := by kernel_rfl
theorem e210 : fnOf Tryz.prog 210 = some k210 := by kernel_rfl
theorem e218 : fnOf Tryz.prog 218 = some k218 := by kernel_rfl
theorem e219 : fnOf Tryz.prog 219 = some k219 := by kernel_rfl
theorem e220 : fnOf Tryz.prog 220 = some k220 := by kernel_rfl
theorem e221 : fnOf Tryz.prog 221 = some k221 := by kernel_rfl
theorem e222 : fnOf Tryz.prog 222 = some k222 := by kernel_rfl
theorem e223 : fnOf Tryz.prog 223 = some k223 := by kernel_rfl
theorem e224 : fnOf Tryz.prog 224 = some k224 := by kernel_rfl
theorem e225 : fnOf Tryz.prog 225 = some k225 := by kernel_rfl
theorem e226 : fnOf Tryz.prog 226 = some k226 := by kernel_rfl
theorem e227 : fnOf Tryz.prog 227 = some k227 := by kernel_rfl
theorem e228 : fnOf Tryz.prog 228 = some k228 := by kernel_rfl
theorem e229 : fnOf Tryz.prog 229 = some k229 := by kernel_rfl
theorem e230 : fnOf Tryz.prog 230 = some k230 := by kernel_rfl
theorem e231 : fnOf Tryz.prog 231 = some k231 := by kernel_rfl
theorem e254 : fnOf Tryz.prog 254 = some k254 := by kernel_rfl
theorem e255 : fnOf Tryz.prog 255 = some k255 := by kernel_rfl
theorem e256 : fnOf Tryz.prog 256 = some k256 := by kernel_rfl
theorem e257 : fnOf Tryz.prog 257 = some k257 := by kernel_rfl
theorem e258 : fnOf Tryz.prog 258 = some k258 := by kernel_rfl
theorem e259 : fnOf Tryz.prog 259 = some k259 := by kernel_rfl
theorem e260 : fnOf Tryz.prog 260 = some k260 := by kernel_rfl
theorem e261 : fnOf Tryz.prog 261 = some k261 := by kernel_rfl
theorem e262 : fnOf Tryz.prog 262 = some k262 := by kernel_rfl
theorem e263 : fnOf Tryz.prog 263 = some k263 := by kernel_rfl
theorem e264 : fnOf Tryz.prog 264 = some k264 := by kernel_rfl
theorem e269 : fnOf Tryz.prog 269 = some k269 := by kernel_rfl
theorem e271 : fnOf Tryz.prog 271 = some k271 := by kernel_rfl
theorem e272 : fnOf Tryz.prog 272 = some k272 := by kernel_rfl
theorem e273 : fnOf Tryz.prog 273 = some k273 := by kernel_rfl
theorem e274 : fnOf Tryz.prog 274 = some k274 := by kernel_rfl
theorem e275 : fnOf Tryz.prog 275 = some k275 := by kernel_rfl
theorem e276 : fnOf Tryz.prog 276 = some k276 := by kernel_rfl
theorem e277 : fnOf Tryz.prog 277 = some k277 := by kernel_rfl
theorem e290 : fnOf Tryz.prog 290 = some k290 := by kernel_rfl
theorem e291 : fnOf Tryz.prog 291 = some k291 := by kernel_rfl
theorem e293 : fnOf Tryz.prog 293 = some k293 := by kernel_rfl
theorem e294 : fnOf Tryz.prog 294 = some k294 := by kernel_rfl
theorem e295 : fnOf Tryz.prog 295 = some k295 := by kernel_rfl
theorem e296 : fnOf Tryz.prog 296 = some k296 := by kernel_rfl
theorem e297 : fnOf Tryz.prog 297 = some k297 := by kernel_rfl
theorem e298 : fnOf Tryz.prog 298 = some k298 := by kernel_rfl
theorem e299 : fnOf Tryz.prog 299 = some k299 := by kernel_rfl
theorem e300 : fnOf Tryz.prog 300 = some k300 := by kernel_rfl
theorem e301 : fnOf Tryz.prog 301 = some k301 := by kernel_rfl
theorem e302 : fnOf Tryz.prog 302 = some k302 := by kernel_rfl
theorem e306 : fnOf Tryz.prog 306 = some k306 := by kernel_rfl
theorem e307 : fnOf Tryz.prog 307 = some k307 := by kernel_rfl
theorem e308 : fnOf Tryz.prog 308 = some k308 := by kernel_rfl
theorem e309 : fnOf Tryz.prog 309 = some k309 := by kernel_rfl
theorem e326 : fnOf Tryz.prog 326 = some k326 := by kernel_rfl
theorem e327 : fnOf Tryz.prog 327 = some k327 := by kernel_rfl

theorem tab_ok : Tr.allP (fun n k => fnOf Tryz.prog n = some k) tab (fun n => n) := ⟨trivial, ⟨trivial, ⟨e3, ⟨trivial, ⟨e15, ⟨trivial, ⟨e63, ⟨e127, ⟨e255, trivial, trivial⟩, trivial⟩, ⟨e191, trivial, trivial⟩⟩, ⟨trivial, ⟨e159, trivial, trivial⟩, ⟨e223, trivial, trivial⟩⟩⟩, ⟨trivial, ⟨e79, ⟨e143, ⟨e271, trivial, trivial⟩, trivial⟩, ⟨e207, trivial, trivial⟩⟩, trivial⟩⟩, ⟨e23, ⟨trivial, ⟨e71, ⟨trivial, ⟨e263, trivial, trivial⟩, trivial⟩, ⟨e199, ⟨e327, trivial, trivial⟩, trivial⟩⟩, ⟨e103, ⟨trivial, ⟨e295, trivial, trivial⟩, trivial⟩, ⟨e231, trivial, trivial⟩⟩⟩, ⟨trivial, ⟨e87, ⟨e151, trivial, trivial⟩, trivial⟩, ⟨trivial, ⟨e183, trivial, trivial⟩, trivial⟩⟩⟩⟩, ⟨e11, ⟨trivial, ⟨trivial, ⟨e67, ⟨e131, ⟨e259, trivial, trivial⟩, trivial⟩, ⟨e195, trivial, trivial⟩⟩, ⟨e99, ⟨e163, ⟨e291, trivial, trivial⟩, trivial⟩, ⟨e227, trivial, trivial⟩⟩⟩, ⟨trivial, ⟨trivial, ⟨trivial, ⟨e275, trivial, trivial⟩, trivial⟩, trivial⟩, ⟨trivial, ⟨trivial, ⟨e307, trivial, trivial⟩, trivial⟩, trivial⟩⟩⟩, ⟨trivial, ⟨trivial, ⟨e75, ⟨e139, trivial, trivial⟩, ⟨e203, trivial, trivial⟩⟩, ⟨trivial, ⟨trivial, ⟨e299, trivial, trivial⟩, trivial⟩, trivial⟩⟩, ⟨trivial, ⟨e91, ⟨e155, trivial, trivial⟩, ⟨e219, trivial, trivial⟩⟩, trivial⟩⟩⟩⟩, ⟨trivial, ⟨trivial, ⟨trivial, ⟨trivial, ⟨e65, ⟨e129, ⟨e257, trivial, trivial⟩, trivial⟩, ⟨e193, trivial, trivial⟩⟩, ⟨e97, ⟨e161, trivial, trivial⟩, ⟨e225, trivial, trivial⟩⟩⟩, ⟨trivial, ⟨e81, ⟨e145, ⟨e273, trivial, trivial⟩, trivial⟩, ⟨e209, trivial, trivial⟩⟩, trivial⟩⟩, ⟨trivial, ⟨trivial, ⟨e73, ⟨e137, trivial, trivial⟩, ⟨e201, trivial, trivial⟩⟩, ⟨trivial, ⟨trivial, ⟨e297, trivial, trivial⟩, trivial⟩, trivial⟩⟩, ⟨trivial, ⟨e89, ⟨e153, trivial, trivial⟩, trivial⟩, trivial⟩⟩⟩, ⟨e13, ⟨trivial, ⟨trivial, ⟨e69, ⟨e133, ⟨e261, trivial, trivial⟩, trivial⟩, ⟨e197, trivial, trivial⟩⟩, ⟨trivial, ⟨e165, ⟨e293, trivial, trivial⟩, trivial⟩, ⟨e229, trivial, trivial⟩⟩⟩, ⟨trivial, ⟨e85, ⟨trivial, ⟨e277, trivial, trivial⟩, trivial⟩, trivial⟩, ⟨trivial, ⟨trivial, ⟨e309, trivial, trivial⟩, trivial⟩, trivial⟩⟩⟩, ⟨trivial, ⟨trivial, ⟨e77, ⟨e141, ⟨e269, trivial, trivial⟩, trivial⟩, ⟨e205, trivial, trivial⟩⟩, ⟨trivial, ⟨trivial, ⟨e301, trivial, trivial⟩, trivial⟩, trivial⟩⟩, ⟨e61, ⟨e93, ⟨e157, trivial, trivial⟩, ⟨e221, trivial, trivial⟩⟩, trivial⟩⟩⟩⟩⟩, ⟨trivial, ⟨trivial, ⟨trivial, ⟨e16, ⟨trivial, ⟨e64, ⟨e128, ⟨e256, trivial, trivial⟩, trivial⟩, ⟨e192, trivial, trivial⟩⟩, ⟨e96, ⟨e160, trivial, trivial⟩, ⟨e224, trivial, trivial⟩⟩⟩, ⟨trivial, ⟨trivial, ⟨e144, ⟨e272, trivial, trivial⟩, trivial⟩, ⟨e208, trivial, trivial⟩⟩, trivial⟩⟩, ⟨trivial, ⟨trivial, ⟨e72, ⟨e136, ⟨e264, trivial, trivial⟩, trivial⟩, ⟨e200, trivial, trivial⟩⟩, ⟨e104, ⟨trivial, ⟨e296, trivial, trivial⟩, trivial⟩, trivial⟩⟩, ⟨trivial, ⟨e88, ⟨e152, trivial, trivial⟩, trivial⟩, trivial⟩⟩⟩, ⟨e12, ⟨e20, ⟨trivial, ⟨e68, ⟨e132, ⟨e260, trivial, trivial⟩, trivial⟩, ⟨e196, trivial, trivial⟩⟩, ⟨e100, ⟨e164, trivial, trivial⟩, ⟨e228, trivial, trivial⟩⟩⟩, ⟨trivial, ⟨trivial, ⟨trivial, ⟨e276, trivial, trivial⟩, trivial⟩, trivial⟩, ⟨trivial, ⟨trivial, ⟨e308, trivial, trivial⟩, trivial⟩, trivial⟩⟩⟩, ⟨e28, ⟨trivial, ⟨e76, ⟨e140, trivial, trivial⟩, ⟨e204, trivial, trivial⟩⟩, ⟨trivial, ⟨trivial, ⟨e300, trivial, trivial⟩, trivial⟩, trivial⟩⟩, ⟨trivial, ⟨e92, ⟨e156, trivial, trivial⟩, ⟨e220, trivial, trivial⟩⟩, trivial⟩⟩⟩⟩, ⟨trivial, ⟨e10, ⟨trivial, ⟨trivial, ⟨e66, ⟨e130, ⟨e258, trivial, trivial⟩, trivial⟩, ⟨e194, trivial, trivial⟩⟩, ⟨trivial, ⟨e162, ⟨e290, trivial, trivial⟩, trivial⟩, ⟨e226, trivial, trivial⟩⟩⟩, ⟨trivial, ⟨e82, ⟨trivial, ⟨e274, trivial, trivial⟩, trivial⟩, ⟨e210, trivial, trivial⟩⟩, ⟨trivial, ⟨trivial, ⟨e306, trivial, trivial⟩, trivial⟩, trivial⟩⟩⟩, ⟨e26, ⟨trivial, ⟨e74, ⟨e138, trivial, trivial⟩, ⟨e202, trivial, trivial⟩⟩, ⟨trivial, ⟨trivial, ⟨e298, trivial, trivial⟩, trivial⟩, trivial⟩⟩, ⟨trivial, ⟨e90, ⟨e154, trivial, trivial⟩, ⟨e218, trivial, trivial⟩⟩, trivial⟩⟩⟩, ⟨e14, ⟨trivial, ⟨trivial, ⟨e70, ⟨e134, ⟨e262, trivial, trivial⟩, trivial⟩, ⟨e198, ⟨e326, trivial, trivial⟩, trivial⟩⟩, ⟨trivial, ⟨e166, ⟨e294, trivial, trivial⟩, trivial⟩, ⟨e230, trivial, trivial⟩⟩⟩, ⟨trivial, ⟨e86, ⟨e150, trivial, trivial⟩, trivial⟩, trivial⟩⟩, ⟨e30, ⟨trivial, ⟨e78, ⟨e142, trivial, trivial⟩, ⟨e206, trivial, trivial⟩⟩, ⟨trivial, ⟨trivial, ⟨e302, trivial, trivial⟩, trivial⟩, trivial⟩⟩, ⟨e62, ⟨trivial, ⟨e158, trivial, trivial⟩, ⟨e222, trivial, trivial⟩⟩, ⟨trivial, trivial, ⟨e254, trivial, trivial⟩⟩⟩⟩⟩⟩⟩⟩
noncomputable def E0 : Env := ⟨tab.get, fun _ => none, cMethod Tryz.prog, cNilOk Tryz.prog⟩
theorem E0_ok (B : Nat) : EnvOK Tryz.prog B E0 := ⟨fun f k h => Tr.allP_get tab_ok f k h, rfl, rfl, fun f s h => by cases h⟩
theorem mixed : Tryz.prog.follows .mixedOrders = true := by kernel_rfl
end Go.Proofs.YtlajogneffpnlaaGreat.Eng
