/-
  What is printed of the functions is what the machine's compiler makes of the program's own code: for each function an equation that the kernel checks. No condition.
-/
import Derived.Test.YtmngpfjhbekbcaaGreatRows
import Derived.Test.YtmngpfjhbekbcaaGreatK2
set_option linter.unusedVariables false
set_option linter.unusedSimpArgs false
set_option linter.unusedSectionVars false
noncomputable section
namespace Sp
open Go Go.Eng Go.Proofs
set_option maxRecDepth 100000
theorem e4 : XN Tryz.prog 4 = some k_retconlaw21_SegApart := by kernel_rfl
theorem e6 : XN Tryz.prog 6 = some Xaf := by kernel_rfl
theorem e7 : XN Tryz.prog 7 = some VR := by kernel_rfl
theorem e8 : XN Tryz.prog 8 = some Up := by kernel_rfl
theorem e11 : XN Tryz.prog 11 = some XeG := by kernel_rfl
theorem e12 : XN Tryz.prog 12 = some k_seg_Splice := by kernel_rfl
theorem e13 : XN Tryz.prog 13 = some Vj := by kernel_rfl
theorem e14 : XN Tryz.prog 14 = some Xdt := by kernel_rfl
theorem e15 : XN Tryz.prog 15 = some Wq := by kernel_rfl
theorem e16 : XN Tryz.prog 16 = some XgZ := by kernel_rfl
theorem e17 : XN Tryz.prog 17 = some k_seg_Len := by kernel_rfl
theorem e18 : XN Tryz.prog 18 = some k_seg_Pages := by kernel_rfl
theorem e20 : XN Tryz.prog 20 = some XcT := by kernel_rfl
theorem e22 : XN Tryz.prog 22 = some k_seg_At := by kernel_rfl
theorem e23 : XN Tryz.prog 23 = some XcV := by kernel_rfl
theorem e24 : XN Tryz.prog 24 = some Xg0 := by kernel_rfl
theorem e25 : XN Tryz.prog 25 = some Xdu := by kernel_rfl
theorem e26 : XN Tryz.prog 26 = some VS := by kernel_rfl
theorem e27 : XN Tryz.prog 27 = some Vm := by kernel_rfl
theorem e28 : XN Tryz.prog 28 = some Xg3 := by kernel_rfl
theorem e29 : XN Tryz.prog 29 = some YB := by kernel_rfl
theorem e30 : XN Tryz.prog 30 = some Xbk := by kernel_rfl
theorem e31 : XN Tryz.prog 31 = some Ju := by kernel_rfl
theorem e32 : XN Tryz.prog 32 = some Xbl := by kernel_rfl
theorem e33 : XN Tryz.prog 33 = some Xg4 := by kernel_rfl
theorem e34 : XN Tryz.prog 34 = some k_seg_lay := by kernel_rfl
theorem e35 : XN Tryz.prog 35 = some VL := by kernel_rfl
theorem e36 : XN Tryz.prog 36 = some Xdw := by kernel_rfl
theorem e37 : XN Tryz.prog 37 = some Vg := by kernel_rfl
theorem e40 : XN Tryz.prog 40 = some Vn := by kernel_rfl
theorem e45 : XN Tryz.prog 45 = some XeI := by kernel_rfl
theorem e46 : XN Tryz.prog 46 = some Jv := by kernel_rfl
theorem e47 : XN Tryz.prog 47 = some Kn := by kernel_rfl
theorem e48 : XN Tryz.prog 48 = some Xbm := by kernel_rfl
theorem e49 : XN Tryz.prog 49 = some Xdx := by kernel_rfl
theorem e52 : XN Tryz.prog 52 = some Wt := by kernel_rfl
theorem e55 : XN Tryz.prog 55 = some WX := by kernel_rfl
theorem e56 : XN Tryz.prog 56 = some Uq := by kernel_rfl
theorem e57 : XN Tryz.prog 57 = some WY := by kernel_rfl
theorem e58 : XN Tryz.prog 58 = some ZS := by kernel_rfl
theorem e59 : XN Tryz.prog 59 = some YK := by kernel_rfl
theorem e60 : XN Tryz.prog 60 = some Xg7 := by kernel_rfl
theorem e61 : XN Tryz.prog 61 = some Xg8 := by kernel_rfl
theorem e62 : XN Tryz.prog 62 = some Vo := by kernel_rfl
theorem e63 : XN Tryz.prog 63 = some Ur := by kernel_rfl
theorem e64 : XN Tryz.prog 64 = some Xav := by kernel_rfl
theorem e65 : XN Tryz.prog 65 = some VT := by kernel_rfl
theorem e66 : XN Tryz.prog 66 = some XeJ := by kernel_rfl
theorem e67 : XN Tryz.prog 67 = some Us := by kernel_rfl
theorem e68 : XN Tryz.prog 68 = some Xaw := by kernel_rfl
theorem e69 : XN Tryz.prog 69 = some VG := by kernel_rfl
theorem e70 : XN Tryz.prog 70 = some XhI := by kernel_rfl
theorem e72 : XN Tryz.prog 72 = some VU := by kernel_rfl
theorem e75 : XN Tryz.prog 75 = some XcX := by kernel_rfl
theorem e76 : XN Tryz.prog 76 = some XaR := by kernel_rfl
theorem e77 : XN Tryz.prog 77 = some Ut := by kernel_rfl
theorem e78 : XN Tryz.prog 78 = some Jx := by kernel_rfl
theorem e79 : XN Tryz.prog 79 = some Xbn := by kernel_rfl
theorem e80 : XN Tryz.prog 80 = some Jy := by kernel_rfl
theorem e81 : XN Tryz.prog 81 = some Jz := by kernel_rfl
theorem e82 : XN Tryz.prog 82 = some Xbo := by kernel_rfl
theorem e83 : XN Tryz.prog 83 = some ZF := by kernel_rfl
theorem e84 : XN Tryz.prog 84 = some XeK := by kernel_rfl
theorem e85 : XN Tryz.prog 85 = some Vr := by kernel_rfl
theorem e86 : XN Tryz.prog 86 = some JA := by kernel_rfl
theorem e87 : XN Tryz.prog 87 = some Uu := by kernel_rfl
theorem e88 : XN Tryz.prog 88 = some Vs := by kernel_rfl
theorem e89 : XN Tryz.prog 89 = some Uv := by kernel_rfl
theorem e91 : XN Tryz.prog 91 = some VW := by kernel_rfl
theorem e92 : XN Tryz.prog 92 = some VX := by kernel_rfl
theorem e93 : XN Tryz.prog 93 = some Wu := by kernel_rfl
theorem e94 : XN Tryz.prog 94 = some ZT := by kernel_rfl
theorem e95 : XN Tryz.prog 95 = some Vt := by kernel_rfl
theorem e96 : XN Tryz.prog 96 = some Vu := by kernel_rfl
theorem e97 : XN Tryz.prog 97 = some Uw := by kernel_rfl
theorem e98 : XN Tryz.prog 98 = some JB := by kernel_rfl
theorem e99 : XN Tryz.prog 99 = some Xdz := by kernel_rfl
theorem e100 : XN Tryz.prog 100 = some WZ := by kernel_rfl
theorem e101 : XN Tryz.prog 101 = some Vv := by kernel_rfl
theorem e102 : XN Tryz.prog 102 = some Xhd := by kernel_rfl
theorem e103 : XN Tryz.prog 103 = some Ux := by kernel_rfl
theorem e104 : XN Tryz.prog 104 = some VY := by kernel_rfl
theorem e105 : XN Tryz.prog 105 = some JC := by kernel_rfl
theorem e106 : XN Tryz.prog 106 = some Uy := by kernel_rfl
theorem e107 : XN Tryz.prog 107 = some ZU := by kernel_rfl
theorem e108 : XN Tryz.prog 108 = some Ko := by kernel_rfl
theorem e109 : XN Tryz.prog 109 = some JD := by kernel_rfl
theorem e110 : XN Tryz.prog 110 = some Kp := by kernel_rfl
theorem e111 : XN Tryz.prog 111 = some JE := by kernel_rfl
theorem e112 : XN Tryz.prog 112 = some Z1 := by kernel_rfl
theorem e121 : XN Tryz.prog 121 = some XeM := by kernel_rfl
theorem e123 : XN Tryz.prog 123 = some Xax := by kernel_rfl
theorem e124 : XN Tryz.prog 124 = some Uz := by kernel_rfl
theorem e125 : XN Tryz.prog 125 = some Wv := by kernel_rfl
theorem e126 : XN Tryz.prog 126 = some W0 := by kernel_rfl
theorem e127 : XN Tryz.prog 127 = some V0 := by kernel_rfl
theorem e128 : XN Tryz.prog 128 = some V1 := by kernel_rfl
theorem e129 : XN Tryz.prog 129 = some Vw := by kernel_rfl
theorem e130 : XN Tryz.prog 130 = some JF := by kernel_rfl
theorem e131 : XN Tryz.prog 131 = some V2 := by kernel_rfl
theorem e134 : XN Tryz.prog 134 = some ZG := by kernel_rfl
theorem e135 : XN Tryz.prog 135 = some Zf := by kernel_rfl
theorem e136 : XN Tryz.prog 136 = some ZH := by kernel_rfl
theorem e137 : XN Tryz.prog 137 = some Wc := by kernel_rfl
theorem e138 : XN Tryz.prog 138 = some W1 := by kernel_rfl
theorem e139 : XN Tryz.prog 139 = some JG := by kernel_rfl
theorem e140 : XN Tryz.prog 140 = some W2 := by kernel_rfl
theorem e141 : XN Tryz.prog 141 = some UA := by kernel_rfl
theorem e142 : XN Tryz.prog 142 = some ZV := by kernel_rfl
theorem e143 : XN Tryz.prog 143 = some Yc := by kernel_rfl
theorem e144 : XN Tryz.prog 144 = some V3 := by kernel_rfl
theorem e145 : XN Tryz.prog 145 = some XeN := by kernel_rfl
theorem e146 : XN Tryz.prog 146 = some XdA := by kernel_rfl
theorem e147 : XN Tryz.prog 147 = some W3 := by kernel_rfl
theorem e148 : XN Tryz.prog 148 = some V4 := by kernel_rfl
theorem e150 : XN Tryz.prog 150 = some V5 := by kernel_rfl
theorem e158 : XN Tryz.prog 158 = some Vx := by kernel_rfl
theorem e162 : XN Tryz.prog 162 = some W4 := by kernel_rfl
theorem e163 : XN Tryz.prog 163 = some W5 := by kernel_rfl
theorem e164 : XN Tryz.prog 164 = some W6 := by kernel_rfl
theorem e165 : XN Tryz.prog 165 = some Kq := by kernel_rfl
theorem e166 : XN Tryz.prog 166 = some ZI := by kernel_rfl
theorem e167 : XN Tryz.prog 167 = some Xaz := by kernel_rfl
theorem e168 : XN Tryz.prog 168 = some Vy := by kernel_rfl
theorem e169 : XN Tryz.prog 169 = some W7 := by kernel_rfl
theorem e180 : XN Tryz.prog 180 = some XaA := by kernel_rfl
theorem e181 : XN Tryz.prog 181 = some Yk := by kernel_rfl
theorem e182 : XN Tryz.prog 182 = some JH := by kernel_rfl
theorem e183 : XN Tryz.prog 183 = some UB := by kernel_rfl
theorem e184 : XN Tryz.prog 184 = some YX := by kernel_rfl
theorem e185 : XN Tryz.prog 185 = some Xbq := by kernel_rfl
theorem e189 : XN Tryz.prog 189 = some XdB := by kernel_rfl
theorem e190 : XN Tryz.prog 190 = some Ys := by kernel_rfl
theorem e191 : XN Tryz.prog 191 = some Yw := by kernel_rfl
theorem e192 : XN Tryz.prog 192 = some Yt := by kernel_rfl
theorem e193 : XN Tryz.prog 193 = some XdC := by kernel_rfl
theorem e194 : XN Tryz.prog 194 = some Vz := by kernel_rfl
theorem e198 : XN Tryz.prog 198 = some XY := by kernel_rfl
theorem e199 : XN Tryz.prog 199 = some Ww := by kernel_rfl
theorem tab_ok : Tr.allP (fun n k => XN Go.Proofs.Tryz.prog n = some k) tab (fun n => n) := ⟨trivial, ⟨trivial, ⟨trivial, ⟨e7, ⟨e15, ⟨e31, ⟨e63, ⟨e127, trivial, trivial⟩, ⟨e191, trivial, trivial⟩⟩, ⟨e95, trivial, trivial⟩⟩, ⟨e47, ⟨e79, ⟨e143, trivial, trivial⟩, trivial⟩, ⟨e111, trivial, trivial⟩⟩⟩, ⟨e23, ⟨trivial, ⟨trivial, ⟨e135, trivial, trivial⟩, ⟨e199, trivial, trivial⟩⟩, ⟨e103, ⟨e167, trivial, trivial⟩, trivial⟩⟩, ⟨e55, ⟨e87, trivial, trivial⟩, ⟨trivial, ⟨e183, trivial, trivial⟩, trivial⟩⟩⟩⟩, ⟨e11, ⟨trivial, ⟨e35, ⟨e67, ⟨e131, trivial, trivial⟩, trivial⟩, ⟨e99, ⟨e163, trivial, trivial⟩, trivial⟩⟩, ⟨trivial, ⟨e83, ⟨e147, trivial, trivial⟩, trivial⟩, trivial⟩⟩, ⟨e27, ⟨trivial, ⟨e75, ⟨e139, trivial, trivial⟩, trivial⟩, ⟨e107, trivial, trivial⟩⟩, ⟨e59, ⟨e91, trivial, trivial⟩, ⟨e123, trivial, trivial⟩⟩⟩⟩⟩, ⟨trivial, ⟨trivial, ⟨e17, ⟨e33, ⟨e65, ⟨e129, trivial, trivial⟩, ⟨e193, trivial, trivial⟩⟩, ⟨e97, trivial, trivial⟩⟩, ⟨e49, ⟨e81, ⟨e145, trivial, trivial⟩, trivial⟩, trivial⟩⟩, ⟨e25, ⟨trivial, ⟨trivial, ⟨e137, trivial, trivial⟩, trivial⟩, ⟨e105, ⟨e169, trivial, trivial⟩, trivial⟩⟩, ⟨e57, ⟨e89, trivial, trivial⟩, ⟨e121, ⟨e185, trivial, trivial⟩, trivial⟩⟩⟩⟩, ⟨e13, ⟨trivial, ⟨e37, ⟨e69, trivial, trivial⟩, ⟨e101, ⟨e165, trivial, trivial⟩, trivial⟩⟩, ⟨trivial, ⟨e85, trivial, trivial⟩, ⟨trivial, ⟨e181, trivial, trivial⟩, trivial⟩⟩⟩, ⟨e29, ⟨e45, ⟨e77, ⟨e141, trivial, trivial⟩, trivial⟩, ⟨e109, trivial, trivial⟩⟩, ⟨e61, ⟨e93, trivial, trivial⟩, ⟨e125, ⟨e189, trivial, trivial⟩, trivial⟩⟩⟩⟩⟩⟩, ⟨trivial, ⟨e4, ⟨e8, ⟨e16, ⟨e32, ⟨e64, ⟨e128, trivial, trivial⟩, ⟨e192, trivial, trivial⟩⟩, ⟨e96, trivial, trivial⟩⟩, ⟨e48, ⟨e80, ⟨e144, trivial, trivial⟩, trivial⟩, ⟨e112, trivial, trivial⟩⟩⟩, ⟨e24, ⟨e40, ⟨e72, ⟨e136, trivial, trivial⟩, trivial⟩, ⟨e104, ⟨e168, trivial, trivial⟩, trivial⟩⟩, ⟨e56, ⟨e88, trivial, trivial⟩, ⟨trivial, ⟨e184, trivial, trivial⟩, trivial⟩⟩⟩⟩, ⟨e12, ⟨e20, ⟨e36, ⟨e68, trivial, trivial⟩, ⟨e100, ⟨e164, trivial, trivial⟩, trivial⟩⟩, ⟨e52, ⟨e84, ⟨e148, trivial, trivial⟩, trivial⟩, ⟨trivial, ⟨e180, trivial, trivial⟩, trivial⟩⟩⟩, ⟨e28, ⟨trivial, ⟨e76, ⟨e140, trivial, trivial⟩, trivial⟩, ⟨e108, trivial, trivial⟩⟩, ⟨e60, ⟨e92, trivial, trivial⟩, ⟨e124, trivial, trivial⟩⟩⟩⟩⟩, ⟨e6, ⟨trivial, ⟨e18, ⟨e34, ⟨e66, ⟨e130, trivial, trivial⟩, ⟨e194, trivial, trivial⟩⟩, ⟨e98, ⟨e162, trivial, trivial⟩, trivial⟩⟩, ⟨trivial, ⟨e82, ⟨e146, trivial, trivial⟩, trivial⟩, trivial⟩⟩, ⟨e26, ⟨trivial, ⟨trivial, ⟨e138, trivial, trivial⟩, trivial⟩, ⟨e106, trivial, trivial⟩⟩, ⟨e58, trivial, trivial⟩⟩⟩, ⟨e14, ⟨e22, ⟨trivial, ⟨e70, ⟨e134, trivial, trivial⟩, ⟨e198, trivial, trivial⟩⟩, ⟨e102, ⟨e166, trivial, trivial⟩, trivial⟩⟩, ⟨trivial, ⟨e86, ⟨e150, trivial, trivial⟩, trivial⟩, ⟨trivial, ⟨e182, trivial, trivial⟩, trivial⟩⟩⟩, ⟨e30, ⟨e46, ⟨e78, ⟨e142, trivial, trivial⟩, trivial⟩, ⟨e110, trivial, trivial⟩⟩, ⟨e62, ⟨e94, ⟨e158, trivial, trivial⟩, trivial⟩, ⟨e126, ⟨e190, trivial, trivial⟩, trivial⟩⟩⟩⟩⟩⟩⟩
def E0 : Env := ⟨tab.get, fun _ => none, cMethod Go.Proofs.Tryz.prog, XeY Go.Proofs.Tryz.prog⟩
theorem E0_ok (B : Nat) : Xfl Go.Proofs.Tryz.prog B E0 := ⟨fun f k h => Tr.allP_get tab_ok f k h, rfl, rfl, fun f s h => by cases h⟩
theorem mixed : Go.Proofs.Tryz.prog.follows .mixedOrders = true := by kernel_rfl
end Sp
end
