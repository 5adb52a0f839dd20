/-
  What the digest of each byte string is that the law's call digests: a run of the program's own digest. No condition.
-/
import Derived.Test.YtdgipehldjnfcaaGreatDoorT
import Derived.Test.YtdgipehldjnfcaaGreatDoorI
namespace Go.Proofs.YtdgipehldjnfcaaGreatDoor.Eng
open Go Go.Eng
set_option linter.unusedVariables false
set_option maxRecDepth 100000
noncomputable def E : Env := E0
theorem E_ok (B : Nat) : EnvOK Tryz.prog B E := E0_ok B
def zs141 : List Value := [(.slice none (nat_lit 0) (nat_lit 0))]
theorem ins141a : fnOf Tryz.prog 141 = some (insB (nat_lit 1) zs141 (nat_lit 194) (nat_lit 195)) := by kernel_rfl
theorem ins141b : fnOf Tryz.prog 195 = some (rotR (nat_lit 226)) := by kernel_rfl
theorem ins141c : fnOf Tryz.prog 226 = some (rotL (nat_lit 1) (nat_lit 272)) := by kernel_rfl
theorem ins141d : fnOf Tryz.prog 272 = some (revB (nat_lit 1) lkLoad1) := by kernel_rfl
theorem ins141e : Extern.find Tryz.f194 = some (Extern.SlicesOverlaps.overlaps Tryz.f194.params Tryz.f194.resultTypes) := by kernel_rfl
theorem ins141f : Extern.findNext Tryz.f194 = none := by kernel_rfl
theorem ins141g : Tryz.prog.underlying 39 = some (.slice 51) := by kernel_rfl
theorem ins141h : okT Tryz.prog 51 = true := by kernel_rfl
theorem ins141 : InsFn Tryz.prog (nat_lit 1) 141 := ⟨by decide, zs141, _, _, _, _, lkLoad1, by kernel_rfl, ld1_ok, ins141a, ins141b, ins141c, ins141d, by decide, ⟨_, _, _, 39, 51, Tryz.func194, by kernel_rfl, by kernel_rfl, ins141f, ins141e, by kernel_rfl, ins141g, ins141h⟩⟩
def zs144 : List Value := [(.string ⟨⟨[]⟩⟩), (.slice none (nat_lit 0) (nat_lit 0))]
theorem ins144a : fnOf Tryz.prog 144 = some (insB (nat_lit 2) zs144 (nat_lit 196) (nat_lit 197)) := by kernel_rfl
theorem ins144b : fnOf Tryz.prog 197 = some (rotR (nat_lit 227)) := by kernel_rfl
theorem ins144c : fnOf Tryz.prog 227 = some (rotL (nat_lit 2) (nat_lit 273)) := by kernel_rfl
theorem ins144d : fnOf Tryz.prog 273 = some (revB (nat_lit 2) (lkLoadN (nat_lit 2))) := by kernel_rfl
theorem ins144e : Extern.find Tryz.f196 = some (Extern.SlicesOverlaps.overlaps Tryz.f196.params Tryz.f196.resultTypes) := by kernel_rfl
theorem ins144f : Extern.findNext Tryz.f196 = none := by kernel_rfl
theorem ins144g : Tryz.prog.underlying 42 = some (.slice 41) := by kernel_rfl
theorem ins144h : okT Tryz.prog 41 = true := by kernel_rfl
theorem ins144 : InsFn Tryz.prog (nat_lit 2) 144 := ⟨by decide, zs144, _, _, _, _, (lkLoadN (nat_lit 2)), by kernel_rfl, (ldN_ok (nat_lit 2)), ins144a, ins144b, ins144c, ins144d, by decide, ⟨_, _, _, 42, 41, Tryz.func196, by kernel_rfl, by kernel_rfl, ins144f, ins144e, by kernel_rfl, ins144g, ins144h⟩⟩
noncomputable def E3 : Env := (((E.add 286 idxSum).add 141 (insSum (nat_lit 1))).add 144 (insSum (nat_lit 2)))
theorem E3_ok (B : Nat) : EnvOK Tryz.prog B E3 := ((((E_ok B).add 286 idxSum fun ι H w args args' v H' s hr hv => idx_sound Tryz.func286 (by kernel_rfl) (by kernel_rfl) (by kernel_rfl) (by kernel_rfl) s hr hv).add 141 (insSum (nat_lit 1)) fun ι H w args args' v H' s hr hv => ins_sound mixed ins141 s hr hv).add 144 (insSum (nat_lit 2)) fun ι H w args args' v H' s hr hv => ins_sound mixed ins144 s hr hv)
end Go.Proofs.YtdgipehldjnfcaaGreatDoor.Eng
