/-
  SegOnce: for every argument the law's call returns true and its arguments read as they did: by the law's walk on the abstract machine and the machine's soundness. No condition: the statement as given.
-/
import Derived.Test.YtknhijalfgjfhaaGreatV
import Derived.Test.YtknhijalfgjfhaaGreatJ
import Derived.WalkKit
import Derived.ProofKit
import Derived.OpenShut
import Derived.ShutString
import Derived.ChangeOld
set_option linter.unusedVariables false
set_option linter.unusedSimpArgs false
set_option linter.unusedSectionVars false
namespace Go.Proofs.YtknhijalfgjfhaaGreat
namespace segOnce
open Go Go.Eng Go.ChangeShapes Go.WideShapes Go.ChangeAt Go.RowKit
theorem own : ownKnob Tryz.prog.godebug = none := by kernel_rfl
theorem laidOut : laidOutB Tryz.prog = true := by kernel_rfl
set_option maxRecDepth 100000 in
theorem walk (w : World) (v0 : Value) (hs0 : Sp.StrsIn w v0) (v1 : Value) (hs1 : Sp.StrsIn w v1) (z2 : Int) : Calls Tryz.prog 3 #[v0, v1, .int .i64 z2] w fun e w' => e = .returned (.bool true) /\ Below w.heap.size w w' := by
 have S0 := Sp.Sims.empty Tryz.prog w
 obtain ⟨ι0, H0, a0, c0, l0, S1, le0, x0, r0, s0⟩ := S0.strs hs0
 obtain ⟨ι1, H1, a1, c1, l1, S2, le1, x1, r1, s1⟩ := S1.strs hs1
 have S3 := S2
 have hw := Sp.law21_SegOnce_ok (sg := false) Sp.E1_has 100000000 (Nat.le_refl _) H1 l0 l1 a0 a1 c0 c1 z2 (s0.ext x1) s1
 rw [Sp.enter_eq (Sp.E1_has.sum Sp.f_retconlaw21_SegOnce rfl) (show Sp.E1.fn Sp.f_retconlaw21_SegOnce = some Sp.k_retconlaw21_SegOnce from (show Sp.tab.get 3 = some Sp.k_retconlaw21_SegOnce by kernel_rfl))] at hw
 exact calls_sure (E := Sp.E1) (f := 3) (k := Sp.k_retconlaw21_SegOnce) Sp.mixed (Sp.E1_ok _) (100000000 + 1201) (show Sp.tab.get 3 = some Sp.k_retconlaw21_SegOnce by kernel_rfl) (ι := ι1) S3.s (args := [.slice a0 l0.length c0, .slice a1 l1.length c1, .int .i64 z2]) (args' := #[v0, v1, .int .i64 z2])
  (show LRel _ [.slice a0 l0.length c0, .slice a1 l1.length c1, .int .i64 z2] [v0, v1, .int .i64 z2] from (.cons (r0.mono le1) (.cons r1 (.cons (XcZ rfl) .nil)))) (Er.Wp.sure hw)
set_option maxRecDepth 100000 in
theorem lifted (os : Os) (started : os.Started) (H : Type) (enc : TypeId × Value -> H) :
  ReturnsInHanded {} Tryz.checked os 3 .any (Rows.segOnceSpec.pre6 enc Tryz.prog Tryz.f3 Rows.segOnceRow.domain false) (Rows.segOnceSpec.post enc Tryz.prog Tryz.f3 false true false false) := by
 refine returnsInHanded_of_change (C := Tryz.checked) own started (by kernel_rfl) Tryz.func3
  (ChangeSpec.witness6 (enc := enc) (C := Tryz.checked) false ⟨#[], #[.slice none 0 0, .slice none 0 0, .int .i64 0], []⟩ 8 (by kernel_rfl) (by kernel_rfl) (by kernel_rfl) (by kernel_rfl)) ?_
 intro W base args ds gs before hval0 hW hcnd _
 have hval : ∀ (j : Nat) t v, Tryz.f3.params[j]? = some t -> args[j]? = some v -> Value.okWide Tryz.prog W .any base t v := hval0
 have hW' := hW
 obtain ⟨p, q, hA0, hV, rfl, hfz, hnd⟩ := hW
 have hA : DataW.TrodAll enc Tryz.prog W 0 (fun _ => true) true Tryz.f3.params.toList args.toList ds p := hA0
 rw [Tryz.params3] at hA hval
 obtain ⟨v0, vs0, d0, ds0, p0, q0, hargs, rfl, rfl, h0, r0⟩ := trodAll_cons hA
 obtain ⟨v1, vs1, d1, ds1, p1, q1, rfl, rfl, rfl, h1, r1⟩ := trodAll_cons r0
 obtain ⟨v2, vs2, d2, ds2, p2, q2, rfl, rfl, rfl, h2, r2⟩ := trodAll_cons r1
 obtain ⟨rfl, rfl, rfl⟩ := trodAll_nil r2
 obtain rfl : args = #[v0, v1, v2] := by cases args; simp_all
 obtain ⟨rfl, rfl⟩ := trodVars_none hV
 have k0 := h0
 have lt0 : ∀ x ∈ p0, x.block < W.heap.size := by obtain ⟨m, hm⟩ := k0; exact DataW.trod_lt m _ _ _ hm
 have hs0 := Sp.strs_open Tryz.underlying22 Tryz.underlying9 (by kernel_rfl) (hval 0 22 v0 rfl rfl) h0
 have k1 := h1
 have lt1 : ∀ x ∈ p1, x.block < W.heap.size := by obtain ⟨m, hm⟩ := k1; exact DataW.trod_lt m _ _ _ hm
 have hs1 := Sp.strs_open Tryz.underlying22 Tryz.underlying9 (by kernel_rfl) (hval 1 22 v1 rfl rfl) h1
 have k2 := h2
 have lt2 : ∀ x ∈ p2, x.block < W.heap.size := by obtain ⟨m, hm⟩ := k2; exact DataW.trod_lt m _ _ _ hm
 obtain ⟨z2, rfl⟩ := okWide_int Tryz.underlying3 (hval 2 3 v2 rfl rfl)
 clear hA0 hval0
 refine (walk W v0 hs0 v1 hs1 z2).mono fun e W' ⟨he, bel⟩ => ?_
 subst he
 exact ⟨_, rfl, _, _, _, [], _, [], hW', trodAll_mk1 (shut_bool Tryz.underlying4 _), (trodAll_cons_mk (Below.trod laidOut (by kernel_rfl) (of_decide_eq_true (by kernel_rfl)) k0 bel lt0) (trodAll_cons_mk (Below.trod laidOut (by kernel_rfl) (of_decide_eq_true (by kernel_rfl)) k1 bel lt1) (trodAll_cons_mk (Below.trod laidOut (by kernel_rfl) (of_decide_eq_true (by kernel_rfl)) k2 bel lt2) trodAll_mk0))), rfl, bel.frame _, fun h => by cases h⟩
theorem over : Rows.segOnceRow.holds Tryz.pinned (OpenSpec.ofChange Rows.segOnceSpec) :=
 OpenClaim.holds_of_wide 3 Tryz.f3 rfl rfl rfl rfl rfl rfl rfl ⟨rfl, rfl, rfl, rfl, rfl⟩ rfl rfl rfl rfl rfl (by kernel_rfl) Tryz.func3 closed
  (of_decide_eq_true (by kernel_rfl)) (by unfold Func.isWrapper; first | (rw [if_pos (by decide +kernel)]; kernel_rfl) | (rw [if_neg (by decide +kernel)]; exact ⟨rfl, rfl⟩))
  (fun os started H enc _ => lifted os started H enc)
end segOnce
theorem segOnce_holds : Rows.SegOnceSaid := segOnce.over
#print axioms segOnce_holds
end Go.Proofs.YtknhijalfgjfhaaGreat
