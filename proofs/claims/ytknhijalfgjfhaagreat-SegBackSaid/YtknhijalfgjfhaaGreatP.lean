/-
  SegBack: for every argument the law's call returns true and its arguments read as they did: by the law's walk on the abstract machine and the machine's soundness. No condition: the statement as given.
-/
import Derived.Test.YtknhijalfgjfhaaGreatV
import Derived.Test.YtknhijalfgjfhaaGreatJ
import Derived.WalkKit
import Derived.ProofKit
import Derived.OpenShut
import Derived.ShutString
import Derived.ChangeOld
set_option linter.unusedVariables false
set_option linter.unusedSimpArgs false
set_option linter.unusedSectionVars false
namespace Go.Proofs.YtknhijalfgjfhaaGreat
namespace segBack
open Go Go.Eng Go.ChangeShapes Go.WideShapes Go.ChangeAt Go.RowKit
theorem own : ownKnob Tryz.prog.godebug = none := by kernel_rfl
theorem laidOut : laidOutB Tryz.prog = true := by kernel_rfl
set_option maxRecDepth 100000 in
theorem walk (w : World) (v0 : Value) (hs0 : Sp.StrsIn w v0) (z1 : Int) : Calls Tryz.prog 5 #[v0, .int .i64 z1] w fun e w' => e = .returned (.bool true) /\ Below w.heap.size w w' := by
 have S0 := Sp.Sims.empty Tryz.prog w
 obtain ⟨ι0, H0, a0, c0, l0, S1, le0, x0, r0, s0⟩ := S0.strs hs0
 have S2 := S1
 have hw := Sp.law21_SegBack_ok Sp.E1_has 100000000 (Nat.le_refl _) H0 l0 z1 a0 c0 s0
 rw [Sp.enter_eq (Sp.E1_has.sum Sp.f_retconlaw21_SegBack rfl) (show Sp.E1.fn Sp.f_retconlaw21_SegBack = some Sp.k_retconlaw21_SegBack from (show Sp.tab.get 5 = some Sp.k_retconlaw21_SegBack by kernel_rfl))] at hw
 exact calls_sure (E := Sp.E1) (f := 5) (k := Sp.k_retconlaw21_SegBack) Sp.mixed (Sp.E1_ok _) (100000000 + 1109) (show Sp.tab.get 5 = some Sp.k_retconlaw21_SegBack by kernel_rfl) (ι := ι0) S2.s (args := [.slice a0 l0.length c0, .int .i64 z1]) (args' := #[v0, .int .i64 z1])
  (show LRel _ [.slice a0 l0.length c0, .int .i64 z1] [v0, .int .i64 z1] from (.cons r0 (.cons (JE rfl) .nil))) (Er.Wp.sure hw)
set_option maxRecDepth 100000 in
theorem lifted (os : Os) (started : os.Started) (H : Type) (enc : TypeId × Value -> H) :
  ReturnsInHanded {} Tryz.checked os 5 .any (Rows.segBackSpec.pre6 enc Tryz.prog Tryz.f5 Rows.segBackRow.domain false) (Rows.segBackSpec.post enc Tryz.prog Tryz.f5 false true false false) := by
 refine returnsInHanded_of_change (C := Tryz.checked) own started (by kernel_rfl) Tryz.func5
  (ChangeSpec.witness6 (enc := enc) (C := Tryz.checked) false ⟨#[], #[.slice none 0 0, .int .i64 0], []⟩ 8 (by kernel_rfl) (by kernel_rfl) (by kernel_rfl) (by kernel_rfl)) ?_
 intro W base args ds gs before hval0 hW hcnd _
 have hval : ∀ (j : Nat) t v, Tryz.f5.params[j]? = some t -> args[j]? = some v -> Value.okWide Tryz.prog W .any base t v := hval0
 have hW' := hW
 obtain ⟨p, q, hA0, hV, rfl, hfz, hnd⟩ := hW
 have hA : DataW.TrodAll enc Tryz.prog W 0 (fun _ => true) true Tryz.f5.params.toList args.toList ds p := hA0
 rw [Tryz.params5] at hA hval
 obtain ⟨v0, vs0, d0, ds0, p0, q0, hargs, rfl, rfl, h0, r0⟩ := trodAll_cons hA
 obtain ⟨v1, vs1, d1, ds1, p1, q1, rfl, rfl, rfl, h1, r1⟩ := trodAll_cons r0
 obtain ⟨rfl, rfl, rfl⟩ := trodAll_nil r1
 obtain rfl : args = #[v0, v1] := by cases args; simp_all
 obtain ⟨rfl, rfl⟩ := trodVars_none hV
 have k0 := h0
 have lt0 : ∀ x ∈ p0, x.block < W.heap.size := by obtain ⟨m, hm⟩ := k0; exact DataW.trod_lt m _ _ _ hm
 have hs0 := Sp.strs_open Tryz.underlying22 Tryz.underlying9 (by kernel_rfl) (hval 0 22 v0 rfl rfl) h0
 have k1 := h1
 have lt1 : ∀ x ∈ p1, x.block < W.heap.size := by obtain ⟨m, hm⟩ := k1; exact DataW.trod_lt m _ _ _ hm
 obtain ⟨z1, rfl⟩ := okWide_int Tryz.underlying3 (hval 1 3 v1 rfl rfl)
 clear hA0 hval0
 refine (walk W v0 hs0 z1).mono fun e W' ⟨he, bel⟩ => ?_
 subst he
 exact ⟨_, rfl, _, _, _, [], _, [], hW', trodAll_mk1 (shut_bool Tryz.underlying4 _), (trodAll_cons_mk (Below.trod laidOut (by kernel_rfl) (of_decide_eq_true (by kernel_rfl)) k0 bel lt0) (trodAll_cons_mk (Below.trod laidOut (by kernel_rfl) (of_decide_eq_true (by kernel_rfl)) k1 bel lt1) trodAll_mk0)), rfl, bel.frame _, fun h => by cases h⟩
theorem over : Rows.segBackRow.holds Tryz.pinned (OpenSpec.ofChange Rows.segBackSpec) :=
 OpenClaim.holds_of_wide 5 Tryz.f5 rfl rfl rfl rfl rfl rfl rfl ⟨rfl, rfl, rfl, rfl, rfl⟩ rfl rfl rfl rfl rfl (by kernel_rfl) Tryz.func5 closed
  (of_decide_eq_true (by kernel_rfl)) (by unfold Func.isWrapper; first | (rw [if_pos (by decide +kernel)]; kernel_rfl) | (rw [if_neg (by decide +kernel)]; exact ⟨rfl, rfl⟩))
  (fun os started H enc _ => lifted os started H enc)
end segBack
theorem segBack_holds : Rows.SegBackSaid := segBack.over
#print axioms segBack_holds
end Go.Proofs.YtknhijalfgjfhaaGreat
