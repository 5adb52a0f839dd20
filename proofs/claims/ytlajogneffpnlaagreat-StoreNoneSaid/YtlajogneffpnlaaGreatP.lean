/-
  StoreNone: for every argument the law's call returns true and its arguments read as they did: by runs of the abstract machine in Lean's kernel and the machine's soundness. No condition: the statement as given.
-/
import Derived.Test.YtlajogneffpnlaaGreatR
import Derived.Test.YtlajogneffpnlaaGreatJ
import Derived.WalkKit
import Derived.ProofKit
import Derived.OpenShut
import Derived.ShutString
import Derived.ChangeOld
namespace Go.Proofs.YtlajogneffpnlaaGreat
namespace storeNone
open Go Go.Eng Go.ChangeShapes Go.WideShapes Go.ChangeAt Go.RowKit
set_option linter.unusedVariables false

theorem own : ownKnob Tryz.prog.godebug = none := by kernel_rfl
theorem laidOut : laidOutB Tryz.prog = true := by kernel_rfl

set_option maxRecDepth 100000 in
theorem walk (w : World) (v0 : Value) (so0 : v0 = .slice none 0 0 ∨ ∃ x len cap, v0 = .slice (some x) len cap ∧ len ≤ cap ∧ (0 < cap → x.spot = none ∧ x.block < w.heap.size)) (ns1 : List Int) (hl1 : ns1.length = 32) : Calls Tryz.prog 5 #[v0, .agg ⟨ns1.map fun m => .int .u8 m⟩] w fun e w' => e = .returned (.bool true) ∧ Below w.heap.size w w' := by
  rcases so0 with rfl | ⟨x0, n0, c0, rfl, l0, g0⟩
  · exact calls_sure (E := Eng.E2) (f := 5) (k := Eng.k5) Eng.mixed (Eng.E2_ok _) (nat_lit 5000) (show Eng.tab.get 5 = some Eng.k5 by kernel_rfl) (ι := (fun _ => none)) (sim_empty w) (args := [.slice none 0 0, .agg ⟨List.replicate 32 (.chan none)⟩]) (args' := #[.slice none 0 0, .agg ⟨ns1.map fun m => .int .u8 m⟩]) (show LRel _ [.slice none 0 0, .agg ⟨List.replicate 32 (.chan none)⟩] [.slice none 0 0, .agg ⟨ns1.map fun m => .int .u8 m⟩] from .cons (.snil 0 0) (.cons (unk_agg hl1) (.nil))) (Eng.ran_n )
  rcases Nat.eq_zero_or_pos c0 with z0 | z0
  · obtain rfl : n0 = 0 := by omega
    subst z0
    exact calls_sure (E := Eng.E2) (f := 5) (k := Eng.k5) Eng.mixed (Eng.E2_ok _) (nat_lit 5000) (show Eng.tab.get 5 = some Eng.k5 by kernel_rfl) (ι := (fun _ => none)) (sim_empty w) (args := [.slice (some ⟨0, 0, some 1⟩) 0 0, .agg ⟨List.replicate 32 (.chan none)⟩]) (args' := #[.slice (some x0) 0 0, .agg ⟨ns1.map fun m => .int .u8 m⟩]) (show LRel _ [.slice (some ⟨0, 0, some 1⟩) 0 0, .agg ⟨List.replicate 32 (.chan none)⟩] [.slice (some x0) 0 0, .agg ⟨ns1.map fun m => .int .u8 m⟩] from .cons (.sempty (fun h => by cases h)) (.cons (unk_agg hl1) (.nil))) (Eng.ran_e )
  · exact calls_sure (E := Eng.E2) (f := 5) (k := Eng.k5) Eng.mixed (Eng.E2_ok _) (nat_lit 5000) (show Eng.tab.get 5 = some Eng.k5 by kernel_rfl) (ι := (place1 0 x0 c0 (fun _ => none))) (sim_places 1 (place1_lt (by decide) (fun b p h => by cases h)) (place1_in (g0 (by omega)).2 (fun b p h => by cases h))) (args := [.slice (some ⟨0, 0, none⟩) n0 c0, .agg ⟨List.replicate 32 (.chan none)⟩]) (args' := #[.slice (some x0) n0 c0, .agg ⟨ns1.map fun m => .int .u8 m⟩]) (show LRel _ [.slice (some ⟨0, 0, none⟩) n0 c0, .agg ⟨List.replicate 32 (.chan none)⟩] [.slice (some x0) n0 c0, .agg ⟨ns1.map fun m => .int .u8 m⟩] from .cons (place1_rel (g0 (by omega)).1 l0 rfl) (.cons (unk_agg hl1) (.nil))) (Eng.ran_p n0 c0)

set_option maxRecDepth 100000 in
theorem lifted (os : Os) (started : os.Started) (H : Type) (enc : TypeId × Value → H) :
    ReturnsInHanded {} Tryz.checked os 5 .any (Rows.storeNoneSpec.pre6 enc Tryz.prog Tryz.f5 Rows.storeNoneRow.domain false) (Rows.storeNoneSpec.post enc Tryz.prog Tryz.f5 false true false false) := by
  refine returnsInHanded_of_change (C := Tryz.checked) own started (by kernel_rfl) Tryz.func5
    (ChangeSpec.witness6 (enc := enc) (C := Tryz.checked) false ⟨#[], #[.slice none 0 0, .agg #[.int .u8 0, .int .u8 0, .int .u8 0, .int .u8 0, .int .u8 0, .int .u8 0, .int .u8 0, .int .u8 0, .int .u8 0, .int .u8 0, .int .u8 0, .int .u8 0, .int .u8 0, .int .u8 0, .int .u8 0, .int .u8 0, .int .u8 0, .int .u8 0, .int .u8 0, .int .u8 0, .int .u8 0, .int .u8 0, .int .u8 0, .int .u8 0, .int .u8 0, .int .u8 0, .int .u8 0, .int .u8 0, .int .u8 0, .int .u8 0, .int .u8 0, .int .u8 0]], []⟩ 8 (by kernel_rfl) (by kernel_rfl) (by kernel_rfl) (by kernel_rfl)) ?_
  intro W base args ds gs before hval0 hW hcnd _
  have hval : ∀ (j : Nat) t v, Tryz.f5.params[j]? = some t → args[j]? = some v → Value.okWide Tryz.prog W .any base t v := hval0
  have hW' := hW
  obtain ⟨p, q, hA0, hV, rfl, hfz, hnd⟩ := hW
  have hA : DataW.TrodAll enc Tryz.prog W 0 (fun _ => true) true Tryz.f5.params.toList args.toList ds p := hA0
  rw [Tryz.params5] at hA hval
  obtain ⟨v0, vs0, d0, ds0, p0, q0, hargs, rfl, rfl, h0, r0⟩ := trodAll_cons hA
  obtain ⟨v1, vs1, d1, ds1, p1, q1, rfl, rfl, rfl, h1, r1⟩ := trodAll_cons r0
  obtain ⟨rfl, rfl, rfl⟩ := trodAll_nil r1
  obtain rfl : args = #[v0, v1] := by cases args; simp_all
  obtain ⟨rfl, rfl⟩ := trodVars_none hV
  have k0 := h0
  have lt0 : ∀ x ∈ p0, x.block < W.heap.size := by obtain ⟨m, hm⟩ := k0; exact DataW.trod_lt m _ _ _ hm
  have so0 := slice_open Tryz.underlying44 (show 0 < Tryz.prog.cellsOf 5 from of_decide_eq_true (by kernel_rfl)) (hval 0 44 v0 rfl rfl) h0
  have k1 := h1
  have lt1 : ∀ x ∈ p1, x.block < W.heap.size := by obtain ⟨m, hm⟩ := k1; exact DataW.trod_lt m _ _ _ hm
  obtain ⟨ns1, hl1, rfl⟩ := id_open Tryz.underlying27 Tryz.underlying5 (by kernel_rfl) (by kernel_rfl) (hval 1 27 v1 rfl rfl) h1
  clear hA0 hval0
  refine (walk W v0 so0 ns1 hl1).mono fun e W' ⟨he, bel⟩ => ?_
  subst he
  exact ⟨_, rfl, _, _, _, [], _, [], hW', trodAll_mk1 (shut_bool Tryz.underlying4 _), (trodAll_cons_mk (Below.trod laidOut (by kernel_rfl) (of_decide_eq_true (by kernel_rfl)) k0 bel lt0) (trodAll_cons_mk (Below.trod laidOut (by kernel_rfl) (of_decide_eq_true (by kernel_rfl)) k1 bel lt1) trodAll_mk0)), rfl, bel.frame _, fun h => by cases h⟩

theorem over : Rows.storeNoneRow.holds Tryz.pinned (OpenSpec.ofChange Rows.storeNoneSpec) :=
  OpenClaim.holds_of_wide 5 Tryz.f5 rfl rfl rfl rfl rfl rfl rfl ⟨rfl, rfl, rfl, rfl, rfl⟩ rfl rfl rfl rfl rfl (by kernel_rfl) Tryz.func5 closed
    (of_decide_eq_true (by kernel_rfl)) (by unfold Func.isWrapper; first | (rw [if_pos (by decide +kernel)]; kernel_rfl) | (rw [if_neg (by decide +kernel)]; exact ⟨rfl, rfl⟩))
    (fun os started H enc _ => lifted os started H enc)

end storeNone
/-- The statement. -/
theorem storeNone_holds : Rows.StoreNoneSaid := storeNone.over
#print axioms storeNone_holds
end Go.Proofs.YtlajogneffpnlaaGreat
