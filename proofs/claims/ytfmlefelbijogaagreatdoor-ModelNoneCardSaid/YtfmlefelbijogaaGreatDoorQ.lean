/-
  ModelNone: the law's call returns true, whatever the model leaves open: by a run of the abstract machine in Lean's kernel and the machine's soundness. No condition: the statement as given.
-/
import Derived.Test.YtfmlefelbijogaaGreatDoorR
import Derived.Test.YtfmlefelbijogaaGreatDoorLO
import Derived.Test.YtfmlefelbijogaaGreatDoorLW
import Derived.SevenTiedAt
import Derived.LaidMore
import Derived.Stop.Joined
import Derived.WalkKit
import Derived.ProofKit
import Derived.OpenShut
import Derived.ShutString
import Derived.ChangeOld
namespace Go.Proofs.YtfmlefelbijogaaGreatDoor
namespace modelNone
open Go Go.Eng Go.ChangeShapes Go.WideShapes Go.ChangeAt Go.RowKit
set_option linter.unusedVariables false

theorem own : ownKnob Tryz.prog.godebug = none := by kernel_rfl
theorem laidOut : laidOutB Tryz.prog = true := Parts.laidOut

set_option maxRecDepth 100000 in
theorem walk (w : World) (v0 : Value) (so0 : v0 = .slice none 0 0 ∨ ∃ x len cap, v0 = .slice (some x) len cap ∧ len ≤ cap ∧ (0 < cap → x.spot = none ∧ x.block < w.heap.size)) : Calls Tryz.prog 4 #[v0] w fun e w' => e = .returned (.bool true) ∧ Below w.heap.size w w' := by
  rcases so0 with rfl | ⟨x0, n0, c0, rfl, l0, g0⟩
  · exact calls_sure (E := Eng.E2) (f := 4) (k := Eng.k4) Eng.mixed (Eng.E2_ok _) (nat_lit 5000) (show Eng.tab.get 4 = some Eng.k4 by kernel_rfl) (ι := (fun _ => none)) (sim_empty w) (args := [.slice none 0 0]) (args' := #[.slice none 0 0]) (show LRel _ [.slice none 0 0] [.slice none 0 0] from .cons (.snil 0 0) (.nil)) (Eng.ran_n )
  rcases Nat.eq_zero_or_pos c0 with z0 | z0
  · obtain rfl : n0 = 0 := by omega
    subst z0
    exact calls_sure (E := Eng.E2) (f := 4) (k := Eng.k4) Eng.mixed (Eng.E2_ok _) (nat_lit 5000) (show Eng.tab.get 4 = some Eng.k4 by kernel_rfl) (ι := (fun _ => none)) (sim_empty w) (args := [.slice (some ⟨0, 0, some 1⟩) 0 0]) (args' := #[.slice (some x0) 0 0]) (show LRel _ [.slice (some ⟨0, 0, some 1⟩) 0 0] [.slice (some x0) 0 0] from .cons (.sempty (fun h => by cases h)) (.nil)) (Eng.ran_e )
  · exact calls_sure (E := Eng.E2) (f := 4) (k := Eng.k4) Eng.mixed (Eng.E2_ok _) (nat_lit 5000) (show Eng.tab.get 4 = some Eng.k4 by kernel_rfl) (ι := (place1 0 x0 c0 (fun _ => none))) (sim_places 1 (place1_lt (by decide) (fun b p h => by cases h)) (place1_in (g0 (by omega)).2 (fun b p h => by cases h))) (args := [.slice (some ⟨0, 0, none⟩) n0 c0]) (args' := #[.slice (some x0) n0 c0]) (show LRel _ [.slice (some ⟨0, 0, none⟩) n0 c0] [.slice (some x0) n0 c0] from .cons (place1_rel (g0 (by omega)).1 l0 rfl) (.nil)) (Eng.ran_p n0 c0)

set_option maxRecDepth 100000 in
theorem lifted (door_met : ∀ (os : Os) (args : Array Value), laidMetH Tryz.prog Rows.modelNoneRow.laid ((laidWorld os).forCall (fun _ _ => 0) ⟨#[], args, []⟩).memory) (os : Os) (started : os.Started) (H : Type) (enc : TypeId × Value → H) :
    ReturnsInHanded {} Tryz.checked os 4 .any (fun w args => (Rows.modelNoneSpec.pre enc Tryz.prog Tryz.f4 [] false w args ∧ laidMetH Tryz.prog Rows.modelNoneRow.laid w) ∧ sizedMet enc Tryz.prog Tryz.f4 (OpenSpec.ofChange Rows.modelNoneSpec) false w args)
      (Rows.modelNoneSpec.post enc Tryz.prog Tryz.f4 false true false false) := by
  refine returnsInHanded_of_change_and (C := Tryz.checked) (X := fun w _ => laidMetH Tryz.prog Rows.modelNoneRow.laid w) (fun _ _ _ hh h => h.of_heap hh) own started (by kernel_rfl) Tryz.func4
    (ChangeSpec.witness_shaped (enc := enc) (C := Tryz.checked) (os := os) (X := fun w _ => laidMetH Tryz.prog Rows.modelNoneRow.laid w) false (laidWorld os) #[.slice none 0 0] 8 rfl (World.shaped_of_RefB (by kernel_rfl) (by kernel_rfl)) (by kernel_rfl) (by kernel_rfl) (by kernel_rfl) (door_met os _)) ?_
  intro W base args ds gs before hval0 hW _ _ _ _
  have hval : ∀ (j : Nat) t v, Tryz.f4.params[j]? = some t → args[j]? = some v → Value.okWide Tryz.prog W .any base t v := hval0
  have hW' := hW
  obtain ⟨p, q, hA0, hV, rfl, hfz, hnd⟩ := hW
  have hA : DataW.TrodAll enc Tryz.prog W 0 (fun _ => true) true Tryz.f4.params.toList args.toList ds p := hA0
  rw [Tryz.params4] at hA hval
  obtain ⟨v0, vs0, d0, ds0, p0, q0, hargs, rfl, rfl, h0, r0⟩ := trodAll_cons hA
  obtain ⟨rfl, rfl, rfl⟩ := trodAll_nil r0
  obtain rfl : args = #[v0] := by cases args; simp_all
  obtain ⟨rfl, rfl⟩ := trodVars_none hV
  have k0 := h0
  have lt0 : ∀ x ∈ p0, x.block < W.heap.size := by obtain ⟨m, hm⟩ := k0; exact DataW.trod_lt m _ _ _ hm
  have so0 := slice_open Tryz.underlying44 (show 0 < Tryz.prog.cellsOf 5 from of_decide_eq_true (by kernel_rfl)) (hval 0 44 v0 rfl rfl) h0
  clear hA0 hval0
  refine (walk W v0 so0).mono fun e W' ⟨he, bel⟩ => ?_
  subst he
  exact ⟨_, rfl, _, _, _, [], _, [], hW', trodAll_mk1 (shut_bool Tryz.underlying4 _), (trodAll_cons_mk (Below.trod laidOut (by kernel_rfl) (of_decide_eq_true (by kernel_rfl)) k0 bel lt0) trodAll_mk0), rfl, bel.frame _, fun h => by cases h⟩

end modelNone
end Go.Proofs.YtfmlefelbijogaaGreatDoor
