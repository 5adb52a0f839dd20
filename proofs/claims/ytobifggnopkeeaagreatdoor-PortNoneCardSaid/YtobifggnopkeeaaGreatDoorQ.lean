/-
  PortNone: the law's call returns true, whatever the model leaves open: by a run of the abstract machine in Lean's kernel and the machine's soundness. No condition: the statement as given.
-/
import Derived.Test.YtobifggnopkeeaaGreatDoorR
import Derived.Test.YtobifggnopkeeaaGreatDoorLO
import Derived.Test.YtobifggnopkeeaaGreatDoorLW
import Derived.SevenTiedAt
import Derived.LaidMore
import Derived.Stop.Joined
import Derived.WalkKit
import Derived.ProofKit
import Derived.OpenShut
import Derived.ShutString
import Derived.ChangeOld
namespace Go.Proofs.YtobifggnopkeeaaGreatDoor
namespace portNone
open Go Go.Eng Go.ChangeShapes Go.WideShapes Go.ChangeAt Go.RowKit
set_option linter.unusedVariables false

theorem own : ownKnob Tryz.prog.godebug = none := by kernel_rfl
theorem laidOut : laidOutB Tryz.prog = true := Parts.laidOut

set_option maxRecDepth 100000 in
theorem walk (w : World) (v0 : Value) (so0 : v0 = .slice none 0 0 ∨ ∃ x len cap, v0 = .slice (some x) len cap ∧ len ≤ cap ∧ (0 < cap → x.spot = none ∧ x.block < w.heap.size)) (v1 : Value) (so1 : v1 = .slice none 0 0 ∨ ∃ x len cap, v1 = .slice (some x) len cap ∧ len ≤ cap ∧ (0 < cap → x.spot = none ∧ x.block < w.heap.size)) (n2 : Int) : Calls Tryz.prog 3 #[v0, v1, .int .i64 n2] w fun e w' => e = .returned (.bool true) ∧ Below w.heap.size w w' := by
  rcases so0 with rfl | ⟨x0, n0, c0, rfl, l0, g0⟩
  · rcases so1 with rfl | ⟨x1, n1, c1, rfl, l1, g1⟩
    · exact calls_sure (E := Eng.E2) (f := 3) (k := Eng.k3) Eng.mixed (Eng.E2_ok _) (nat_lit 5000) (show Eng.tab.get 3 = some Eng.k3 by kernel_rfl) (ι := (fun _ => none)) (sim_empty w) (args := [.slice none 0 0, .slice none 0 0, .chan none]) (args' := #[.slice none 0 0, .slice none 0 0, .int .i64 n2]) (show LRel _ [.slice none 0 0, .slice none 0 0, .chan none] [.slice none 0 0, .slice none 0 0, .int .i64 n2] from .cons (.snil 0 0) (.cons (.snil 0 0) (.cons (.unk _ _) (.nil)))) (Eng.ran_nn )
    rcases Nat.eq_zero_or_pos c1 with z1 | z1
    · obtain rfl : n1 = 0 := by omega
      subst z1
      exact calls_sure (E := Eng.E2) (f := 3) (k := Eng.k3) Eng.mixed (Eng.E2_ok _) (nat_lit 5000) (show Eng.tab.get 3 = some Eng.k3 by kernel_rfl) (ι := (fun _ => none)) (sim_empty w) (args := [.slice none 0 0, .slice (some ⟨0, 0, some 1⟩) 0 0, .chan none]) (args' := #[.slice none 0 0, .slice (some x1) 0 0, .int .i64 n2]) (show LRel _ [.slice none 0 0, .slice (some ⟨0, 0, some 1⟩) 0 0, .chan none] [.slice none 0 0, .slice (some x1) 0 0, .int .i64 n2] from .cons (.snil 0 0) (.cons (.sempty (fun h => by cases h)) (.cons (.unk _ _) (.nil)))) (Eng.ran_ne )
    · exact calls_sure (E := Eng.E2) (f := 3) (k := Eng.k3) Eng.mixed (Eng.E2_ok _) (nat_lit 5000) (show Eng.tab.get 3 = some Eng.k3 by kernel_rfl) (ι := (place1 0 x1 c1 (fun _ => none))) (sim_places 1 (place1_lt (by decide) (fun b p h => by cases h)) (place1_in (g1 (by omega)).2 (fun b p h => by cases h))) (args := [.slice none 0 0, .slice (some ⟨0, 0, none⟩) n1 c1, .chan none]) (args' := #[.slice none 0 0, .slice (some x1) n1 c1, .int .i64 n2]) (show LRel _ [.slice none 0 0, .slice (some ⟨0, 0, none⟩) n1 c1, .chan none] [.slice none 0 0, .slice (some x1) n1 c1, .int .i64 n2] from .cons (.snil 0 0) (.cons (place1_rel (g1 (by omega)).1 l1 rfl) (.cons (.unk _ _) (.nil)))) (Eng.ran_np n1 c1)
  rcases Nat.eq_zero_or_pos c0 with z0 | z0
  · obtain rfl : n0 = 0 := by omega
    subst z0
    rcases so1 with rfl | ⟨x1, n1, c1, rfl, l1, g1⟩
    · exact calls_sure (E := Eng.E2) (f := 3) (k := Eng.k3) Eng.mixed (Eng.E2_ok _) (nat_lit 5000) (show Eng.tab.get 3 = some Eng.k3 by kernel_rfl) (ι := (fun _ => none)) (sim_empty w) (args := [.slice (some ⟨0, 0, some 1⟩) 0 0, .slice none 0 0, .chan none]) (args' := #[.slice (some x0) 0 0, .slice none 0 0, .int .i64 n2]) (show LRel _ [.slice (some ⟨0, 0, some 1⟩) 0 0, .slice none 0 0, .chan none] [.slice (some x0) 0 0, .slice none 0 0, .int .i64 n2] from .cons (.sempty (fun h => by cases h)) (.cons (.snil 0 0) (.cons (.unk _ _) (.nil)))) (Eng.ran_en )
    rcases Nat.eq_zero_or_pos c1 with z1 | z1
    · obtain rfl : n1 = 0 := by omega
      subst z1
      exact calls_sure (E := Eng.E2) (f := 3) (k := Eng.k3) Eng.mixed (Eng.E2_ok _) (nat_lit 5000) (show Eng.tab.get 3 = some Eng.k3 by kernel_rfl) (ι := (fun _ => none)) (sim_empty w) (args := [.slice (some ⟨0, 0, some 1⟩) 0 0, .slice (some ⟨0, 0, some 1⟩) 0 0, .chan none]) (args' := #[.slice (some x0) 0 0, .slice (some x1) 0 0, .int .i64 n2]) (show LRel _ [.slice (some ⟨0, 0, some 1⟩) 0 0, .slice (some ⟨0, 0, some 1⟩) 0 0, .chan none] [.slice (some x0) 0 0, .slice (some x1) 0 0, .int .i64 n2] from .cons (.sempty (fun h => by cases h)) (.cons (.sempty (fun h => by cases h)) (.cons (.unk _ _) (.nil)))) (Eng.ran_ee )
    · exact calls_sure (E := Eng.E2) (f := 3) (k := Eng.k3) Eng.mixed (Eng.E2_ok _) (nat_lit 5000) (show Eng.tab.get 3 = some Eng.k3 by kernel_rfl) (ι := (place1 0 x1 c1 (fun _ => none))) (sim_places 1 (place1_lt (by decide) (fun b p h => by cases h)) (place1_in (g1 (by omega)).2 (fun b p h => by cases h))) (args := [.slice (some ⟨0, 0, some 1⟩) 0 0, .slice (some ⟨0, 0, none⟩) n1 c1, .chan none]) (args' := #[.slice (some x0) 0 0, .slice (some x1) n1 c1, .int .i64 n2]) (show LRel _ [.slice (some ⟨0, 0, some 1⟩) 0 0, .slice (some ⟨0, 0, none⟩) n1 c1, .chan none] [.slice (some x0) 0 0, .slice (some x1) n1 c1, .int .i64 n2] from .cons (.sempty (fun h => by cases h)) (.cons (place1_rel (g1 (by omega)).1 l1 rfl) (.cons (.unk _ _) (.nil)))) (Eng.ran_ep n1 c1)
  · rcases so1 with rfl | ⟨x1, n1, c1, rfl, l1, g1⟩
    · exact calls_sure (E := Eng.E2) (f := 3) (k := Eng.k3) Eng.mixed (Eng.E2_ok _) (nat_lit 5000) (show Eng.tab.get 3 = some Eng.k3 by kernel_rfl) (ι := (place1 0 x0 c0 (fun _ => none))) (sim_places 1 (place1_lt (by decide) (fun b p h => by cases h)) (place1_in (g0 (by omega)).2 (fun b p h => by cases h))) (args := [.slice (some ⟨0, 0, none⟩) n0 c0, .slice none 0 0, .chan none]) (args' := #[.slice (some x0) n0 c0, .slice none 0 0, .int .i64 n2]) (show LRel _ [.slice (some ⟨0, 0, none⟩) n0 c0, .slice none 0 0, .chan none] [.slice (some x0) n0 c0, .slice none 0 0, .int .i64 n2] from .cons (place1_rel (g0 (by omega)).1 l0 rfl) (.cons (.snil 0 0) (.cons (.unk _ _) (.nil)))) (Eng.ran_pn n0 c0)
    rcases Nat.eq_zero_or_pos c1 with z1 | z1
    · obtain rfl : n1 = 0 := by omega
      subst z1
      exact calls_sure (E := Eng.E2) (f := 3) (k := Eng.k3) Eng.mixed (Eng.E2_ok _) (nat_lit 5000) (show Eng.tab.get 3 = some Eng.k3 by kernel_rfl) (ι := (place1 0 x0 c0 (fun _ => none))) (sim_places 1 (place1_lt (by decide) (fun b p h => by cases h)) (place1_in (g0 (by omega)).2 (fun b p h => by cases h))) (args := [.slice (some ⟨0, 0, none⟩) n0 c0, .slice (some ⟨0, 0, some 1⟩) 0 0, .chan none]) (args' := #[.slice (some x0) n0 c0, .slice (some x1) 0 0, .int .i64 n2]) (show LRel _ [.slice (some ⟨0, 0, none⟩) n0 c0, .slice (some ⟨0, 0, some 1⟩) 0 0, .chan none] [.slice (some x0) n0 c0, .slice (some x1) 0 0, .int .i64 n2] from .cons (place1_rel (g0 (by omega)).1 l0 rfl) (.cons (.sempty (fun h => by cases h)) (.cons (.unk _ _) (.nil)))) (Eng.ran_pe n0 c0)
    · exact calls_sure (E := Eng.E2) (f := 3) (k := Eng.k3) Eng.mixed (Eng.E2_ok _) (nat_lit 5000) (show Eng.tab.get 3 = some Eng.k3 by kernel_rfl) (ι := (place1 0 x0 c0 (place1 1 x1 c1 (fun _ => none)))) (sim_places 2 (place1_lt (by decide) (place1_lt (by decide) (fun b p h => by cases h))) (place1_in (g0 (by omega)).2 (place1_in (g1 (by omega)).2 (fun b p h => by cases h)))) (args := [.slice (some ⟨0, 0, none⟩) n0 c0, .slice (some ⟨1, 0, none⟩) n1 c1, .chan none]) (args' := #[.slice (some x0) n0 c0, .slice (some x1) n1 c1, .int .i64 n2]) (show LRel _ [.slice (some ⟨0, 0, none⟩) n0 c0, .slice (some ⟨1, 0, none⟩) n1 c1, .chan none] [.slice (some x0) n0 c0, .slice (some x1) n1 c1, .int .i64 n2] from .cons (place1_rel (g0 (by omega)).1 l0 rfl) (.cons (place1_rel (g1 (by omega)).1 l1 rfl) (.cons (.unk _ _) (.nil)))) (Eng.ran_pp n0 c0 n1 c1)

set_option maxRecDepth 100000 in
theorem lifted (door_met : ∀ (os : Os) (args : Array Value), laidMetH Tryz.prog Rows.portNoneRow.laid ((laidWorld os).forCall (fun _ _ => 0) ⟨#[], args, []⟩).memory) (os : Os) (started : os.Started) (H : Type) (enc : TypeId × Value → H) :
    ReturnsInHanded {} Tryz.checked os 3 .any (fun w args => (Rows.portNoneSpec.pre enc Tryz.prog Tryz.f3 [] false w args ∧ laidMetH Tryz.prog Rows.portNoneRow.laid w) ∧ sizedMet enc Tryz.prog Tryz.f3 (OpenSpec.ofChange Rows.portNoneSpec) false w args)
      (Rows.portNoneSpec.post enc Tryz.prog Tryz.f3 false true false false) := by
  refine returnsInHanded_of_change_and (C := Tryz.checked) (X := fun w _ => laidMetH Tryz.prog Rows.portNoneRow.laid w) (fun _ _ _ hh h => h.of_heap hh) own started (by kernel_rfl) Tryz.func3
    (ChangeSpec.witness_shaped (enc := enc) (C := Tryz.checked) (os := os) (X := fun w _ => laidMetH Tryz.prog Rows.portNoneRow.laid w) false (laidWorld os) #[.slice none 0 0, .slice none 0 0, .int .i64 0] 8 rfl (World.shaped_of_RefB (by kernel_rfl) (by kernel_rfl)) (by kernel_rfl) (by kernel_rfl) (by kernel_rfl) (door_met os _)) ?_
  intro W base args ds gs before hval0 hW _ _ _ _
  have hval : ∀ (j : Nat) t v, Tryz.f3.params[j]? = some t → args[j]? = some v → Value.okWide Tryz.prog W .any base t v := hval0
  have hW' := hW
  obtain ⟨p, q, hA0, hV, rfl, hfz, hnd⟩ := hW
  have hA : DataW.TrodAll enc Tryz.prog W 0 (fun _ => true) true Tryz.f3.params.toList args.toList ds p := hA0
  rw [Tryz.params3] at hA hval
  obtain ⟨v0, vs0, d0, ds0, p0, q0, hargs, rfl, rfl, h0, r0⟩ := trodAll_cons hA
  obtain ⟨v1, vs1, d1, ds1, p1, q1, rfl, rfl, rfl, h1, r1⟩ := trodAll_cons r0
  obtain ⟨v2, vs2, d2, ds2, p2, q2, rfl, rfl, rfl, h2, r2⟩ := trodAll_cons r1
  obtain ⟨rfl, rfl, rfl⟩ := trodAll_nil r2
  obtain rfl : args = #[v0, v1, v2] := by cases args; simp_all
  obtain ⟨rfl, rfl⟩ := trodVars_none hV
  have k0 := h0
  have lt0 : ∀ x ∈ p0, x.block < W.heap.size := by obtain ⟨m, hm⟩ := k0; exact DataW.trod_lt m _ _ _ hm
  have so0 := slice_open Tryz.underlying22 (show 0 < Tryz.prog.cellsOf 9 from of_decide_eq_true (by kernel_rfl)) (hval 0 22 v0 rfl rfl) h0
  have k1 := h1
  have lt1 : ∀ x ∈ p1, x.block < W.heap.size := by obtain ⟨m, hm⟩ := k1; exact DataW.trod_lt m _ _ _ hm
  have so1 := slice_open Tryz.underlying23 (show 0 < Tryz.prog.cellsOf 5 from of_decide_eq_true (by kernel_rfl)) (hval 1 23 v1 rfl rfl) h1
  have k2 := h2
  have lt2 : ∀ x ∈ p2, x.block < W.heap.size := by obtain ⟨m, hm⟩ := k2; exact DataW.trod_lt m _ _ _ hm
  obtain ⟨n2, rfl⟩ := okWide_int Tryz.underlying3 (hval 2 3 v2 rfl rfl)
  clear hA0 hval0
  refine (walk W v0 so0 v1 so1 n2).mono fun e W' ⟨he, bel⟩ => ?_
  subst he
  exact ⟨_, rfl, _, _, _, [], _, [], hW', trodAll_mk1 (shut_bool Tryz.underlying4 _), (trodAll_cons_mk (Below.trod laidOut (by kernel_rfl) (of_decide_eq_true (by kernel_rfl)) k0 bel lt0) (trodAll_cons_mk (Below.trod laidOut (by kernel_rfl) (of_decide_eq_true (by kernel_rfl)) k1 bel lt1) (trodAll_cons_mk (Below.trod laidOut (by kernel_rfl) (of_decide_eq_true (by kernel_rfl)) k2 bel lt2) trodAll_mk0))), rfl, bel.frame _, fun h => by cases h⟩

end portNone
end Go.Proofs.YtobifggnopkeeaaGreatDoor
