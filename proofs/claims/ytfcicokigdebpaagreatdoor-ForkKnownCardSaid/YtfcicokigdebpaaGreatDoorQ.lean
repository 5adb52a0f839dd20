/-
  ForkKnown: the law's call returns true, whatever the model leaves open: by a run of the abstract machine in Lean's kernel and the machine's soundness. No condition: the statement as given.
-/
import Derived.Test.YtfcicokigdebpaaGreatDoorH
import Derived.Test.YtfcicokigdebpaaGreatDoorVA
import Derived.Test.YtfcicokigdebpaaGreatDoorVB
import Derived.Test.YtfcicokigdebpaaGreatDoorVC
import Derived.Test.YtfcicokigdebpaaGreatDoorVD
import Derived.Test.YtfcicokigdebpaaGreatDoorVE
import Derived.Test.YtfcicokigdebpaaGreatDoorVF
import Derived.Test.YtfcicokigdebpaaGreatDoorVG
import Derived.Test.YtfcicokigdebpaaGreatDoorVH
import Derived.Test.YtfcicokigdebpaaGreatDoorVI
import Derived.Test.YtfcicokigdebpaaGreatDoorVJ
import Derived.Test.YtfcicokigdebpaaGreatDoorVK
import Derived.Test.YtfcicokigdebpaaGreatDoorVL
import Derived.Test.YtfcicokigdebpaaGreatDoorVM
import Derived.Test.YtfcicokigdebpaaGreatDoorVN
import Derived.Test.YtfcicokigdebpaaGreatDoorVO
import Derived.Test.YtfcicokigdebpaaGreatDoorVP
import Derived.Test.YtfcicokigdebpaaGreatDoorVQ
import Derived.Test.YtfcicokigdebpaaGreatDoorVS
import Derived.Test.YtfcicokigdebpaaGreatDoorVT
import Derived.Test.YtfcicokigdebpaaGreatDoorVU
import Derived.Test.YtfcicokigdebpaaGreatDoorVW
import Derived.Test.YtfcicokigdebpaaGreatDoorVX
import Derived.Test.YtfcicokigdebpaaGreatDoorVY
import Derived.Test.YtfcicokigdebpaaGreatDoorVZ
import Derived.Test.YtfcicokigdebpaaGreatDoorLW
import Derived.SevenTiedAt
import Derived.LaidMore
import Derived.Stop.Joined
import Derived.WalkKit
import Derived.ProofKit
import Derived.OpenShut
namespace Go.Proofs.YtfcicokigdebpaaGreatDoor
namespace forkKnown
open Go Go.Eng Go.ChangeShapes Go.WideShapes Go.ChangeAt Go.RowKit
set_option linter.unusedVariables false

theorem own : ownKnob Tryz.prog.godebug = none := by kernel_rfl

theorem w0_0 : (way (nat_lit 4) (nat_lit 0) (way (nat_lit 3) (nat_lit 0) Er.sure)) run = true :=
  way_ways (n := 4) (j := 0) (m := 2) (by decide) (fun s hs => way_ways (n := 3) (j := 0) (m := 2) (by decide) (fun s hs => sure_ways (n := 2) (by decide) hs) hs) fun i hi => match i, hi with
    | 0, _ => w0_0_0
    | 1, _ => w0_0_1
    | n + 2, h => absurd h (by omega)
theorem w0_1 : (way (nat_lit 4) (nat_lit 0) (way (nat_lit 3) (nat_lit 1) Er.sure)) run = true :=
  way_ways (n := 4) (j := 0) (m := 2) (by decide) (fun s hs => way_ways (n := 3) (j := 1) (m := 2) (by decide) (fun s hs => sure_ways (n := 2) (by decide) hs) hs) fun i hi => match i, hi with
    | 0, _ => w0_1_0
    | 1, _ => w0_1_1
    | n + 2, h => absurd h (by omega)
theorem w0_2 : (way (nat_lit 4) (nat_lit 0) (way (nat_lit 3) (nat_lit 2) Er.sure)) run = true :=
  way_ways (n := 4) (j := 0) (m := 2) (by decide) (fun s hs => way_ways (n := 3) (j := 2) (m := 2) (by decide) (fun s hs => sure_ways (n := 2) (by decide) hs) hs) fun i hi => match i, hi with
    | 0, _ => w0_2_0
    | 1, _ => w0_2_1
    | n + 2, h => absurd h (by omega)
theorem w1_0 : (way (nat_lit 4) (nat_lit 1) (way (nat_lit 3) (nat_lit 0) Er.sure)) run = true :=
  way_ways (n := 4) (j := 1) (m := 2) (by decide) (fun s hs => way_ways (n := 3) (j := 0) (m := 2) (by decide) (fun s hs => sure_ways (n := 2) (by decide) hs) hs) fun i hi => match i, hi with
    | 0, _ => w1_0_0
    | 1, _ => w1_0_1
    | n + 2, h => absurd h (by omega)
theorem w1_1 : (way (nat_lit 4) (nat_lit 1) (way (nat_lit 3) (nat_lit 1) Er.sure)) run = true :=
  way_ways (n := 4) (j := 1) (m := 2) (by decide) (fun s hs => way_ways (n := 3) (j := 1) (m := 2) (by decide) (fun s hs => sure_ways (n := 2) (by decide) hs) hs) fun i hi => match i, hi with
    | 0, _ => w1_1_0
    | 1, _ => w1_1_1
    | n + 2, h => absurd h (by omega)
theorem w1_2 : (way (nat_lit 4) (nat_lit 1) (way (nat_lit 3) (nat_lit 2) Er.sure)) run = true :=
  way_ways (n := 4) (j := 1) (m := 2) (by decide) (fun s hs => way_ways (n := 3) (j := 2) (m := 2) (by decide) (fun s hs => sure_ways (n := 2) (by decide) hs) hs) fun i hi => match i, hi with
    | 0, _ => w1_2_0
    | 1, _ => w1_2_1
    | n + 2, h => absurd h (by omega)
theorem w2_0 : (way (nat_lit 4) (nat_lit 2) (way (nat_lit 3) (nat_lit 0) Er.sure)) run = true :=
  way_ways (n := 4) (j := 2) (m := 2) (by decide) (fun s hs => way_ways (n := 3) (j := 0) (m := 2) (by decide) (fun s hs => sure_ways (n := 2) (by decide) hs) hs) fun i hi => match i, hi with
    | 0, _ => w2_0_0
    | 1, _ => w2_0_1
    | n + 2, h => absurd h (by omega)
theorem w2_1 : (way (nat_lit 4) (nat_lit 2) (way (nat_lit 3) (nat_lit 1) Er.sure)) run = true :=
  way_ways (n := 4) (j := 2) (m := 2) (by decide) (fun s hs => way_ways (n := 3) (j := 1) (m := 2) (by decide) (fun s hs => sure_ways (n := 2) (by decide) hs) hs) fun i hi => match i, hi with
    | 0, _ => w2_1_0
    | 1, _ => w2_1_1
    | n + 2, h => absurd h (by omega)
theorem w2_2 : (way (nat_lit 4) (nat_lit 2) (way (nat_lit 3) (nat_lit 2) Er.sure)) run = true :=
  way_ways (n := 4) (j := 2) (m := 2) (by decide) (fun s hs => way_ways (n := 3) (j := 2) (m := 2) (by decide) (fun s hs => sure_ways (n := 2) (by decide) hs) hs) fun i hi => match i, hi with
    | 0, _ => w2_2_0
    | 1, _ => w2_2_1
    | n + 2, h => absurd h (by omega)
theorem w3_0 : (way (nat_lit 4) (nat_lit 3) (way (nat_lit 3) (nat_lit 0) Er.sure)) run = true :=
  way_ways (n := 4) (j := 3) (m := 2) (by decide) (fun s hs => way_ways (n := 3) (j := 0) (m := 2) (by decide) (fun s hs => sure_ways (n := 2) (by decide) hs) hs) fun i hi => match i, hi with
    | 0, _ => w3_0_0
    | 1, _ => w3_0_1
    | n + 2, h => absurd h (by omega)
theorem w3_1 : (way (nat_lit 4) (nat_lit 3) (way (nat_lit 3) (nat_lit 1) Er.sure)) run = true :=
  way_ways (n := 4) (j := 3) (m := 2) (by decide) (fun s hs => way_ways (n := 3) (j := 1) (m := 2) (by decide) (fun s hs => sure_ways (n := 2) (by decide) hs) hs) fun i hi => match i, hi with
    | 0, _ => w3_1_0
    | 1, _ => w3_1_1
    | n + 2, h => absurd h (by omega)
theorem w3_2 : (way (nat_lit 4) (nat_lit 3) (way (nat_lit 3) (nat_lit 2) Er.sure)) run = true :=
  way_ways (n := 4) (j := 3) (m := 2) (by decide) (fun s hs => way_ways (n := 3) (j := 2) (m := 2) (by decide) (fun s hs => sure_ways (n := 2) (by decide) hs) hs) fun i hi => match i, hi with
    | 0, _ => w3_2_0
    | 1, _ => w3_2_1
    | n + 2, h => absurd h (by omega)
theorem w0 : (way (nat_lit 4) (nat_lit 0) Er.sure) run = true :=
  way_ways (n := 4) (j := 0) (m := 3) (by decide) (fun s hs => sure_ways (n := 3) (by decide) hs) fun i hi => match i, hi with
    | 0, _ => w0_0
    | 1, _ => w0_1
    | 2, _ => w0_2
    | n + 3, h => absurd h (by omega)
theorem w1 : (way (nat_lit 4) (nat_lit 1) Er.sure) run = true :=
  way_ways (n := 4) (j := 1) (m := 3) (by decide) (fun s hs => sure_ways (n := 3) (by decide) hs) fun i hi => match i, hi with
    | 0, _ => w1_0
    | 1, _ => w1_1
    | 2, _ => w1_2
    | n + 3, h => absurd h (by omega)
theorem w2 : (way (nat_lit 4) (nat_lit 2) Er.sure) run = true :=
  way_ways (n := 4) (j := 2) (m := 3) (by decide) (fun s hs => sure_ways (n := 3) (by decide) hs) fun i hi => match i, hi with
    | 0, _ => w2_0
    | 1, _ => w2_1
    | 2, _ => w2_2
    | n + 3, h => absurd h (by omega)
theorem w3 : (way (nat_lit 4) (nat_lit 3) Er.sure) run = true :=
  way_ways (n := 4) (j := 3) (m := 3) (by decide) (fun s hs => sure_ways (n := 3) (by decide) hs) fun i hi => match i, hi with
    | 0, _ => w3_0
    | 1, _ => w3_1
    | 2, _ => w3_2
    | n + 3, h => absurd h (by omega)
theorem ran : (enterK Eng.E3 (ctx Eng.E3 (nat_lit 100000)) Eng.k4 [] ⟨0, .nil⟩).sure = true :=
  sure_ways (n := 4) (r := run) (by decide) fun i hi => match i, hi with
    | 0, _ => w0
    | 1, _ => w1
    | 2, _ => w2
    | 3, _ => w3
    | n + 4, h => absurd h (by omega)

theorem walk (w : World) : Calls Tryz.prog 4 #[] w fun e w' => e = .returned (.bool true) ∧ Below w.heap.size w w' :=
  calls_true Eng.mixed (Eng.E3_ok _) (nat_lit 100000) (show Eng.tab.get 4 = some Eng.k4 by kernel_rfl) ran

set_option maxRecDepth 100000 in
theorem lifted (door_met : ∀ (os : Os) (args : Array Value), laidMetH Tryz.prog Rows.forkKnownRow.laid ((laidWorld os).forCall (fun _ _ => 0) ⟨#[], args, []⟩).memory) (os : Os) (started : os.Started) (H : Type) (enc : TypeId × Value → H) :
    ReturnsInHanded {} Tryz.checked os 4 .any (fun w args => (Rows.forkKnownSpec.pre enc Tryz.prog Tryz.f4 [] false w args ∧ laidMetH Tryz.prog Rows.forkKnownRow.laid w) ∧ sizedMet enc Tryz.prog Tryz.f4 (OpenSpec.ofChange Rows.forkKnownSpec) false w args)
      (Rows.forkKnownSpec.post enc Tryz.prog Tryz.f4 false true false false) := by
  refine returnsInHanded_of_change_and (C := Tryz.checked) (X := fun w _ => laidMetH Tryz.prog Rows.forkKnownRow.laid w) (fun _ _ _ hh h => h.of_heap hh) own started (by kernel_rfl) Tryz.func4
    (ChangeSpec.witness_shaped (enc := enc) (C := Tryz.checked) (os := os) (X := fun w _ => laidMetH Tryz.prog Rows.forkKnownRow.laid w) false (laidWorld os) #[] 8 rfl (World.shaped_of_RefB (by kernel_rfl) (by kernel_rfl)) (by kernel_rfl) (by kernel_rfl) (by kernel_rfl) (door_met os _)) ?_
  intro W base args ds gs before hval0 hW _ _ _ _
  have hval : ∀ (j : Nat) t v, Tryz.f4.params[j]? = some t → args[j]? = some v → Value.okWide Tryz.prog W .any base t v := hval0
  have hW' := hW
  obtain ⟨p, q, hA0, hV, rfl, hfz, hnd⟩ := hW
  have hA : DataW.TrodAll enc Tryz.prog W 0 (fun _ => true) true Tryz.f4.params.toList args.toList ds p := hA0
  rw [Tryz.params4] at hA hval
  obtain ⟨rfl, rfl, rfl⟩ := trodAll_none hA
  obtain ⟨rfl, rfl⟩ := trodVars_none hV
  clear hA0 hval0
  simp only [List.append_nil] at hW'
  refine (walk W).mono fun e W' ⟨he, bel⟩ => ?_
  subst he
  exact ⟨_, rfl, _, _, _, [], _, [], hW', trodAll_mk1 (shut_bool Tryz.underlying4 _), trodAll_mk0, rfl, bel.frame _, fun h => by cases h⟩

end forkKnown
end Go.Proofs.YtfcicokigdebpaaGreatDoor
