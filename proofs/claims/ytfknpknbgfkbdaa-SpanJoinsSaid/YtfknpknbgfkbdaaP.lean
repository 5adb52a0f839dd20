/-
  SpanJoins: for every argument the law's call returns true and its arguments read as they did: by the law's walk on the abstract machine and the machine's soundness. No condition: the statement as given.
-/
import Derived.Test.YtfknpknbgfkbdaaRows
import Derived.Test.YtfknpknbgfkbdaaV
import Derived.Test.YtfknpknbgfkbdaaM
import Derived.WalkKit
import Derived.ProofKit
import Derived.OpenShut
import Derived.ShutString
import Derived.ChangeOld
namespace Go.Proofs.Ytfknpknbgfkbdaa
namespace spanJoins
open Go Go.Eng Go.ChangeShapes Go.WideShapes Go.ChangeAt Go.RowKit
set_option linter.unusedVariables false

theorem own : ownKnob Try.prog.godebug = none := by kernel_rfl
theorem laidOut : laidOutB Try.prog = true := by kernel_rfl

set_option maxRecDepth 100000 in
theorem walk (w : World) (v0 : Value) (hs0 : v0 = .slice none 0 0 ∨ ∃ (a : Addr) (len cap : Nat) (l : List Sp), v0 = .slice (some a) len cap ∧ a.spot = none ∧ len ≤ cap ∧ l.length = len ∧ ∀ i x, (flatS l)[i]? = some x → w.cell? ⟨a.block, a.off + i, none⟩ = some x) (a1 b1 : ByteArray) (a2 : ByteArray) : Calls Try.prog 6 #[v0, .agg #[.string a1, .string b1], .string a2] w fun e w' => e = .returned (.bool true) ∧ Below w.heap.size w w' := by
  obtain ⟨ι, H, ao, m, ca, l, s, rv, S⟩ := spans_sim (P := Try.prog) hs0
  exact calls_sure (E := Eng.E1) (f := 6) (k := Eng.k6) Eng.mixed (Eng.E1_ok _) (nat_lit 604) (show Eng.tab.get 6 = some Eng.k6 by kernel_rfl) (ι := ι) s (args := [.slice ao m ca, .agg ⟨svs (Go.Eng.bytes a1, Go.Eng.bytes b1)⟩, sv (Go.Eng.bytes a2)]) (args' := #[v0, .agg #[.string a1, .string b1], .string a2])
    (show LRel _ [.slice ao m ca, .agg ⟨svs (Go.Eng.bytes a1, Go.Eng.bytes b1)⟩, sv (Go.Eng.bytes a2)] [v0, .agg #[.string a1, .string b1], .string a2] from (.cons rv (.cons (plainV_rel rfl) (.cons (plainV_rel rfl) .nil)))) (Er.Wp.sure (SpanK.joins6 Eng.E1_has (nat_lit 600) l (Go.Eng.bytes a1, Go.Eng.bytes b1) (Go.Eng.bytes a2) ao m ca H S (by decide)))

set_option maxRecDepth 100000 in
theorem lifted (os : Os) (started : os.Started) (H : Type) (enc : TypeId × Value → H) :
    ReturnsInHanded {} Try.checked os 6 .any (Rows.spanJoinsSpec.pre6 enc Try.prog Try.f6 Rows.spanJoinsRow.domain false) (Rows.spanJoinsSpec.post enc Try.prog Try.f6 false true false false) := by
  refine returnsInHanded_of_change (C := Try.checked) own started (by kernel_rfl) Try.func6
    (ChangeSpec.witness6 (enc := enc) (C := Try.checked) false ⟨#[], #[.slice none 0 0, .agg #[.string ⟨#[]⟩, .string ⟨#[]⟩], .string ⟨#[]⟩], []⟩ 8 (by kernel_rfl) (by kernel_rfl) (by kernel_rfl) (by kernel_rfl)) ?_
  intro W base args ds gs before hval0 hW hcnd _
  have hval : ∀ (j : Nat) t v, Try.f6.params[j]? = some t → args[j]? = some v → Value.okWide Try.prog W .any base t v := hval0
  have hW' := hW
  obtain ⟨p, q, hA0, hV, rfl, hfz, hnd⟩ := hW
  have hA : DataW.TrodAll enc Try.prog W 0 (fun _ => true) true Try.f6.params.toList args.toList ds p := hA0
  rw [Try.params6] at hA hval
  obtain ⟨v0, vs0, d0, ds0, p0, q0, hargs, rfl, rfl, h0, r0⟩ := trodAll_cons hA
  obtain ⟨v1, vs1, d1, ds1, p1, q1, rfl, rfl, rfl, h1, r1⟩ := trodAll_cons r0
  obtain ⟨v2, vs2, d2, ds2, p2, q2, rfl, rfl, rfl, h2, r2⟩ := trodAll_cons r1
  obtain ⟨rfl, rfl, rfl⟩ := trodAll_nil r2
  obtain rfl : args = #[v0, v1, v2] := by cases args; simp_all
  obtain ⟨rfl, rfl⟩ := trodVars_none hV
  have k0 := h0
  have lt0 : ∀ x ∈ p0, x.block < W.heap.size := by obtain ⟨m, hm⟩ := k0; exact DataW.trod_lt m _ _ _ hm
  have hs0 := spans_open Try.underlying26 Try.underlying23 Try.underlying9 Try.underlying9 rfl rfl (by kernel_rfl) (by kernel_rfl) (by kernel_rfl) (hval 0 26 v0 rfl rfl) h0
  have k1 := h1
  have lt1 : ∀ x ∈ p1, x.block < W.heap.size := by obtain ⟨m, hm⟩ := k1; exact DataW.trod_lt m _ _ _ hm
  obtain ⟨a1, b1, rfl⟩ := span_open Try.underlying23 Try.underlying9 Try.underlying9 rfl rfl (by kernel_rfl) (by kernel_rfl) (by kernel_rfl) (hval 1 23 v1 rfl rfl) h1
  have k2 := h2
  have lt2 : ∀ x ∈ p2, x.block < W.heap.size := by obtain ⟨m, hm⟩ := k2; exact DataW.trod_lt m _ _ _ hm
  obtain ⟨a2, rfl⟩ := okWide_string Try.underlying9 (hval 2 9 v2 rfl rfl)
  clear hA0 hval0
  refine (walk W v0 hs0 a1 b1 a2).mono fun e W' ⟨he, bel⟩ => ?_
  subst he
  exact ⟨_, rfl, _, _, _, [], _, [], hW', trodAll_mk1 (shut_bool Try.underlying4 _), (trodAll_cons_mk (Below.trod laidOut (by kernel_rfl) (of_decide_eq_true (by kernel_rfl)) k0 bel lt0) (trodAll_cons_mk (Below.trod laidOut (by kernel_rfl) (of_decide_eq_true (by kernel_rfl)) k1 bel lt1) (trodAll_cons_mk (Below.trod laidOut (by kernel_rfl) (of_decide_eq_true (by kernel_rfl)) k2 bel lt2) trodAll_mk0))), rfl, bel.frame _, fun h => by cases h⟩

theorem over : Rows.spanJoinsRow.holds Try.pinned (OpenSpec.ofChange Rows.spanJoinsSpec) :=
  OpenClaim.holds_of_wide 6 Try.f6 rfl rfl rfl rfl rfl rfl rfl ⟨rfl, rfl, rfl, rfl, rfl⟩ rfl rfl rfl rfl rfl (by kernel_rfl) Try.func6 (by kernel_rfl)
    (of_decide_eq_true (by kernel_rfl)) (by unfold Func.isWrapper; first | (rw [if_pos (by decide +kernel)]; kernel_rfl) | (rw [if_neg (by decide +kernel)]; exact ⟨rfl, rfl⟩))
    (fun os started H enc _ => lifted os started H enc)

end spanJoins
/-- The statement. -/
theorem spanJoins_holds : Rows.SpanJoinsSaid := spanJoins.over
#print axioms spanJoins_holds
end Go.Proofs.Ytfknpknbgfkbdaa
