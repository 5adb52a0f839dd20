/-
  The library's sorting laid at this program; the comparison of spans that the program hands to it; the functions' table with the sorting and the examples summed up. No condition.
-/
import Derived.Test.YtfknpknbgfkbdaaI
import Derived.Test.YtfknpknbgfkbdaaK
import Derived.Test.YtfknpknbgfkbdaaT
import Derived.Shelf.SlGeneric

set_option linter.unusedSimpArgs false
set_option linter.unusedSectionVars false
set_option linter.unusedVariables false

namespace Go.Proofs.Ytfknpknbgfkbdaa
open Go.Shelf Go.Proofs
def sortSp_ren : Go.Shelf.Ren := ⟨fun | 6 => 41 | 15 => 47 | 14 => 46 | 28 => 57 | 29 => 58 | 20 => 49 | 21 => 50 | 22 => 51 | 23 => 52 | 24 => 53 | 25 => 54 | 26 => 55 | 27 => 56 | 46 => 59 | 47 => 60 | 48 => 61 | 49 => 62 | 50 => 63 | 57 => 64 | n => n, fun | 22 => 26 | 24 => 23 | 25 => 53 | 3 => 3 | 39 => 58 | 0 => 0 | 53 => 69 | 55 => 71 | 4 => 4 | 46 => 62 | 45 => 61 | 50 => 66 | 5 => 5 | 9 => 9 | 66 => 72 | 70 => 76 | 76 => 78 | 77 => 79 | n => n, fun | n => n⟩
theorem sortSp : Go.Proofs.SlLaysF0.n6 Try.prog sortSp_ren := {
  mixed := by kernel_rfl,
  f6 := ⟨Try.f41.name, by decide, Try.func41.trans (congrArg some (by kernel_rfl))⟩,
  f14 := ⟨Try.f46.name, by decide, Try.func46.trans (congrArg some (by kernel_rfl))⟩,
  f15 := Try.func47.trans (congrArg some (by kernel_rfl)),
  f20 := ⟨Try.f49.name, by decide, Try.func49.trans (congrArg some (by kernel_rfl))⟩,
  f21 := ⟨Try.f50.name, by decide, Try.func50.trans (congrArg some (by kernel_rfl))⟩,
  f22 := ⟨Try.f51.name, by decide, Try.func51.trans (congrArg some (by kernel_rfl))⟩,
  f23 := ⟨Try.f52.name, by decide, Try.func52.trans (congrArg some (by kernel_rfl))⟩,
  f24 := ⟨Try.f53.name, by decide, Try.func53.trans (congrArg some (by kernel_rfl))⟩,
  f25 := ⟨Try.f54.name, by decide, Try.func54.trans (congrArg some (by kernel_rfl))⟩,
  f26 := ⟨Try.f55.name, by decide, Try.func55.trans (congrArg some (by kernel_rfl))⟩,
  f27 := ⟨Try.f56.name, by decide, Try.func56.trans (congrArg some (by kernel_rfl))⟩,
  f28 := Try.func57.trans (congrArg some (by kernel_rfl)),
  f29 := Try.func58.trans (congrArg some (by kernel_rfl)),
  f46 := ⟨Try.f59.name, by decide, Try.func59.trans (congrArg some (by kernel_rfl))⟩,
  f47 := Try.func60.trans (congrArg some (by kernel_rfl)),
  f48 := Try.func61.trans (congrArg some (by kernel_rfl)),
  f49 := ⟨Try.f62.name, by decide, Try.func62.trans (congrArg some (by kernel_rfl))⟩,
  f50 := ⟨Try.f63.name, by decide, Try.func63.trans (congrArg some (by kernel_rfl))⟩,
  f57 := ⟨Try.f64.name, by decide, Try.func64.trans (congrArg some (by kernel_rfl))⟩,
  t0 := Try.underlying0,
  a0 := Try.isAgg0,
  z0 := Try.sizeOf0,
  v0 := Try.zeroValue0,
  t3 := Try.underlying3,
  a3 := Try.isAgg3,
  z3 := Try.sizeOf3,
  v3 := Try.zeroValue3,
  t4 := Try.underlying4,
  a4 := Try.isAgg4,
  z4 := Try.sizeOf4,
  v4 := Try.zeroValue4,
  t5 := Try.underlying5,
  a5 := Try.isAgg5,
  z5 := Try.sizeOf5,
  v5 := Try.zeroValue5,
  t9 := Try.underlying9,
  a9 := Try.isAgg9,
  z9 := Try.sizeOf9,
  v9 := Try.zeroValue9,
  t22 := Try.underlying26,
  a22 := Try.isAgg26,
  z22 := Try.sizeOf26,
  v22 := Try.zeroValue26,
  t25 := Try.underlying53,
  a25 := Try.isAgg53,
  z25 := Try.sizeOf53,
  v25 := Try.zeroValue53,
  t39 := Try.underlying58,
  a39 := Try.isAgg58,
  z39 := Try.sizeOf58,
  v39 := Try.zeroValue58,
  t45 := Try.underlying61,
  a45 := Try.isAgg61,
  z45 := Try.sizeOf61,
  v45 := Try.zeroValue61,
  t46 := Try.underlying62,
  a46 := Try.isAgg62,
  z46 := Try.sizeOf62,
  v46 := Try.zeroValue62,
  t50 := Try.underlying66,
  a50 := Try.isAgg66,
  z50 := Try.sizeOf66,
  v50 := Try.zeroValue66,
  t53 := Try.underlying69,
  a53 := Try.isAgg69,
  z53 := Try.sizeOf69,
  v53 := Try.zeroValue69,
  t55 := Try.underlying71,
  a55 := Try.isAgg71,
  z55 := Try.sizeOf71,
  v55 := Try.zeroValue71,
  t66 := Try.underlying72,
  a66 := Try.isAgg72,
  z66 := Try.sizeOf72,
  v66 := Try.zeroValue72,
  t70 := Try.underlying76,
  a70 := Try.isAgg76,
  z70 := Try.sizeOf76,
  v70 := Try.zeroValue76,
  t76 := Try.underlying78,
  a76 := Try.isAgg78,
  z76 := Try.sizeOf78,
  v76 := Try.zeroValue78,
  t77 := Try.underlying79,
  a77 := Try.isAgg79,
  z77 := Try.sizeOf79,
  v77 := Try.zeroValue79 }

end Go.Proofs.Ytfknpknbgfkbdaa
namespace Go.Proofs.Ytfknpknbgfkbdaa.Eng
open Go Go.Eng Go.Proofs Go.Sort SpanK
set_option maxRecDepth 100000
theorem E0_has41 : E0.sum 41 = none := rfl
noncomputable def E1 : Env := (E0.add 9 trueSum).add 41 (sortSum 42)
theorem E0a_ok (B : Nat) : EnvOK Try.prog B (E0.add 9 trueSum) := (E0_ok B).add 9 trueSum fun ι H w args args' v H' s hr hv => closed_sound mixed (E0_ok B) (nat_lit 300) 9 awake_run s hr hv
theorem has_sum (n : Nat) (h1 : n ≠ 41) (h2 : n ≠ 9) : E1.sum n = none := by
  show (Bool.rec (motive := fun _ => Option Summ) (Bool.rec (motive := fun _ => Option Summ) none (some trueSum) (Nat.beq n 9)) (some (sortSum 42)) (Nat.beq n 41)) = none
  rw [show Nat.beq n 41 = false from by cases e : Nat.beq n 41; rfl; exact absurd (beq_iff.1 e) h1, show Nat.beq n 9 = false from by cases e : Nat.beq n 9; rfl; exact absurd (beq_iff.1 e) h2]
theorem E1_has : Has E1 := ⟨⟨fun _ => rfl, has_sum⟩, rfl, rfl⟩
theorem E0_has : Has0 E0 := ⟨fun _ => rfl, fun _ _ _ => rfl⟩
theorem cmp_ltSp (x y : Sp) : decide (cmpS x y < 0) = ltSp x y := by
  have cb : ∀ a b : Str, (cmpB a b = 0 ↔ a = b) ∧ (cmpB a b < 0 ↔ ltBytes a b = true) := by
    intro a b
    unfold cmpB
    by_cases h : ltBytes a b = true
    · rw [if_pos h]
      refine ⟨⟨fun k => by omega, fun k => ?_⟩, ⟨fun _ => h, fun _ => by omega⟩⟩
      subst k; rw [ltB_irrefl] at h; cases h
    · rw [if_neg h]
      by_cases k : ltBytes b a = true
      · rw [if_pos k]
        refine ⟨⟨fun j => by omega, fun j => ?_⟩, ⟨fun j => by omega, fun j => absurd j h⟩⟩
        subst j; rw [ltB_irrefl] at k; cases k
      · rw [if_neg k]
        refine ⟨⟨fun _ => ?_, fun _ => rfl⟩, ⟨fun j => by omega, fun j => absurd j h⟩⟩
        rcases ltB_total a b with j | j | j
        · exact absurd j h
        · exact j
        · exact absurd j k
  rw [Bool.eq_iff_iff, decide_eq_true_eq, ltSp_iff]
  unfold cmpS
  by_cases h : cmpB x.1 y.1 = 0
  · rw [if_pos h]
    have e := (cb x.1 y.1).1.1 h
    rw [(cb x.2 y.2).2]
    constructor
    · intro k; exact .inr ⟨e, k⟩
    · rintro (k | k)
      · rw [e, ltB_irrefl] at k; cases k
      · exact k.2
  · rw [if_neg h, (cb x.1 y.1).2]
    constructor
    · intro k; exact .inl k
    · rintro (k | k)
      · exact k
      · exact absurd ((cb x.1 y.1).1.2 k.1) h
theorem cmp_run (x y : Sp) : (enterK E0 (ctx E0 (nat_lit 40)) k42 [.agg ⟨svs x⟩, .agg ⟨svs y⟩] ⟨0, .nil⟩).Wp fun v _ => v = .int .i64 (cmpS x y) := by
  obtain ⟨v, h', e, q⟩ := cmp42 E0_has (nat_lit 39) x y ⟨0, .nil⟩ (by decide)
  refine ⟨v, h', ?_, q⟩
  rw [← e]
  rfl
theorem lays (blk off size : Nat) (w : World) : CmpLays Try.prog 42 #[] svs 2 cmpS blk off size w := cmp_lays mixed E0_ok (nat_lit 40) (show E0.fn 42 = some k42 from rfl) cmpS cmp_run blk off size w
theorem sorted_calls (blk off cap : Nat) (d : Array Sp) (w : World) (hH : HoldsK svs 2 w blk off d) (hb : blk < w.heap.size) (hs : d.size < 4611686018427387904) :
    Calls Try.prog 41 #[.slice (some ⟨blk, off, none⟩) d.size cap, .func (.func 42) #[] #[]] w fun e w' => e = .returned (.tuple #[]) ∧ ∃ n os, w' = sortWorldK svs 2 w blk off n (sortS d.toList).toArray os := by
  have h := AnyQ.slices_SortFunc sortSp 2 Try.isAgg23 Try.sizeOf23 svs (fun _ => rfl) (fun x v hv => by simp [svs] at hv; rcases hv with rfl | rfl <;> rfl) cmpS (swo_sp cmp_ltSp) 42 #[] blk off cap d w (enters_of Try.func42 (by kernel_rfl) rfl) (lays blk off d.size w) hH hb hs
  refine Calls.mono h fun e w' he => ?_
  obtain ⟨rfl, d', n, os, hp, hsd, rfl⟩ := he
  rw [sorts (ltOf_cmp cmp_ltSp) hp hsd]
  exact ⟨rfl, n, os, rfl⟩
theorem E1_ok (B : Nat) : EnvOK Try.prog B E1 := (E0a_ok B).add 41 (sortSum 42) fun ι H w args args' v H' s hr hv =>
  sort_sound Try.func41 (by kernel_rfl) rfl sorted_calls (fun p cap fv w => AnyF.slices_SortFunc_none sortSp p cap fv w) s hr hv
end Go.Proofs.Ytfknpknbgfkbdaa.Eng
