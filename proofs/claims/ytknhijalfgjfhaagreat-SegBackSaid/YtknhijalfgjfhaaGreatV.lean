/-
  The chapter's examples, run: they are answered as it says; the functions' table with them summed up. No condition.
-/
import Derived.Test.YtknhijalfgjfhaaGreatT
import Derived.Test.YtknhijalfgjfhaaGreatI
set_option linter.unusedVariables false
set_option linter.unusedSimpArgs false
set_option linter.unusedSectionVars false
open List renaming mem_cons -> Xiq
open Bool renaming rec -> XiE, or_eq_false_iff -> Xjk
open Nat renaming beq -> Xie
noncomputable section
namespace Go.Proofs
open Go.Shelf Go.Proofs
namespace YtknhijalfgjfhaaGreat
def sortI_ren : Go.Shelf.Ren := ⟨fun | 6 => 37 | 15 => 70 | 14 => 69 | 28 => 120 | 29 => 121 | 20 => 112 | 21 => 113 | 22 => 114 | 23 => 115 | 24 => 116 | 25 => 117 | 26 => 118 | 27 => 119 | 46 => 151 | 47 => 152 | 48 => 153 | 49 => 154 | 50 => 155 | 57 => 170 | n => n, fun | 22 => 43 | 24 => 32 | 25 => 81 | 3 => 3 | 39 => 144 | 0 => 0 | 53 => 173 | 55 => 188 | 4 => 4 | 46 => 201 | 45 => 200 | 50 => 205 | 5 => 5 | 9 => 9 | 66 => 241 | 70 => 245 | 76 => 261 | 77 => 262 | n => n, fun | n => n⟩
theorem sortIL : Go.Proofs.SlLaysF0.n6 Tryz.prog sortI_ren := {
 mixed := by kernel_rfl,
 f6 := ⟨Tryz.f37.name, by decide, Tryz.func37.trans (congrArg some (by kernel_rfl))⟩,
 f14 := ⟨Tryz.f69.name, by decide, Tryz.func69.trans (congrArg some (by kernel_rfl))⟩,
 f15 := Tryz.func70.trans (congrArg some (by kernel_rfl)),
 f20 := ⟨Tryz.f112.name, by decide, Tryz.func112.trans (congrArg some (by kernel_rfl))⟩,
 f21 := ⟨Tryz.f113.name, by decide, Tryz.func113.trans (congrArg some (by kernel_rfl))⟩,
 f22 := ⟨Tryz.f114.name, by decide, Tryz.func114.trans (congrArg some (by kernel_rfl))⟩,
 f23 := ⟨Tryz.f115.name, by decide, Tryz.func115.trans (congrArg some (by kernel_rfl))⟩,
 f24 := ⟨Tryz.f116.name, by decide, Tryz.func116.trans (congrArg some (by kernel_rfl))⟩,
 f25 := ⟨Tryz.f117.name, by decide, Tryz.func117.trans (congrArg some (by kernel_rfl))⟩,
 f26 := ⟨Tryz.f118.name, by decide, Tryz.func118.trans (congrArg some (by kernel_rfl))⟩,
 f27 := ⟨Tryz.f119.name, by decide, Tryz.func119.trans (congrArg some (by kernel_rfl))⟩,
 f28 := Tryz.func120.trans (congrArg some (by kernel_rfl)),
 f29 := Tryz.func121.trans (congrArg some (by kernel_rfl)),
 f46 := ⟨Tryz.f151.name, by decide, Tryz.func151.trans (congrArg some (by kernel_rfl))⟩,
 f47 := Tryz.func152.trans (congrArg some (by kernel_rfl)),
 f48 := Tryz.func153.trans (congrArg some (by kernel_rfl)),
 f49 := ⟨Tryz.f154.name, by decide, Tryz.func154.trans (congrArg some (by kernel_rfl))⟩,
 f50 := ⟨Tryz.f155.name, by decide, Tryz.func155.trans (congrArg some (by kernel_rfl))⟩,
 f57 := ⟨Tryz.f170.name, by decide, Tryz.func170.trans (congrArg some (by kernel_rfl))⟩,
 t0 := Tryz.underlying0,
 a0 := Tryz.isAgg0,
 z0 := Tryz.sizeOf0,
 v0 := Tryz.zeroValue0,
 t3 := Tryz.underlying3,
 a3 := Tryz.isAgg3,
 z3 := Tryz.sizeOf3,
 v3 := Tryz.zeroValue3,
 t4 := Tryz.underlying4,
 a4 := Tryz.isAgg4,
 z4 := Tryz.sizeOf4,
 v4 := Tryz.zeroValue4,
 t5 := Tryz.underlying5,
 a5 := Tryz.isAgg5,
 z5 := Tryz.sizeOf5,
 v5 := Tryz.zeroValue5,
 t9 := Tryz.underlying9,
 a9 := Tryz.isAgg9,
 z9 := Tryz.sizeOf9,
 v9 := Tryz.zeroValue9,
 t22 := Tryz.underlying43,
 a22 := Tryz.isAgg43,
 z22 := Tryz.sizeOf43,
 v22 := Tryz.zeroValue43,
 t25 := Tryz.underlying81,
 a25 := Tryz.isAgg81,
 z25 := Tryz.sizeOf81,
 v25 := Tryz.zeroValue81,
 t39 := Tryz.underlying144,
 a39 := Tryz.isAgg144,
 z39 := Tryz.sizeOf144,
 v39 := Tryz.zeroValue144,
 t45 := Tryz.underlying200,
 a45 := Tryz.isAgg200,
 z45 := Tryz.sizeOf200,
 v45 := Tryz.zeroValue200,
 t46 := Tryz.underlying201,
 a46 := Tryz.isAgg201,
 z46 := Tryz.sizeOf201,
 v46 := Tryz.zeroValue201,
 t50 := Tryz.underlying205,
 a50 := Tryz.isAgg205,
 z50 := Tryz.sizeOf205,
 v50 := Tryz.zeroValue205,
 t53 := Tryz.underlying173,
 a53 := Tryz.isAgg173,
 z53 := Tryz.sizeOf173,
 v53 := Tryz.zeroValue173,
 t55 := Tryz.underlying188,
 a55 := Tryz.isAgg188,
 z55 := Tryz.sizeOf188,
 v55 := Tryz.zeroValue188,
 t66 := Tryz.underlying241,
 a66 := Tryz.isAgg241,
 z66 := Tryz.sizeOf241,
 v66 := Tryz.zeroValue241,
 t70 := Tryz.underlying245,
 a70 := Tryz.isAgg245,
 z70 := Tryz.sizeOf245,
 v70 := Tryz.zeroValue245,
 t76 := Tryz.underlying261,
 a76 := Tryz.isAgg261,
 z76 := Tryz.sizeOf261,
 v76 := Tryz.zeroValue261,
 t77 := Tryz.underlying262,
 a77 := Tryz.isAgg262,
 z77 := Tryz.sizeOf262,
 v77 := Tryz.zeroValue262 }
end YtknhijalfgjfhaaGreat
end Go.Proofs
namespace Sp
open Go Go.Eng
set_option maxRecDepth 100000
def bts (l : List Nat) : List Value := l.map fun n => .int .u8 (.ofNat n)
def row0 : List Value × Value := (bts [97,98], .agg ⟨bts [251,142,32,252,46,76,63,36,140,96,195,155,214,82,243,193,52,114,152,187,151,123,139,77,89,3,184,80,85,98,6,3]⟩)
theorem row0_ok : tabRow E0 (nat_lit 5000) 33 row0 = true := by kernel_rfl
def row1 : List Value × Value := (bts [0,1,2,97,98], .agg ⟨bts [69,35,31,85,197,15,66,105,224,1,85,24,102,136,225,71,168,95,56,118,55,198,73,110,76,15,22,104,134,165,193,10]⟩)
theorem row1_ok : tabRow E0 (nat_lit 5000) 33 row1 = true := by kernel_rfl
def row2 : List Value × Value := (bts [0,0], .agg ⟨bts [150,162,150,210,36,242,133,198,123,238,147,195,15,138,48,145,87,240,218,163,93,197,184,126,65,11,120,99,10,9,207,199]⟩)
theorem row2_ok : tabRow E0 (nat_lit 5000) 33 row2 = true := by kernel_rfl
def hashTab : List (List Value × Value) := [row0, row1, row2]
theorem hashTab_ok : ∀ e ∈ hashTab, tabRow E0 (nat_lit 5000) 33 e = true := by
 intro e he
 unfold hashTab at he
 rcases Xiq.1 he with rfl | he
 ·exact row0_ok
 rcases Xiq.1 he with rfl | he
 ·exact row1_ok
 rcases Xiq.1 he with rfl | he
 ·exact row2_ok
 cases he
def Ek : Env := ⟨tab.get, fun n => XiE (motive := fun _ => Option Summ) none (some (tabSum hashTab)) (Xie n 33), cMethod Go.Proofs.Tryz.prog, XgB Go.Proofs.Tryz.prog⟩
theorem Ek_ok (B : Nat) : EnvOK Go.Proofs.Tryz.prog B Ek := by
 refine ⟨fun f k h => Tr.allP_get tab_ok f k h, rfl, rfl, fun f s h => ?_⟩
 replace h : (XiE (motive := fun _ => Option Summ) none (some (tabSum hashTab)) (Xie f 33)) = some s := h
 cases hb : Xie f 33 with
 | false => rw [hb] at h; cases h
 | true =>
  rw [hb] at h
  cases h
  rw [beq_iff] at hb
  subst hb
  exact fun ι H w args args' v H' s hr hv => tab_sound mixed (E0_ok B) (nat_lit 5000) 33 hashTab_ok s hr hv
theorem known_run : (enter Ek (ctx Ek (nat_lit 5000)) 6 [] ⟨0, .nil⟩).gives (.bool true) = true := by kernel_rfl
open Go.Proofs Go.Sort Go.RowKit
def E0c : Env := E0.add 71 XgK
theorem E0c_ok (B : Nat) : EnvOK Go.Proofs.Tryz.prog B E0c := (E0_ok B).add 71 XgK fun ι H w args args' v H' s hr hv => cmp_sound Go.Proofs.Tryz.func71 (by kernel_rfl) (by kernel_rfl) (by kernel_rfl) (by kernel_rfl) s hr hv
theorem E0c_has : HasC E0c := ⟨fun f k h => h, fun f h => by
  have h2 : Xie f 71 = false := (Xjk.1 (Xjk.1 h).2).2
  show XiE (motive := fun _ => Option Summ) none (some XgK) (Xie f 71) = none
  rw [h2], rfl⟩
def cmpI (x y : Bid) : Int := Go.Lib.compareBytes x.b y.b
theorem cmpI_lt (x y : Bid) : decide (cmpI x y < 0) = ltI x y := cmpB_lt x.b y.b
theorem cmpI_run (x y : Bid) : (Vx E0c (ctx E0c (nat_lit 38 + 2)) Wd [.agg ⟨Go.Eng.encI x⟩, .agg ⟨Go.Eng.encI y⟩] ⟨0, .nil⟩).Wp true fun v _ => v = .int .i64 (cmpI x y) := (seg_Pages_1_body E0c_has (sg := true) (nat_lit 38) ⟨0, .nil⟩ x y).mono fun v h q => q.1
theorem sortsA (g : Nat) (hk : E0c.fn g = some Wd) (hg : Enters Go.Proofs.Tryz.prog g) (blk off cap : Nat) (d : Array Bid) (w : World) (hH : HoldsK Go.Eng.encI 32 w blk off d) (hb : blk < w.heap.size) (hs : d.size < 4611686018427387904) :
  Calls Go.Proofs.Tryz.prog 37 #[.slice (some ⟨blk, off, none⟩) d.size cap, .func (.func g) #[] #[]] w fun e w' => e = .returned (.tuple #[]) /\ ∃ n os, w' = sortWorldK Go.Eng.encI 32 w blk off n (Zw d.toList).toArray os := by
 have h := Go.Proofs.AnyQ.slices_SortFunc Go.Proofs.YtknhijalfgjfhaaGreat.sortIL 32 Go.Proofs.Tryz.isAgg32 Go.Proofs.Tryz.sizeOf32 Go.Eng.encI Go.Eng.encI_length (fun x v hv => by
  unfold Go.Eng.encI at hv; rw [Yb] at hv; obtain ⟨b, _, rfl⟩ := List.mem_map.1 hv; rfl) cmpI (swo_I cmpI_lt) g #[] blk off cap d w hg (cmp_laysI mixed E0c_ok (nat_lit 38 + 2) hk cmpI cmpI_run blk off d.size w) hH hb hs
 refine Calls.mono h fun e w' he => ?_
 obtain ⟨rfl, d', n, os, hp, hsd, rfl⟩ := he
 rw [sortsI cmpI_lt hp hsd]
 exact ⟨rfl, n, os, rfl⟩
def E1 : Env := (E0c.add 6 XgI).add 37 (Xbl 38 44)
theorem E1_ok (B : Nat) : EnvOK Go.Proofs.Tryz.prog B E1 := ((E0c_ok B).add 6 XgI fun ι H w args args' v H' s hr hv => closed_sound mixed (Ek_ok B) (nat_lit 5000) 6 known_run s hr hv).add 37 (Xbl 38 44) fun ι H w args args' v H' s hr hv => by
 have one : ∀ g, E0c.fn g = some Wd -> Enters Go.Proofs.Tryz.prog g -> Jr g args H = some (v, H') -> CallOK Go.Proofs.Tryz.prog B ι H w (callFunc 37 args'.toArray) (.ret v H') := fun g hk hg hq =>
  sortI_sound Go.Proofs.Tryz.func37 (by kernel_rfl) rfl (sortsA g hk hg) (fun p cap fv w => Go.Proofs.AnyF.slices_SortFunc_none Go.Proofs.YtknhijalfgjfhaaGreat.sortIL p cap fv w) s hr hq
 have hpg := one 38 (show tab.get 38 = some Wd by kernel_rfl) (enters_of Go.Proofs.Tryz.func38 (by kernel_rfl) rfl)
 have hso := one 44 (show tab.get 44 = some Wd by kernel_rfl) (enters_of Go.Proofs.Tryz.func44 (by kernel_rfl) rfl)
 unfold Xbl at hv
 cases hq : Jr 38 args H with
 | some r => rw [hq] at hv; cases hv; exact hpg hq
 | none => rw [hq] at hv; exact hso hv
theorem enter_eq {E : Env} {c : Ctx} {f : Nat} {k : XC} {xs : List Value} {h : Heap} (hs : E.sum f = none) (hf : E.fn f = some k) : enter E c f xs h = Vx E c k xs h := by
 unfold enter
 rw [hs, hf]
 rfl
theorem E1_has : Has E1 := ⟨⟨fun f k h => h, fun f h => by
  have h0 := Xjk.1 h
  have h1 : Xie f 6 = false := h0.1
  have h2 : Xie f 37 = false := (Xjk.1 h0.2).1
  have h3 : Xie f 71 = false := (Xjk.1 h0.2).2
  show XiE (motive := fun _ => Option Summ) (XiE (motive := fun _ => Option Summ) (XiE (motive := fun _ => Option Summ) none (some XgK) (Xie f 71)) (some XgI) (Xie f 6)) (some _) (Xie f 37) = none
  rw [h1, h2, h3], rfl⟩, fun f h => by
  obtain rfl := beq_iff.1 (show Xie f 6 = true from h)
  rfl, rfl⟩
end Sp
end
