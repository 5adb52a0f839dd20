/-
  The abstract machine's regions, code, deferred calls, functions and methods go as the model's. Conditions: those that each lemma states.
-/
import Derived.Test.YtknhijalfgjfhaaGreatC
import Derived.Defers
import Derived.Scope
set_option linter.unusedVariables false
set_option linter.unusedSimpArgs false
set_option linter.unusedSectionVars false
open Go.Sem renaming runT_eq -> XiY, run_bind -> XhG, run_pure -> XhJ
open Go.Result renaming andThen_ok -> XhF
open Option renaming isSome_iff_exists -> XiL
open Array renaming toList_map -> Xiz, toList_inj -> Xiq, getD_eq_getD_getElem? -> Xiy, length_toList -> Xja, replicate -> Xio
open List renaming range' -> Xin
open Bool renaming false_eq_true -> Xik
namespace Go.Eng
variable {k : List Item} {ι' : Inj}
def Rz.all (N : Tm -> Aux -> Heap -> Prop) (E : Nat -> Tm -> Aux -> Heap -> Prop) (R : Tm -> Aux -> Heap -> Prop) (Q : Value -> List Nat -> Tm -> Aux -> Heap -> Prop) (r : Rz) : Prop :=
 Rz.rec (motive := fun _ => Prop) N E R Q (fun _ _ _ => True) (fun _ => True) (fun n _ ih => ∃ j, j < n /\ ih j) r
def Er.all (A : Value -> Heap -> Prop) (C : List (Value × Bool) -> Heap -> Prop) (r : Er) : Prop :=
 Er.rec (motive := fun _ => Prop) A C (fun _ => True) (fun n _ ih => ∃ j, j < n /\ ih j) r
def Dr.all (A : WT -> Heap -> Prop) (C : List (Value × Bool) -> WT -> Heap -> Prop) (r : Dr) : Prop :=
 Dr.rec (motive := fun _ => Prop) A C (fun _ => True) (fun n _ ih => ∃ j, j < n /\ ih j) r
section
variable {N N' : Tm -> Aux -> Heap -> Prop} {E E' : Nat -> Tm -> Aux -> Heap -> Prop} {R R' : Tm -> Aux -> Heap -> Prop} {Q Q' : Value -> List Nat -> Tm -> Aux -> Heap -> Prop}
theorem Rz.all_mono {r : Rz} (h : r.all N E R Q) (hN : ∀ t x h, N t x h -> N' t x h) (hE : ∀ i t x h, E i t x h -> E' i t x h) (hR : ∀ t x h, R t x h -> R' t x h) (hQ : ∀ v l t x h, Q v l t x h -> Q' v l t x h) : r.all N' E' R' Q' := by
 induction r with
 | norm t x h' => exact hN _ _ _ h
 | exit i t x h' => exact hE _ _ _ _ h
 | ret t x h' => exact hR _ _ _ h
 | panic v l t x h' => exact hQ _ _ _ _ _ h
 | got => trivial
 | fail => trivial
 | any n k ih => obtain ⟨j, h1, h2⟩ := h; exact ⟨j, h1, ih j h2⟩
theorem Rz.all_then {r : Rz} {k : Tm -> Aux -> Heap -> Rz} (h : r.all (fun t x h => (k t x h).all N E R Q) E R Q) : (r.then k).all N E R Q := by
 induction r with
 | norm t x h' => exact h
 | exit i t x h' => exact h
 | ret t x h' => exact h
 | panic v l t x h' => exact h
 | got => trivial
 | fail => trivial
 | any n k ih => obtain ⟨j, h1, h2⟩ := h; exact ⟨j, h1, ih j h2⟩
theorem Rz.all_onExit {r : Rz} {id : Nat} (h : r.all N (fun i t x h => if i = id then N t x h else E i t x h) R Q) : (r.onExit id).all N E R Q := by
 induction r with
 | norm t x h' => exact h
 | exit i t x h' =>
  replace h : if i = id then N t x h' else E i t x h' := h
  show Rz.all N E R Q (Bool.rec (motive := fun _ => Rz) (.exit i t x h') (.norm t x h') (Nat.beq i id))
  by_cases e : i = id
  ·rw [if_pos e] at h; rw [beq_iff.2 e]; exact h
  ·rw [if_neg e] at h
   have : Nat.beq i id = false := by
    cases hb : Nat.beq i id with
    | false => rfl
    | true => exact absurd (beq_iff.1 hb) e
   rw [this]; exact h
 | ret t x h' => exact h
 | panic v l t x h' => exact h
 | got => trivial
 | fail => trivial
 | any n k ih => obtain ⟨j, h1, h2⟩ := h; exact ⟨j, h1, ih j h2⟩
variable {A A' : Value -> Heap -> Prop} {C C' : List (Value × Bool) -> Heap -> Prop}
theorem Er.all_mono {r : Er} (h : r.all A C) (hA : ∀ v h, A v h -> A' v h) (hC : ∀ c h, C c h -> C' c h) : r.all A' C' := by
 induction r with
 | ret v h' => exact hA _ _ h
 | panic c h' => exact hC _ _ h
 | fail => trivial
 | any n k ih => obtain ⟨j, h1, h2⟩ := h; exact ⟨j, h1, ih j h2⟩
theorem Er.all_toRz {r : Er} {a : Value -> Heap -> Rz} {c : List (Value × Bool) -> Heap -> Rz} (h : r.all (fun v h => (a v h).all N E R Q) (fun ch h => (c ch h).all N E R Q)) : (r.toRz a c).all N E R Q := by
 induction r with
 | ret v h' => exact h
 | panic c h' => exact h
 | fail => trivial
 | any n k ih => obtain ⟨j, h1, h2⟩ := h; exact ⟨j, h1, ih j h2⟩
theorem Rz.all_toEr {r : Rz} {lv rt : Tm -> Aux -> Heap -> Er} {pn : Value -> List Nat -> Tm -> Aux -> Heap -> Er} {ex : Nat -> Tm -> Aux -> Heap -> Er}
  (h : r.all (fun t x h => (lv t x h).all A C) (fun i t x h => (ex i t x h).all A C) (fun t x h => (rt t x h).all A C) (fun v l t x h => (pn v l t x h).all A C)) : (r.toEr lv pn ex rt).all A C := by
 induction r with
 | norm t x h' => exact h
 | exit i t x h' => exact h
 | ret t x h' => exact h
 | panic v l t x h' => exact h
 | got => trivial
 | fail => trivial
 | any n k ih => obtain ⟨j, h1, h2⟩ := h; exact ⟨j, h1, ih j h2⟩
variable {D D' : WT -> Heap -> Prop} {F F' : List (Value × Bool) -> WT -> Heap -> Prop}
theorem Dr.all_mono {r : Dr} (h : r.all D F) (hD : ∀ m h, D m h -> D' m h) (hF : ∀ c m h, F c m h -> F' c m h) : r.all D' F' := by
 induction r with
 | ret v h' => exact hD _ _ h
 | panic c m h' => exact hF _ _ _ h
 | fail => trivial
 | any n k ih => obtain ⟨j, h1, h2⟩ := h; exact ⟨j, h1, ih j h2⟩
theorem Rz.all_toDr {r : Rz} {lv : Tm -> Aux -> Heap -> Dr} {pn : Aux -> Heap -> Value -> Dr}
  (h : r.all (fun t x h => (lv t x h).all D F) (fun _ _ _ _ => True) (fun t x h => (lv t x h).all D F) (fun v l t x h => (pn x h v).all D F)) : (r.toDr lv pn).all D F := by
 induction r with
 | norm t x h' => exact h
 | exit i t x h' => trivial
 | ret t x h' => exact h
 | panic v l t x h' => exact h
 | got => trivial
 | fail => trivial
 | any n k ih => obtain ⟨j, h1, h2⟩ := h; exact ⟨j, h1, ih j h2⟩
theorem Dr.all_toEr {r : Dr} {a : WT -> Heap -> Er} {c : List (Value × Bool) -> WT -> Heap -> Er} (h : r.all (fun m h => (a m h).all A C) (fun ch m h => (c ch m h).all A C)) : (r.toEr a c).all A C := by
 induction r with
 | ret v h' => exact h
 | panic c m h' => exact h
 | fail => trivial
 | any n k ih => obtain ⟨j, h1, h2⟩ := h; exact ⟨j, h1, ih j h2⟩
end
def PRel (ι : Inj) (p : Value × Bool) (e : PanicEntry) : Prop := VRel ι p.1 e.v /\ e.recovered = p.2 /\ e.goexit = false
abbrev ChRel (ι : Inj) := All2 (PRel ι)
inductive ModeRel (ι : Inj) : WT -> FrameMode -> Prop where
 | returning : ModeRel ι .returning .returning
 | panicking {c : List (Value × Bool)} {c' : List PanicEntry} (h : ChRel ι c c') : ModeRel ι (.panicking c) (.panicking c')
def ADefRel (ι : Inj) : ADef -> Deferred -> Prop
 | .call fn args, d' => ∃ fv' fn' first' cap' args', fv' = Value.func fn' first' cap' /\ VRel ι fn fv' /\ LRel ι args args' /\ d' = { target := .fn fn' cap', args := first' ++ args'.toArray }
 | .mark l, d' => ∃ p, ι l = some p /\ d' = { target := .collected p.b, args := #[] }
def RoundRel (ι : Inj) : Option Nat -> Frame -> Prop
 | none, b => b.roundOf = none
 | some l, b => ∃ p, ι l = some p /\ b.roundOf = some p.b
def RcRel (ι : Inj) : Option WT -> Frame -> List Frame -> Prop
 | none, b, _ => b.kind = .normal
 | some m, b, cs => b.kind = .deferred /\ ∃ c₀ rest, cs = c₀ :: rest /\ ModeRel ι m c₀.mode
theorem PRel.mono {ι : Inj} (h : ι.le ι') {p : Value × Bool} {e : PanicEntry} (r : PRel ι p e) : PRel ι' p e := ⟨r.1.mono h, r.2⟩
theorem ChRel.mono {ι : Inj} (h : ι.le ι') {c : List (Value × Bool)} {c' : List PanicEntry} (r : ChRel ι c c') : ChRel ι' c c' := All2.mono r fun _ _ => PRel.mono h
theorem ModeRel.mono {ι : Inj} (h : ι.le ι') {m : WT} {u : FrameMode} (r : ModeRel ι m u) : ModeRel ι' m u := by
 cases r with
 | returning => exact .returning
 | panicking hc => exact .panicking (hc.mono h)
theorem ADefRel.mono {ι : Inj} (h : ι.le ι') {d : ADef} {d' : Deferred} (r : ADefRel ι d d') : ADefRel ι' d d' := by
 cases d with
 | call fn args =>
  obtain ⟨fv', fn', first', cap', args', h1, h2, h3, h4⟩ := r
  exact ⟨fv', fn', first', cap', args', h1, h2.mono h, h3.mono h, h4⟩
 | mark l =>
  obtain ⟨p, h1, h2⟩ := r
  exact ⟨p, h _ _ h1, h2⟩
theorem RoundRel.mono {ι : Inj} (h : ι.le ι') {o : Option Nat} {b : Frame} (r : RoundRel ι o b) : RoundRel ι' o b := by
 cases o with
 | none => exact r
 | some l => obtain ⟨p, h1, h2⟩ := r; exact ⟨p, h _ _ h1, h2⟩
theorem RcRel.mono {ι : Inj} (h : ι.le ι') {m : Option WT} {b : Frame} {cs : List Frame} (r : RcRel ι m b cs) : RcRel ι' m b cs := by
 cases m with
 | none => exact r
 | some m => obtain ⟨h1, c₀, rest, h2, h3⟩ := r; exact ⟨h1, c₀, rest, h2, h3.mono h⟩
structure St (P : Program) (B : Nat) (ι : Inj) (H : Heap) (w : World) (m : Nat) (b : Frame) (t : Tm) (x : Aux) (a : Act) (cs : List Frame) : Prop where
 sim : Sim P B ι H w
 tmps : TmRel ι m t a.tmps
 defs : All2 (ADefRel ι) x.defers a.defers
 round : RoundRel ι x.round b
 rc : RcRel ι x.rc b cs
def CsAdv (b : Frame) (cs cs' : List Frame) : Prop := cs' = cs \/ (b.kind = .deferred /\ ∃ c₀ rest u, cs = c₀ :: rest /\ cs' = { c₀ with mode := u } :: rest)
theorem CsAdv.refl (b : Frame) (cs : List Frame) : CsAdv b cs cs := .inl rfl
theorem CsAdv.trans {b : Frame} {cs cs' cs'' : List Frame} (h : CsAdv b cs cs') (h' : CsAdv b cs' cs'') : CsAdv b cs cs'' := by
 rcases h with rfl | ⟨hk, c₀, rest, u, rfl, rfl⟩
 ·exact h'
 ·rcases h' with rfl | ⟨_, c₁, rest', u', e, rfl⟩
  ·exact .inr ⟨hk, c₀, rest, u, rfl, rfl⟩
  ·cases e; exact .inr ⟨hk, c₀, rest, u', rfl, rfl⟩
structure From (P : Program) (B : Nat) where
 m0 : Machine
 b : Frame
 m : Nat
 ι : Inj
 H : Heap
 w : World
 cs : List Frame
 bound : ∀ b p, ι b = some p -> b < H.next
section
variable {P : Program} {B : Nat}
def From.Reach (f : From P B) (todo : Act -> List Frame -> World -> Machine) (t : Tm) (x : Aux) (H' : Heap) : Prop :=
 ∃ ι' a' cs' w', Steps P f.m0 (todo a' cs' w') /\ St P B ι' H' w' f.m f.b t x a' cs' /\ Adv f.ι f.H f.w ι' H' w' /\ CsAdv f.b f.cs cs'
def From.N (f : From P B) (k : List Item) (t : Tm) (x : Aux) (H' : Heap) : Prop := f.Reach (fun a cs w => lone (f.b.atR a k) cs w) t x H'
def From.E (f : From P B) (k : List Item) (id : Nat) (t : Tm) (x : Aux) (H' : Heap) : Prop :=
 ∃ k1, exitTo id k1 = exitTo id k /\ f.Reach (fun a cs w => lone (f.b.atR a (.code (.exit id) :: k1)) cs w) t x H'
def From.R (f : From P B) (t : Tm) (x : Aux) (H' : Heap) : Prop := ∃ k1, f.Reach (fun a cs w => lone (f.b.atR a (.code .ret :: k1)) cs w) t x H'
def From.Q (f : From P B) (v : Value) (lost : List Nat) (t : Tm) (x : Aux) (H' : Heap) : Prop :=
 ∃ ι' a' cs' w' todo v', Steps P f.m0 (lone { f.b.atR a' todo with mode := .panicking [{ v := v', recovered := false }] } cs' w') /\ VRel ι' v v' /\
  Sim P B ι' H' w' /\ (f.m <= a'.tmps.size /\ ∀ n, n < 256 -> n < f.m -> n ∉ lost -> VRel ι' (Zi n t) (a'.tmps.getD n undef)) /\ All2 (ADefRel ι') x.defers a'.defers /\ RoundRel ι' x.round f.b /\ RcRel ι' x.rc f.b cs' /\ Adv f.ι f.H f.w ι' H' w' /\ CsAdv f.b f.cs cs'
abbrev From.All (f : From P B) (k : List Item) (r : Rz) : Prop := r.all (f.N k) (f.E k) f.R f.Q
def From.next (f : From P B) (m1 : Machine) (ι1 : Inj) (H1 : Heap) (w1 : World) (cs1 : List Frame) (hb : ∀ b p, ι1 b = some p -> b < H1.next) : From P B :=
 { m0 := m1, b := f.b, m := f.m, ι := ι1, H := H1, w := w1, cs := cs1, bound := hb }
theorem From.reach_next {f : From P B} {m1 : Machine} {ι1 : Inj} {H1 : Heap} {w1 : World} {cs1 : List Frame} {hb : ∀ b p, ι1 b = some p -> b < H1.next} (hs : Steps P f.m0 m1) (ha : Adv f.ι f.H f.w ι1 H1 w1) (hc : CsAdv f.b f.cs cs1)
  {todo : Act -> List Frame -> World -> Machine} {t : Tm} {x : Aux} {H' : Heap} (h : (f.next m1 ι1 H1 w1 cs1 hb).Reach todo t x H') : f.Reach todo t x H' := by
 obtain ⟨ι', a', cs', w', h1, h2, h3, h4⟩ := h
 exact ⟨ι', a', cs', w', hs.trans h1, h2, Adv.trans f.bound ha h3, hc.trans h4⟩
theorem From.all_next {f : From P B} {m1 : Machine} {ι1 : Inj} {H1 : Heap} {w1 : World} {cs1 : List Frame} {hb : ∀ b p, ι1 b = some p -> b < H1.next} (hs : Steps P f.m0 m1) (ha : Adv f.ι f.H f.w ι1 H1 w1) (hc : CsAdv f.b f.cs cs1)
  {k k1 : List Item} (hk : ∀ id, exitTo id k1 = exitTo id k) (hN : ∀ t x h, (f.next m1 ι1 H1 w1 cs1 hb).N k1 t x h -> f.N k t x h) {r : Rz} (h : (f.next m1 ι1 H1 w1 cs1 hb).All k1 r) : f.All k r := by
 refine Rz.all_mono h hN ?_ ?_ ?_
 ·rintro id t x h' ⟨k2, h1, h2⟩
  exact ⟨k2, h1.trans (hk id), From.reach_next hs ha hc h2⟩
 ·rintro t x h' ⟨k2, h2⟩
  exact ⟨k2, From.reach_next hs ha hc h2⟩
 ·rintro v l t x h' ⟨ι', a', cs', w', todo, v', h1, h2, h3, h4, h5, h6, h7, h8, h9⟩
  exact ⟨ι', a', cs', w', todo, v', hs.trans h1, h2, h3, h4, h5, h6, h7, Adv.trans f.bound ha h8, hc.trans h9⟩
end
section
variable {P : Program} {B : Nat}
def After (P : Program) (fr : Frame) (cs : List Frame) : Next -> Option (Frame × List Frame)
 | .value v => some (fr.finish v, cs)
 | .skip => some (fr.finish undef, cs)
 | .enter f args => some (Frame.enter P f args .normal, fr :: cs)
 | .round l f tmps assign body => some (Frame.round l f tmps assign body .normal, fr :: cs)
 | .row row args => some (Frame.ofRow P row args .normal, fr :: cs)
 | .defer d => some ({ fr with defers := d :: fr.defers }.finish undef, cs)
 | .recover => match fr.roundOf with
  | some _ => none
  | none => match tryRecover fr cs with
   | some (v, cs') => some (fr.finish v, cs')
   | none => some (fr.finish .nilIface, cs)
 | _ => none
structure Does (P : Program) (m0 : Machine) (fr : Frame) (cs : List Frame) (s : Sem Next) (w : World) : Prop where
 ok : ∀ n w1 g gs, s.run P w = .ok n w1 -> After P fr cs n = some (g, gs) -> step P m0 = .next (lone g gs w1)
 panic : ∀ v w1, s.run P w = .halt (.panic v) w1 -> step P m0 = .next (lone (fr.raise [{ v, recovered := false }]) cs w1)
theorem does_op {b : Frame} {a : Act} {cs : List Frame} {w : World} {ops : Array Oper} {i : Nat} {rest : List Nat} {o : Oper} (ho : ops[i]? = some o) (hw : Region.wanted o (yielded ops a.tmps) = true) (hnd : b.roundOf = none \/ ∀ c, o.op ≠ .defer c) :
  Does P (lone (b.atR a (.inRegion ops (i :: rest) :: k)) cs w) (b.atR a (.inRegion ops (i :: rest) :: k)) cs (execOp a.eval o) w := by
 have hg := stepGR_op (P := P) (b := b) (k := k) (cs := cs) (w := w) (rest := rest) ho hw
 have hsem : o.semAt b.roundOf a.eval = execOp a.eval o := by
  rcases hnd with h | h
  ·rw [h]; rfl
  ·exact Oper.semAt_eq _ _ _ h
 rw [hsem] at hg
 constructor
 ·intro n w1 g gs hr ha
  refine step_lone_go ?_
  rw [hg]
  cases n <;> simp only [After] at ha <;> first | (cases ha; done) | skip
  case value v => cases ha; simp [stepG.apply, hr]
  case skip => cases ha; simp [stepG.apply, hr]
  case enter f args => cases ha; simp [stepG.apply, hr, Frame.atR]
  case row row args => cases ha; simp [stepG.apply, hr, Frame.atR]
  case round l f tmps assign body => cases ha; simp [stepG.apply, hr]
  case defer d => cases ha; simp [stepG.apply, hr]
  case recover =>
   cases hro : (b.atR a (.inRegion ops (i :: rest) :: k)).roundOf with
   | some l => rw [hro] at ha; cases ha
   | none =>
    rw [hro] at ha
    simp only at ha
    cases ht : tryRecover (b.atR a (.inRegion ops (i :: rest) :: k)) cs with
    | none => rw [ht] at ha; cases ha; simp only [stepG.apply, XiY, hr, GStep.bare_after]; simp [hro, ht]
    | some q => obtain ⟨v, cs'⟩ := q; rw [ht] at ha; cases ha; simp only [stepG.apply, XiY, hr, GStep.bare_after]; simp [hro, ht]
 ·intro v w1 hr
  refine step_lone_go ?_
  rw [hg]
  simp [stepG.apply, hr]
def CallOK (P : Program) (B : Nat) (ι : Inj) (H : Heap) (w : World) (s : Sem Next) (er : Er) : Prop :=
 ∀ (fr : Frame) (cs : List Frame) (m0 : Machine), fr.mode = .run -> Does P m0 fr cs s w ->
  er.all (fun v H' => ∃ ι' w' v', Steps P m0 (lone (fr.finish v') cs w') /\ VRel ι' v v' /\ Sim P B ι' H' w' /\ Adv ι H w ι' H' w')
   (fun ch H' => ∃ ι' w' ch', Steps P m0 (lone (fr.raise ch') cs w') /\ ChRel ι' ch ch' /\ Sim P B ι' H' w' /\ Adv ι H w ι' H' w')
structure Vr (P : Program) (B : Nat) (c : Ctx) : Prop where
 call : ∀ ι H w f f' args args', Sim P B ι H w -> VRel ι f f' -> LRel ι args args' -> CallOK P B ι H w (do let d <- Deferred.ofValue f' args'.toArray; invoke d.target d.args) (c.call f args H)
 inv : ∀ ι H w x x' name args args', Sim P B ι H w -> VRel ι x x' -> LRel ι args args' -> CallOK P B ι H w (invoke (.fn (.method name) #[]) (#[x'] ++ args'.toArray)) (c.inv x name args H)
 nil : c.nilOk = Xd8 P
variable {ι : Inj} {H : Heap} {w : World} {m : Nat} {b : Frame} {t : Tm} {x : Aux} {a : Act} {cs : List Frame}
theorem St.withMem (S : St P B ι H w m b t x a cs) {H' : Heap} {w' : World} (s : Sim P B ι' H' w') (ad : Adv ι H w ι' H' w') : St P B ι' H' w' m b t x a cs :=
 ⟨s, S.tmps.mono ad.le, All2.mono S.defs fun _ _ => ADefRel.mono ad.le, S.round.mono ad.le, S.rc.mono ad.le⟩
theorem St.put (S : St P B ι H w m b t x a cs) {d : Option Tmp} (hd : ∀ k, d = some k -> k < m /\ k < 256) {v v' : Value} (hv : VRel ι v v') : St P B ι H w m b (dPut d v t) x (a.put d v') cs := by
 refine ⟨S.sim, ?_, by cases d <;> exact S.defs, S.round, S.rc⟩
 cases d with
 | none => exact S.tmps
 | some k => exact S.tmps.put (hd k rfl).1 (hd k rfl).2 hv
structure Goes (P : Program) (B : Nat) (ι : Inj) (H : Heap) (w : World) (m : Nat) (b : Frame) (t : Tm) (x : Aux) (a : Act) (cs : List Frame) (m1 : Machine) (fr : Frame) (K : Cont)
  (N : Tm -> Aux -> Heap -> Prop) (E : Nat -> Tm -> Aux -> Heap -> Prop) (R : Tm -> Aux -> Heap -> Prop) (Q : Value -> List Nat -> Tm -> Aux -> Heap -> Prop) : Prop where
 on : ∀ ι' H' w' a' cs' v v' x', Steps P m1 (lone (({ fr with defers := a'.defers } : Frame).finish v') cs' w') -> a'.tmps = a.tmps -> VRel ι' v v' -> St P B ι' H' w' m b t x' a' cs' -> Adv ι H w ι' H' w' -> CsAdv b cs cs' -> (K v x' H').all N E R Q
 off : ∀ ι' H' w' v v', Steps P m1 (lone (fr.raise [{ v := v', recovered := false }]) cs w') -> VRel ι' v v' -> St P B ι' H' w' m b t x a cs -> Adv ι H w ι' H' w' -> Q v [] t x H'
variable {m1 : Machine} {fr : Frame} {K : Cont} {N : Tm -> Aux -> Heap -> Prop} {E : Nat -> Tm -> Aux -> Heap -> Prop} {R : Tm -> Aux -> Heap -> Prop} {Q : Value -> List Nat -> Tm -> Aux -> Heap -> Prop}
theorem Goes.value (G : Goes P B ι H w m b t x a cs m1 fr K N E R Q) (hfr : fr.defers = a.defers) {s : Sem Next} (D : Does P m1 fr cs s w) (S : St P B ι H w m b t x a cs) {v : Value} {H' : Heap} (h : Acts P B ι H w s v H') : (K v x H').all N E R Q := by
 obtain ⟨ι', w', n, v', h1, h2, h3, h4, h5⟩ := h
 have hs : step P m1 = .next (lone (fr.finish v') cs w') := by
  rcases h2 with rfl | ⟨rfl, rfl⟩
  ·exact D.ok _ _ _ _ h1 rfl
  ·exact D.ok _ _ _ _ h1 rfl
 have e : ({ fr with defers := a.defers } : Frame) = fr := by rw [<- hfr]
 exact G.on ι' H' w' a cs v v' x (by rw [e]; exact .one hs) rfl h3 (S.withMem h4 h5) h5 (.refl _ _)
theorem exBack_ok (G : Goes P B ι H w m b t x a cs m1 fr K N E R Q) (hfr : fr.defers = a.defers) (hm : fr.mode = .run) {s : Sem Next} (D : Does P m1 fr cs s w) (S : St P B ι H w m b t x a cs) {er : Er} (h : CallOK P B ι H w s er) : (Wt er t x K).all N E R Q := by
 have e : ({ fr with defers := a.defers } : Frame) = fr := by rw [<- hfr]
 refine Er.all_toRz (Er.all_mono (h fr cs m1 hm D) ?_ ?_)
 ·rintro v H' ⟨ι', w', v', h1, h2, h3, h4⟩
  exact G.on ι' H' w' a cs v v' x (by rw [e]; exact h1) rfl h2 (S.withMem h3 h4) h4 (.refl _ _)
 ·rintro ch H' ⟨ι', w', ch', h1, h2, h3, h4⟩
  split
  ·rename_i v
   cases h2 with
   | cons hp ht =>
    cases ht
    obtain ⟨p1, p2, p3⟩ := hp
    rename_i e'
    have : e' = { v := e'.v, recovered := false } := by cases e'; simp only at p2 p3 ⊢; rw [p2, p3]
    rw [this] at h1
    exact G.off ι' H' w' v e'.v h1 p1 (S.withMem h3 h4) h4
  ·trivial
end
def special : COp -> Bool
 | .nilCheck _ | .call .. | .invoke .. | .panic _ | .recover | .defer .. | .nextMap _ => true
 | _ => false
section
variable {P : Program} {m : Nat}
theorem Yp {x : Option COp} {why : String} (h : special (Zk x why) = true) : ∃ c, x = some c /\ special c = true := by
 cases x with
 | none => cases h
 | some c => exact ⟨c, rfl, h⟩
def specialOp : Op -> Prop
 | .nilCheck _ | .next _ _ | .call _ | .defer _ | .panic _ => True
 | _ => False
theorem special_op {o : Oper} (hc : special (cOp P m o) = true) : specialOp o.op := by
 unfold cOp at hc
 cases ho : o.op
 all_goals (rw [ho] at hc; simp only at hc)
 case alloc e =>
  obtain ⟨cc, hc1, hc2⟩ := Yp hc
  obtain ⟨z, hz, rfl⟩ := Xl hc1
  cases hc2
 case box e x =>
  obtain ⟨cc, hc1, hc2⟩ := Yp hc
  obtain ⟨z, hz, rfl⟩ := Xl hc1
  cases hc2
 case move x =>
  obtain ⟨cc, hc1, hc2⟩ := Yp hc
  obtain ⟨z, hz, rfl⟩ := Xl hc1
  cases hc2
 case assign x =>
  obtain ⟨cc, hc1, hc2⟩ := Yp hc
  obtain ⟨z, hz, rfl⟩ := Xl hc1
  cases hc2
 case buildSlice T' n ps =>
  obtain ⟨cc, hc1, hc2⟩ := Yp hc
  split at hc1
  ·split at hc1
   ·cases hc1
   ·obtain ⟨z, hz, hc3⟩ := Xq hc1
    split at hc3
    ·cases hc3
    ·obtain ⟨cps, hp, rfl⟩ := Xl hc3
     cases hc2
  ·cases hc1
 case store T' x y =>
  obtain ⟨cc, hc1, hc2⟩ := Yp hc
  obtain ⟨hk, hc3⟩ := XR hc1
  obtain ⟨x', y', hx, hy, rfl⟩ := Xv hc3
  cases hc2
 case convert src d x =>
  obtain ⟨cc, hc1, hc2⟩ := Yp hc
  split at hc1
  ·split at hc1
   ·split at hc1
    ·obtain ⟨x', hx, rfl⟩ := Xl hc1
     cases hc2
    ·cases hc1
   ·cases hc1
  ·obtain ⟨x', hx, rfl⟩ := Xl hc1
   cases hc2
  ·obtain ⟨x', hx, rfl⟩ := Xl hc1
   cases hc2
  ·split at hc1
   ·obtain ⟨x', hx, rfl⟩ := Xl hc1
    cases hc2
   ·cases hc1
  ·split at hc1
   ·obtain ⟨x', hx, rfl⟩ := Xl hc1
    cases hc2
   ·cases hc1
  ·cases hc1
 case makeMap T' r =>
  cases r with
  | none =>
   obtain ⟨cc, hc1, hc2⟩ := Yp hc
   split at hc1
   ·obtain ⟨sh, hsh, rfl⟩ := Xl hc1
    cases hc2
   ·cases hc1
  | some r => cases hc
 case makeSlice T' l c =>
  obtain ⟨cc, hc1, hc2⟩ := Yp hc
  split at hc1
  ·obtain ⟨z, hz, hc3⟩ := Xq hc1
   split at hc3
   ·cases hc3
   ·obtain ⟨l', c', hl, hcc, rfl⟩ := Xv hc3
    cases hc2
  ·cases hc1
 case mapUpdate T' mp k x =>
  obtain ⟨cc, hc1, hc2⟩ := Yp hc
  split at hc1
  ·obtain ⟨sh, hsh, hc3⟩ := Xq hc1
   obtain ⟨mp', hm, hc4⟩ := Xq hc3
   obtain ⟨k', x', hk, hx, rfl⟩ := Xv hc4
   cases hc2
  ·cases hc1
 case insert T' mp k x =>
  obtain ⟨cc, hc1, hc2⟩ := Yp hc
  split at hc1
  ·obtain ⟨sh, hsh, hc3⟩ := Xq hc1
   obtain ⟨mp', hm, hc4⟩ := Xq hc3
   obtain ⟨k', x', hk, hx, rfl⟩ := Xv hc4
   cases hc2
  ·cases hc1
 case range T' x =>
  obtain ⟨cc, hc1, hc2⟩ := Yp hc
  split at hc1
  ·obtain ⟨x', hx, rfl⟩ := Xl hc1
   cases hc2
  ·obtain ⟨x', hx, rfl⟩ := Xl hc1
   cases hc2
  ·cases hc1
 case pick c0 a0 b0 =>
  obtain ⟨cc, hc1, hc2⟩ := Yp hc
  obtain ⟨c', hc', hc3⟩ := Xq hc1
  obtain ⟨a', b', ha', hb', rfl⟩ := Xv hc3
  cases hc2
 case build T' ps =>
  obtain ⟨cc, hc1, hc2⟩ := Yp hc
  obtain ⟨z, hz, hc3⟩ := Xq hc1
  split at hc3
  ·obtain ⟨h1, h2⟩ := XR hc3
   obtain ⟨cps, h3, rfl⟩ := Xl h2
   cases hc2
  ·obtain ⟨h1, h2⟩ := XR hc3
   obtain ⟨cps, h3, rfl⟩ := Xl h2
   cases hc2
  ·cases hc3
 case load T' x =>
  obtain ⟨cc, hc1, hc2⟩ := Yp hc
  obtain ⟨hk, hc3⟩ := XR hc1
  obtain ⟨x', hx, rfl⟩ := Xl hc3
  split at hc2 <;> cases hc2
 case binOp op T' x y U =>
  split at hc
  ·obtain ⟨cc, hc1, hc2⟩ := Yp hc
   obtain ⟨p, hp, h3⟩ := Xq hc1
   obtain ⟨x', y', hx, hy, rfl⟩ := Xv h3
   cases hc2
  ·obtain ⟨cc, hc1, hc2⟩ := Yp hc
   obtain ⟨p, hp, h3⟩ := Xq hc1
   obtain ⟨x', y', hx, hy, rfl⟩ := Xv h3
   cases hc2
  ·obtain ⟨cc, hc1, hc2⟩ := Yp hc
   obtain ⟨x', y', hx, hy, rfl⟩ := Xv hc1
   cases hc2
 case sliceToArrayPointer T' x =>
  obtain ⟨cc, hc1, hc2⟩ := Yp hc
  split at hc1
  ·obtain ⟨x', hx, rfl⟩ := Xl hc1
   cases hc2
  ·cases hc1
 case makeInterface T' x =>
  obtain ⟨cc, hc1, hc2⟩ := Yp hc
  split at hc1
  ·cases hc1
  ·cases hc1
  ·obtain ⟨x', hx, rfl⟩ := Xl hc1
   cases hc2
 case makeFunc fn fs cs =>
  obtain ⟨cc, hc1, hc2⟩ := Yp hc
  split at hc1
  ·obtain ⟨f', c', hf', hc', rfl⟩ := Xv hc1
   cases hc2
  ·obtain ⟨f', c', hf', hc', rfl⟩ := Xv hc1
   cases hc2
  ·cases hc1
 case slice T' x lo hi mx =>
  obtain ⟨cc, hc1, hc2⟩ := Yp hc
  obtain ⟨x', hx, hc3⟩ := Xq hc1
  obtain ⟨lo', hlo, hc4⟩ := Xq hc3
  obtain ⟨hi', hhi, hc5⟩ := Xq hc4
  obtain ⟨mx', hmx, hc6⟩ := Xq hc5
  split at hc6
  ·split at hc6
   ·cases hc6
   ·cases hc6; cases hc2
  ·obtain ⟨hk, hc7⟩ := XR hc6
   cases hc7; cases hc2
  ·obtain ⟨hk, hc7⟩ := XR hc6
   cases hc7; cases hc2
  ·split at hc6
   ·obtain ⟨hk, hc7⟩ := XR hc6
    cases hc7; cases hc2
   ·cases hc6
  ·cases hc6
 case fieldAddr T' x f =>
  obtain ⟨cc, hc1, hc2⟩ := Yp hc
  split at hc1
  ·obtain ⟨fd, hf, hc3⟩ := Xq hc1
   split at hc3
   ·cases hc3
   ·obtain ⟨x', hx, rfl⟩ := Xl hc3
    cases hc2
  ·cases hc1
 case field T' x f =>
  obtain ⟨cc, hc1, hc2⟩ := Yp hc
  split at hc1
  ·obtain ⟨fd, hf, hc3⟩ := Xq hc1
   obtain ⟨hk, hc4⟩ := XR hc3
   obtain ⟨x', hx, rfl⟩ := Xl hc4
   cases hc2
  ·cases hc1
 case indexAddr T' x i =>
  obtain ⟨cc, hc1, hc2⟩ := Yp hc
  split at hc1
  ·obtain ⟨hk, hc3⟩ := XR hc1
   obtain ⟨x', i', hx, hi, rfl⟩ := Xv hc3
   cases hc2
  ·obtain ⟨hk, hc3⟩ := XR hc1
   obtain ⟨x', i', hx, hi, rfl⟩ := Xv hc3
   cases hc2
  ·cases hc1
 case index T' x i =>
  obtain ⟨cc, hc1, hc2⟩ := Yp hc
  split at hc1
  ·obtain ⟨hk, hc3⟩ := XR hc1
   obtain ⟨x', i', hx, hi, rfl⟩ := Xv hc3
   cases hc2
  ·obtain ⟨x', i', hx, hi, rfl⟩ := Xv hc1
   cases hc2
  ·cases hc1
 case lookup T' x i ok =>
  obtain ⟨cc, hc1, hc2⟩ := Yp hc
  split at hc1
  ·obtain ⟨sh, hsh, hc3⟩ := Xq hc1
   obtain ⟨z, hz, hc4⟩ := Xq hc3
   obtain ⟨x', i', hx, hi, rfl⟩ := Xv hc4
   cases hc2
  ·cases hc1
 case typeAssert x xT T' ok =>
  obtain ⟨cc, hc1, hc2⟩ := Yp hc
  split at hc1
  ·obtain ⟨z, hz, hc3⟩ := Xq hc1
   obtain ⟨x', hx, rfl⟩ := Xl hc3
   cases hc2
  ·cases hc1
  ·obtain ⟨z, hz, hc3⟩ := Xq hc1
   obtain ⟨x', hx, rfl⟩ := Xl hc3
   cases hc2
 all_goals first
  | trivial
  | (cases hc; done)
  | (obtain ⟨cc, hc1, hc2⟩ := Yp hc
     obtain ⟨x', hx, rfl⟩ := Xl hc1
     cases hc2
     done)
end
section
variable {P : Program} {B : Nat}
variable {ι : Inj} {H : Heap} {w : World} {m : Nat} {b : Frame} {t : Tm} {x : Aux} {a : Act} {cs : List Frame}
variable {m1 : Machine} {fr : Frame} {K : Cont} {N : Tm -> Aux -> Heap -> Prop} {E : Nat -> Tm -> Aux -> Heap -> Prop} {R : Tm -> Aux -> Heap -> Prop} {Q : Value -> List Nat -> Tm -> Aux -> Heap -> Prop}
theorem cNilOk_run {ty : TypeId} {name : String} {v : Value} (h : Xd8 P ty name = true) (w : World) (n : Nat) : (nilAhead (n + 1) ty v name).run P w = .ok (some false) w := by
 unfold Xd8 at h
 cases hm : (P.info? ty).bind fun i => i.methods.find? (·.name == name) with
 | none => rw [hm] at h; cases h
 | some mt =>
  rw [hm] at h
  obtain ⟨i, h1, h2⟩ := Xq hm
  simp only [Bool.and_eq_true] at h
  obtain ⟨⟨hk, hp⟩, hf⟩ := h
  have hpl : mt.path.toList = [] := by
   have : mt.path = #[] := by simpa using hp
   rw [this]
  have hti : (typeInfo ty).run P w = .ok i w := by simp [typeInfo, h1]
  unfold nilAhead
  simp only [XhG, hti, XhF, h2, hpl, followBlind, XhJ]
  cases hfn : mt.func with
  | none => rw [hfn] at hf; cases hf
  | some q =>
   obtain ⟨f, ptr⟩ := q
   rw [hfn] at hf
   cases ptr with
   | true => rfl
   | false =>
    simp only at hf
    obtain ⟨d, hd⟩ := XiL.1 hk
    have hu : und P ty = d := by unfold und; rw [hd]; rfl
    rw [hu] at hf
    simp only [XhG, run_underlying hd, XhF]
    cases d <;> first | rfl | (cases hf; done)
theorem op_nil (G : Goes P B ι H w m b t x a cs m1 fr K N E R Q) (hfr : fr.defers = a.defers) {c : Ctx} (hc : c.nilOk = Xd8 P) {o : Oper} {xo : Operand} (ho : o.op = .nilCheck xo) (D : Does P m1 fr cs (execOp a.eval o) w) (S : St P B ι H w m b t x a cs)
  {xo' : Opd} (hx : XE m xo = some xo') : (XM xo'.val c t x H K).all N E R Q := by
 have hr := Xx S.tmps hx
 have go : ∀ v, (execOp a.eval o).run P w = .ok (.value (a.eval xo)) w -> VRel ι v (a.eval xo) -> (K v x H).all N E R Q := by
  intro v h1 h2
  exact G.value hfr D S ⟨ι, w, .value (a.eval xo), a.eval xo, h1, .inl rfl, h2, S.sim, Adv.refl ι H w⟩
 unfold XM
 split
 ·rename_i ad e
  rw [e] at hr
  refine go _ ?_ hr
  generalize hq : a.eval xo = q at hr
  cases hr
  unfold execOp; simp only [ho, hq]; rfl
 ·rename_i f first cap e
  rw [e] at hr
  refine go _ ?_ hr
  generalize hq : a.eval xo = q at hr
  obtain ⟨f', a', c', rfl, hf, _, _⟩ := ZE hr
  cases hf
  unfold execOp; simp only [ho, hq]; rfl
 ·rename_i name first cap e
  rw [e] at hr
  split
  ·rename_i ty v rest hfirst
   cases hn : c.nilOk ty name with
   | false => trivial
   | true =>
    rw [hc] at hn
    refine go _ ?_ hr
    generalize hq : a.eval xo = q at hr
    obtain ⟨f', a', c', rfl, hf, ha, _⟩ := ZE hr
    cases hf
    rw [hfirst] at ha
    have h0 : ∃ v', a'[0]? = some (.iface ty v') := by
     obtain ⟨y, hy1, hy2⟩ := ha.get? (i := 0) (x := .iface ty v) rfl
     cases hy2
     exact ⟨_, by simpa using hy1⟩
    obtain ⟨v', h0⟩ := h0
    have hfuel : P.types.size + Made.depth = (P.types.size + 99) + 1 := rfl
    unfold execOp
    simp_all [XhG, run_program, XhF, cNilOk_run]
  ·trivial
 ·rename_i ty v e
  rw [e] at hr
  refine go _ ?_ hr
  generalize hq : a.eval xo = q at hr
  cases hr
  unfold execOp; simp only [ho, hq]; rfl
 ·trivial
theorem tryRecover_normal {fr : Frame} (h : fr.kind = .normal) (cs : List Frame) : tryRecover fr cs = none := by
 unfold tryRecover
 rw [h]
theorem op_recover (G : Goes P B ι H w m b t x a cs m1 fr K N E R Q) (hfr : fr.defers = a.defers) (hk : fr.kind = b.kind) (hrd : fr.roundOf = b.roundOf) {s : Sem Next} (hs : s.run P w = .ok .recover w) (D : Does P m1 fr cs s w) (S : St P B ι H w m b t x a cs) (c : Ctx) :
  (WA c t x H K).all N E R Q := by
 have e : ({ fr with defers := a.defers } : Frame) = fr := by rw [<- hfr]
 unfold WA
 have hround := S.round
 cases hro : x.round with
 | some l => trivial
 | none =>
 rw [hro] at hround
 replace hround : b.roundOf = none := hround
 have hfrn : fr.roundOf = none := hrd.trans hround
 simp only
 have nope : tryRecover fr cs = none -> (K .nilIface x H).all N E R Q := by
  intro ht
  have hstep := D.ok .recover w (fr.finish .nilIface) cs hs (by simp only [After, hfrn, ht])
  exact G.on ι H w a cs .nilIface .nilIface x (by rw [e]; exact .one hstep) rfl .nilIface S (Adv.refl ι H w) (.refl _ _)
 have hrc := S.rc
 cases hx : x.rc with
 | none =>
  rw [hx] at hrc
  exact nope (tryRecover_normal (hk.trans hrc) cs)
 | some mo =>
  rw [hx] at hrc
  obtain ⟨hkd, c₀, rest, rfl, hmode⟩ := hrc
  have htr : tryRecover fr (c₀ :: rest) = match c₀.mode with
    | .panicking ({ v, recovered := false, goexit := false } :: older) => some (v, { c₀ with mode := .panicking ({ v, recovered := true } :: older) } :: rest)
    | _ => none := by
   unfold tryRecover
   rw [hk, hkd]
   rfl
  generalize hcm : c₀.mode = u at hmode
  cases hmode with
  | returning => exact nope (by rw [htr, hcm])
  | panicking hch =>
   cases hch with
   | nil => exact nope (by rw [htr, hcm])
   | cons hp ht =>
    rename_i p e1 ps es
    obtain ⟨v, rec⟩ := p
    obtain ⟨p1, p2, p3⟩ := hp
    cases rec with
    | true =>
     grind
    | false =>
     obtain ⟨ev, er, eg⟩ := e1
     simp only at p2 p3
     subst p2; subst p3
     have ht' : tryRecover fr (c₀ :: rest) = some (ev, { c₀ with mode := .panicking ({ v := ev, recovered := true } :: es) } :: rest) := by rw [htr, hcm]
     have hstep := D.ok .recover w (fr.finish ev) ({ c₀ with mode := .panicking ({ v := ev, recovered := true } :: es) } :: rest) hs (by simp only [After, hfrn, ht'])
     refine G.on ι H w a ({ c₀ with mode := .panicking ({ v := ev, recovered := true } :: es) } :: rest) v ev _ (by rw [e]; exact .one hstep) rfl p1 ⟨S.sim, S.tmps, S.defs, hround, hkd, _, rest, rfl, .panicking (.cons ⟨p1, rfl, rfl⟩ ht)⟩ (Adv.refl ι H w) (.inr ⟨hkd, c₀, rest, _, rfl, rfl⟩)
theorem op_defer (G : Goes P B ι H w m b t x a cs m1 fr K N E R Q) (hfr : fr.defers = a.defers) {o : Oper} {cl : Call} (ho : o.op = .defer cl) {f : Operand} (hcl : cl.callee = .value f) (D : Does P m1 fr cs (execOp a.eval o) w) (S : St P B ι H w m b t x a cs)
  {f' : Opd} {args' : List Opd} (hf : XE m f = some f') (ha : Uv m cl.args = some args') (c : Ctx) : (Wu f'.val (opds args') c t x H K).all N E R Q := by
 have hrf := Xx S.tmps hf
 have hra := Xc0 S.tmps ha
 unfold Wu
 have hround := S.round
 cases hro : x.round with
 | some l => trivial
 | none =>
 rw [hro] at hround
 replace hround : b.roundOf = none := hround
 simp only
 split
 ·rename_i fn0 a0 b0 hv
  rw [hv] at hrf
  generalize hq : a.eval f = q at hrf
  obtain ⟨fn, first, cap, rfl, _, _, _⟩ := ZE hrf
  have hrun : (execOp a.eval o).run P w = .ok (.defer { target := .fn fn cap, args := first ++ cl.args.map a.eval }) w := by
   unfold execOp
   simp only [ho, resolve, hcl, hq, Deferred.ofValue]
   rfl
  have hstep := D.ok _ _ _ _ hrun rfl
  refine G.on ι H w { a with defers := { target := .fn fn cap, args := first ++ cl.args.map a.eval } :: a.defers } cs undef undef _ (by rw [hfr] at hstep; exact .one hstep) rfl (Xag ι) ⟨S.sim, S.tmps, .cons ?_ S.defs, hround, S.rc⟩ (Adv.refl ι H w) (.refl _ _)
  exact ⟨.func fn first cap, fn, first, cap, (cl.args.map a.eval).toList, rfl, hrf, by rw [Xiz]; exact hra, by rw [Array.toArray_toList]⟩
 ·trivial
def CallKind (m : Nat) (cl : Call) : COp -> Prop
 | .nilCheck _ | .nextMap _ | .defer .. => False
 | .call f' args' => ∃ f, cl.callee = .value f /\ XE m f = some f' /\ Uv m cl.args = some args'
 | .invoke x' name args' => ∃ xo, cl.callee = .invoke xo name /\ XE m xo = some x' /\ Uv m cl.args = some args'
 | .panic x' => ∃ xo, cl.callee = .builtin .panic /\ cl.args.toList = [xo] /\ XE m xo = some x'
 | .recover => cl.callee = .builtin .recover
 | _ => True
theorem VV (cl : Call) : CallKind m cl (cCall P m cl) := by
 unfold cCall
 split
 ·rename_i f hf
  cases h1 : XE m f with
  | none => trivial
  | some f' => cases h2 : Uv m cl.args with
   | none => trivial
   | some as => exact ⟨f, hf, h1, h2⟩
 ·rename_i xo name hf
  cases h1 : XE m xo with
  | none => trivial
  | some f' => cases h2 : Uv m cl.args with
   | none => trivial
   | some as => exact ⟨xo, hf, h1, h2⟩
 ·rename_i bi hb
  split
  ·split
   ·trivial
   ·split <;> trivial
   ·cases XE m _ <;> trivial
   ·cases XE m _ <;> trivial
   ·cases XE m _ <;> trivial
   ·trivial
  ·split
   ·cases XE m _ <;> trivial
   ·trivial
  ·rename_i so xo _
   split
   ·split
    ·split
     ·trivial
     ·cases XE m so <;> cases XE m xo <;> trivial
    ·trivial
   ·split
    ·split
     ·trivial
     ·cases XE m so <;> cases XE m xo <;> trivial
    ·trivial
   ·split
    ·split
     ·trivial
     ·cases XE m so <;> cases XE m xo <;> trivial
    ·trivial
   ·trivial
  ·rename_i do' so _
   split
   ·rename_i e _
    cases okT P e <;> cases XE m do' <;> cases XE m so <;> trivial
   ·trivial
  ·rename_i mo ko _
   split
   ·rename_i kt e _
    cases XcW P kt <;> cases XE m mo <;> cases XE m ko <;> trivial
   ·trivial
  ·split
   ·split
    ·split <;> trivial
    ·trivial
   ·cases XE m _ <;> trivial
   ·trivial
  ·rename_i xo xs _
   cases XE m xo <;> cases xs.mapM (XE m) <;> trivial
  ·rename_i xo xs _
   cases XE m xo <;> cases xs.mapM (XE m) <;> trivial
  ·rename_i xo hargs
   cases h1 : XE m xo with
   | none => trivial
   | some q => exact ⟨xo, hb, hargs, h1⟩
  ·exact hb
  ·trivial
theorem op_sound (G : Goes P B ι H w m b t x a cs m1 fr K N E R Q) (hfr : fr.defers = a.defers) (hmode : fr.mode = .run) (hk : fr.kind = b.kind) (hrd : fr.roundOf = b.roundOf) {c : Ctx} (C : Vr P B c) {o : Oper} (D : Does P m1 fr cs (execOp a.eval o) w) (S : St P B ι H w m b t x a cs) :
  (exOf (cOp P m o) c t x H K).all N E R Q := by
 have look : ∀ L, YN (cOp P m o) = some L -> (VG L c t x H K).all N E R Q := by
  intro L hL
  cases hv : L t H with
  | none => unfold VG; rw [hv]; trivial
  | some v =>
   obtain ⟨v', h1, h2⟩ := look_sound S.sim S.tmps hL hv
   have := G.value hfr D S ⟨ι, w, .value v', v', h1, .inl rfl, h2, S.sim, Adv.refl ι H w⟩
   unfold VG
   rw [hv]
   exact this
 have turn : ∀ T, tnOf (cOp P m o) = some T -> (Yi T c t x H K).all N E R Q := by
  intro T hT
  cases hv : T t H with
  | none => unfold Yi; rw [hv]; trivial
  | some r =>
   obtain ⟨v, H'⟩ := r
   have := G.value hfr D S (turn_sound S.sim S.tmps hT hv)
   unfold Yi
   rw [hv]
   exact this
 have hsp := special_op (P := P) (m := m) (o := o)
 have back : ∀ er, CallOK P B ι H w (execOp a.eval o) er -> (Wt er t x K).all N E R Q := fun er h => exBack_ok G hfr hmode D S h
 generalize hco : cOp P m o = co at look turn hsp
 cases co
 case nilCheck xo' =>
  have hs := hsp rfl
  unfold cOp at hco
  cases ho : o.op <;> rw [ho] at hs hco <;> first | (exact hs.elim) | skip
  all_goals simp only at hco
  case nilCheck xo =>
   cases hx : XE m xo with
   | none => rw [hx] at hco; cases hco
   | some q =>
    rw [hx] at hco
    cases hco
    exact op_nil G hfr C.nil ho D S hx
  case next it st =>
   cases hx : XE m it with
   | none => rw [hx] at hco; cases hco
   | some q => rw [hx] at hco; cases st <;> cases hco
  case call cl =>
   have := VV (P := P) (m := m) cl
   rw [hco] at this
   exact this.elim
  case defer cl =>
   split at hco
   ·rename_i f hcl
    cases hf : XE m f with
    | none => rw [hf] at hco; cases hco
    | some f' =>
     cases ha : Uv m cl.args with
     | none => rw [hf, ha] at hco; cases hco
     | some as => rw [hf, ha] at hco; cases hco
   ·cases hco
  case panic xo =>
   cases hx : XE m xo with
   | none => rw [hx] at hco; cases hco
   | some q => rw [hx] at hco; cases hco
 case call f' args' =>
  have hs := hsp rfl
  unfold cOp at hco
  cases ho : o.op <;> rw [ho] at hs hco <;> first | (exact hs.elim) | skip
  all_goals simp only at hco
  case nilCheck xo => cases hx : XE m xo <;> rw [hx] at hco <;> cases hco
  case next it st =>
   cases hx : XE m it with
   | none => rw [hx] at hco; cases hco
   | some q => rw [hx] at hco; cases st <;> cases hco
  case panic xo => cases hx : XE m xo <;> rw [hx] at hco <;> cases hco
  case defer cl =>
   split at hco
   ·rename_i f hcl
    cases hf : XE m f <;> cases ha : Uv m cl.args <;> rw [hf, ha] at hco <;> cases hco
   ·cases hco
  case call cl =>
   have := VV (P := P) (m := m) cl
   rw [hco] at this
   obtain ⟨f, hcl, hf, ha⟩ := this
   refine back (c.call (f'.val t) (J1 t (opds args')) H) ?_
   have hcall := C.call ι H w (f'.val t) (a.eval f) (J1 t (opds args')) (cl.args.toList.map a.eval) S.sim (Xx S.tmps hf) (Xc0 S.tmps ha)
   have he : execOp a.eval o = (do let d <- Deferred.ofValue (a.eval f) (cl.args.toList.map a.eval).toArray; invoke d.target d.args) := by
    unfold execOp
    simp only [ho, resolve, hcl]
    rw [<- Xiz, Array.toArray_toList]
   rw [he]
   exact hcall
 case invoke x' name args' =>
  have hs := hsp rfl
  unfold cOp at hco
  cases ho : o.op <;> rw [ho] at hs hco <;> first | (exact hs.elim) | skip
  all_goals simp only at hco
  case nilCheck xo => cases hx : XE m xo <;> rw [hx] at hco <;> cases hco
  case next it st =>
   cases hx : XE m it with
   | none => rw [hx] at hco; cases hco
   | some q => rw [hx] at hco; cases st <;> cases hco
  case panic xo => cases hx : XE m xo <;> rw [hx] at hco <;> cases hco
  case defer cl =>
   split at hco
   ·rename_i f hcl
    cases hf : XE m f <;> cases ha : Uv m cl.args <;> rw [hf, ha] at hco <;> cases hco
   ·cases hco
  case call cl =>
   have := VV (P := P) (m := m) cl
   rw [hco] at this
   obtain ⟨xo, hcl, hx, ha⟩ := this
   refine back (c.inv (x'.val t) name (J1 t (opds args')) H) ?_
   have hcall := C.inv ι H w (x'.val t) (a.eval xo) name (J1 t (opds args')) (cl.args.toList.map a.eval) S.sim (Xx S.tmps hx) (Xc0 S.tmps ha)
   have he : execOp a.eval o = invoke (.fn (.method name) #[]) (#[a.eval xo] ++ (cl.args.toList.map a.eval).toArray) := by
    unfold execOp
    simp only [ho, resolve, hcl]
    rw [<- Xiz, Array.toArray_toList]
    rfl
   rw [he]
   exact hcall
 case panic x' =>
  have hs := hsp rfl
  have key : ∀ xo, XE m xo = some x' -> (∀ v', a.eval xo = v' -> ∀ ty v, v' = .iface ty v -> (execOp a.eval o).run P w = .halt (.panic v') w) -> (UA x'.val c t x H K).all N E R Q := by
   intro xo hx hrun
   have hr := Xx S.tmps hx
   unfold UA
   split
   ·rename_i ty v e
    rw [e] at hr
    generalize hq : a.eval xo = q at hr
    cases hr
    rename_i v' hv
    exact G.off ι H w (.iface ty v) (.iface ty v') (.one (D.panic _ _ (hrun _ hq _ _ rfl))) (.iface ty hv) S (Adv.refl ι H w)
   ·trivial
  unfold cOp at hco
  cases ho : o.op <;> rw [ho] at hs hco <;> first | (exact hs.elim) | skip
  all_goals simp only at hco
  case nilCheck xo => cases hx : XE m xo <;> rw [hx] at hco <;> cases hco
  case next it st =>
   cases hx : XE m it with
   | none => rw [hx] at hco; cases hco
   | some q => rw [hx] at hco; cases st <;> cases hco
  case panic xo =>
   cases hx : XE m xo with
   | none => rw [hx] at hco; cases hco
   | some q =>
    rw [hx] at hco
    cases hco
    refine key xo hx ?_
    rintro v' hq ty v rfl
    unfold execOp
    simp [ho, hq, Instr.panic]
  case defer cl =>
   split at hco
   ·rename_i f hcl
    cases hf : XE m f <;> cases ha : Uv m cl.args <;> rw [hf, ha] at hco <;> cases hco
   ·cases hco
  case call cl =>
   have := VV (P := P) (m := m) cl
   rw [hco] at this
   obtain ⟨xo, hcl, hargs, hx⟩ := this
   refine key xo hx ?_
   rintro v' hq ty v rfl
   have ha : cl.args = #[xo] := by rw [<- Xiq, hargs]
   unfold execOp
   simp [ho, resolve, hcl, invoke, builtin, ha, hq, Instr.panic]
 case recover =>
  have hs := hsp rfl
  unfold cOp at hco
  cases ho : o.op <;> rw [ho] at hs hco <;> first | (exact hs.elim) | skip
  all_goals simp only at hco
  case nilCheck xo => cases hx : XE m xo <;> rw [hx] at hco <;> cases hco
  case next it st =>
   cases hx : XE m it with
   | none => rw [hx] at hco; cases hco
   | some q => rw [hx] at hco; cases st <;> cases hco
  case panic xo => cases hx : XE m xo <;> rw [hx] at hco <;> cases hco
  case defer cl =>
   split at hco
   ·rename_i f hcl
    cases hf : XE m f <;> cases ha : Uv m cl.args <;> rw [hf, ha] at hco <;> cases hco
   ·cases hco
  case call cl =>
   have := VV (P := P) (m := m) cl
   rw [hco] at this
   refine op_recover G hfr hk hrd (s := execOp a.eval o) ?_ D S c
   unfold execOp
   simp [ho, resolve, show cl.callee = .builtin .recover from this, invoke, builtin]
 case defer f' args' =>
  have hs := hsp rfl
  unfold cOp at hco
  cases ho : o.op <;> rw [ho] at hs hco <;> first | (exact hs.elim) | skip
  all_goals simp only at hco
  case nilCheck xo => cases hx : XE m xo <;> rw [hx] at hco <;> cases hco
  case next it st =>
   cases hx : XE m it with
   | none => rw [hx] at hco; cases hco
   | some q => rw [hx] at hco; cases st <;> cases hco
  case panic xo => cases hx : XE m xo <;> rw [hx] at hco <;> cases hco
  case defer cl =>
   split at hco
   ·rename_i f hcl
    cases hf : XE m f with
    | none => rw [hf] at hco; cases hco
    | some q => cases ha : Uv m cl.args with
     | none => rw [hf, ha] at hco; cases hco
     | some as =>
      rw [hf, ha] at hco
      cases hco
      exact op_defer G hfr ho hcl D S hf ha c
   ·cases hco
  case call cl =>
   have := VV (P := P) (m := m) cl
   rw [hco] at this
   exact this.elim
 case nextMap it' =>
  have hs := hsp rfl
  unfold cOp at hco
  cases ho : o.op <;> rw [ho] at hs hco <;> first | (exact hs.elim) | skip
  all_goals simp only at hco
  case nilCheck xo => cases hx : XE m xo <;> rw [hx] at hco <;> cases hco
  case next it st =>
   cases hx : XE m it with
   | none => rw [hx] at hco; cases hco
   | some q =>
    rw [hx] at hco
    cases st with
    | true => cases hco
    | false =>
     cases hco
     have hr := Xx S.tmps hx
     have hv : ∀ v H', Turned P B ι H w (Instr.next (a.eval it) false o.type) v H' -> (K v x H').all N E R Q := by
      intro v H' hturn
      refine G.value hfr D S ?_
      have he : execOp a.eval o = (do pure (Next.value (<- Instr.next (a.eval it) false o.type))) := by unfold execOp; rw [ho]
      rw [he]
      exact hturn.acts
     show (Zb it'.val c t x H K).all N E R Q
     unfold Zb
     split
     ·rename_i f hn
      obtain ⟨j, h1, h2⟩ := next_ok S.sim (ty := o.type) hr hn
      have hj : j = 0 := by omega
      subst hj
      split
      ·simp_all
      ·trivial
     ·rename_i n f hn
      obtain ⟨j, h1, h2⟩ := next_ok S.sim (ty := o.type) hr hn
      refine ⟨j, by omega, ?_⟩
      show Rz.all N E R Q (match f j with
       | some (v, h') => K v x h'
       | none => .fail "next")
      split
      ·simp_all
      ·trivial
     ·trivial
  case panic xo => cases hx : XE m xo <;> rw [hx] at hco <;> cases hco
  case defer cl =>
   split at hco
   ·rename_i f hcl
    cases hf : XE m f <;> cases ha : Uv m cl.args <;> rw [hf, ha] at hco <;> cases hco
   ·cases hco
  case call cl =>
   have := VV (P := P) (m := m) cl
   rw [hco] at this
   exact this.elim
 case field off size x' =>
  cases size <;> exact look _ rfl
 case ixVal n esz ag x' i' =>
  cases ag <;> exact look _ rfl
 case bad why => trivial
 all_goals first
  | exact look _ rfl
  | exact turn _ rfl
end
section
variable {P : Program} {B : Nat}
theorem Xah {m t s : Nat} (h : XaR m t = some s) : s = t /\ t < m /\ t < 256 := by
 unfold XaR at h
 cases hb : (Nat.blt t 256 && Nat.blt t m) with
 | false => rw [hb] at h; cases h
 | true =>
  simp_all
theorem Xc1 (m : Nat) (ops : Array Oper) (o : Oper) (j : Nat) (un pre : List Nat) :
  (∃ why, (Xd9 P m ops o j un pre) = { guard := none, dst := none, op := .bad why, idx := j, un := [], pre := [] }) \/
  ∃ g, Xd9 P m ops o j un pre = { guard := g, dst := o.dst, op := cOp P m o, idx := j, un, pre } /\ (∀ d, o.dst = some d -> d < m /\ d < 256) /\
   (match g with
    | none => o.guard = none
    | some (s, w) => ∃ gi, o.guard = some (gi, w) /\ (ops[gi]?).bind (·.dst) = some s /\ s < m /\ s < 256) := by
 unfold Xd9
 split
 ·rename_i dst guard h1 h2
  refine .inr ⟨guard, ?_, ?_, ?_⟩
  ·have : dst = o.dst := by
    cases hd : o.dst with
    | none => rw [hd] at h1; cases h1; rfl
    | some d =>
     rw [hd] at h1
     obtain ⟨s, g1, rfl⟩ := Xl h1
     rw [(Xah g1).1]
   rw [this]
  ·intro d hd
   rw [hd] at h1
   obtain ⟨s, g1, g2⟩ := Xl h1
   exact (Xah g1).2
  ·cases hg : o.guard with
   | none => rw [hg] at h2; cases h2; rfl
   | some q =>
    obtain ⟨gi, w⟩ := q
    rw [hg] at h2
    obtain ⟨s, g1, rfl⟩ := Xl h2
    obtain ⟨u, g2, g3⟩ := Xq g1
    obtain ⟨rfl, g4, g5⟩ := Xah g3
    exact ⟨gi, rfl, g2, g4, g5⟩
 ·exact .inl ⟨_, rfl⟩
variable {ι : Inj} {H : Heap} {w : World} {m : Nat} {b : Frame} {t : Tm} {x : Aux} {a : Act} {cs : List Frame}
theorem wants_ok (hT : TmRel ι m t a.tmps) {ops : Array Oper} {o : Oper} {s : Nat} {wb : Bool} {gi : Nat} (hg : o.guard = some (gi, wb)) (hd : (ops[gi]?).bind (·.dst) = some s) (h1 : s < m) (h2 : s < 256) :
  Region.wanted o (yielded ops a.tmps) = XaQ s wb t := by
 have hr := hT.2 s h2 h1
 have hsz : s < a.tmps.size := Nat.lt_of_lt_of_le h1 hT.1
 have hget : a.tmps[s]? = some (a.tmps.getD s undef) := by simp [Xiy, hsz]
 unfold Region.wanted
 rw [hg]
 simp only [yielded, hd, Option.bind_some, hget]
 generalize a.tmps.getD s undef = q at hr
 have hgen : ∀ v, VRel ι v q -> (((match some q with
   | some (Value.bool b) => some b
   | _ => none) == some wb) = (if wb = true then isTrue v else isFalse v)) := by
  intro v hv
  cases hv <;> cases wb <;> first | rfl | (rename_i bb; cases bb <;> rfl) | (rename_i hq; cases q <;> first | exact hq.elim | rfl)
 refine (hgen _ hr).trans ?_
 cases wb <;> rfl
theorem oOf_all {N : Tm -> Aux -> Heap -> Prop} {E : Nat -> Tm -> Aux -> Heap -> Prop} {R : Tm -> Aux -> Heap -> Prop} {Q : Value -> List Nat -> Tm -> Aux -> Heap -> Prop} {co : W0} {rest : KB} {c : Ctx}
  (h : (match co.guard with
   | none => True
   | some (g, wb) => XaQ g wb t = true) -> ((exOf co.op) c t x H fun v x h => rest c (dPut co.dst v t) x h).all N E R Q)
  (h' : ∀ g wb, co.guard = some (g, wb) -> XaQ g wb t = false -> (rest c (dPut co.dst undef t) x H).all N E R Q) : (oOf co rest c t x H).all N E R Q := by
 obtain ⟨g, d, op, idx, un, pre⟩ := co
 cases g with
 | none => cases d <;> exact h trivial
 | some q =>
  obtain ⟨g, wb⟩ := q
  cases d with
  | none =>
   show Rz.all N E R Q (Bool.rec (motive := fun _ => Rz) (rest c t x H) (exOf op c t x H fun _ x h => rest c t x h) (XaQ g wb t))
   cases hw : XaQ g wb t with
   | true => exact h hw
   | false => exact h' g wb rfl hw
  | some d =>
   show Rz.all N E R Q (Bool.rec (motive := fun _ => Rz) (rest c (JK d undef t) x H) (exOf op c t x H fun v x h => rest c (JK d v t) x h) (XaQ g wb t))
   cases hw : XaQ g wb t with
   | true => exact h hw
   | false => exact h' g wb rfl hw
def U0 (P : Program) (B : Nat) (m0 : Machine) (b : Frame) (m : Nat) (cs : List Frame) (s : Sim P B ι H w) : From P B := { m0, b, m, ι, H, w, cs, bound := s.bound }
theorem defer_round {N : Tm -> Aux -> Heap -> Prop} {E : Nat -> Tm -> Aux -> Heap -> Prop} {R : Tm -> Aux -> Heap -> Prop} {Q : Value -> List Nat -> Tm -> Aux -> Heap -> Prop} {o : Oper} {cl : Call} (ho : o.op = .defer cl) {l : Nat} (hx : x.round = some l) (c : Ctx) (K : Cont) : (exOf (cOp P m o) c t x H K).all N E R Q := by
 unfold cOp
 rw [ho]
 simp only
 split
 ·rename_i f hf
  cases h1 : XE m f with
  | none => trivial
  | some f' =>
   cases h2 : Uv m cl.args with
   | none => trivial
   | some as =>
    show Rz.all _ _ _ _ (Wu f'.val (opds as) c t x H K)
    unfold Wu
    rw [hx]
    trivial
 ·trivial
theorem St.noRound (S : St P B ι H w m b t x a cs) (h : b.roundOf ≠ none) : ∃ l, x.round = some l := by
 have := S.round
 cases hx : x.round with
 | none => rw [hx] at this; exact absurd this h
 | some l => exact ⟨l, rfl⟩
theorem ops_sound {c : Ctx} (C : Vr P B c) {ops : Array Oper} {k : List Item} : ∀ (l : List Oper) (i : Nat), ops.toList.drop i = l -> ∀ {ι : Inj} {H : Heap} {w : World} {t : Tm} {x : Aux} {a : Act} {cs : List Frame} (S : St P B ι H w m b t x a cs),
  (U0 P B (lone (b.atR a (.inRegion ops (Xin i l.length) :: k)) cs w) b m cs S.sim).All k (opsOf ((l.zipIdx i).map fun (o, j) => Xd9 P m ops o j [] []) c t x H)
 | [], i, hl, ι, H, w, t, x, a, cs, S => ⟨ι, a, cs, w, .one stepR_region_end, S, Adv.refl ι H w, .refl _ _⟩
 | o :: l, i, hl, ι, H, w, t, x, a, cs, S => by
  have ho : ops[i]? = some o := by
   have := congrArg (·[0]?) hl
   simpa using this
  have hl' : ops.toList.drop (i + 1) = l := by
   have := congrArg (List.drop 1) hl
   simpa [List.drop_drop, Nat.add_comm] using this
  have hr : Xin i (o :: l).length = i :: Xin (i + 1) l.length := by simp [List.range'_succ]
  rw [hr]
  have hcons : ((o :: l).zipIdx i).map (fun (o, j) => Xd9 P m ops o j [] []) = Xd9 P m ops o i [] [] :: (l.zipIdx (i + 1)).map fun (o, j) => Xd9 P m ops o j [] [] := by simp [List.zipIdx_cons]
  rw [hcons]
  show Rz.all _ _ _ _ (oOf (Xd9 P m ops o i [] []) (opsOf ((l.zipIdx (i + 1)).map fun (o, j) => Xd9 P m ops o j [] [])) c t x H)
  rcases Xc1 (P := P) m ops o i [] [] with ⟨why, hc⟩ | ⟨g, hc, hd, hg⟩
  ·rw [hc]
   exact oOf_all (fun _ => trivial) (fun _ _ h _ => by cases h)
  ·rw [hc]
   have next : ∀ {ι' : Inj} {H' : Heap} {w' : World} {t' : Tm} {x' : Aux} {a' : Act} {cs' : List Frame} (S' : St P B ι' H' w' m b t' x' a' cs'),
     Steps P (lone (b.atR a (.inRegion ops (i :: Xin (i + 1) l.length) :: k)) cs w) (lone (b.atR a' (.inRegion ops (Xin (i + 1) l.length) :: k)) cs' w') -> Adv ι H w ι' H' w' -> CsAdv b cs cs' ->
     (U0 P B (lone (b.atR a (.inRegion ops (i :: Xin (i + 1) l.length) :: k)) cs w) b m cs S.sim).All k (opsOf ((l.zipIdx (i + 1)).map fun (o, j) => Xd9 P m ops o j [] []) c t' x' H') := by
    intro ι' H' w' t' x' a' cs' S' hs ha hcs
    exact From.all_next (f := U0 P B (lone (b.atR a (.inRegion ops (i :: Xin (i + 1) l.length) :: k)) cs w) b m cs S.sim) (hb := S'.sim.bound) hs ha hcs (k1 := k) (fun _ => rfl) (fun t x h hh => From.reach_next hs ha hcs hh) (ops_sound C (k := k) l (i + 1) hl' S')
   refine oOf_all (fun hw => ?_) (fun gs wb hgs hw => ?_)
   ·have hwant : Region.wanted o (yielded ops a.tmps) = true := by
     cases g with
     | none => unfold Region.wanted; rw [hg]
     | some q =>
      obtain ⟨s, wb⟩ := q
      obtain ⟨gi, g1, g2, g3, g4⟩ := hg
      rw [wants_ok S.tmps g1 g2 g3 g4]
      exact hw
    by_cases hnd : b.roundOf = none \/ ∀ c, o.op ≠ .defer c
    case neg =>
     rw [not_or, Classical.not_forall] at hnd
     obtain ⟨h1, cl, h2⟩ := hnd
     obtain ⟨l, hl⟩ := S.noRound h1
     exact defer_round (Classical.not_not.1 h2) hl c _
    refine op_sound (b := b) (fr := b.atR a (.inRegion ops (i :: Xin (i + 1) l.length) :: k)) ⟨?_, ?_⟩ rfl rfl rfl rfl C (does_op ho hwant hnd) S
    ·intro ι' H' w' a' cs' v v' x' hs ht hv S' ha hcs
     have hfin : ({ b.atR a (.inRegion ops (i :: Xin (i + 1) l.length) :: k) with defers := a'.defers } : Frame).finish v' = b.atR (a'.put o.dst v') (.inRegion ops (Xin (i + 1) l.length) :: k) := by
      have e : ({ a with defers := a'.defers } : Act) = a' := by cases a'; simp only at ht; rw [ht]
      have := Frame.finish_atR b { a with defers := a'.defers } ops i (Xin (i + 1) l.length) k v'
      rw [ho] at this
      have this' : (b.atR { a with defers := a'.defers } (.inRegion ops (i :: Xin (i + 1) l.length) :: k)).finish v' = b.atR (a'.put o.dst v') (.inRegion ops (Xin (i + 1) l.length) :: k) := by
       rw [this, e]
       rfl
      exact this'
     rw [hfin] at hs
     exact next (S'.put hd hv) hs ha hcs
    ·intro ι' H' w' v v' hs hv S' ha
     rw [Frame.raise_atR] at hs
     exact ⟨ι', a, cs, w', _, v', hs, hv, S'.sim, ⟨S'.tmps.1, fun n h1 h2 _ => S'.tmps.2 n h1 h2⟩, S'.defs, S'.round, S'.rc, ha, .refl _ _⟩
   ·simp only at hgs
    subst hgs
    obtain ⟨gi, g1, g2, g3, g4⟩ := hg
    have hnw : Region.wanted o (yielded ops a.tmps) = false := by rw [wants_ok S.tmps g1 g2 g3 g4]; exact hw
    have hs := stepR_op_skip (P := P) (b := b) (a := a) (k := k) (cs := cs) (w := w) (ops := ops) (i := i) (rest := Xin (i + 1) l.length) (by simp [ho, hnw])
    rw [ho] at hs
    exact next (S.put hd (Xag ι)) (.one hs) (Adv.refl ι H w) (.refl _ _)
def Xai (P : Program) (B : Nat) (c : Ctx) : Prop := ∀ (id : Nat) (ops : Array Oper) (k : List Item) {ι : Inj} {H : Heap} {w : World} {m : Nat} {b : Frame} {t : Tm} {x : Aux} {a : Act} {cs : List Frame} (S : St P B ι H w m b t x a cs),
 (U0 P B (lone (b.atR a (.code (.region id ops true) :: k)) cs w) b m cs S.sim).All k (X8 (drawOf (dstsOf (cOpers P m true ops)) (cOpers P m true ops)) c t x H)
theorem cOpers_false (ops : Array Oper) : cOpers P m false ops = (ops.toList.zipIdx).map fun (o, j) => Xd9 P m ops o j [] [] := by
 unfold cOpers
 simp
theorem Xey {b : Frame} {a : Act} (l : Nat) (v : Value) : (b.atR a (.inRangeFunc l :: k)).finish v = b.atR a (.endRangeFunc l :: k) := by
 simp [Frame.finish, Frame.atR]
theorem stepR_endRangeFunc' {b : Frame} {a : Act} {cs : List Frame} {w w' : World} {l : Nat} {jump : Option Code} (h : (Instr.endLoop l).run P w = .ok jump w') :
  step P (lone (b.atR a (.endRangeFunc l :: k)) cs w) = .next (lone (b.atR a ((jump.map Item.code).toList ++ k)) cs w') :=
 step_lone_go (by simp [stepG, stepG.exec, Frame.atR, XiY, h, GStep.bare_after])
theorem stepR_scope {b : Frame} {a : Act} {cs : List Frame} {w : World} {c : Code} : step P (lone (b.atR a (.code (.scope c) :: k)) cs w) = .next (lone (b.atR a (.code c :: .inScope c :: k)) cs w) :=
 step_lone_go (by simp [stepG, stepG.exec, Frame.atR])
theorem stepR_inScope {b : Frame} {a : Act} {cs : List Frame} {w : World} {c : Code} : step P (lone (b.atR a (.inScope c :: k)) cs w) = .next (lone (b.atR a k) cs w) :=
 step_lone_go (by simp [stepG, stepG.exec, Frame.atR])
theorem From.head {f : From P B} {m1 : Machine} {k : List Item} {r : Rz} (hs : step P f.m0 = .next m1) (h : ({ f with m0 := m1 } : From P B).All k r) : f.All k r := by
 refine From.all_next (f := f) (m1 := m1) (ι1 := f.ι) (H1 := f.H) (w1 := f.w) (cs1 := f.cs) (hb := f.bound) (.one hs) (Adv.refl _ _ _) (.refl _ _) (k1 := k) (fun _ => rfl) ?_ h
 intro t x h' hh
 exact From.reach_next (hb := f.bound) (.one hs) (Adv.refl _ _ _) (.refl _ _) hh
theorem does_range {b : Frame} {a : Act} {cs : List Frame} {w w2 : World} {g : Operand} {ps : Array Tmp} {a1 c1 : Code} {l : Nat} {mark : List Deferred} (he : (Instr.enterLoop b.fn a.tmps ps a1 c1 b.roundOf).run P w = .ok (l, mark) w2) :
  Does P (lone (b.atR a (.code (.rangeFunc g ps a1 c1) :: k)) cs w) (b.atR { a with defers := mark ++ a.defers } (.inRangeFunc l :: k)) cs (do let d <- Deferred.ofValue (a.eval g) #[.func (.yield l) #[] #[]]; invoke d.target d.args) w2 := by
 have hg : (stepG P true { frame := b.atR a (.code (.rangeFunc g ps a1 c1) :: k), callers := cs, status := .running, dying := none } w).bare =
   (stepG.apply P true (b.atR { a with defers := mark ++ a.defers } (.inRangeFunc l :: k)) cs none (do let d <- Deferred.ofValue (a.eval g) #[.func (.yield l) #[] #[]]; invoke d.target d.args) w2).bare := by
  have hev := Frame.eval_atR b { a with defers := mark ++ a.defers } (.inRangeFunc l :: k)
  simp only [Frame.atR] at hev
  have hres : resolve ({ tmps := a.tmps, defers := mark ++ a.defers } : Act).eval { callee := .value g, args := #[.const (.func (.yield l) #[] #[])], argTypes := #[] } 0 = Deferred.ofValue (a.eval g) #[.func (.yield l) #[] #[]] := by
   have e : ({ tmps := a.tmps, defers := mark ++ a.defers } : Act).eval g = a.eval g := by cases g <;> rfl
   show Deferred.ofValue (({ tmps := a.tmps, defers := mark ++ a.defers } : Act).eval g) _ = _
   rw [e]
   simp [Act.eval]
  simp only [stepG, stepG.exec, Frame.atR, XiY, he, GStep.bare_after, hev, hres]
 constructor
 ·intro n w1 f fs hr ha
  refine step_lone_go ?_
  rw [hg]
  cases n <;> simp only [After] at ha <;> first | (cases ha; done) | skip
  case value v => cases ha; simp [stepG.apply, hr]
  case skip => cases ha; simp [stepG.apply, hr]
  case enter f args => cases ha; simp [stepG.apply, hr, Frame.atR]
  case row row args => cases ha; simp [stepG.apply, hr, Frame.atR]
  case round l f tmps assign body => cases ha; simp [stepG.apply, hr]
  case defer d => cases ha; simp [stepG.apply, hr]
  case recover =>
   cases hro : (b.atR { a with defers := mark ++ a.defers } (.inRangeFunc l :: k)).roundOf with
   | some l => rw [hro] at ha; cases ha
   | none =>
    rw [hro] at ha
    simp only at ha
    cases ht : tryRecover (b.atR { a with defers := mark ++ a.defers } (.inRangeFunc l :: k)) cs with
    | none => rw [ht] at ha; cases ha; simp only [stepG.apply, XiY, hr, GStep.bare_after]; simp [hro, ht]
    | some q => obtain ⟨v, cs'⟩ := q; rw [ht] at ha; cases ha; simp only [stepG.apply, XiY, hr, GStep.bare_after]; simp [hro, ht]
 ·intro v w1 hr
  refine step_lone_go ?_
  rw [hg]
  simp [stepG.apply, hr]
theorem slots_some {m : Nat} : ∀ {ps qs : List Nat}, ps.mapM (XaR m) = some qs -> qs = ps /\ ∀ s ∈ qs, s < m /\ s < 256
 | [], qs, h => by cases h; exact ⟨rfl, fun s h => by cases h⟩
 | p :: ps, qs, h => by
  rw [List.mapM_cons] at h
  cases h1 : XaR m p with
  | none => rw [h1] at h; cases h
  | some q =>
   cases h2 : ps.mapM (XaR m) with
   | none => rw [h1, h2] at h; cases h
   | some qs' =>
    rw [h1, h2] at h
    cases h
    obtain ⟨rfl, h3, h4⟩ := Xah h1
    obtain ⟨rfl, h5⟩ := slots_some h2
    refine ⟨rfl, fun s hs => ?_⟩
    rcases List.mem_cons.1 hs with rfl | hs
    ·exact ⟨h3, h4⟩
    ·exact h5 s hs
theorem range_at {c : Ctx} (C : Vr P B c) {k : List Item} {g : Operand} {ps : Array Tmp} {a1 c1 : Code} {ι : Inj} {H : Heap} {w : World} {t : Tm} {x : Aux} {a : Act} {cs : List Frame} (S : St P B ι H w m b t x a cs)
  {g' : Opd} {ps' : List Nat} (hg : XE m g = some g') (hps : ps.toList.mapM (XaR m) = some ps') {ι1 : Inj} {H1 : Heap} {w1 : World} {x1 : Aux} {mark : List Deferred} {dd : Nat} (s1 : Sim P B ι1 H1 w1) (ad1 : Adv ι H w ι1 H1 w1)
  (hd1 : All2 (ADefRel ι1) x1.defers (mark ++ a.defers)) (hro : RoundRel ι1 x1.round b) (hrc : RcRel ι1 x1.rc b cs)
  (he : (Instr.enterLoop b.fn a.tmps ps a1 c1 b.roundOf).run P w = .ok (w1.heap.size, mark) (w1.alloc (.loop { state := .ready, pending := none, fn := b.fn, tmps := a.tmps, params := ps, assign := a1, body := c1, defers := dd }))) :
  (U0 P B (lone (b.atR a (.code (.rangeFunc g ps a1 c1) :: k)) cs w) b m cs S.sim).All k (kRangeAt g'.val ps' (WC P m a1) (WC P m c1) c t x1 H1) := by
 obtain ⟨hpe, hpl⟩ := slots_some hps
 have htm : TmRel ι1 m t a.tmps := S.tmps.mono ad1.le
 have hnone := s1.next_none
 have hle := Inj.with_le hnone ⟨w1.heap.size, 0, 0⟩
 obtain ⟨s2, ad2⟩ := s1.alloc (o := .loop ⟨.ready, none, t, ps', WC P m a1, WC P m c1⟩) (O := .loop { state := .ready, pending := none, fn := b.fn, tmps := a.tmps, params := ps, assign := a1, body := c1, defers := dd }) (L := 0)
  ⟨rfl, s1.base, _, JQ w1 _, ⟨trivial, trivial, ⟨m, htm.mono hle, hpl, rfl, rfl⟩, hpe⟩⟩
 have hsame : (ι1.with H1.next ⟨w1.heap.size, 0, 0⟩) H1.next = some ⟨w1.heap.size, 0, 0⟩ := Inj.with_same _ _ _
 have had2 : Adv ι H w (ι1.with H1.next ⟨w1.heap.size, 0, 0⟩) (H1.push (.loop ⟨.ready, none, t, ps', WC P m a1, WC P m c1⟩)) (w1.alloc (.loop { state := .ready, pending := none, fn := b.fn, tmps := a.tmps, params := ps, assign := a1, body := c1, defers := dd })) := Adv.trans S.sim.bound ad1 ad2
 have hy : VRel (ι1.with H1.next ⟨w1.heap.size, 0, 0⟩) (.func (.yield H1.next) ⟨[]⟩ ⟨[]⟩) (.func (.yield w1.heap.size) #[] #[]) := vrel_func (.yield hsame) .nil .nil
 have hcall := C.call _ _ _ _ _ _ [.func (.yield w1.heap.size) #[] #[]] s2 (Xx (htm.mono hle) hg) (.cons hy .nil)
 have D := does_range (P := P) (b := b) (a := a) (k := k) (cs := cs) (g := g) he
 unfold kRangeAt
 refine Er.all_toRz (Er.all_mono (hcall _ cs _ rfl D) ?_ ?_)
 ·rintro v H' ⟨ι', w', v', h1, h2, s3, ad3⟩
  split
  ·rename_i r hr
   have hp3 := ad3.le _ _ hsame
   obtain ⟨_, hB, r', hw', R⟩ := s3.obj _ _ _ hp3 hr
   have hnb : (match r.state with
    | .busy => False
    | _ => True) -> r'.state ≠ .busy := by
    intro h e
    have := R.state
    rw [e] at this
    cases hst : r.state <;> rw [hst] at this h <;> first | exact this | exact h
   have go : (match r.state with
    | .busy => False
    | _ => True) -> ∃ w'', step P (lone ((b.atR { a with defers := mark ++ a.defers } (.inRangeFunc w1.heap.size :: k)).finish v') cs w') = .next (lone (b.atR { a with defers := mark ++ a.defers } ((r'.pending.map Item.code).toList ++ k)) cs w'') /\
     St P B ι' (H'.put H1.next (some (.loop (r.with .exhausted r.pending)))) w'' m b t x1 { a with defers := mark ++ a.defers } cs /\ Adv ι H w ι' (H'.put H1.next (some (.loop (r.with .exhausted r.pending)))) w'' := by
    intro h
    have hnb' := hnb h
    have hrun : (Instr.endLoop w1.heap.size).run P w' = .ok r'.pending { w' with heap := w'.heap.setIfInBounds w1.heap.size (.loop { r' with state := .exhausted }) } := by
     have hb : (r'.state == .busy) = false := by
      cases hst : r'.state <;> first | rfl | exact absurd hst hnb'
     unfold Instr.endLoop Instr.getLoop
     simp only [XhG, Ye hw' (by simp), XhF, XhJ, hb, Xik, if_false, ZP hw' (by simp)]
    obtain ⟨s4, ad4⟩ := Ka s3 hp3 hr (o1 := .loop (r.with .exhausted r.pending)) (O := .loop { r' with state := .exhausted }) trivial (by simp) ⟨rfl, hB, _, VU hw', ⟨trivial, R.pending, R.code, R.params⟩⟩
    refine ⟨_, ?_, ⟨s4, htm.mono (Inj.le_trans hle ad3.le), All2.mono hd1 fun _ _ => ADefRel.mono (Inj.le_trans hle ad3.le), hro.mono (Inj.le_trans hle ad3.le), hrc.mono (Inj.le_trans hle ad3.le)⟩, Adv.trans S.sim.bound (Adv.trans S.sim.bound had2 ad3) ad4⟩
    rw [Xey]
    exact stepR_endRangeFunc' hrun
   have jr := R.pending
   split
   ·trivial
   ·rename_i hst
    obtain ⟨w'', g1, g2, g3⟩ := go (by simp_all)
    split
    ·rename_i hj
     rw [hj] at jr
     have : r'.pending = none := by
      cases e : r'.pending with
      | none => rfl
      | some q => rw [e] at jr; exact jr.elim
     rw [this] at g1
     exact ⟨ι', _, cs, w'', h1.trans (.one g1), g2, g3, .refl _ _⟩
    ·rename_i hj
     rw [hj] at jr
     have : r'.pending = some .ret := by
      cases e : r'.pending with
      | none => rw [e] at jr; exact jr.elim
      | some q => rw [e] at jr; cases q <;> first | rfl | exact jr.elim
     rw [this] at g1
     exact ⟨k, ι', _, cs, w'', h1.trans (.one g1), g2, g3, .refl _ _⟩
    ·rename_i id hj
     rw [hj] at jr
     have : r'.pending = some (.exit id) := by
      cases e : r'.pending with
      | none => rw [e] at jr; exact jr.elim
      | some q => rw [e] at jr; cases q <;> first | exact jr.elim | (replace jr : id = _ := jr; rw [jr])
     rw [this] at g1
     exact ⟨k, rfl, ι', _, cs, w'', h1.trans (.one g1), g2, g3, .refl _ _⟩
  ·trivial
 ·rintro ch H' ⟨ι', w', ch', h1, h2, s3, ad3⟩
  split
  ·rename_i v
   cases h2 with
   | cons hp ht =>
    cases ht
    obtain ⟨p1, p2, p3⟩ := hp
    rename_i e'
    have : e' = { v := e'.v, recovered := false } := by cases e'; simp only at p2 p3 ⊢; rw [p2, p3]
    rw [this, Frame.raise_atR] at h1
    have hl := Inj.le_trans hle ad3.le
    exact ⟨ι', { a with defers := mark ++ a.defers }, cs, w', _, e'.v, h1, p1, s3, ⟨htm.1, fun n h1 h2 _ => (htm.mono hl).2 n h1 h2⟩, All2.mono hd1 fun _ _ => ADefRel.mono hl, hro.mono hl, hrc.mono hl, Adv.trans S.sim.bound had2 ad3, .refl _ _⟩
  ·trivial
theorem range_sound {c : Ctx} (C : Vr P B c) {g : Operand} {ps : Array Tmp} {a1 c1 : Code} {ι : Inj} {H : Heap} {w : World} {t : Tm} {x : Aux} {a : Act} {cs : List Frame} (S : St P B ι H w m b t x a cs)
  {g' : Opd} {ps' : List Nat} (hg : XE m g = some g') (hps : ps.toList.mapM (XaR m) = some ps') :
  (U0 P B (lone (b.atR a (.code (.rangeFunc g ps a1 c1) :: k)) cs w) b m cs S.sim).All k (kRange g'.val ps' (WC P m a1) (WC P m c1) c t x H) := by
 unfold kRange
 have hround := S.round
 cases hx : x.round with
 | none =>
  rw [hx] at hround
  replace hround : b.roundOf = none := hround
  have hnone := S.sim.next_none
  have hle := Inj.with_le hnone ⟨w.heap.size, 0, 0⟩
  obtain ⟨s1, ad1⟩ := S.sim.alloc (o := .mark) (O := .deferred (some [])) (L := 0) ⟨rfl, S.sim.base, JQ w _⟩
  refine range_at C S hg hps (mark := [{ target := .collected w.heap.size, args := #[] }]) (dd := w.heap.size) s1 ad1 (.cons ⟨_, Inj.with_same _ _ _, rfl⟩ (All2.mono S.defs fun _ _ => ADefRel.mono hle)) hround (S.rc.mono hle) ?_
  rw [hround]
  unfold Instr.enterLoop
  simp_all
 | some l =>
  simp only
  rw [hx] at hround
  obtain ⟨p, hp, hbr⟩ := hround
  split
  ·rename_i r hr
   obtain ⟨_, hB, r', hw', R⟩ := S.sim.obj _ _ _ hp hr
   refine range_at C S hg hps (mark := []) (dd := r'.defers) S.sim (Adv.refl ι H w) S.defs (by rw [hx]; exact ⟨p, hp, hbr⟩) S.rc ?_
   rw [hbr]
   unfold Instr.enterLoop Instr.getLoop
   simp_all [XhG, Ye, XhF, XhJ, run_newObj]
  ·trivial
theorem Xf7 {c : Ctx} (C : Vr P B c) (hd : Xai P B c) (code : Code) : ∀ (k : List Item) {ι : Inj} {H : Heap} {w : World} {t : Tm} {x : Aux} {a : Act} {cs : List Frame} (S : St P B ι H w m b t x a cs),
  (U0 P B (lone (b.atR a (.code code :: k)) cs w) b m cs S.sim).All k (den (WC P m code) c t x H) := by
 induction code with
 | skip => exact fun k ι H w t x a cs S => ⟨ι, a, cs, w, .one stepR_skip, S, Adv.refl ι H w, .refl _ _⟩
 | region id ops draw =>
  intro k ι H w t x a cs S
  cases draw with
  | true => exact hd id ops k S
  | false =>
   refine From.head stepR_region ?_
   have := ops_sound C (k := k) ops.toList 0 rfl S
   rw [Xja, <- List.range_eq_range'] at this
   show Rz.all _ _ _ _ (opsOf (cOpers P m false ops) c t x H)
   rw [cOpers_false]
   exact this
 | seq c1 c2 ih1 ih2 =>
  intro k ι H w t x a cs S
  refine From.head stepR_seq ?_
  refine Rz.all_then ?_
  refine Rz.all_mono (ih1 (.code c2 :: k) S) ?_ ?_ (fun _ _ _ h => h) (fun _ _ _ _ _ h => h)
  ·rintro t' x' h' ⟨ι', a', cs', w', h1, S', h3, h4⟩
   exact From.all_next (f := U0 P B (lone (b.atR a (.code c1 :: .code c2 :: k)) cs w) b m cs S.sim) (hb := S'.sim.bound) h1 h3 h4 (k1 := k) (fun _ => rfl) (fun t x h hh => From.reach_next h1 h3 h4 hh) (ih2 k S')
  ·rintro id t' x' h' ⟨k1, h1, h2⟩
   exact ⟨k1, h1, h2⟩
 | cond cd c1 c2 ih1 ih2 =>
  intro k ι H w t x a cs S
  show Rz.all _ _ _ _ (den (match XE m cd with
   | some c => .cond c (WC P m c1) (WC P m c2)
   | none => .bad "cond") c t x H)
  cases hcd : XE m cd with
  | none => trivial
  | some g =>
   show Rz.all _ _ _ _ (kCond g.val (den (WC P m c1)) (den (WC P m c2)) c t x H)
   have hr := Xx S.tmps hcd
   unfold kCond
   cases hb : asBool (g.val t) with
   | none => trivial
   | some bb =>
    obtain ⟨_, h2⟩ := asBool_rel hr hb
    refine From.head (stepR_cond h2) ?_
    cases bb with
    | true => exact ih1 k S
    | false => exact ih2 k S
 | block id c1 ih =>
  intro k ι H w t x a cs S
  refine From.head stepR_block ?_
  refine Rz.all_onExit ?_
  refine Rz.all_mono (ih (.inBlock id :: k) S) ?_ ?_ (fun _ _ _ h => h) (fun _ _ _ _ _ h => h)
  ·rintro t' x' h' ⟨ι', a', cs', w', h1, S', h3, h4⟩
   exact ⟨ι', a', cs', w', h1.trans (.one stepR_inBlock), S', h3, h4⟩
  ·rintro i t' x' h' ⟨k1, h1, ι', a', cs', w', h2, S', h3, h4⟩
   by_cases hi : i = id
   ·rw [if_pos hi]
    subst hi
    have : exitTo i k1 = some k := by rw [h1]; simp [exitTo]
    exact ⟨ι', a', cs', w', h2.trans (.one (stepR_exit this)), S', h3, h4⟩
   ·rw [if_neg hi]
    refine ⟨k1, ?_, ι', a', cs', w', h2, S', h3, h4⟩
    rw [h1]
    simp [exitTo, Ne.symm hi]
 | loop c1 ih =>
  intro k ι H w t x a cs S
  refine From.head stepR_loop ?_
  -- one round is at hand
  have rounds : ∀ (n : Nat) {ι : Inj} {H : Heap} {w : World} {t : Tm} {x : Aux} {a : Act} {cs : List Frame} (S : St P B ι H w m b t x a cs),
    (U0 P B (lone (b.atR a (.code c1 :: .inLoop c1 :: k)) cs w) b m cs S.sim).All k
     (Nat.rec (motive := fun _ => Tm -> Aux -> Heap -> Rz) (fun _ _ _ => .fail "rounds") (fun _ ih t x h => (den (WC P m c1) c t x h).then ih) n t x H) := by
   intro n
   induction n with
   | zero => intros; trivial
   | succ n ihn =>
    intro ι H w t x a cs S
    refine Rz.all_then ?_
    refine Rz.all_mono (ih (.inLoop c1 :: k) S) ?_ ?_ (fun _ _ _ h => h) (fun _ _ _ _ _ h => h)
    ·rintro t' x' h' ⟨ι', a', cs', w', h1, S', h3, h4⟩
     have h1' := h1.trans (.one stepR_inLoop)
     exact From.all_next (f := U0 P B (lone (b.atR a (.code c1 :: .inLoop c1 :: k)) cs w) b m cs S.sim) (hb := S'.sim.bound) h1' h3 h4 (k1 := k) (fun _ => rfl) (fun t x h hh => From.reach_next h1' h3 h4 hh) (ihn S')
    ·rintro id t' x' h' ⟨k1, h1, h2⟩
     exact ⟨k1, h1, h2⟩
  exact rounds c.fuel S
 | rangeFunc g ps a1 c1 ih1 ih2 =>
  intro k ι H w t x a cs S
  show Rz.all _ _ _ _ (den (match XE m g, ps.toList.mapM (XaR m) with
   | some f, some ps => .rangeFunc f ps (WC P m a1) (WC P m c1)
   | _, _ => .bad "rangeFunc") c t x H)
  split
  ·rename_i f' ps' h1 h2
   exact range_sound C S h1 h2
  ·trivial
 | exit id => exact fun k ι H w t x a cs S => ⟨k, rfl, ι, a, cs, w, .refl _ _, S, Adv.refl ι H w, .refl _ _⟩
 | scope c1 ih =>
  intro k ι H w t x a cs S
  refine From.head stepR_scope ?_
  refine Rz.all_mono (ih (.inScope c1 :: k) S) ?_ ?_ (fun _ _ _ h => h) (fun _ _ _ _ _ h => h)
  ·rintro t' x' h' ⟨ι', a', cs', w', h1, S', h3, h4⟩
   exact ⟨ι', a', cs', w', h1.trans (.one stepR_inScope), S', h3, h4⟩
  ·rintro id t' x' h' ⟨k1, h1, h2⟩
   exact ⟨k1, h1, h2⟩
 | label l => exact fun k ι H w t x a cs S => ⟨ι, a, cs, w, .one stepR_label, S, Adv.refl ι H w, .refl _ _⟩
 | goto l => exact fun k ι H w t x a cs S => trivial
 | ret => exact fun k ι H w t x a cs S => ⟨k, ι, a, cs, w, .refl _ _, S, Adv.refl ι H w, .refl _ _⟩
 | refuse why => exact fun k ι H w t x a cs S => trivial
end
section
variable {P : Program} {B : Nat} {ι : Inj} {H : Heap} {w : World}
theorem initTmps_slot (args : List Value) : ∀ (i : Nat) (t : Tm) (n : Nat), n < 256 -> i + args.length <= 256 -> Zi n (Z8 args i t) = if h : i <= n /\ n < i + args.length then args[n - i]'(by omega) else Zi n t := by
 induction args with
 | nil =>
  intro i t n hn hl
  rw [dif_neg (by simp only [List.length_nil]; omega)]
  rfl
 | cons v args ih =>
  intro i t n hn hl
  simp only [List.length_cons] at hl
  show Zi n (Z8 args (i + 1) (JK i v t)) = _
  rw [ih (i + 1) (JK i v t) n hn (by omega)]
  by_cases h1 : i + 1 <= n /\ n < i + 1 + args.length
  ·grind
  ·rw [dif_neg h1]
   by_cases h2 : n = i
   ·simp_all [slot_same, dif_pos]
   ·rw [XcX (by omega) hn h2, dif_neg (by simp; omega)]
theorem args_rel {args : List Value} {args' : Array Value} (hr : LRel ι args args'.toList) (hl : args.length <= 255) (m : Nat) : TmRel ι m (Z8 args 0 Tm.empty) (args' ++ Xio (m - args'.size) undef) := by
 have hs : args.length = args'.size := by simpa using hr.length
 refine ⟨by simp; omega, fun n h1 h2 => ?_⟩
 rw [initTmps_slot args 0 Tm.empty n h1 (by omega)]
 by_cases h : n < args.length
 ·rw [dif_pos ⟨Nat.zero_le _, by omega⟩]
  have h' : n < args'.size := by omega
  have hget := hr.get n h (by simpa using h')
  simp_all [Nat.sub_zero, Xiy, Array.getElem?_append_left]
 ·rw [dif_neg (by omega), slot_empty]
  have : (args' ++ Xio (m - args'.size) undef).getD n undef = undef := by
   rw [Xiy, Array.getElem?_append_right (by omega), Array.getElem?_replicate]
   split <;> rfl
  rw [this]
  exact Xag ι
def TmRelL (ι : Inj) (m : Nat) (lost : List Nat) (t : Tm) (a : Array Value) : Prop := m <= a.size /\ ∀ n, n < 256 -> n < m -> n ∉ lost -> VRel ι (Zi n t) (a.getD n undef)
theorem TmRelL.mono {ι : Inj} (h : ι.le ι') {m : Nat} {lost : List Nat} {t : Tm} {a : Array Value} (r : TmRelL ι m lost t a) : TmRelL ι' m lost t a := ⟨r.1, fun n h1 h2 h3 => (r.2 n h1 h2 h3).mono h⟩
def resOne (P : Program) (m : Nat) : ResultVar -> Option CRes
 | .tmp t => (XaR m t).map .tmp
 | .cell a t => Xd7 (okT P t) <| (XaR m a).map fun a => if Vb P t then .cellN a (cellN P t) else .cell1 a
def readOne (tmps : Array Value) : ResultVar -> Sem Value
 | .tmp t => pure (tmps.getD t undef)
 | .cell a t => do loadVar t (<- asAddr (tmps.getD a undef))
theorem res_ok (s : Sim P B ι H w) {m : Nat} {lost : List Nat} {t : Tm} {tmps : Array Value} (hT : TmRelL ι m lost t tmps) {r : ResultVar} {cr : CRes} (hc : resOne P m r = some cr) {vs : List Value} (h : resOf cr lost t H = some vs) :
  ∃ v v', vs = [v] /\ VRel ι v v' /\ (readOne tmps r).run P w = .ok v' w := by
 have lost_of : ∀ (n : Nat) (q : Option (List Value)), (bif lost.contains n then none else q) = some vs -> n ∉ lost /\ q = some vs := by
  intro n q hq
  cases hl : lost.contains n with
  | true => rw [hl] at hq; cases hq
  | false =>
   simp_all
 cases r with
 | tmp n =>
  obtain ⟨k, h1, rfl⟩ := Xl hc
  obtain ⟨rfl, h2, h3⟩ := Xah h1
  obtain ⟨h4, h5⟩ := lost_of _ _ h
  cases h5
  exact ⟨_, _, rfl, hT.2 _ h3 h2 h4, rfl⟩
 | cell n T =>
  obtain ⟨hk, hc2⟩ := XR hc
  obtain ⟨k, h1, h1'⟩ := Xl hc2
  obtain ⟨rfl, h2, h3⟩ := Xah h1
  cases ha : Vb P T with
  | true =>
   rw [ha] at h1'
   subst h1'
   obtain ⟨h4, h5⟩ := lost_of _ _ h
   obtain ⟨p, h6, h7⟩ := XW h5
   obtain ⟨cs, h8, h9⟩ := XW h7
   cases h9
   obtain ⟨v', g1, g2⟩ := r_loadN (P := P) (w := w) s hk ha (hT.2 _ h3 h2 h4) (v := .agg ⟨cs⟩) (by rw [h6]; show Yr none (fun cs => some (Value.agg ⟨cs⟩)) (H.load p.block p.off (cellN P T)) = _; rw [h8]; rfl)
   obtain ⟨q, e1, e2, e3⟩ := JO (hT.2 _ h3 h2 h4) h6
   refine ⟨_, v', rfl, g2, ?_⟩
   show (do loadVar T (<- asAddr (tmps.getD k undef)) : Sem Value).run P w = .ok v' w
   rw [e3] at g1 ⊢
   simpa [Instr.loadAt, Instr.sureAddr, asAddr] using g1
  | false =>
   rw [ha] at h1'
   subst h1'
   obtain ⟨h4, h5⟩ := lost_of _ _ h
   obtain ⟨p, h6, h7⟩ := XW h5
   obtain ⟨v, h8, h9⟩ := XW h7
   cases h9
   obtain ⟨v', g1, g2⟩ := r_load1 (P := P) (w := w) s hk ha (hT.2 _ h3 h2 h4) (v := v) (by rw [h6]; exact h8)
   obtain ⟨q, e1, e2, e3⟩ := JO (hT.2 _ h3 h2 h4) h6
   refine ⟨_, v', rfl, g2, ?_⟩
   show (do loadVar T (<- asAddr (tmps.getD k undef)) : Sem Value).run P w = .ok v' w
   rw [e3] at g1 ⊢
   simpa [Instr.loadAt, Instr.sureAddr, asAddr] using g1
theorem single_rel {vs vs' : List Value} (h : LRel ι vs vs') : VRel ι (WL vs) (if h : vs'.toArray.size = 1 then vs'.toArray[0] else .tuple vs'.toArray) := by
 cases h with
 | nil => exact YO .nil
 | cons h1 h2 => cases h2 with
  | nil => exact h1
  | cons h3 h4 =>
   rw [dif_neg (by simp)]
   exact YO (xs := _ :: _ :: _) (.cons h1 (.cons h3 h4))
theorem results_ok (s : Sim P B ι H w) {fn : Func} {lost : List Nat} {t : Tm} {tmps : Array Value} (hT : TmRelL ι fn.ntmps lost t tmps) {crs : List CRes} (hc : cRes P fn.ntmps fn = some crs) {vs : List Value} (h : Yx (Xf1 crs) lost t H = some vs) :
  ∃ v', (results fn tmps).run P w = .ok v' w /\ VRel ι (WL vs) v' := by
 have key : ∀ (rs : List ResultVar) (crs : List CRes) (vs : List Value), rs.mapM (resOne P fn.ntmps) = some crs -> Yx (Xf1 crs) lost t H = some vs ->
   ∃ vs', (rs.mapM (readOne tmps)).run P w = .ok vs' w /\ LRel ι vs vs' := by
  intro rs
  induction rs with
  | nil =>
   intro crs vs h1 h2
   simp at h1
   subst h1
   cases h2
   exact ⟨[], rfl, .nil⟩
  | cons r rs ih =>
   intro crs vs h1 h2
   simp only [List.mapM_cons, Option.bind_eq_bind, Option.bind_eq_some_iff, Option.pure_def, Option.some.injEq] at h1
   obtain ⟨cr, h3, crs', h4, rfl⟩ := h1
   replace h2 : (match resOf cr lost t H, Yx (Xf1 crs') lost t H with
    | some v, some vs => some (app v vs)
    | _, _ => none) = some vs := h2
   split at h2
   ·rename_i v1 vs1 e1 e2
    cases h2
    obtain ⟨v, v', rfl, g1, g2⟩ := res_ok s hT h3 e1
    obtain ⟨vs', g3, g4⟩ := ih crs' vs1 h4 e2
    refine ⟨v' :: vs', ?_, by rw [UB]; exact .cons g1 g4⟩
    simp_all
   ·cases h2
 obtain ⟨vs', g1, g2⟩ := key fn.results.toList crs vs hc h
 refine ⟨_, ?_, single_rel g2⟩
 have he : results fn tmps = (do
   let vs <- fn.results.mapM (readOne tmps)
   pure (if h : vs.size = 1 then vs[0] else .tuple vs)) := by
  unfold results
  congr 1
 rw [he, Array.mapM_eq_mapM_toList]
 simp_all
end
section
variable {P : Program} {B : Nat}
structure Xez (P : Program) (B : Nat) (E : Env) : Prop where
 fn : ∀ f k, E.fn f = some k -> fnOf P f = some k
 meth : E.meth = cMethod P
 nil : E.nilOk = Xd8 P
 sum : ∀ f s, E.sum f = some s -> ∀ ι H w args args' v H', Sim P B ι H w -> LRel ι args args' -> s args H = some (v, H') -> CallOK P B ι H w (callFunc f args'.toArray) (.ret v H')
theorem fnOf_some {f : Nat} {k : XI} (h : fnOf P f = some k) : ∃ fn code crs, P.funcs[f]? = some fn /\ (fn.name == "runtime.NumGoroutine") = false /\ fn.body = some code /\ cRes P fn.ntmps fn = some crs /\ k = ⟨Xf1 crs, den (WC P fn.ntmps code)⟩ := by
 unfold fnOf at h
 obtain ⟨cf, h1, h2⟩ := XW h
 unfold cFun at h1
 obtain ⟨fn, h3, h4⟩ := Xq h1
 cases hn : (fn.name == "runtime.NumGoroutine") with
 | true => rw [hn] at h4; cases h4
 | false =>
  rw [hn] at h4
  obtain ⟨code, h5, h6⟩ := Xq h4
  obtain ⟨crs, h7, rfl⟩ := Xl h6
  cases h2
  exact ⟨fn, code, crs, h3, hn, h5, h7, rfl⟩
theorem callFunc_enter {f : Nat} {fn : Func} {code : Code} (hf : P.funcs[f]? = some fn) (hn : (fn.name == "runtime.NumGoroutine") = false) (hb : fn.body = some code) (args : Array Value) (w : World) : (callFunc f args).run P w = .ok (.enter f args) w := by
 unfold callFunc
 simp_all
def Ends (P : Program) (B : Nat) (ι : Inj) (H : Heap) (w : World) (m0 : Machine) (fr : Frame) (cs : List Frame) (er : Er) : Prop :=
 er.all (fun v H' => ∃ ι' w' v', Steps P m0 (lone (fr.finish v') cs w') /\ VRel ι' v v' /\ Sim P B ι' H' w' /\ Adv ι H w ι' H' w')
  (fun ch H' => ∃ ι' w' ch', Steps P m0 (lone (fr.raise ch') cs w') /\ ChRel ι' ch ch' /\ Sim P B ι' H' w' /\ Adv ι H w ι' H' w')
theorem Ends.of {ι ι1 : Inj} {H H1 : Heap} {w w1 : World} {m0 m1 : Machine} {fr : Frame} {cs : List Frame} {er : Er} (hb : ∀ b p, ι b = some p -> b < H.next) (hs : Steps P m0 m1) (ha : Adv ι H w ι1 H1 w1) (h : Ends P B ι1 H1 w1 m1 fr cs er) : Ends P B ι H w m0 fr cs er := by
 refine Er.all_mono h ?_ ?_
 ·rintro v H' ⟨ι', w', v', h1, h2, h3, h4⟩
  exact ⟨ι', w', v', hs.trans h1, h2, h3, Adv.trans hb ha h4⟩
 ·rintro v H' ⟨ι', w', v', h1, h2, h3, h4⟩
  exact ⟨ι', w', v', hs.trans h1, h2, h3, Adv.trans hb ha h4⟩
theorem CallOK.of_enter {ι : Inj} {H : Heap} {w : World} {s : Sem Next} {f : FuncId} {args : Array Value} {er : Er} (hr : s.run P w = .ok (.enter f args) w) (h : ∀ fr cs, fr.mode = .run -> Ends P B ι H w (lone (Frame.enter P f args .normal) (fr :: cs) w) fr cs er)
  (hb : ∀ b p, ι b = some p -> b < H.next) : CallOK P B ι H w s er :=
 fun fr cs m0 hm D => Ends.of hb (.one (D.ok _ _ _ _ hr rfl)) (Adv.refl ι H w) (h fr cs hm)
theorem enter_at {f : FuncId} {fn : Func} {code : Code} (hf : P.funcs[f]? = some fn) (hb : fn.body = some code) (args : Array Value) (kind : Go.CallKind) :
  Frame.enter P f args kind = ({ (default : Frame) with fn := f, kind } : Frame).at { tmps := args ++ Xio (fn.ntmps - args.size) undef, defers := [] } [.code code] := by
 simp [Frame.enter, Frame.at, hf, hb]
theorem settle_rel {ι : Inj} {mo : WT} {u : FrameMode} (h : ModeRel ι mo u) : ModeRel ι (settleA mo) (settle u) := by
 cases h with
 | returning => exact .returning
 | panicking hc =>
  cases hc with
  | nil => exact .panicking .nil
  | cons hp ht =>
   rename_i p e ps es
   obtain ⟨v, rec⟩ := p
   obtain ⟨ev, er, eg⟩ := e
   obtain ⟨p1, p2, p3⟩ := hp
   simp only at p2 p3
   subst p2; subst p3
   cases er with
   | false => exact .panicking (.cons ⟨p1, rfl, rfl⟩ ht)
   | true =>
    have : es.dropWhile (!·.goexit) = [] := by
     clear p1
     induction ht with
     | nil => rfl
     | cons hx _ ih => rw [List.dropWhile_cons, hx.2.2]; simpa using ih
    show ModeRel ι .returning (match es.dropWhile (!·.goexit) with
     | [] => .returning
     | rest => .panicking rest)
    rw [this]
    exact .returning
theorem raised_rel {ι : Inj} {mo : WT} {u : FrameMode} (h : ModeRel ι mo u) {ch : List (Value × Bool)} {ch' : List PanicEntry} (hc : ChRel ι ch ch') : ModeRel ι (raisedA mo ch) (raised u ch') := by
 cases h with
 | returning => exact .panicking hc
 | panicking ho => exact .panicking (hc.append ho)
variable {E : Env} {c : Ctx}
theorem enterD_sound (hE : Xez P B E) (C : Vr P B c) (hd : Xai P B c) {ι : Inj} {H : Heap} {w : World} (s : Sim P B ι H w) {fv0 : Value} {as0 : List Value} {d' : Deferred} (hdr : ADefRel ι (.call fv0 as0) d') {mo : WT} {c₀ : Frame} (hm : ModeRel ι mo c₀.mode) (rest : List Frame) :
  (Xf2 E c fv0 as0 mo H).all
   (fun m' H' => ∃ f args ι' w' u', (invoke d'.target d'.args).run P w = .ok (.enter f args) w /\ Steps P (lone (Frame.enter P f args .deferred) (c₀ :: rest) w) (lone { c₀ with mode := settle u' } rest w') /\ ModeRel ι' m' u' /\ Sim P B ι' H' w' /\ Adv ι H w ι' H' w')
   (fun ch m' H' => ∃ f args ι' w' u' ch', (invoke d'.target d'.args).run P w = .ok (.enter f args) w /\ Steps P (lone (Frame.enter P f args .deferred) (c₀ :: rest) w) (lone { c₀ with mode := raised u' ch' } rest w') /\ ModeRel ι' m' u' /\ ChRel ι' ch ch' /\ Sim P B ι' H' w' /\ Adv ι H w ι' H' w') := by
 unfold Xf2
 split
 ·rename_i f first captured
  split
  ·rename_i k hk
   obtain ⟨fn, code, crs, h1, h2, h3, h4, rfl⟩ := fnOf_some (hE.fn f k hk)
   cases hlen : Nat.ble (Wy (app first.toList (app as0 captured.toList))) 255 with
   | false => trivial
   | true =>
    rw [ble_iff, ZD] at hlen
    obtain ⟨fv', fn', first', cap', args', e1, e2, e3, e4⟩ := hdr
    subst e1
    obtain ⟨f2, a2, c2, e5, e6, e7, e8⟩ := ZE e2
    cases e5
    cases e6
    subst e4
    have hinv : (invoke (Target.fn (.func f) cap') (first' ++ args'.toArray)).run P w = .ok (.enter f (first' ++ args'.toArray ++ cap')) w := callFunc_enter h1 h2 h3 _ w
    have hargs : LRel ι (app first.toList (app as0 captured.toList)) (first' ++ args'.toArray ++ cap').toList := by
     rw [UB, UB, Array.toList_append, Array.toList_append, List.append_assoc]
     exact e7.append (All2.append (by simpa using e3) e8)
    let b : Frame := { (default : Frame) with fn := f, kind := .deferred }
    have S : St P B ι H w fn.ntmps b (Z8 (app first.toList (app as0 captured.toList)) 0 Tm.empty) ⟨[], none, some mo⟩ { tmps := (first' ++ args'.toArray ++ cap') ++ Xio (fn.ntmps - (first' ++ args'.toArray ++ cap').size) undef, defers := [] } (c₀ :: rest) :=
     ⟨s, args_rel hargs hlen fn.ntmps, .nil, rfl, rfl, c₀, rest, rfl, hm⟩
    have body := Xf7 (b := b) C hd code [] S
    have henter := (enter_at h1 h3 (first' ++ args'.toArray ++ cap') .deferred).trans (Frame.atR_of_none (b := b) rfl _ _).symm
    -- how it ends
    have fin : ∀ (t : Tm) (x : Aux) (h : Heap) (ι' : Inj) (a' : Act) (cs' : List Frame) (w' : World) (todo : List Item) (m' : WT) (vs : List Value), Steps P (lone (Frame.enter P f (first' ++ args'.toArray ++ cap') .deferred) (c₀ :: rest) w) (lone { b.atR a' todo with mode := .returning } cs' w') ->
      St P B ι' h w' fn.ntmps b t x a' cs' -> Adv ι H w ι' h w' -> CsAdv b (c₀ :: rest) cs' -> x.defers = [] -> x.rc = some m' -> Yx (Xf1 crs) [] t h = some vs ->
      ∃ g args ι' w' u', (invoke (Target.fn (.func f) cap') (first' ++ args'.toArray)).run P w = .ok (.enter g args) w /\ Steps P (lone (Frame.enter P g args .deferred) (c₀ :: rest) w) (lone { c₀ with mode := settle u' } rest w') /\ ModeRel ι' m' u' /\ Sim P B ι' h w' /\ Adv ι H w ι' h w' := by
     intro t x h ι' a' cs' w' todo m' vs hs S' ha hcs hx1 hx2 hvs
     have hrc := S'.rc
     rw [hx2] at hrc
     obtain ⟨_, c1, rest1, hc1, hm1⟩ := hrc
     have hc2 : rest1 = rest /\ ∃ u, c1 = { c₀ with mode := u } := by
      rcases hcs with hcs | ⟨_, c3, rest3, u, e1, e2⟩
      ·rw [hc1] at hcs; cases hcs; exact ⟨rfl, c₀.mode, rfl⟩
      ·grind
     obtain ⟨rfl, u, rfl⟩ := hc2
     have hdef := S'.defs
     rw [hx1] at hdef
     have hnil : a'.defers = [] := by cases hd' : a'.defers with
      | nil => rfl
      | cons y ys => rw [hd'] at hdef; cases hdef
     obtain ⟨v', g1, g2⟩ := results_ok S'.sim (lost := []) (fn := fn) (t := t) (tmps := a'.tmps) ⟨S'.tmps.1, fun n k1 k2 _ => S'.tmps.2 n k1 k2⟩ h4 hvs
     have hgo : ({ b.atR a' todo with mode := .returning } : Frame).going P w' (.returned v') := ⟨rfl, hnil, fn, h1, g1⟩
     have hlast := step_going_returned (c := { c₀ with mode := u }) (cs := rest1) rfl hgo
     rw [hc1] at hs
     exact ⟨f, _, ι', w', u, hinv, hs.trans (.one hlast), hm1, S'.sim, ha⟩
    have henter' : lone (b.atR { tmps := (first' ++ args'.toArray ++ cap') ++ Xio (fn.ntmps - (first' ++ args'.toArray ++ cap').size) undef, defers := [] } [.code code]) (c₀ :: rest) w = lone (Frame.enter P f (first' ++ args'.toArray ++ cap') .deferred) (c₀ :: rest) w := by rw [henter]
    refine Rz.all_toDr (Rz.all_mono body ?_ (fun _ _ _ _ _ => trivial) ?_ ?_)
    ·rintro t x h ⟨ι', a', cs', w', h1', S', h3', h4'⟩
     simp only
     split
     ·rename_i m' hx1 hx2
      split
      ·rename_i vs hvs
       exact fin t x h ι' a' cs' w' [] m' vs (by rw [<- henter']; exact h1'.trans (.one (stepR_end rfl))) S' h3' h4' hx1 hx2 hvs
      ·trivial
     ·trivial
    ·rintro t x h ⟨k1, ι', a', cs', w', h1', S', h3', h4'⟩
     simp only
     split
     ·rename_i m' hx1 hx2
      split
      ·rename_i vs hvs
       exact fin t x h ι' a' cs' w' (.code .ret :: k1) m' vs (by rw [<- henter']; exact h1'.trans (.one (stepR_ret rfl))) S' h3' h4' hx1 hx2 hvs
      ·trivial
     ·trivial
    ·rintro v lost t x h ⟨ι', a', cs', w', todo, v', g1, g2, g3, g4, g5, g6, g7, g8, g9⟩
     simp only
     split
     ·rename_i m' hx1 hx2
      rw [hx2] at g7
      obtain ⟨_, c1, rest1, hc1, hm1⟩ := g7
      have hc2 : rest1 = rest /\ ∃ u, c1 = { c₀ with mode := u } := by
       rcases g9 with hcs | ⟨_, c3, rest3, u, e1, e2⟩
       ·rw [hc1] at hcs; cases hcs; exact ⟨rfl, c₀.mode, rfl⟩
       ·cases e1
        grind
      obtain ⟨rfl, u, rfl⟩ := hc2
      rw [hx1] at g5
      have hnil : a'.defers = [] := by cases hd' : a'.defers with
       | nil => rfl
       | cons y ys => rw [hd'] at g5; cases g5
      have hgo : ({ b.atR a' todo with mode := .panicking [{ v := v', recovered := false }] } : Frame).going P w' (.panicked [{ v := v', recovered := false }]) := ⟨rfl, hnil, fn, h1⟩
      have hlast := step_going_panicked (c := { c₀ with mode := u }) (cs := rest1) hgo
      rw [hc1] at g1
      have g1' : Steps P (lone (Frame.enter P f (first' ++ args'.toArray ++ cap') .deferred) (c₀ :: rest1) w) _ := henter' ▸ g1
      exact ⟨f, _, ι', w', u, _, hinv, g1'.trans (.one hlast), hm1, .cons ⟨g2, rfl, rfl⟩ .nil, g3, g8⟩
     ·trivial
  ·trivial
 ·trivial
def EndsL (P : Program) (B : Nat) (ι : Inj) (H : Heap) (w : World) (m0 : Machine) (f : FuncId) (cs : List Frame) (er : Er) : Prop :=
 er.all (fun v H' => ∃ ι' w' v' F, Steps P m0 (lone F cs w') /\ F.fn = f /\ F.leaving P w' (.returned v') /\ VRel ι' v v' /\ Sim P B ι' H' w' /\ Adv ι H w ι' H' w')
  (fun ch H' => ∃ ι' w' ch' F, Steps P m0 (lone F cs w') /\ F.fn = f /\ F.leaving P w' (.panicked ch') /\ ChRel ι' ch ch' /\ Sim P B ι' H' w' /\ Adv ι H w ι' H' w')
theorem EndsL.of {ι ι1 : Inj} {H H1 : Heap} {w w1 : World} {m0 m1 : Machine} {f : FuncId} {cs : List Frame} {er : Er} (hb : ∀ b p, ι b = some p -> b < H.next) (hs : Steps P m0 m1) (ha : Adv ι H w ι1 H1 w1) (h : EndsL P B ι1 H1 w1 m1 f cs er) : EndsL P B ι H w m0 f cs er := by
 refine Er.all_mono h ?_ ?_
 ·rintro v H' ⟨ι', w', v', F, h1, h2, h3, h4, h5, h6⟩
  exact ⟨ι', w', v', F, hs.trans h1, h2, h3, h4, h5, Adv.trans hb ha h6⟩
 ·rintro v H' ⟨ι', w', v', F, h1, h2, h3, h4, h5, h6⟩
  exact ⟨ι', w', v', F, hs.trans h1, h2, h3, h4, h5, Adv.trans hb ha h6⟩
theorem EndsL.ends {ι : Inj} {H : Heap} {w : World} {m0 : Machine} {f : FuncId} {fr : Frame} {cs : List Frame} {er : Er} (h : EndsL P B ι H w m0 f (fr :: cs) er) : Ends P B ι H w m0 fr cs er := by
 refine Er.all_mono h ?_ ?_
 ·rintro v H' ⟨ι', w', v', F, h1, h2, h3, h4, h5, h6⟩
  exact ⟨ι', w', v', h1.trans (.one (step_leave_returned h3)), h4, h5, h6⟩
 ·rintro v H' ⟨ι', w', v', F, h1, h2, h3, h4, h5, h6⟩
  exact ⟨ι', w', v', h1.trans (.one (step_leave_panicked h3)), h4, h5, h6⟩
theorem step_collected' {fr : Frame} {cs : List Frame} {w w' : World} {d : Deferred} {r : Nat} {ds calls : List Deferred} (hm : fr.mode ≠ .run) (hd : fr.defers = d :: ds) (ht : d.target = .collected r) (hk : (Instr.takeDeferred r).run P w = .ok calls w') :
  step P (lone fr cs w) = .next (lone { fr with defers := calls ++ ds } cs w') := by
 obtain ⟨t, a⟩ := d
 simp only at ht
 subst ht
 refine step_lone_go ?_
 cases hmode : fr.mode with
 | run => exact absurd hmode hm
 | returning => simp [stepG, unwind, hmode, hd, XiY, hk, GStep.bare_after]
 | panicking chain => simp [stepG, unwind, hmode, hd, XiY, hk, GStep.bare_after]
theorem Um (hE : Xez P B E) (C : Vr P B c) (hd : Xai P B c) {fn : Func} {crs : List CRes} (hres : cRes P fn.ntmps fn = some crs) {lost : List Nat} {t : Tm} {cs : List Frame} : ∀ (ds : List ADef) (ds' : List Deferred) (mo : WT) {ι : Inj} {H : Heap} {w : World} (F : Frame),
  Sim P B ι H w -> All2 (ADefRel ι) ds ds' -> ModeRel ι mo F.mode -> F.defers = ds' -> F.kind = .normal -> P.funcs[F.fn]? = some fn -> TmRelL ι fn.ntmps lost t F.tmps ->
  EndsL P B ι H w (lone F cs w) F.fn cs (finish E c (Xf1 crs) lost t ds mo H)
 | [], ds', mo, ι, H, w, F, s, hds, hm, hdf, hk, hf, hT => by
  cases hds
  cases mo with
  | returning =>
   generalize hu : F.mode = u at hm
   cases hm
   show Er.all _ _ (match Yx (Xf1 crs) lost t H with
    | some vs => .ret (WL vs) H
    | none => .fail "results")
   split
   ·rename_i vs hvs
    obtain ⟨v', g1, g2⟩ := results_ok s hT hres hvs
    exact ⟨ι, w, v', F, .refl _ _, rfl, ⟨hu, hdf, hk, fn, hf, g1⟩, g2, s, Adv.refl ι H w⟩
   ·trivial
  | panicking ch =>
   generalize hu : F.mode = u at hm
   cases hm
   rename_i ch' hch
   exact ⟨ι, w, ch', F, .refl _ _, rfl, ⟨hu, hdf, fn, hf⟩, hch, s, Adv.refl ι H w⟩
 | d :: ds, ds', mo, ι, H, w, F, s, hds, hm, hdf, hk, hf, hT => by
  cases hds with
  | @cons _ d' _ ds'' hd1 hd2 =>
   have hrun : F.mode ≠ .run := by
    generalize F.mode = u at hm
    cases hm <;> simp
   cases d with
   | mark l =>
    obtain ⟨p, hp, e4⟩ := hd1
    show Er.all _ _ (match H.get l with
     | some .mark => finish E c (Xf1 crs) lost t ds mo (H.put l none)
     | _ => .fail "no mark")
    split
    ·rename_i hg
     obtain ⟨_, hB, hw'⟩ := s.obj _ _ _ hp hg
     have htake : (Instr.takeDeferred p.b).run P w = .ok [] { w with heap := w.heap.setIfInBounds p.b (.deferred none) } := by
      unfold Instr.takeDeferred
      simp only [XhG, Ye hw' (by simp), XhF, ZP hw' (by simp), XhJ]
     have hst := step_collected' (cs := cs) hrun hdf (by rw [e4]) htake
     obtain ⟨s2, ad2⟩ := s.shut (w' := { w with heap := w.heap.setIfInBounds p.b (.deferred none) }) hp hg rfl (by simp) rfl ⟨rfl, Nat.le_refl _⟩ rfl (by simp) (fun k hk => set_other hk)
     have ih := Um hE C hd hres (cs := cs) ds ds'' mo { F with defers := [] ++ ds'' } s2 hd2 hm rfl hk hf hT
     exact EndsL.of s.bound (Steps.one hst) ad2 ih
    ·trivial
   | call fv0 as0 =>
   obtain ⟨fv', fn', first', cap', args', e1, e2, e3, e4⟩ := hd1
   have hD := enterD_sound (c₀ := { F with defers := ds'' }) hE C hd s (fv0 := fv0) (as0 := as0) (d' := d') ⟨fv', fn', first', cap', args', e1, e2, e3, e4⟩ (mo := mo) hm cs
   refine Dr.all_toEr (Dr.all_mono hD ?_ ?_)
   ·rintro m' H' ⟨f, args, ι', w', u', h1, h2, h3, h4, h5⟩
    have hst := step_defer (cs := cs) hrun hdf (by rw [e4]) h1
    have ih := Um hE C hd hres (cs := cs) ds ds'' (settleA m') { ({ F with defers := ds'' } : Frame) with mode := settle u' } h4 (All2.mono hd2 fun _ _ => ADefRel.mono h5.le) (settle_rel h3) rfl hk hf (hT.mono h5.le)
    exact EndsL.of s.bound ((Steps.one hst).trans h2) h5 ih
   ·rintro ch m' H' ⟨f, args, ι', w', u', ch', h1, h2, h3, hch, h4, h5⟩
    have hst := step_defer (cs := cs) hrun hdf (by rw [e4]) h1
    have ih := Um hE C hd hres (cs := cs) ds ds'' (raisedA m' ch) { ({ F with defers := ds'' } : Frame) with mode := raised u' ch' } h4 (All2.mono hd2 fun _ _ => ADefRel.mono h5.le) (raised_rel h3 hch) rfl hk hf (hT.mono h5.le)
    exact EndsL.of s.bound ((Steps.one hst).trans h2) h5 ih
theorem enterK_sound (hE : Xez P B E) (C : Vr P B c) (hd : Xai P B c) {f : Nat} {k : XI} (hk : fnOf P f = some k) {ι : Inj} {H : Heap} {w : World} (s : Sim P B ι H w) {args : List Value} {args' : Array Value} (hr : LRel ι args args'.toList) (cs : List Frame) :
  EndsL P B ι H w (lone (Frame.enter P f args' .normal) cs w) f cs (J7 E c k args H) := by
 obtain ⟨fn, code, crs, h1, h2, h3, h4, rfl⟩ := fnOf_some hk
 unfold J7
 cases hlen : Nat.ble (Wy args) 255 with
 | false => trivial
 | true =>
  rw [ble_iff, ZD] at hlen
  let b : Frame := { (default : Frame) with fn := f, kind := .normal }
  have S : St P B ι H w fn.ntmps b (Z8 args 0 Tm.empty) ⟨[], none, none⟩ { tmps := args' ++ Xio (fn.ntmps - args'.size) undef, defers := [] } cs :=
   ⟨s, args_rel hr hlen fn.ntmps, .nil, rfl, rfl⟩
  have body := Xf7 (b := b) C hd code [] S
  have henter := (enter_at h1 h3 args' .normal).trans (Frame.atR_of_none (b := b) rfl _ _).symm
  have henter' : lone (b.atR { tmps := args' ++ Xio (fn.ntmps - args'.size) undef, defers := [] } [.code code]) cs w = lone (Frame.enter P f args' .normal) cs w := by rw [henter]
  have csEq : ∀ cs', CsAdv b cs cs' -> cs' = cs := by
   rintro cs' (h | ⟨h, _⟩)
   ·exact h
   ·cases h
  refine Rz.all_toEr (Rz.all_mono body ?_ (fun _ _ _ _ _ => trivial) ?_ ?_)
  ·rintro t x h ⟨ι', a', cs', w', h1', S', h3', h4'⟩
   have e := csEq _ h4'
   subst e
   have := Um hE C hd h4 (lost := []) (t := t) (cs := cs') x.defers a'.defers .returning { b.atR a' [] with mode := .returning } S'.sim S'.defs .returning rfl rfl h1 ⟨S'.tmps.1, fun n k1 k2 _ => S'.tmps.2 n k1 k2⟩
   refine EndsL.of s.bound ?_ h3' this
   rw [<- henter']
   exact h1'.trans (.one (stepR_end rfl))
  ·rintro t x h ⟨k1, ι', a', cs', w', h1', S', h3', h4'⟩
   have e := csEq _ h4'
   subst e
   have := Um hE C hd h4 (lost := []) (t := t) (cs := cs') x.defers a'.defers .returning { b.atR a' (.code .ret :: k1) with mode := .returning } S'.sim S'.defs .returning rfl rfl h1 ⟨S'.tmps.1, fun n k1 k2 _ => S'.tmps.2 n k1 k2⟩
   refine EndsL.of s.bound ?_ h3' this
   rw [<- henter']
   exact h1'.trans (.one (stepR_ret rfl))
  ·rintro v lost t x h ⟨ι', a', cs', w', todo, v', g1, g2, g3, g4, g5, g6, g7, g8, g9⟩
   have e := csEq _ g9
   subst e
   have := Um hE C hd h4 (lost := lost) (t := t) (cs := cs') x.defers a'.defers (.panicking [(v, false)]) { b.atR a' todo with mode := .panicking [{ v := v', recovered := false }] } g3 g5 (.panicking (.cons ⟨g2, rfl, rfl⟩ .nil)) rfl rfl h1 g4
   refine EndsL.of s.bound ?_ g8 this
   rw [<- henter']
   exact g1
theorem XaV (hE : Xez P B E) (C : Vr P B c) (hd : Xai P B c) {f : Nat} {ι : Inj} {H : Heap} {w : World} (s : Sim P B ι H w) {args args' : List Value} (hr : LRel ι args args') :
  CallOK P B ι H w (callFunc f args'.toArray) (enter E c f args H) := by
 unfold enter
 cases hsum : E.sum f with
 | some sm =>
  show CallOK P B ι H w _ (Yr (.fail "summary") (fun r => .ret r.1 r.2) (sm args H))
  cases hv : sm args H with
  | none => exact fun _ _ _ _ _ => trivial
  | some r => obtain ⟨v, H'⟩ := r; exact hE.sum f sm hsum ι H w args args' v H' s hr hv
 | none =>
  show CallOK P B ι H w _ (Yr (.fail "no function") (fun fn => J7 E c fn args H) (E.fn f))
  cases hk : E.fn f with
  | none => exact fun _ _ _ _ _ => trivial
  | some k =>
   have hk' := hE.fn f k hk
   obtain ⟨fn, code, crs, h1, h2, h3, h4, h5⟩ := fnOf_some hk'
   exact CallOK.of_enter (callFunc_enter h1 h2 h3 _ w) (fun fr cs _ => (enterK_sound hE C hd hk' s (by simpa using hr) (fr :: cs)).ends) s.bound
end
section
variable {P : Program} {B : Nat} {E : Env} {c : Ctx}
theorem method_val {t : TypeId} {v : Value} {name : String} {i : TypeInfo} {mt : Method} {f : FuncId} {ptr : Bool} (h1 : P.info? t = some i) (h2 : i.methods.find? (·.name == name) = some mt) (hp : mt.path.toList = []) (hf : mt.func = some (f, ptr)) {w : World} {r : Value}
  (hr : (receiverAt t (.val v) ptr (if mt.path.isEmpty then some ((name.splitOn ".").getLastD name) else none)).run P w = .ok r w) (n : Nat) : (method (n + 1) t v name).run P w = .ok (f, r) w := by
 have hti : (typeInfo t).run P w = .ok i w := by simp [typeInfo, h1]
 unfold method
 simp only [XhG, hti, XhF, h2, hp, follow, XhJ, hf, hr]
theorem callMethod_run {t : TypeId} {v : Value} {name : String} {f : FuncId} {r : Value} {w : World} (h : ∀ n, (method (n + 1) t v name).run P w = .ok (f, r) w) (args : Array Value) : (callMethod (.iface t v) name args).run P w = (callFunc f (#[r] ++ args)).run P w := by
 have hfuel : P.types.size + Made.depth = (P.types.size + 99) + 1 := rfl
 unfold callMethod
 simp_all
theorem CallOK.congr {ι : Inj} {H : Heap} {w : World} {s s' : Sem Next} {er : Er} (he : s.run P w = s'.run P w) (h : CallOK P B ι H w s' er) : CallOK P B ι H w s er :=
 fun fr cs m0 hm D => h fr cs m0 hm ⟨fun n w1 g gs hr ha => D.ok n w1 g gs (by rw [he]; exact hr) ha, fun v w1 hr => D.panic v w1 (by rw [he]; exact hr)⟩
theorem CallOK.fail {ι : Inj} {H : Heap} {w : World} {s : Sem Next} (why : String) : CallOK P B ι H w s (.fail why) := fun _ _ _ _ _ => trivial
theorem wrap_ok (ts : Array TypeId) (t : TypeId) (a : Addr) (p q : ByteArray) : Builtin.ssaWrapNilChk_ ts t #[.pointer (some a), .string p, .string q] = pure (.pointer (some a)) := rfl
theorem method_via {t : TypeId} {v : Value} {name : String} {i : TypeInfo} {mt : Method} {f : FuncId} {ptr : Bool} {xt : TypeId} {x : Go.Place} (h1 : P.info? t = some i) (h2 : i.methods.find? (·.name == name) = some mt) (hf : mt.func = some (f, ptr)) {w : World} {r : Value}
  (hfol : (follow mt.path.toList t (.val v)).run P w = .ok (xt, x) w) (hr : (receiverAt xt x ptr (if mt.path.isEmpty then some ((name.splitOn ".").getLastD name) else none)).run P w = .ok r w) (n : Nat) : (method (n + 1) t v name).run P w = .ok (f, r) w := by
 have hti : (typeInfo t).run P w = .ok i w := by simp [typeInfo, h1]
 unfold method
 simp_all
theorem invoke_sound (hE : Xez P B E) (C : Vr P B c) (hd : Xai P B c) {ι : Inj} {H : Heap} {w : World} {x x' : Value} {name : String} {args args' : List Value} (s : Sim P B ι H w) (hx : VRel ι x x') (hr : LRel ι args args') :
  CallOK P B ι H w (callMethod x' name args'.toArray) (invokeV E c x name args H) := by
 unfold invokeV
 split
 ·rename_i u v
  cases hx with
  | iface _ hv =>
   rename_i v'
   rw [hE.meth]
   cases hm : cMethod P u name with
   | none => exact CallOK.fail _
   | some q =>
    obtain ⟨f, k⟩ := q
    unfold cMethod at hm
    obtain ⟨mt, hm1, hm2⟩ := Xq hm
    obtain ⟨i, h1, h2⟩ := Xq hm1
    split at hm2
    ·cases hm2
    ·rename_i hok
     simp only [Bool.not_eq_true', Bool.not_eq_false] at hok
     obtain ⟨⟨f2, ptr⟩, h3, h4⟩ := Xq hm2
     simp only at h4
     split at h4
     ·-- the method is the type's own
      rename_i hp
      have hpe : mt.path.isEmpty = true := by
       have : mt.path = #[] := by rw [<- Xiq, hp]
       rw [this]; rfl
      have whole : ∀ r', (receiverAt u (.val v') ptr (if mt.path.isEmpty then some ((name.splitOn ".").getLastD name) else none)).run P w = .ok r' w -> ∀ r, VRel ι r r' -> CallOK P B ι H w (callMethod (.iface u v') name args'.toArray) (enter E c f2 (r :: args) H) := by
       intro r' hr' r hrr
       refine CallOK.congr (callMethod_run (method_val h1 h2 hp h3 hr') args'.toArray) ?_
       have := XaV hE C hd (f := f2) s (args := r :: args) (args' := r' :: args') (.cons hrr hr)
       have e : (r' :: args').toArray = #[r'] ++ args'.toArray := by simp
       rw [e] at this
       exact this
      split at h4
      ·rename_i e0 he
       cases h4
       exact whole v' (by unfold receiverAt; simp only [XhG, Xy he (by simp), XhF]; rfl) v hv
      ·rename_i e0 he
       obtain ⟨hk1, h5⟩ := XR h4
       cases h5
       have recv : ∀ p r r', v = .pointer (some p) -> (∀ ad', v' = .pointer (some ad') -> (loadVar e0 ad').run P w = .ok r' w) -> VRel ι r r' -> CallOK P B ι H w (callMethod (.iface u v') name args'.toArray) (enter E c f (r :: args) H) := by
        intro p r r' hvp hl hrr
        refine whole r' ?_ r hrr
        rw [hvp] at hv
        cases hv
        rename_i pl hpl
        unfold receiverAt
        simp only [XhG, Xy he (by simp), XhF, Place.get, XhJ, hpe, if_true, strVal, wrap_ok, asAddr]
        exact hl _ rfl
       cases ha : Vb P e0 with
       | true =>
        simp only [if_true]
        split
        ·rename_i p
         split
         ·rename_i r hl
          obtain ⟨v2, g1, g2⟩ := r_loadN (P := P) (w := w) s hk1 ha hv (v := .agg ⟨r⟩) (by show Yr none (fun cs => some (Value.agg ⟨cs⟩)) (H.load p.block p.off (cellN P e0)) = _; rw [hl]; rfl)
          refine recv p _ v2 rfl (fun ad' had => ?_) g2
          rw [had] at g1
          exact g1
         ·exact CallOK.fail _
        ·exact CallOK.fail _
       | false =>
        simp only [Xik, if_false]
        split
        ·rename_i p
         split
         ·rename_i r hl
          obtain ⟨v2, g1, g2⟩ := r_load1 (P := P) (w := w) s hk1 ha hv (v := r) hl
          refine recv p _ v2 rfl (fun ad' had => ?_) g2
          rw [had] at g1
          exact g1
         ·exact CallOK.fail _
        ·exact CallOK.fail _
      ·cases h4
      ·rename_i n1 n2
       cases h4
       refine whole v' ?_ v hv
       obtain ⟨d, hdd⟩ := XiL.1 hok
       have hu : und P u = d := by unfold und; rw [hdd]; rfl
       unfold receiverAt
       simp only [XhG, run_underlying hdd, XhF]
       cases d <;> first | rfl | skip
       exact absurd hu (fun h => n1 _ h)
      ·cases h4
     ·-- the method of a part
      rename_i st hp
      split at h4
      ·cases h4
      ·rename_i hdp
       simp only [Bool.or_eq_true, not_or, Bool.not_eq_true] at hdp
       obtain ⟨hder, hptr⟩ := hdp
       subst hptr
       split at h4
       ·rename_i fs hfs
        obtain ⟨fd, hfd, h5⟩ := Xq h4
        obtain ⟨hk, h6⟩ := XR h5
        have hnp : (∀ e, und P fd.type ≠ .pointer e) /\ (f2, Rcv.part fd.offset (if Vb P fd.type then some (cellN P fd.type) else none)) = (f, k) := by
         split at h6
         ·cases h6
         ·rename_i n1; exact ⟨n1, by cases h6; rfl⟩
        obtain ⟨hnp, h7⟩ := hnp
        cases h7
        have via : ∀ cs r, Xen v = some cs -> (if Vb P fd.type then Yr none (fun c => some (Value.agg ⟨c⟩)) (XU (cellN P fd.type) (XY fd.offset cs)) else nth fd.offset cs) = some r ->
          CallOK P B ι H w (callMethod (.iface u v') name args'.toArray) (enter E c f (r :: args) H) := by
         intro cs r hcs hq
         obtain ⟨a', rfl, hr1, fl⟩ := asAgg_rel hv hcs
         obtain ⟨r', g1, g2⟩ := part_ok (w := w) hk hr1 fl hq
         have hfol : (follow mt.path.toList u (.val (.agg a'))).run P w = .ok (fd.type, .val r') w := by
          rw [hp]
          simp only [follow, XhG, Xy hfs (by simp), XhF, hfd, hder, Xik, if_false, g1, XhJ]
         have hrec : (receiverAt fd.type (.val r') false (if mt.path.isEmpty then some ((name.splitOn ".").getLastD name) else none)).run P w = .ok r' w := by
          obtain ⟨d, hdd⟩ := XiL.1 hk
          have hu : und P fd.type = d := by unfold und; rw [hdd]; rfl
          unfold receiverAt
          simp only [XhG, run_underlying hdd, XhF]
          cases d <;> first | rfl | skip
          exact absurd hu (fun h => hnp _ h)
         refine CallOK.congr (callMethod_run (method_via h1 h2 h3 hfol hrec) args'.toArray) ?_
         have := XaV hE C hd (f := f) s (args := r :: args) (args' := r' :: args') (.cons g2 hr)
         have e : (r' :: args').toArray = #[r'] ++ args'.toArray := by simp
         rw [e] at this
         exact this
        cases ha : Vb P fd.type with
        | true =>
         simp only [if_true]
         split
         ·rename_i cs hcs
          split
          ·rename_i r hq
           exact via cs _ hcs (by rw [ha]; simp only [if_true]; rw [hq]; rfl)
          ·exact CallOK.fail _
         ·exact CallOK.fail _
        | false =>
         simp only [Xik, if_false]
         split
         ·rename_i cs hcs
          split
          ·simp_all
          ·exact CallOK.fail _
         ·exact CallOK.fail _
       ·cases h4
     ·cases h4
 ·exact CallOK.fail _
theorem invoke_method (name : String) (cap : Array Value) (x : Value) (args : Array Value) : invoke (.fn (.method name) cap) (#[x] ++ args) = callMethod x name args := by
 have h0 : (#[x] ++ args)[0]? = some x := by rw [Array.getElem?_append_left (by simp)]; rfl
 have h1 : (#[x] ++ args).extract 1 (#[x] ++ args).size = args := by
  apply Array.ext'
  simp
 show (match (#[x] ++ args)[0]? with
  | some recv => callMethod recv name ((#[x] ++ args).extract 1 (#[x] ++ args).size)
  | _ => stuck "call: a method without a receiver") = _
 rw [h0, h1]
theorem setAll_rel {ι : Inj} {m : Nat} : ∀ {ps : List Nat} {args args' : List Value} {t t' : Tm} {tmps : Array Value}, TmRel ι m t tmps -> (∀ s ∈ ps, s < m /\ s < 256) -> LRel ι args args' -> setAll ps args t = some t' -> args'.length = ps.length /\ TmRel ι m t' ((ps.zip args').foldl (fun tmps (t, a) => tmps.setIfInBounds t a) tmps)
 | [], args, args', t, t', tmps, hT, _, hr, h => by
  cases hr with
  | nil => cases h; exact ⟨rfl, hT⟩
  | cons _ _ => cases h
 | p :: ps, args, args', t, t', tmps, hT, hp, hr, h => by
  cases hr with
  | nil => cases h
  | cons hv ht =>
   replace h : setAll ps _ (JK p _ t) = some t' := h
   obtain ⟨h1, h2⟩ := setAll_rel (hT.put (hp p (by simp)).1 (hp p (by simp)).2 hv) (fun s hs => hp s (by simp [hs])) ht h
   exact ⟨by simp [h1], h2⟩
theorem yield_sound (C : Vr P B c) (hd : Xai P B c) {ι : Inj} {H : Heap} {w : World} {l : Nat} {p : Place} {args args' : List Value} (s : Sim P B ι H w) (hp : ι l = some p) (hr : LRel ι args args') (cap : Array Value) :
  CallOK P B ι H w (invoke (.fn (.yield p.b) cap) args'.toArray) (yieldTo c l args H) := by
 intro fr cs m0 hmode D
 unfold yieldTo
 split
 ·rename_i r hl
  obtain ⟨_, hB, r', hw', R⟩ := s.obj _ _ _ hp hl
  split
  ·rename_i t ht
   obtain ⟨m, hT, hpl, hca, hcb⟩ := R.code
   obtain ⟨hlen, hT'⟩ := setAll_rel hT hpl hr ht
   let b : Frame := { (default : Frame) with fn := r'.fn, kind := .normal, roundOf := some p.b }
   let a0 : Act := { tmps := (r.params.zip args').foldl (fun tmps (t, a) => tmps.setIfInBounds t a) r'.tmps, defers := [] }
   have hrun : (invoke (.fn (.yield p.b) cap) args'.toArray).run P w = .ok (.round p.b r'.fn a0.tmps r'.assign r'.body) w := by
    show (Instr.yield p.b args'.toArray).run P w = _
    unfold Instr.yield Instr.getLoop
    have hsz : args'.toArray.size = r'.params.size := by
     have := R.params
     rw [List.size_toArray, hlen, this, Xja]
    have hz : (r'.params.zip args'.toArray).foldl (fun tmps (t, a) => tmps.setIfInBounds t a) r'.tmps = a0.tmps := by
     show _ = (r.params.zip args').foldl (fun tmps (t, a) => tmps.setIfInBounds t a) r'.tmps
     rw [<- Array.foldl_toList, Array.toList_zip, R.params]
    simp only [XhG, Ye hw' (by simp), XhF, XhJ, hsz, ne_eq, not_true, if_false, hz]
   have henter : step P m0 = .next (lone (Frame.round p.b r'.fn a0.tmps r'.assign r'.body .normal) (fr :: cs) w) := D.ok _ _ _ _ hrun rfl
   have hb0 : Frame.round p.b r'.fn a0.tmps r'.assign r'.body .normal = b.atR a0 [.code r'.assign, .beginRound, .code r'.body] := by
    simp [Frame.round, Frame.atR, b, a0]
   rw [hb0] at henter
   have csEq : ∀ cs', CsAdv b (fr :: cs) cs' -> cs' = fr :: cs := by
    rintro cs' (h | ⟨h, _⟩)
    ·exact h
    ·cases h
   have S : St P B ι H w m b t ⟨[], some l, none⟩ a0 (fr :: cs) := ⟨s, hT', .nil, ⟨p, hp, rfl⟩, rfl⟩
   have hA := Xf7 (b := b) C hd r'.assign [.beginRound, .code r'.body] S
   rw [<- hca] at hA
   refine Rz.all_toEr (Rz.all_mono hA ?_ (fun _ _ _ _ _ => trivial) (fun _ _ _ _ => trivial) (fun _ _ _ _ _ _ => trivial))
   rintro t1 x1 H1 ⟨ι1, a1, cs1, w1, h1, S1, ad1, hc1⟩
   have e1 := csEq _ hc1
   subst e1
   split
   ·rename_i r1 hl1
    have hp1 : ι1 l = some p := ad1.le _ _ hp
    obtain ⟨hd0, hB1, r1', hw1, R1⟩ := S1.sim.obj _ _ _ hp1 hl1
    split
    ·rename_i hst
     have hst' : r1'.state = .ready := by
      have := R1.state
      rw [hst] at this
      cases e : r1'.state <;> rw [e] at this <;> first | rfl | exact this.elim
     -- the round begins
     have hbegin : (Instr.beginRound p.b).run P w1 = .ok () { w1 with heap := w1.heap.setIfInBounds p.b (.loop { r1' with state := .busy }) } := by
      unfold Instr.beginRound Instr.getLoop
      simp only [XhG, Ye hw1 (by simp), XhF, ZP hw1 (by simp), XhJ, hst']
     obtain ⟨s2, ad2⟩ := Ka S1.sim hp1 hl1 (o1 := .loop (r1.with .busy r1.pending)) (O := .loop { r1' with state := .busy }) trivial (by simp) ⟨hd0, hB1, _, VU hw1, ⟨trivial, R1.pending, R1.code, R1.params⟩⟩
     have S2 : St P B ι1 (H1.put l (some (.loop (r1.with .busy r1.pending)))) { w1 with heap := w1.heap.setIfInBounds p.b (.loop { r1' with state := .busy }) } m b t1 x1 a1 (fr :: cs) := S1.withMem s2 ad2
     have hB2 := Xf7 (b := b) C hd r'.body [] S2
     have hbegin' := stepR_beginRound (P := P) (b := b) (a := a1) (k := [.code r'.body]) (cs := fr :: cs) (l := p.b) rfl hbegin
     have till := (Steps.one henter).trans (h1.trans (.one hbegin'))
     rw [<- hcb] at hB2
     -- the round ends
     have ends : ∀ (j : Option Jump) (jc : Option Code), JRel j jc -> ∀ (H3 : Heap) (ι3 : Inj) (w3 : World) (m3 : Machine), Sim P B ι3 H3 w3 -> Adv ι1 (H1.put l (some (.loop (r1.with .busy r1.pending)))) { w1 with heap := w1.heap.setIfInBounds p.b (.loop { r1' with state := .busy }) } ι3 H3 w3 -> Steps P m0 m3 ->
       (∀ v w', (Instr.endRound p.b jc).run P w3 = .ok v w' -> step P m3 = .next (lone (fr.finish v) cs w')) ->
       (endRound l j H3).all (fun v H' => ∃ ι' w' v', Steps P m0 (lone (fr.finish v') cs w') /\ VRel ι' v v' /\ Sim P B ι' H' w' /\ Adv ι H w ι' H' w')
        (fun ch H' => ∃ ι' w' ch', Steps P m0 (lone (fr.raise ch') cs w') /\ ChRel ι' ch ch' /\ Sim P B ι' H' w' /\ Adv ι H w ι' H' w') := by
      intro j jc hj H3 ι3 w3 m3 s3 ad3 hs3 hend
      unfold endRound
      split
      ·rename_i r3 hl3
       have hp3 : ι3 l = some p := ad3.le _ _ hp1
       obtain ⟨hd3, hB3, r3', hw3, R3⟩ := s3.obj _ _ _ hp3 hl3
       have hn : jc.isNone = j.isNone := by
        cases j with
        | none => cases jc with
         | none => rfl
         | some q => exact hj.elim
        | some q => cases jc with
         | none => cases q <;> exact hj.elim
         | some q' => rfl
       have hrun3 : (Instr.endRound p.b jc).run P w3 = .ok (.bool j.isNone) { w3 with heap := w3.heap.setIfInBounds p.b (.loop { r3' with state := if jc.isNone then .ready else .done, pending := jc }) } := by
        unfold Instr.endRound Instr.getLoop
        simp only [XhG, Ye hw3 (by simp), XhF, ZP hw3 (by simp), XhJ, hn]
       cases j with
       | none =>
        cases jc with
        | some q => exact hj.elim
        | none =>
         obtain ⟨s4, ad4⟩ := Ka s3 hp3 hl3 (o1 := .loop (r3.with .ready none)) (O := .loop { r3' with state := .ready, pending := none }) trivial (by simp) ⟨hd3, hB3, _, VU hw3, ⟨trivial, hj, R3.code, R3.params⟩⟩
         exact ⟨ι3, _, .bool true, hs3.trans (.one (hend _ _ hrun3)), .bool _, s4, Adv.trans s.bound (Adv.trans s.bound (Adv.trans s.bound ad1 ad2) ad3) ad4⟩
       | some q =>
        cases jc with
        | none => cases q <;> exact hj.elim
        | some q' =>
         obtain ⟨s4, ad4⟩ := Ka s3 hp3 hl3 (o1 := .loop (r3.with .done (some q))) (O := .loop { r3' with state := .done, pending := some q' }) trivial (by simp) ⟨hd3, hB3, _, VU hw3, ⟨trivial, hj, R3.code, R3.params⟩⟩
         exact ⟨ι3, _, .bool false, hs3.trans (.one (hend _ _ hrun3)), .bool _, s4, Adv.trans s.bound (Adv.trans s.bound (Adv.trans s.bound ad1 ad2) ad3) ad4⟩
      ·trivial
     refine Rz.all_toEr (Rz.all_mono hB2 ?_ ?_ ?_ (fun _ _ _ _ _ _ => trivial))
     ·rintro t3 x3 H3 ⟨ι3, a3, cs3, w3, g1, S3, ad3, hc3⟩
      have e3 := csEq _ hc3
      subst e3
      exact ends none none trivial H3 ι3 w3 _ S3.sim ad3 (till.trans g1) fun v w' h => stepR_round_end rfl rfl h
     ·rintro id t3 x3 H3 ⟨k1, hk, ι3, a3, cs3, w3, g1, S3, ad3, hc3⟩
      have e3 := csEq _ hc3
      subst e3
      exact ends (some (.exit id)) (some (.exit id)) rfl H3 ι3 w3 _ S3.sim ad3 (till.trans g1) fun v w' h => stepR_round_exit rfl rfl (by rw [hk]; rfl) h
     ·rintro t3 x3 H3 ⟨k1, ι3, a3, cs3, w3, g1, S3, ad3, hc3⟩
      have e3 := csEq _ hc3
      subst e3
      exact ends (some .ret) (some .ret) trivial H3 ι3 w3 _ S3.sim ad3 (till.trans g1) fun v w' h => stepR_round_ret rfl rfl h
    ·trivial
   ·trivial
  ·trivial
 ·trivial
theorem call_sound (hE : Xez P B E) (C : Vr P B c) (hd : Xai P B c) {ι : Inj} {H : Heap} {w : World} {f f' : Value} {args args' : List Value} (s : Sim P B ι H w) (hf : VRel ι f f') (hr : LRel ι args args') :
  CallOK P B ι H w (do let d <- Deferred.ofValue f' args'.toArray; invoke d.target d.args) (callV E c f args H) := by
 unfold callV
 split
 ·rename_i g first captured
  obtain ⟨fn', a', c', rfl, h1, h2, h3⟩ := ZE hf
  cases h1
  have e : (do let d <- Deferred.ofValue (.func (.func g) a' c') args'.toArray; invoke d.target d.args : Sem Next) = callFunc g ((a'.toList ++ (args' ++ c'.toList)).toArray) := by
   show callFunc g (a' ++ args'.toArray ++ c') = _
   congr 1
   apply Array.ext'
   simp
  rw [e]
  refine XaV hE C hd s ?_
  rw [UB, UB]
  exact h2.append (hr.append h3)
 ·rename_i l first captured
  obtain ⟨fn', a', c', rfl, h1, h2, h3⟩ := ZE hf
  cases h1
  rename_i p hp
  split
  ·rename_i hfirst
   rw [hfirst] at h2
   have ha : a'.toList = [] := by
    generalize a'.toList = q at h2
    cases h2; rfl
   have e : (do let d <- Deferred.ofValue (.func (.yield p.b) a' c') args'.toArray; invoke d.target d.args : Sem Next) = invoke (.fn (.yield p.b) c') args'.toArray := by
    show invoke (.fn (.yield p.b) c') (a' ++ args'.toArray) = _
    congr 1
    apply Array.ext'
    simp [ha]
   rw [e]
   exact yield_sound C hd s hp hr c'
  ·exact CallOK.fail _
 ·rename_i name first captured
  obtain ⟨fn', a', c', rfl, h1, h2, h3⟩ := ZE hf
  cases h1
  split
  ·rename_i r more hfirst
   rw [hfirst] at h2
   cases hq : a'.toList with
   | nil => rw [hq] at h2; cases h2
   | cons r' more' =>
    rw [hq] at h2
    cases h2 with
    | cons g1 g2 =>
     have e : (do let d <- Deferred.ofValue (.func (.method name) a' c') args'.toArray; invoke d.target d.args : Sem Next) = callMethod r' name (more' ++ args').toArray := by
      have ha : a' ++ args'.toArray = #[r'] ++ (more' ++ args').toArray := by
       apply Array.ext'
       simp [hq]
      show invoke (.fn (.method name) c') (a' ++ args'.toArray) = _
      rw [ha, invoke_method]
     rw [e, UB]
     exact invoke_sound hE C hd s g1 (g2.append hr)
  ·exact CallOK.fail _
 ·exact CallOK.fail _
theorem ctx_ok (hE : Xez P B E) (hd : ∀ c, Vr P B c -> Xai P B c) (n : Nat) : Vr P B (ctx E n) := by
 induction n with
 | zero => exact ⟨fun _ _ _ _ _ _ _ _ _ _ => CallOK.fail _, fun _ _ _ _ _ _ _ _ _ _ _ => CallOK.fail _, hE.nil⟩
 | succ n ih =>
  refine ⟨fun ι H w f f' args args' s hf hr => call_sound hE ih (hd _ ih) s hf hr, fun ι H w x x' name args args' s hx hr => ?_, hE.nil⟩
  rw [invoke_method]
  exact invoke_sound hE ih (hd _ ih) s hx hr
theorem sim_empty (w : World) : Sim P w.heap.size (fun _ => none) ⟨0, .nil⟩ w :=
 ⟨(fun b p o h => by cases h), (fun b b' p p' o o' _ h => by cases h), (fun b p h => by cases h), (fun b p h => by cases h), fun b _ => rfl, Nat.le_refl _⟩
end
end Go.Eng
