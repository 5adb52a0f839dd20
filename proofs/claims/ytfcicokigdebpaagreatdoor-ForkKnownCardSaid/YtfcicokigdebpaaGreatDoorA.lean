/-
  An abstract machine for the program's code: values, memory, what operations and code do, how the model's code is compiled for it. No condition.
-/
import GoSem.Dispatch
import GoSem.Machine.Frame

set_option linter.unusedSimpArgs false
set_option linter.unusedSectionVars false
/- The abstract machine: values, memory, code. -/
namespace Go.Eng
set_option linter.unusedVariables false

/-! ### Rows of four, and temporaries: four digits -/
inductive Dg where
  | d0 | d1 | d2 | d3
  deriving DecidableEq

def dgOf : Nat → Dg
  | 0 => .d0
  | 1 => .d1
  | 2 => .d2
  | _ => .d3

structure T4 (α : Type) where
  a : α
  b : α
  c : α
  d : α

def T4.all {α : Type} (v : α) : T4 α := ⟨v, v, v, v⟩
def T4.get {α : Type} : Dg → T4 α → α
  | .d0 => T4.a
  | .d1 => T4.b
  | .d2 => T4.c
  | .d3 => T4.d
noncomputable def T4.ua {α : Type} (f : α → α) : T4 α → T4 α := T4.rec fun a b c d => ⟨f a, b, c, d⟩
noncomputable def T4.ub {α : Type} (f : α → α) : T4 α → T4 α := T4.rec fun a b c d => ⟨a, f b, c, d⟩
noncomputable def T4.uc {α : Type} (f : α → α) : T4 α → T4 α := T4.rec fun a b c d => ⟨a, b, f c, d⟩
noncomputable def T4.ud {α : Type} (f : α → α) : T4 α → T4 α := T4.rec fun a b c d => ⟨a, b, c, f d⟩
noncomputable def T4.up {α : Type} : Dg → (α → α) → T4 α → T4 α
  | .d0 => T4.ua
  | .d1 => T4.ub
  | .d2 => T4.uc
  | .d3 => T4.ud

abbrev Tm := T4 (T4 (T4 (T4 Value)))

/-- The temporary of a number below 256: its value; laid anew. -/
def slotG (n : Nat) (t : Tm) : Value := T4.get (dgOf (n % 4)) (T4.get (dgOf (n / 4 % 4)) (T4.get (dgOf (n / 16 % 4)) (T4.get (dgOf (n / 64)) t)))
noncomputable def slotP (n : Nat) (v : Value) : Tm → Tm := T4.up (dgOf (n / 64)) (T4.up (dgOf (n / 16 % 4)) (T4.up (dgOf (n / 4 % 4)) (T4.up (dgOf (n % 4)) fun _ => v)))
def Tm.empty : Tm := T4.all (T4.all (T4.all (T4.all undef)))

/-! ### Tries over numbers -/
inductive Tr (α : Type) where
  | nil
  | node (v : Option α) (l r : Tr α)

noncomputable def Tr.get {α : Type} (t : Tr α) : Nat → Option α :=
  Tr.rec (motive := fun _ => Nat → Option α) (fun _ => none)
    (fun v _ _ ihl ihr n => Nat.rec (motive := fun _ => Option α) v
      (fun m _ => Bool.rec (motive := fun _ => Option α) (ihr (Nat.div m 2)) (ihl (Nat.div m 2)) (Nat.beq (Nat.mod m 2) 0)) n) t

noncomputable def Tr.setF {α : Type} (a : Option α) (f : Nat) : Tr α → Nat → Tr α :=
  Nat.rec (motive := fun _ => Tr α → Nat → Tr α) (fun t _ => t)
    (fun _ ih t n => Nat.rec (motive := fun _ => Tr α)
      (Tr.rec (motive := fun _ => Tr α) (.node a .nil .nil) (fun _ l r _ _ => .node a l r) t)
      (fun m _ => Bool.rec (motive := fun _ => Tr α)
        (Tr.rec (motive := fun _ => Tr α) (.node none .nil (ih .nil (Nat.div m 2))) (fun v l r _ _ => .node v l (ih r (Nat.div m 2))) t)
        (Tr.rec (motive := fun _ => Tr α) (.node none (ih .nil (Nat.div m 2)) .nil) (fun v l r _ _ => .node v (ih l (Nat.div m 2)) r) t)
        (Nat.beq (Nat.mod m 2) 0)) n) f

noncomputable def Tr.put {α : Type} (t : Tr α) (n : Nat) (a : Option α) : Tr α := Tr.setF a (Nat.succ n) t n

/-! ### Compiled code -/
inductive Opd where
  | tmp (n : Nat)
  | const (v : Value)

inductive Leaf where
  | int (k : IntKind)
  | str
  | bool
  deriving DecidableEq
inductive Pred where   -- kinds of equality
  | int | str | bool | ptr | slice | map | func | iface | ifaceNil | flat (ls : List Leaf)

/-- What a map's keys are: one leaf, or so many of one kind. -/
inductive KSh where
  | one (l : Leaf)
  | many (n : Nat) (k : IntKind)

/-- Of what a length is asked. -/
inductive LenK where
  | str | sl | map

structure Part where
  off : Nat
  size : Nat
  x : Opd

inductive COp where
  | move (x : Opd)
  | pick (c a b : Opd)
  | alloc (zero : List Value)
  | box (x : Opd)
  | build (zero : List Value) (parts : List Part)
  | buildSlice (zero : List Value) (parts : List Part) (len : Nat)
  | load1 (a : Opd)
  | loadN (n : Nat) (a : Opd)
  | store (n : Nat) (a x : Opd)
  | nilCheck (x : Opd)
  | bin (op : BinOp) (x y : Opd)
  | eq (neg : Bool) (p : Pred) (x y : Opd)
  | un (op : UnOp) (x : Opd)
  | intTo (k : IntKind) (x : Opd)
  | str (x : Opd)
  | bytesTo (x : Opd)
  | toBytes (x : Opd)
  | stamp (x : Opd)
  | mkIface (t : Nat) (x : Opd)
  | mkFunc (fn : Fn) (first captured : List Opd)
  | mkMap (sh : KSh)
  | mkSlice (zero : List Value) (len cap : Opd)
  | sliceStr (x : Opd) (lo hi : Option Opd)
  | sliceSl (size : Nat) (x : Opd) (lo hi mx : Option Opd)
  | sliceArr (n size : Nat) (x : Opd) (lo hi mx : Option Opd)
  | toArr (n : Nat) (x : Opd)
  | fieldAddr (off : Nat) (x : Opd)
  | field (off : Nat) (size : Option Nat) (x : Opd)
  | ixSl (size : Nat) (x i : Opd)
  | ixArr (n size : Nat) (x i : Opd)
  | ixStr (x i : Opd)
  | ixVal (n esz : Nat) (agg : Bool) (x i : Opd)
  | lookup (sh : KSh) (zero : Value) (ok : Bool) (x i : Opd)
  | mapUpdate (sh : KSh) (m k x : Opd)
  | rangeMap (x : Opd)
  | rangeStr (x : Opd)
  | nextMap (it : Opd)
  | nextStr (it : Opd)
  | entry (it : Opd)
  | assertT (t : Nat) (zero : Value) (ok : Bool) (x : Opd)
  | assertI (types : Nat) (fits : List Nat) (zero : Value) (ok : Bool) (x : Opd)
  | extract (i : Nat) (x : Opd)
  | len (k : LenK) (x : Opd)
  | lenC (n : Nat)
  | cap (x : Opd)
  | append (size : Nat) (s x : Opd)
  | appendZ (zero : List Value) (s x : Opd)
  | copy (size : Nat) (d s : Opd)
  | delete (sh : KSh) (m k : Opd)
  | clear (zero : List Value) (x : Opd)
  | max (x : Opd) (xs : List Opd)
  | min (x : Opd) (xs : List Opd)
  | panic (x : Opd)
  | recover
  | call (f : Opd) (args : List Opd)
  | invoke (x : Opd) (name : String) (args : List Opd)
  | defer (f : Opd) (args : List Opd)
  | bad (why : String)

/-- What a method is called with, of the value that an interface holds: the value; the cell or the cells behind it; a part of it. -/
inductive Rcv where
  | whole
  | cell
  | cells (n : Nat)
  | part (off : Nat) (size : Option Nat)

/-- un: earlier operations that go unordered beside this one, a look and a writer; pre: earlier writers that this one is behind. -/
structure COper where
  guard : Option (Nat × Bool)
  dst : Option Nat
  op : COp
  idx : Nat
  un : List Nat
  pre : List Nat

inductive CCode where
  | skip
  | region (draw : Bool) (ops : List COper)
  | seq (a b : CCode)
  | cond (c : Opd) (a b : CCode)
  | block (id : Nat) (c : CCode)
  | loop (c : CCode)
  | rangeFunc (f : Opd) (params : List Nat) (assign body : CCode)
  | exit (id : Nat)
  | ret
  | bad (why : String)

inductive CRes where
  | tmp (s : Nat)
  | cell1 (s : Nat)
  | cellN (s n : Nat)

structure CFun where
  results : List CRes
  body : CCode

/-! ### State -/
inductive Jump where
  | ret | exit (id : Nat)

inductive LState where
  | ready | busy | done | exhausted
  deriving DecidableEq

/-- A deferred call, or the place of a loop over a function (whose rounds defer nothing). -/
inductive ADef where
  | call (fn : Value) (args : List Value)
  | mark (b : Nat)

structure ALoop where
  state : LState
  pending : Option Jump
  tmps : Tm
  params : List Nat
  assign : CCode
  body : CCode

inductive AObj where
  | cells (w : Bool) (c : List Value)
  | map (sh : KSh) (ver : Nat) (es : List (Value × Value))
  | miter (m : Option Nat) (ver : Nat) (left : List (Value × Value)) (last : Option (Value × Value))
  | siter (s : ByteArray) (pos : Nat)
  | loop (l : ALoop)
  | mark

structure Heap where
  next : Nat
  t : Tr AObj

noncomputable def Heap.get (h : Heap) (b : Nat) : Option AObj := h.t.get b
noncomputable def Heap.push (h : Heap) (o : AObj) : Heap := ⟨Nat.succ h.next, h.t.put h.next (some o)⟩
noncomputable def Heap.put (h : Heap) (b : Nat) (o : Option AObj) : Heap := ⟨h.next, h.t.put b o⟩

inductive AMode where
  | returning
  | panicking (chain : List (Value × Bool))     -- recovered?

structure Aux where
  defers : List ADef
  round : Option Nat
  rc : Option AMode

/-- How code ends. -/
inductive Rz where
  | norm (t : Tm) (x : Aux) (h : Heap)
  | exit (id : Nat) (t : Tm) (x : Aux) (h : Heap)
  | ret (t : Tm) (x : Aux) (h : Heap)
  | panic (v : Value) (lost : List Nat) (t : Tm) (x : Aux) (h : Heap)
  | got (v : Value) (x : Aux) (h : Heap)
  | fail (why : String)
  | any (n : Nat) (k : Nat → Rz)

/-- How a call ends. -/
inductive Er where
  | ret (v : Value) (h : Heap)
  | panic (chain : List (Value × Bool)) (h : Heap)
  | fail (why : String)
  | any (n : Nat) (k : Nat → Er)

/-! ### Operands, looked at -/
abbrev OpdF := Tm → Value
def kC (v : Value) : OpdF := fun _ => v
def Opd.val : Opd → OpdF
  | .tmp n => slotG n
  | .const v => kC v

/-! ### What a value is -/
noncomputable def asPtr (v : Value) : Option Addr :=
  Value.casesOn (motive_1 := fun _ => Option Addr) v (fun _ => none) (fun _ _ => none) (fun _ _ => none) (fun _ _ _ => none) (fun _ => none) (fun a => a) (fun _ _ _ => none) (fun _ => none) (fun _ => none) (fun _ _ _ => none) none (fun _ _ => none) none (fun _ => none) (fun _ => none)
noncomputable def asBool (v : Value) : Option Bool :=
  Value.casesOn (motive_1 := fun _ => Option Bool) v (fun b => some b) (fun _ _ => none) (fun _ _ => none) (fun _ _ _ => none) (fun _ => none) (fun _ => none) (fun _ _ _ => none) (fun _ => none) (fun _ => none) (fun _ _ _ => none) none (fun _ _ => none) none (fun _ => none) (fun _ => none)
noncomputable def asNat (v : Value) : Option Nat :=
  Value.casesOn (motive_1 := fun _ => Option Nat) v (fun _ => none) (fun _ n => Int.casesOn (motive := fun _ => Option Nat) n (fun n => some n) (fun _ => none)) (fun _ _ => none) (fun _ _ _ => none) (fun _ => none) (fun _ => none) (fun _ _ _ => none) (fun _ => none) (fun _ => none) (fun _ _ _ => none) none (fun _ _ => none) none (fun _ => none) (fun _ => none)
noncomputable def asStr (v : Value) : Option (List UInt8) :=
  Value.casesOn (motive_1 := fun _ => Option (List UInt8)) v (fun _ => none) (fun _ _ => none) (fun _ _ => none) (fun _ _ _ => none) (fun s => some s.data.toList) (fun _ => none) (fun _ _ _ => none) (fun _ => none) (fun _ => none) (fun _ _ _ => none) none (fun _ _ => none) none (fun _ => none) (fun _ => none)
noncomputable def asTuple (v : Value) : List Value :=
  Value.casesOn (motive_1 := fun _ => List Value) v (fun _ => []) (fun _ _ => []) (fun _ _ => []) (fun _ _ _ => []) (fun _ => []) (fun _ => []) (fun _ _ _ => []) (fun _ => []) (fun _ => []) (fun _ _ _ => []) [] (fun _ _ => []) [] (fun _ => []) (fun vs => vs.toList)
noncomputable def asAgg (v : Value) : Option (List Value) :=
  Value.casesOn (motive_1 := fun _ => Option (List Value)) v (fun _ => none) (fun _ _ => none) (fun _ _ => none) (fun _ _ _ => none) (fun _ => none) (fun _ => none) (fun _ _ _ => none) (fun _ => none) (fun _ => none) (fun _ _ _ => none) none (fun _ _ => none) none (fun vs => some vs.toList) (fun _ => none)
noncomputable def isTrue (v : Value) : Bool :=
  Value.casesOn (motive_1 := fun _ => Bool) v (fun b => b) (fun _ _ => false) (fun _ _ => false) (fun _ _ _ => false) (fun _ => false) (fun _ => false) (fun _ _ _ => false) (fun _ => false) (fun _ => false) (fun _ _ _ => false) false (fun _ _ => false) false (fun _ => false) (fun _ => false)
noncomputable def isFalse (v : Value) : Bool :=
  Value.casesOn (motive_1 := fun _ => Bool) v (fun b => Bool.rec (motive := fun _ => Bool) true false b) (fun _ _ => false) (fun _ _ => false) (fun _ _ _ => false) (fun _ => false) (fun _ => false) (fun _ _ _ => false) (fun _ => false) (fun _ => false) (fun _ _ _ => false) false (fun _ _ => false) false (fun _ => false) (fun _ => false)

noncomputable def optV {α β : Type} (z : β) (k : α → β) (o : Option α) : β := Option.rec (motive := fun _ => β) z k o

/-! ### Plain values -/
/-- The cells that a value fills (a tuple fills none). -/
def cellsOf : Value → Option (List Value)
  | .agg cs => some cs.toList
  | .tuple _ => none
  | v => some [v]

/-- xs with ys laid from its beginning on. -/
noncomputable def over (ys : List Value) : List Value → List Value :=
  List.rec (motive := fun _ => List Value → List Value) (fun xs => xs)
    (fun y _ ih xs => List.rec (motive := fun _ => List Value) [] (fun _ xs _ => y :: ih xs) xs) ys
/-- xs with ys laid from place n on. -/
noncomputable def putAt (ys : List Value) (n : Nat) : List Value → List Value :=
  Nat.rec (motive := fun _ => List Value → List Value) (fun xs => over ys xs)
    (fun _ ih xs => List.rec (motive := fun _ => List Value) [] (fun x xs _ => x :: ih xs) xs) n

noncomputable def nth (n : Nat) : List Value → Option Value :=
  Nat.rec (motive := fun _ => List Value → Option Value) (fun xs => List.rec (motive := fun _ => Option Value) none (fun x _ _ => some x) xs)
    (fun _ ih xs => List.rec (motive := fun _ => Option Value) none (fun _ xs _ => ih xs) xs) n

noncomputable def dropN (n : Nat) : List Value → List Value :=
  Nat.rec (motive := fun _ => List Value → List Value) (fun xs => xs)
    (fun _ ih xs => List.rec (motive := fun _ => List Value) [] (fun _ xs _ => ih xs) xs) n

/-- Exactly n. -/
noncomputable def takeN (n : Nat) : List Value → Option (List Value) :=
  Nat.rec (motive := fun _ => List Value → Option (List Value)) (fun _ => some [])
    (fun _ ih xs => List.rec (motive := fun _ => Option (List Value)) none
      (fun x xs _ => Option.rec (motive := fun _ => Option (List Value)) none (fun r => some (x :: r)) (ih xs)) xs) n

noncomputable def lenL (xs : List Value) : Nat := List.rec (motive := fun _ => Nat) 0 (fun _ _ ih => Nat.succ ih) xs

noncomputable def app (xs ys : List Value) : List Value := List.rec (motive := fun _ => List Value) ys (fun x _ ih => x :: ih) xs

noncomputable def rep (xs : List Value) (n : Nat) : List Value := Nat.rec (motive := fun _ => List Value) [] (fun _ ih => app xs ih) n

noncomputable def vals (t : Tm) (xs : List OpdF) : List Value := List.rec (motive := fun _ => List Value) [] (fun x _ ih => x t :: ih) xs

/-- Parts (offset, size, what) laid into cells. -/
noncomputable def fillParts (t : Tm) (ps : List (Nat × Nat × OpdF)) : List Value → Option (List Value) :=
  List.rec (motive := fun _ => List Value → Option (List Value)) (fun cs => some cs)
    (fun p _ ih cs => optV none (fun ys => bif Nat.beq (lenL ys) p.2.1 && Nat.ble (Nat.add p.1 p.2.1) (lenL cs) then ih (putAt ys p.1 cs) else none) (cellsOf (p.2.2 t))) ps

def eqInt (a b : Int) : Bool :=
  match a, b with
  | .ofNat m, .ofNat n => Nat.beq m n
  | .negSucc m, .negSucc n => Nat.beq m n
  | _, _ => false
def ltInt (a b : Int) : Bool :=
  match a, b with
  | .ofNat m, .ofNat n => Nat.blt m n
  | .ofNat _, .negSucc _ => false
  | .negSucc _, .ofNat _ => true
  | .negSucc m, .negSucc n => Nat.blt n m

def sameKind : IntKind → IntKind → Bool
  | .i8, .i8 | .i16, .i16 | .i32, .i32 | .i64, .i64 | .u8, .u8 | .u16, .u16 | .u32, .u32 | .u64, .u64 => true
  | _, _ => false

def bytes (s : ByteArray) : List UInt8 := s.data.toList
noncomputable def eqBytes (xs : List UInt8) : List UInt8 → Bool :=
  List.rec (motive := fun _ => List UInt8 → Bool) (fun ys => List.rec (motive := fun _ => Bool) true (fun _ _ _ => false) ys)
    (fun x _ ih ys => List.rec (motive := fun _ => Bool) false (fun y ys _ => bif Nat.beq x.toNat y.toNat then ih ys else false) ys) xs
noncomputable def ltBytes (xs : List UInt8) : List UInt8 → Bool :=
  List.rec (motive := fun _ => List UInt8 → Bool) (fun ys => List.rec (motive := fun _ => Bool) false (fun _ _ _ => true) ys)
    (fun x _ ih ys => List.rec (motive := fun _ => Bool) false (fun y ys _ => bif Nat.blt x.toNat y.toNat then true else bif Nat.beq x.toNat y.toNat then ih ys else false) ys) xs

/-- Two leaves of that kind. -/
noncomputable def leafEq : Leaf → Value → Value → Option Bool
  | .int l, .int j a, .int k b => bif sameKind l j && sameKind l k then some (eqInt a b) else none
  | .str, .string a, .string b => some (eqBytes (bytes a) (bytes b))
  | .bool, .bool a, .bool b => some (a == b)
  | _, _, _ => none

noncomputable def leavesEq (ls : List Leaf) : List Value → List Value → Option Bool :=
  List.rec (motive := fun _ => List Value → List Value → Option Bool) (fun _ _ => some true)
    (fun l _ ih xs ys => List.rec (motive := fun _ => Option Bool) none (fun x xs _ => List.rec (motive := fun _ => Option Bool) none
      (fun y ys _ => match leafEq l x y with
        | some true => ih xs ys
        | some false => some false
        | none => none) ys) xs) ls

noncomputable def manyEq (l : Leaf) (xs : List Value) : List Value → Option Bool :=
  List.rec (motive := fun _ => List Value → Option Bool) (fun ys => List.rec (motive := fun _ => Option Bool) (some true) (fun _ _ _ => none) ys)
    (fun x _ ih ys => List.rec (motive := fun _ => Option Bool) none
      (fun y ys _ => match leafEq l x y with
        | some true => ih ys
        | some false => some false
        | none => none) ys) xs

noncomputable def predEq : Pred → Value → Value → Option Bool
  | .int, .int j a, .int k b => bif sameKind j k then some (eqInt a b) else none
  | .str, .string a, .string b => some (eqBytes (bytes a) (bytes b))
  | .bool, .bool a, .bool b => some (a == b)
  | .ptr, .pointer none, .pointer b => some b.isNone
  | .ptr, .pointer _, .pointer none => some false
  | .ptr, .pointer (some a), .pointer (some b) => if a = b then some true else none
  | .slice, .slice none _ _, .slice b _ _ => some b.isNone
  | .slice, .slice (some _) _ _, .slice none _ _ => some false
  | .map, .map none, .map b => some b.isNone
  | .map, .map (some _), .map none => some false
  | .func, .nilFunc, .nilFunc => some true
  | .func, .nilFunc, .func _ _ _ | .func, .func _ _ _, .nilFunc => some false
  | .iface, .nilIface, .iface _ _ | .iface, .iface _ _, .nilIface => some false
  | .ifaceNil, .nilIface, .nilIface => some true
  | .ifaceNil, .nilIface, .iface _ _ | .ifaceNil, .iface _ _, .nilIface => some false
  | .flat ls, .agg a, .agg b => leavesEq ls a.toList b.toList
  | _, _, _ => none

def leafOK : Leaf → Value → Bool
  | .int k, .int k' _ => sameKind k k'
  | .str, .string _ => true
  | .bool, .bool _ => true
  | _, _ => false
noncomputable def allLeaf (l : Leaf) (cs : List Value) (n : Nat) : Bool :=      -- n of that kind, no more
  List.rec (motive := fun _ => Nat → Bool) (fun n => Nat.beq n 0) (fun c _ ih n => Nat.rec (motive := fun _ => Bool) false (fun n _ => leafOK l c && ih n) n) cs n
noncomputable def keyOK : KSh → Value → Bool
  | .one l, v => leafOK l v
  | .many n k, .agg cs => allLeaf (.int k) cs.toList n
  | _, _ => false
def sameLeaf : Leaf → Leaf → Bool
  | .int a, .int b => sameKind a b
  | .str, .str => true
  | .bool, .bool => true
  | _, _ => false
def sameSh : KSh → KSh → Bool
  | .one a, .one b => sameLeaf a b
  | .many n a, .many m b => Nat.beq n m && sameKind a b
  | _, _ => false

noncomputable def keyEq : KSh → Value → Value → Option Bool
  | .one l, x, y => leafEq l x y
  | .many _ k, .agg a, .agg b => manyEq (.int k) a.toList b.toList
  | _, _, _ => none

def binInt (op : BinOp) : IntKind → Int → Int → Option Value :=
  match op with
  | .add => fun k a b => some (.int k (k.wrap (a + b)))
  | .sub => fun k a b => some (.int k (k.wrap (a - b)))
  | .mul => fun k a b => some (.int k (k.wrap (a * b)))
  | .quo => fun k a b => bif eqInt b 0 then none else some (.int k (k.wrap (a.tdiv b)))
  | .rem => fun k a b => bif eqInt b 0 then none else some (.int k (a.tmod b))
  | .and => fun k a b => some (.int k (k.wrap ((BitVec.ofInt k.bits a &&& BitVec.ofInt k.bits b).toNat)))
  | .or => fun k a b => some (.int k (k.wrap ((BitVec.ofInt k.bits a ||| BitVec.ofInt k.bits b).toNat)))
  | .xor => fun k a b => some (.int k (k.wrap ((BitVec.ofInt k.bits a ^^^ BitVec.ofInt k.bits b).toNat)))
  | .andNot => fun k a b => some (.int k (k.wrap ((BitVec.ofInt k.bits a &&& ~~~ (BitVec.ofInt k.bits b)).toNat)))
  | .lss => fun _ a b => some (.bool (ltInt a b))
  | .leq => fun _ a b => some (.bool (!ltInt b a))
  | .gtr => fun _ a b => some (.bool (ltInt b a))
  | .geq => fun _ a b => some (.bool (!ltInt a b))
  | _ => fun _ _ _ => none

noncomputable def binStr (op : BinOp) : List UInt8 → List UInt8 → Option Value :=
  match op with
  | .add => fun x y => bif Nat.ble (x.length + y.length) 9223372036854775807 then some (.string ⟨⟨x ++ y⟩⟩) else none
  | .lss => fun x y => some (.bool (ltBytes x y))
  | .leq => fun x y => some (.bool (ltBytes x y || eqBytes x y))
  | .gtr => fun x y => some (.bool !(ltBytes x y || eqBytes x y))
  | .geq => fun x y => some (.bool !(ltBytes x y))
  | _ => fun _ _ => none

def shiftV (op : BinOp) : IntKind → Int → Int → Option Value :=
  match op with
  | .shl => fun k a b => bif ltInt b 0 then none else some (.int k (k.wrap (a * 2 ^ (min b.toNat k.bits))))
  | .shr => fun k a b => bif ltInt b 0 then none else some (.int k (a.fdiv (2 ^ (min b.toNat k.bits))))
  | _ => fun _ _ _ => none

def BinOp.isShift : BinOp → Bool
  | .shl | .shr => true
  | _ => false

noncomputable def binV (op : BinOp) : Value → Value → Option Value
  | .int k a, .int k' b => bif BinOp.isShift op then shiftV op k a b else bif sameKind k k' then binInt op k a b else none
  | .string a, .string b => binStr op (bytes a) (bytes b)
  | _, _ => none

def unV (op : UnOp) : Value → Option Value
  | .int k n => match op with
    | .neg => some (.int k (k.wrap (0 - n)))
    | .xor => some (.int k (k.wrap ((BitVec.ofInt k.bits (if k.signed then -1 else k.max) ^^^ BitVec.ofInt k.bits n).toNat)))
    | _ => none
  | .bool b => match op with
    | .not => some (.bool !b)
    | _ => none
  | _ => none

noncomputable def max2 : Value → Value → Option Value
  | .int k x, .int _ y => some (.int k (bif ltInt x y then y else x))
  | .string x, .string y => some (.string (bif ltBytes (bytes x) (bytes y) then y else x))
  | _, _ => none
noncomputable def min2 : Value → Value → Option Value
  | .int k x, .int _ y => some (.int k (bif ltInt y x then y else x))
  | .string x, .string y => some (.string (bif ltBytes (bytes x) (bytes y) || eqBytes (bytes x) (bytes y) then x else y))
  | _, _ => none
def foldV (f : Value → Value → Option Value) : Value → List Value → Option Value
  | v, [] => some v
  | v, x :: xs => match f v x with
    | some r => foldV f r xs
    | none => none

/-! ### Memory -/
noncomputable def Heap.load (h : Heap) (b off n : Nat) : Option (List Value) :=
  match h.get b with
  | some (.cells _ c) => takeN n (dropN off c)
  | _ => none
noncomputable def Heap.load1 (h : Heap) (b off : Nat) : Option Value :=
  match h.get b with
  | some (.cells _ c) => nth off c
  | _ => none
noncomputable def Heap.store (h : Heap) (b off n : Nat) (ys : List Value) : Option Heap :=      -- n: how many ys are
  match h.get b with
  | some (.cells true c) => bif Nat.ble (Nat.add off n) (lenL c) then some (h.put b (some (.cells true (putAt ys off c)))) else none
  | _ => none

def byteVal (b : UInt8) : Value := .int .u8 b.toNat
noncomputable def byteVals (xs : List UInt8) : List Value := List.rec (motive := fun _ => List Value) [] (fun x _ ih => byteVal x :: ih) xs

/-- The elements of a slice or a string, n of them (of size cells each). -/
noncomputable def Heap.elems (h : Heap) (size n : Nat) : Value → Option (List Value)
  | .slice (some a) _ _ => h.load a.block a.off (Nat.mul n size)
  | .slice none _ _ => bif Nat.beq n 0 then some [] else none
  | .string s => bif Nat.beq size 1 then takeN n (byteVals (bytes s)) else none
  | _ => none

def lenV : Value → Option Nat
  | .slice _ n _ => some n
  | .string s => some (bytes s).length
  | _ => none

/-- The sign of a slice whose capacity is known from below alone: the size of its elements. -/
def inexact (size : Nat) : Option Nat := some size

/-- append: the slice, the n elements that come behind. -/
noncomputable def Heap.appendL (h : Heap) (size : Nat) (s : Value) (n : Nat) (new : List Value) : Option (Value × Heap) :=
  match s with
  | .slice none 0 0 => match n with
    | 0 => some (.slice none 0 0, h)
    | n + 1 => bif Nat.blt n 100000000 then some (.slice (some ⟨h.next, 0, inexact size⟩) (n + 1) (n + 1), h.push (.cells true new)) else none
  | .slice (some a) len cap =>
    match h.load a.block a.off (Nat.mul len size) with
    | some old =>
      bif !(Nat.blt (Nat.add len n) 100000000) then none else
      bif Nat.ble (Nat.add len n) cap then
        bif Nat.beq n 0 then some (.slice (some a) len cap, h)
        else match h.store a.block (Nat.add a.off (Nat.mul len size)) (Nat.mul n size) new with
        | some h' => some (.slice (some a) (Nat.add len n) cap, h')
        | none => none
      else match a.spot with
        | none => some (.slice (some ⟨h.next, 0, inexact size⟩) (Nat.add len n) (Nat.add len n), h.push (.cells true (app old new)))
        | some sz =>
          bif Nat.beq cap 0 || !(Nat.beq sz size) then none else
          match h.get a.block with
          | some (.cells true _) => some (.slice (some ⟨h.next, 0, inexact size⟩) (Nat.add len n) (Nat.add len n), (h.put a.block none).push (.cells true (app old new)))
          | _ => none
    | none => none
  | _ => none

noncomputable def Heap.append (h : Heap) (size : Nat) (s x : Value) : Option (Value × Heap) :=
  match lenV x with
  | some n => match h.elems size n x with
    | some new => h.appendL size s n new
    | none => none
  | none => none

def bytesOf : List Value → Option (List UInt8)
  | [] => some []
  | .int .u8 n :: rest => match bytesOf rest with
    | some r => some (UInt8.ofNat n.toNat :: r)
    | none => none
  | _ => none

noncomputable def findEntry (sh : KSh) (k : Value) (es : List (Value × Value)) : Option (Option Value) :=     -- none: it can't be told
  List.rec (motive := fun _ => Option (Option Value)) (some none)
    (fun e _ ih => match keyEq sh k e.1 with
      | some true => some (some e.2)
      | some false => ih
      | none => none) es
def setEntry (k v : Value) (eq : Value → Value → Option Bool) : List (Value × Value) → Option (List (Value × Value))
  | [] => some [(k, v)]
  | (k', v') :: rest => match eq k k' with
    | some true => some ((k, v) :: rest)
    | some false => match setEntry k v eq rest with
      | some r => some ((k', v') :: r)
      | none => none
    | none => none
def dropEntry (k : Value) (eq : Value → Value → Option Bool) : List (Value × Value) → Option (List (Value × Value))
  | [] => some []
  | (k', v') :: rest => match eq k k' with
    | some true => some rest
    | some false => match dropEntry k eq rest with
      | some r => some ((k', v') :: r)
      | none => none
    | none => none

/-- The slice x[l:h:m] of one of that address, length, capacity. -/
def sliceOf (size : Nat) (a : Option Addr) (cap l h m : Nat) (mx : Bool) : Option Value :=
  bif Nat.ble l h && Nat.ble h m && Nat.ble m cap then
    match a with
    | none => some (.slice none (Nat.sub h l) (Nat.sub m l))
    | some a =>
      bif Nat.beq m l then some (.slice (some a) 0 0)
      else bif mx then some (.slice (some ⟨a.block, Nat.add a.off (Nat.mul l size), none⟩) (Nat.sub h l) (Nat.sub m l))
      else match a.spot with
        | none => some (.slice (some ⟨a.block, Nat.add a.off (Nat.mul l size), none⟩) (Nat.sub h l) (Nat.sub m l))
        | some z => bif Nat.beq z size then some (.slice (some ⟨a.block, Nat.add a.off (Nat.mul l size), some z⟩) (Nat.sub h l) (Nat.sub m l)) else none
  else none

end Go.Eng

/- The abstract machine: what operations and code do. -/
namespace Go.Eng
set_option linter.unusedVariables false

/-! ### Operations that only look -/
abbrev Look := Tm → Heap → Option Value

def lkMove (x : OpdF) : Look := fun t _ => some (x t)
noncomputable def lkBin (op : BinOp) (x y : OpdF) : Look := fun t _ => binV op (x t) (y t)
def lkUn (op : UnOp) (x : OpdF) : Look := fun t _ => unV op (x t)
def lkMkIface (ty : Nat) (x : OpdF) : Look := fun t _ => some (.iface ty (x t))
def lkLenC (n : Nat) : Look := fun _ _ => some (.int .i64 (.ofNat n))
noncomputable def lkMax (x : OpdF) (xs : List OpdF) : Look := fun t _ => foldV max2 (x t) (vals t xs)
noncomputable def lkMin (x : OpdF) (xs : List OpdF) : Look := fun t _ => foldV min2 (x t) (vals t xs)
noncomputable def lkPick (c a b : OpdF) : Look := fun t _ => optV none (fun c => Bool.rec (motive := fun _ => Option Value) (some (b t)) (some (a t)) c) (asBool (c t))
noncomputable def lkBuild (z : List Value) (ps : List (Nat × Nat × OpdF)) : Look := fun t _ => optV none (fun cs => some (.agg ⟨cs⟩)) (fillParts t ps z)
noncomputable def lkLoad1 (a : OpdF) : Look := fun t h => optV none (fun p => h.load1 p.block p.off) (asPtr (a t))
noncomputable def lkLoadN (n : Nat) (a : OpdF) : Look := fun t h => optV none (fun p => optV none (fun cs => some (.agg ⟨cs⟩)) (h.load p.block p.off n)) (asPtr (a t))
noncomputable def lkEq (neg : Bool) (p : Pred) (x y : OpdF) : Look := fun t _ => optV none (fun b => some (.bool (bif neg then !b else b))) (predEq p (x t) (y t))
noncomputable def lkIntTo (k : IntKind) (x : OpdF) : Look := fun t _ => match x t with
  | .int _ n => some (.int k (k.wrap n))
  | _ => none
noncomputable def lkBytesTo (x : OpdF) : Look := fun t h => match x t with
  | .slice none _ _ => some (.string ⟨⟨[]⟩⟩)
  | .slice (some a) n _ => match h.load a.block a.off n with
    | some cs => match bytesOf cs with
      | some bs => some (.string ⟨⟨bs⟩⟩)
      | none => none
    | none => none
  | _ => none
noncomputable def lkMkFunc (fn : Fn) (fs cs : List OpdF) : Look := fun t _ => some (.func fn ⟨vals t fs⟩ ⟨vals t cs⟩)
noncomputable def optNat (t : Tm) (d : Nat) (o : Option OpdF) : Option Nat := optV (some d) (fun x => asNat (x t)) o
noncomputable def lkSliceStr (x : OpdF) (lo hi : Option OpdF) : Look := fun t _ => optV none (fun s =>
  match optNat t 0 lo, optNat t s.length hi with
    | some l, some h => bif Nat.ble l h && Nat.ble h s.length then some (.string ⟨⟨(s.drop l).take (h - l)⟩⟩) else none
    | _, _ => none) (asStr (x t))
noncomputable def lkSliceSl (size : Nat) (x : OpdF) (lo hi mx : Option OpdF) : Look := fun t _ => match x t with
  | .slice a len cap => match optNat t 0 lo, optNat t len hi, optNat t cap mx with
    | some l, some h, some m => bif mx.isSome && hi.isNone then none else sliceOf size a cap l h m mx.isSome
    | _, _, _ => none
  | _ => none
noncomputable def lkSliceArr (n size : Nat) (x : OpdF) (lo hi mx : Option OpdF) : Look := fun t _ => optV none (fun a =>
  match optNat t 0 lo, optNat t n hi, optNat t n mx with
    | some l, some h, some m => bif mx.isSome && hi.isNone then none else sliceOf size (some ⟨a.block, a.off, none⟩) n l h m mx.isSome
    | _, _, _ => none) (asPtr (x t))
noncomputable def lkToArr (n : Nat) (x : OpdF) : Look := fun t _ => match x t with
  | .slice (some a) len _ => bif Nat.blt len n || Nat.beq n 0 then none else some (.pointer (some ⟨a.block, a.off, none⟩))
  | _ => none
noncomputable def lkFieldAddr (off : Nat) (x : OpdF) : Look := fun t _ => optV none (fun a => some (.pointer (some ⟨a.block, Nat.add a.off off, none⟩))) (asPtr (x t))
noncomputable def lkField1 (off : Nat) (x : OpdF) : Look := fun t _ => optV none (fun cs => nth off cs) (asAgg (x t))
noncomputable def lkFieldN (off n : Nat) (x : OpdF) : Look := fun t _ => optV none (fun cs => optV none (fun c => some (.agg ⟨c⟩)) (takeN n (dropN off cs))) (asAgg (x t))
noncomputable def lkIxSl (size : Nat) (x i : OpdF) : Look := fun t _ => match x t with
  | .slice (some a) len _ => optV none (fun i => bif Nat.blt i len then some (.pointer (some ⟨a.block, Nat.add a.off (Nat.mul i size), none⟩)) else none) (asNat (i t))
  | _ => none
noncomputable def lkIxArr (n size : Nat) (x i : OpdF) : Look := fun t _ => optV none (fun a =>
  optV none (fun i => bif Nat.blt i n then some (.pointer (some ⟨a.block, Nat.add a.off (Nat.mul i size), none⟩)) else none) (asNat (i t))) (asPtr (x t))
noncomputable def lkIxStr (x i : OpdF) : Look := fun t _ => optV none (fun s => optV none (fun i => optV none (fun b => some (byteVal b)) s[i]?) (asNat (i t))) (asStr (x t))
noncomputable def lkIxVal1 (n : Nat) (x i : OpdF) : Look := fun t _ => optV none (fun cs => optV none (fun i => bif Nat.blt i n then nth i cs else none) (asNat (i t))) (asAgg (x t))
noncomputable def lkIxValN (n esz : Nat) (x i : OpdF) : Look := fun t _ => optV none (fun cs => optV none (fun i => bif Nat.blt i n then
  optV none (fun c => some (.agg ⟨c⟩)) (takeN esz (dropN (Nat.mul i esz) cs)) else none) (asNat (i t))) (asAgg (x t))
noncomputable def foundV (zero : Value) (ok : Bool) (r : Option Value) : Value := match r with
  | some v => bif ok then .tuple ⟨[v, .bool true]⟩ else v
  | none => bif ok then .tuple ⟨[zero, .bool false]⟩ else zero
noncomputable def lkLookup (sh : KSh) (zero : Value) (ok : Bool) (x i : OpdF) : Look := fun t h => bif !(keyOK sh (i t)) then none else match x t with
  | .map none => some (foundV zero ok none)
  | .map (some r) => match h.get r with
    | some (.map sh' _ es) => bif !(sameSh sh sh') then none else optV none (fun v => some (foundV zero ok v)) (findEntry sh (i t) es)
    | _ => none
  | _ => none
noncomputable def lkAssertT (ty : Nat) (zero : Value) (ok : Bool) (x : OpdF) : Look := fun t _ => match x t with
  | .nilIface => bif ok then some (foundV zero true none) else none
  | .iface u v => bif Nat.beq u ty then some (foundV zero ok (some v)) else bif ok then some (foundV zero true none) else none
  | _ => none
noncomputable def lkAssertI (types : Nat) (fits : List Nat) (zero : Value) (ok : Bool) (x : OpdF) : Look := fun t _ => match x t with
  | .nilIface => bif ok then some (foundV zero true none) else none
  | .iface u v => bif !(Nat.blt u types) then none else bif fits.contains u then some (foundV zero ok (some (.iface u v))) else bif ok then some (foundV zero true none) else none
  | _ => none
noncomputable def lkExtract (i : Nat) (x : OpdF) : Look := fun t _ => nth i (asTuple (x t))
noncomputable def lkLen (k : LenK) (x : OpdF) : Look := match k with
  | .sl => fun t h => match x t with
    | .slice _ n _ => some (.int .i64 (.ofNat n))
    | _ => none
  | .str => fun t h => match x t with
    | .string s => some (.int .i64 (.ofNat (bytes s).length))
    | _ => none
  | .map => fun t h => match x t with
    | .map none => some (.int .i64 (.ofNat 0))
    | .map (some r) => match h.get r with
      | some (.map _ _ es) => some (.int .i64 (.ofNat es.length))
      | _ => none
    | _ => none
noncomputable def lkStr (x : OpdF) : Look := fun t _ => match x t with
  | .string s => some (.string s)
  | _ => none
noncomputable def lkCap (x : OpdF) : Look := fun t _ => match x t with
  | .slice (some ⟨_, _, none⟩) _ c => some (.int .i64 (.ofNat c))
  | .slice none _ c => some (.int .i64 (.ofNat c))
  | _ => none
noncomputable def lkEntry (it : OpdF) : Look := fun t h => match it t with
  | .pointer (some ⟨r, 0, _⟩) => match h.get r with
    | some (.miter (some m) ver _ (some e)) => match h.get m with
      | some (.map _ ver' _) => bif Nat.beq ver ver' then some (.tuple ⟨[e.1, e.2]⟩) else none
      | _ => none
    | _ => none
  | _ => none

/-! ### Operations that write or make memory, of no call -/
abbrev Turn := Tm → Heap → Option (Value × Heap)

noncomputable def newPtr (h : Heap) (cs : List Value) : Option (Value × Heap) := some (.pointer (some ⟨h.next, 0, none⟩), h.push (.cells true cs))
noncomputable def tnAlloc (z : List Value) : Turn := fun _ h => newPtr h z
noncomputable def tnBox (x : OpdF) : Turn := fun t h => optV none (newPtr h) (cellsOf (x t))
noncomputable def tnBuildSlice (z : List Value) (ps : List (Nat × Nat × OpdF)) (n : Nat) : Turn := fun t h => match fillParts t ps z with
  | some cs => some (.slice (some ⟨h.next, 0, none⟩) n n, h.push (.cells true cs))
  | none => none
noncomputable def tnStore (n : Nat) (a x : OpdF) : Turn := fun t h => optV none (fun p => optV none (fun ys =>
    bif Nat.beq (lenL ys) n then optV none (fun h' => some (undef, h')) (h.store p.block p.off n ys) else none) (cellsOf (x t))) (asPtr (a t))
noncomputable def tnToBytes (x : OpdF) : Turn := fun t h => match x t with
  | .string s => some (.slice (some ⟨h.next, 0, inexact 1⟩) (bytes s).length (bytes s).length, h.push (.cells true (byteVals (bytes s))))
  | _ => none
/-- A constant's bytes, said to be a string's: as memory goes, nothing. -/
noncomputable def tnStamp (x : OpdF) : Turn := fun t h => match x t with
  | .slice (some a) n c => bif Nat.blt 0 n then (match h.get a.block with
    | some (.cells true xs) => bif Nat.blt 0 (lenL xs) then some (.slice (some a) n c, h) else none
    | _ => none) else none
  | _ => none
noncomputable def tnMkMap (sh : KSh) : Turn := fun _ h => some (.map (some h.next), h.push (.map sh 0 []))
noncomputable def tnMkSlice (z : List Value) (l c : OpdF) : Turn := fun t h => match asNat (l t), asNat (c t) with
  | some l, some c => bif Nat.ble l c && Nat.blt c 1000000 then some (.slice (some ⟨h.next, 0, none⟩) l c, h.push (.cells true (rep z c))) else none
  | _, _ => none
noncomputable def tnMapUpdate (sh : KSh) (m k x : OpdF) : Turn := fun t h => bif !(keyOK sh (k t)) then none else match m t with
  | .map (some r) => match h.get r with
    | some (.map sh' ver es) => bif !(sameSh sh sh') then none else match setEntry (k t) (x t) (keyEq sh) es with
      | some es' => some (undef, h.put r (some (.map sh' (Nat.succ ver) es')))
      | none => none
    | _ => none
  | _ => none
noncomputable def tnRangeMap (x : OpdF) : Turn := fun t h => match x t with
  | .map none => some (.pointer (some ⟨h.next, 0, none⟩), h.push (.miter none 0 [] none))
  | .map (some r) => match h.get r with
    | some (.map _ ver es) => some (.pointer (some ⟨h.next, 0, none⟩), h.push (.miter (some r) ver es none))
    | _ => none
  | _ => none
noncomputable def tnRangeStr (x : OpdF) : Turn := fun t h => match x t with
  | .string s => some (.pointer (some ⟨h.next, 0, none⟩), h.push (.siter s 0))
  | _ => none
noncomputable def tnAppend (size : Nat) (s x : OpdF) : Turn := fun t h => h.append size (s t) (x t)
noncomputable def tnAppendZ (z : List Value) (s x : OpdF) : Turn := fun t h => match asNat (x t) with
  | some n => bif Nat.blt n 1000000 then h.appendL (lenL z) (s t) n (rep z n) else none
  | none => none
noncomputable def tnCopy (size : Nat) (d s : OpdF) : Turn := fun t h => match d t with
  | .slice none 0 _ => match lenV (s t) with
    | some _ => some (.int .i64 (.ofNat 0), h)
    | none => none
  | .slice (some a) dl _ => match lenV (s t) with
    | some sl =>
      match h.elems size (bif Nat.ble sl dl then sl else dl) (s t) with
      | some cs => bif Nat.beq (bif Nat.ble sl dl then sl else dl) 0 then some (.int .i64 (.ofNat 0), h) else (match h.store a.block a.off (Nat.mul (bif Nat.ble sl dl then sl else dl) size) cs with
        | some h' => some (.int .i64 (.ofNat (bif Nat.ble sl dl then sl else dl)), h')
        | none => none)
      | none => none
    | none => none
  | _ => none
noncomputable def tnDelete (sh : KSh) (m k : OpdF) : Turn := fun t h => bif !(keyOK sh (k t)) then none else match m t with
  | .map none => some (.tuple ⟨[]⟩, h)
  | .map (some r) => match h.get r with
    | some (.map sh' ver es) => bif !(sameSh sh sh') then none else match dropEntry (k t) (keyEq sh) es with
      | some es' => some (.tuple ⟨[]⟩, h.put r (some (.map sh' (Nat.succ ver) es')))
      | none => none
    | _ => none
  | _ => none
noncomputable def tnClear (z : List Value) (x : OpdF) : Turn := fun t h => match x t with
  | .map none => some (.tuple ⟨[]⟩, h)
  | .slice none _ _ => some (.tuple ⟨[]⟩, h)
  | .slice (some a) n _ => bif Nat.beq n 0 then some (.tuple ⟨[]⟩, h) else bif Nat.beq (lenL z) 0 then none else (match h.store a.block a.off (Nat.mul n (lenL z)) (rep z n) with
    | some h' => some (.tuple ⟨[]⟩, h')
    | none => none)
  | .map (some r) => match h.get r with
    | some (.map sh ver _) => some (.tuple ⟨[]⟩, h.put r (some (.map sh (Nat.succ ver) [])))
    | _ => none
  | _ => none
noncomputable def tnNextStr (it : OpdF) : Turn := fun t h => match it t with
  | .pointer (some ⟨r, 0, _⟩) => match h.get r with
    | some (.siter s pos) =>
      if pos < s.size then some (.tuple ⟨[.bool true, .int .i64 pos, .int .i32 (Utf8.decode s pos).1]⟩, h.put r (some (.siter s (pos + (Utf8.decode s pos).2))))
      else some (.tuple ⟨[.bool false]⟩, h)
    | _ => none
  | _ => none

def removeAt {α : Type} : List α → Nat → List α
  | [], _ => []
  | _ :: xs, 0 => xs
  | x :: xs, n + 1 => x :: removeAt xs n

/-- Among how many the step of a map's iterator is open (0: it is not), and what it comes to by each choice. -/
noncomputable def nextMap (h : Heap) (it : Value) : Option (Nat × (Nat → Option (Value × Heap))) :=
  match it with
  | .pointer (some ⟨r, 0, _⟩) => match h.get r with
    | some (.miter none _ _ _) => some (0, fun _ => some (.tuple ⟨[.bool false]⟩, h))
    | some (.miter (some m) ver left _) => match h.get m with
      | some (.map _ ver' _) =>
        bif Nat.beq ver ver' then
          match left with
          | [] => some (0, fun _ => some (.tuple ⟨[.bool false]⟩, h))
          | [e] => some (0, fun _ => some (.tuple ⟨[.bool true, e.1, e.2]⟩, h.put r (some (.miter (some m) ver [] (some e)))))
          | _ => some (left.length, fun i => match left[i]? with
            | some e => some (.tuple ⟨[.bool true, e.1, e.2]⟩, h.put r (some (.miter (some m) ver (removeAt left i) (some e))))
            | none => none)
        else none
      | _ => none
    | _ => none
  | _ => none

/-! ### Ends -/
noncomputable def Er.toRz (r : Er) (ret : Value → Heap → Rz) (panic : List (Value × Bool) → Heap → Rz) : Rz :=
  Er.rec (motive := fun _ => Rz) ret panic (fun s => .fail s) (fun n _ ih => .any n ih) r

noncomputable def Rz.toEr (r : Rz) (leave : Tm → Aux → Heap → Er) (panic : Value → List Nat → Tm → Aux → Heap → Er) (exit : Nat → Tm → Aux → Heap → Er) (ret : Tm → Aux → Heap → Er) : Er :=
  Rz.rec (motive := fun _ => Er) leave exit ret panic (fun _ _ _ => .fail "got") (fun s => .fail s) (fun n _ ih => .any n ih) r

/-- What comes behind code that ends normally. -/
noncomputable def Rz.then (r : Rz) (k : Tm → Aux → Heap → Rz) : Rz :=
  Rz.rec (motive := fun _ => Rz) k (fun id t x h => .exit id t x h) (fun t x h => .ret t x h) (fun v l t x h => .panic v l t x h) (fun v x h => .got v x h) (fun s => .fail s) (fun n _ ih => .any n ih) r

noncomputable def Rz.onExit (r : Rz) (id : Nat) : Rz :=
  Rz.rec (motive := fun _ => Rz) (fun t x h => .norm t x h) (fun id' t x h => Bool.rec (motive := fun _ => Rz) (.exit id' t x h) (.norm t x h) (Nat.beq id' id)) (fun t x h => .ret t x h) (fun v l t x h => .panic v l t x h)
    (fun v x h => .got v x h) (fun s => .fail s) (fun n _ ih => .any n ih) r

/-! ### What code is given: how functions are called -/
structure Ctx where
  call : Value → List Value → Heap → Er
  inv : Value → String → List Value → Heap → Er
  nilOk : Nat → String → Bool
  fuel : Nat

abbrev KB := Ctx → Tm → Aux → Heap → Rz
abbrev Cont := Value → Aux → Heap → Rz
abbrev ExF := Ctx → Tm → Aux → Heap → Cont → Rz

/-! ### Operations, with what comes behind -/
noncomputable def xLook (l : Look) : ExF := fun _ t x h k => Option.rec (motive := fun _ => Rz) (.fail "look") (fun v => k v x h) (l t h)
noncomputable def xTurn (l : Turn) : ExF := fun _ t x h k => Option.rec (motive := fun _ => Rz) (.fail "turn") (fun r => k r.1 x r.2) (l t h)
def xMove (a : OpdF) : ExF := fun _ t x h k => k (a t) x h
noncomputable def exBack (r : Er) (t : Tm) (x : Aux) (k : Cont) : Rz :=
  r.toRz (fun v h => k v x h) (fun chain h => match chain with
    | [(v, false)] => .panic v [] t x h
    | _ => .fail "a panic of many")
noncomputable def xCall (f : OpdF) (args : List OpdF) : ExF := fun c t x h k => exBack (c.call (f t) (vals t args) h) t x k
noncomputable def xInvoke (o : OpdF) (name : String) (args : List OpdF) : ExF := fun c t x h k => exBack (c.inv (o t) name (vals t args) h) t x k
noncomputable def xPanic (o : OpdF) : ExF := fun _ t x h _ => match o t with
  | .iface ty v => .panic (.iface ty v) [] t x h
  | _ => .fail "panic: nil"
noncomputable def xRecover : ExF := fun _ _ x h k => match x.round with
  | some _ => .fail "recover in a round"
  | none => match x.rc with
    | some (.panicking ((v, false) :: older)) => k v ⟨x.defers, none, some (.panicking ((v, true) :: older))⟩ h
    | _ => k .nilIface x h
noncomputable def xDefer (f : OpdF) (args : List OpdF) : ExF := fun _ t x h k => match x.round with
  | none => match f t with
    | .func fn a b => k undef ⟨.call (.func fn a b) (vals t args) :: x.defers, none, x.rc⟩ h
    | _ => .fail "defer"
  | some _ => .fail "defer in a round"
noncomputable def xNil (o : OpdF) : ExF := fun c t x h k => match o t with
  | .pointer (some a) => k (.pointer (some a)) x h
  | .func (.func f) first captured => k (.func (.func f) first captured) x h
  | .func (.method name) first captured => match first.toList with
    | .iface ty v :: _ => bif c.nilOk ty name then k (.func (.method name) first captured) x h else .fail "nilCheck: method"
    | _ => .fail "nilCheck: method"
  | .iface ty v => k (.iface ty v) x h
  | _ => .fail "nilCheck"
noncomputable def xNextMap (it : OpdF) : ExF := fun _ t x h k => match nextMap h (it t) with
  | some (0, f) => match f 0 with
    | some (v, h') => k v x h'
    | none => .fail "next"
  | some (n + 1, f) => .any (n + 1) fun i => match f i with
    | some (v, h') => k v x h'
    | none => .fail "next"
  | none => .fail "next"
def xBad (why : String) : ExF := fun _ _ _ _ _ => .fail why

/-! ### Regions -/
def oEnd : KB := fun _ t x h => .norm t x h
def oSet (ex : ExF) (p : Value → Tm → Tm) (rest : KB) : KB := fun c t x h => ex c t x h fun v x h => rest c (p v t) x h
def oDo (ex : ExF) (rest : KB) : KB := fun c t x h => ex c t x h fun _ x h => rest c t x h
noncomputable def oSetIf (want : Tm → Bool) (ex : ExF) (p : Value → Tm → Tm) (rest : KB) : KB := fun c t x h =>
  Bool.rec (motive := fun _ => Rz) (rest c (p undef t) x h) (ex c t x h fun v x h => rest c (p v t) x h) (want t)
noncomputable def oDoIf (want : Tm → Bool) (ex : ExF) (rest : KB) : KB := fun c t x h =>
  Bool.rec (motive := fun _ => Rz) (rest c t x h) (ex c t x h fun _ x h => rest c t x h) (want t)

/-! A region that draws its order: in the order of the text; each look that goes beside a writer tells the same ahead of it and behind it. Behind a panic those operations are gone through yet that are not behind it. -/
inductive LogE where
  | ld (again : Heap → Bool)
  | wr (before : Heap)

def findLog (i : Nat) : List (Nat × LogE) → Option LogE
  | [] => none
  | (j, e) :: rest => bif Nat.beq i j then some e else findLog i rest

def sameV : Nat → Value → Value → Bool
  | _, .bool a, .bool b => a == b
  | _, .int j a, .int k b => sameKind j k && eqInt a b
  | _, .string a, .string b => a == b
  | _, .pointer a, .pointer b => a == b
  | _, .slice a n c, .slice b m d => a == b && Nat.beq n m && Nat.beq c d
  | _, .map a, .map b => a == b
  | _, .nilFunc, .nilFunc => true
  | _, .nilIface, .nilIface => true
  | _, .chan none, .chan none => true
  | n + 1, .iface t v, .iface u w => Nat.beq t u && sameV n v w
  | n + 1, .agg a, .agg b => all (sameV n) a.toList b.toList
  | n + 1, .tuple a, .tuple b => all (sameV n) a.toList b.toList
  | n + 1, .func f a b, .func g c d => f == g && all (sameV n) a.toList c.toList && all (sameV n) b.toList d.toList
  | _, _, _ => false
where
  all (f : Value → Value → Bool) : List Value → List Value → Bool
    | [], [] => true
    | x :: xs, y :: ys => f x y && all f xs ys
    | _, _ => false

noncomputable def tellsAs (l : Option Value) (v : Value) : Bool := optV false (fun v' => sameV 20 v v') l

/-- A look told the same ahead of each writer beside it. -/
noncomputable def unLook (log : List (Nat × LogE)) (l : Look) (t : Tm) (v : Value) (un : List Nat) : Bool :=
  List.rec (motive := fun _ => Bool) true
    (fun i _ ih => (match findLog i log with
      | none => true           -- it was not wanted
      | some (.wr before) => tellsAs (l t before) v
      | some (.ld _) => false) && ih) un
/-- The looks beside a writer tell the same behind it. -/
noncomputable def unTurn (log : List (Nat × LogE)) (now : Heap) (un : List Nat) : Bool :=
  List.rec (motive := fun _ => Bool) true
    (fun i _ ih => (match findLog i log with
      | none => true
      | some (.wr _) => false
      | some (.ld again) => again now) && ih) un

/-- Which operation has panicked, with what. -/
abbrev Dead := Option (Nat × Value)
abbrev KD := List (Nat × LogE) → Dead → KB

def isAfter (pre : List Nat) : Dead → Bool
  | none => false
  | some (j, _) => pre.contains j

def dEnd (lost : List Nat) : KD := fun _ d _ t x h => match d with
  | none => .norm t x h
  | some (_, v) => .panic v lost t x h
noncomputable def dLook (idx : Nat) (un pre : List Nat) (l : Look) (p : Value → Tm → Tm) (rest : KD) : KD := fun log d c t x h =>
  bif isAfter pre d then rest log d c t x h else
  match l t h with
  | some v => bif unLook log l t v un then rest ((idx, .ld fun now => tellsAs (l t now) v) :: log) d c (p v t) x h else .fail "a look beside a writer"
  | none => .fail "look"
noncomputable def dTurn (idx : Nat) (un pre : List Nat) (writer : Bool) (ex : ExF) (p : Value → Tm → Tm) (rest : KD) : KD := fun log d c t x h =>
  bif isAfter pre d then rest log d c t x h else
  bif writer && d.isSome then .fail "a writer beside a panic" else
  match ex c t x h fun v x h => .got v x h with
  | .got v x' h' => bif unTurn log h' un then rest ((idx, .wr h) :: log) d c (p v t) x' h' else .fail "a writer beside a look"
  | .panic v _ _ x' h' => match d with
    | none => bif unTurn log h' un then rest ((idx, .wr h) :: log) (some (idx, v)) c t x' h' else .fail "a writer beside a look"
    | some _ => .fail "two panics"
  | .fail s => .fail s
  | _ => .fail "a choice in a drawn region"
noncomputable def dIf (pre : List Nat) (want : Tm → Bool) (p : Value → Tm → Tm) (yes rest : KD) : KD := fun log d c t x h =>
  bif isAfter pre d then rest log d c t x h else Bool.rec (motive := fun _ => Rz) (rest log d c (p undef t) x h) (yes log d c t x h) (want t)

/-! ### Code -/
def kSkip : KB := fun _ t x h => .norm t x h
def kRet : KB := fun _ t x h => .ret t x h
def kExit (id : Nat) : KB := fun _ t x h => .exit id t x h
def kBad (why : String) : KB := fun _ _ _ _ => .fail why
def kDraw (d : KD) : KB := d [] none
noncomputable def kCond (g : OpdF) (a b : KB) : KB := fun c t x h => optV (.fail "cond") (fun g => Bool.rec (motive := fun _ => Rz) (b c t x h) (a c t x h) g) (asBool (g t))
noncomputable def kSeq (a b : KB) : KB := fun c t x h => (a c t x h).then (b c)
noncomputable def kBlock (id : Nat) (a : KB) : KB := fun c t x h => (a c t x h).onExit id
noncomputable def kLoop (a : KB) : KB := fun c => Nat.rec (motive := fun _ => Tm → Aux → Heap → Rz) (fun _ _ _ => .fail "rounds") (fun _ ih t x h => (a c t x h).then ih) c.fuel


/-! ### A loop over a function -/
def ALoop.with (r : ALoop) (s : LState) (j : Option Jump) : ALoop := ⟨s, j, r.tmps, r.params, r.assign, r.body⟩

/-- The call of the function with what it is to yield to, and what comes behind. -/
noncomputable def kRangeAt (f : OpdF) (params : List Nat) (assign body : CCode) : KB := fun c t x h =>
  (c.call (f t) [.func (.yield h.next) ⟨[]⟩ ⟨[]⟩] (h.push (.loop ⟨.ready, none, t, params, assign, body⟩))).toRz
    (fun _ h' => match h'.get h.next with
      | some (.loop r) => match r.state with
        | .busy => .fail "range over a function: busy"
        | _ => match r.pending with
          | none => .norm t x (h'.put h.next (some (.loop (r.with .exhausted r.pending))))
          | some .ret => .ret t x (h'.put h.next (some (.loop (r.with .exhausted r.pending))))
          | some (.exit id) => .exit id t x (h'.put h.next (some (.loop (r.with .exhausted r.pending))))
      | _ => .fail "range over a function: no loop")
    (fun chain h' => match chain with
      | [(v, false)] => .panic v [] t x h'
      | _ => .fail "a panic of many")
noncomputable def kRange (f : OpdF) (params : List Nat) (assign body : CCode) : KB := fun c t x h => match x.round with
  | none => kRangeAt f params assign body c t ⟨.mark h.next :: x.defers, none, x.rc⟩ (h.push .mark)
  | some l => match h.get l with
    | some (.loop _) => kRangeAt f params assign body c t x h
    | _ => .fail "range over a function: no loop around"

/-! ### From data to what it does -/
noncomputable def opds (xs : List Opd) : List OpdF := List.rec (motive := fun _ => List OpdF) [] (fun x _ ih => Opd.val x :: ih) xs
def optOpd : Option Opd → Option OpdF
  | none => none
  | some x => some x.val
noncomputable def partsF (ps : List Part) : List (Nat × Nat × OpdF) := List.rec (motive := fun _ => List (Nat × Nat × OpdF)) [] (fun p _ ih => (p.off, p.size, p.x.val) :: ih) ps

/-- The look that an operation is, if it is one. -/
noncomputable def lookOf : COp → Option Look
  | .move x => some (lkMove x.val)
  | .pick c a b => some (lkPick c.val a.val b.val)
  | .build z ps => some (lkBuild z (partsF ps))
  | .load1 a => some (lkLoad1 a.val)
  | .loadN n a => some (lkLoadN n a.val)
  | .bin op x y => some (lkBin op x.val y.val)
  | .eq neg p x y => some (lkEq neg p x.val y.val)
  | .un op x => some (lkUn op x.val)
  | .intTo k x => some (lkIntTo k x.val)
  | .str x => some (lkStr x.val)
  | .bytesTo x => some (lkBytesTo x.val)
  | .mkIface ty x => some (lkMkIface ty x.val)
  | .mkFunc fn fs cs => some (lkMkFunc fn (opds fs) (opds cs))
  | .sliceStr x lo hi => some (lkSliceStr x.val (optOpd lo) (optOpd hi))
  | .sliceSl size x lo hi mx => some (lkSliceSl size x.val (optOpd lo) (optOpd hi) (optOpd mx))
  | .sliceArr n size x lo hi mx => some (lkSliceArr n size x.val (optOpd lo) (optOpd hi) (optOpd mx))
  | .toArr n x => some (lkToArr n x.val)
  | .fieldAddr off x => some (lkFieldAddr off x.val)
  | .field off none x => some (lkField1 off x.val)
  | .field off (some n) x => some (lkFieldN off n x.val)
  | .ixSl size x i => some (lkIxSl size x.val i.val)
  | .ixArr n size x i => some (lkIxArr n size x.val i.val)
  | .ixStr x i => some (lkIxStr x.val i.val)
  | .ixVal n _ false x i => some (lkIxVal1 n x.val i.val)
  | .ixVal n esz true x i => some (lkIxValN n esz x.val i.val)
  | .lookup sh zero ok x i => some (lkLookup sh zero ok x.val i.val)
  | .assertT ty zero ok x => some (lkAssertT ty zero ok x.val)
  | .assertI n fits zero ok x => some (lkAssertI n fits zero ok x.val)
  | .extract i x => some (lkExtract i x.val)
  | .len k x => some (lkLen k x.val)
  | .lenC n => some (lkLenC n)
  | .cap x => some (lkCap x.val)
  | .max x xs => some (lkMax x.val (opds xs))
  | .min x xs => some (lkMin x.val (opds xs))
  | .entry it => some (lkEntry it.val)
  | _ => none

noncomputable def turnOf : COp → ExF
  | .alloc z => xTurn (tnAlloc z)
  | .box x => xTurn (tnBox x.val)
  | .buildSlice z ps n => xTurn (tnBuildSlice z (partsF ps) n)
  | .store n a x => xTurn (tnStore n a.val x.val)
  | .toBytes x => xTurn (tnToBytes x.val)
  | .stamp x => xTurn (tnStamp x.val)
  | .mkMap sh => xTurn (tnMkMap sh)
  | .mkSlice z l c => xTurn (tnMkSlice z l.val c.val)
  | .mapUpdate sh m k x => xTurn (tnMapUpdate sh m.val k.val x.val)
  | .rangeMap x => xTurn (tnRangeMap x.val)
  | .rangeStr x => xTurn (tnRangeStr x.val)
  | .nextStr it => xTurn (tnNextStr it.val)
  | .append size s x => xTurn (tnAppend size s.val x.val)
  | .appendZ z s x => xTurn (tnAppendZ z s.val x.val)
  | .copy size d s => xTurn (tnCopy size d.val s.val)
  | .delete sh m k => xTurn (tnDelete sh m.val k.val)
  | .clear z x => xTurn (tnClear z x.val)
  | .nilCheck x => xNil x.val
  | .call f args => xCall f.val (opds args)
  | .invoke x name args => xInvoke x.val name (opds args)
  | .panic x => xPanic x.val
  | .recover => xRecover
  | .defer f args => xDefer f.val (opds args)
  | .nextMap it => xNextMap it.val
  | .bad why => xBad why
  | _ => xBad "look"

noncomputable def exOf (o : COp) : ExF := match o with
  | .move x => xMove x.val
  | o => match lookOf o with
    | some l => xLook l
    | none => turnOf o

noncomputable def wantT (g : OpdF) : Tm → Bool := fun t => isTrue (g t)
noncomputable def wantF (g : OpdF) : Tm → Bool := fun t => isFalse (g t)
noncomputable def wants (n : Nat) (b : Bool) : Tm → Bool := match b with
  | true => wantT (slotG n)
  | false => wantF (slotG n)

noncomputable def oOf (o : COper) (rest : KB) : KB :=
  match o.guard, o.dst with
  | none, none => oDo (exOf o.op) rest
  | none, some d => oSet (exOf o.op) (slotP d) rest
  | some (g, b), none => oDoIf (wants g b) (exOf o.op) rest
  | some (g, b), some d => oSetIf (wants g b) (exOf o.op) (slotP d) rest
noncomputable def opsOf (os : List COper) : KB := List.rec (motive := fun _ => KB) oEnd (fun o _ ih => oOf o ih) os

def noDst : Value → Tm → Tm := fun _ t => t
/-- Does it (of no look) write, or end otherwise than with a value? -/
def COp.writes : COp → Bool
  | .store .. | .mapUpdate .. | .append .. | .appendZ .. | .copy .. | .delete .. | .clear .. | .call .. | .invoke .. | .nextMap _ | .nextStr _ | .panic _ | .recover | .defer .. | .bad _
  | .rangeMap _ | .rangeStr _ | .stamp _ => true
  | _ => false
noncomputable def dPut : Option Nat → Value → Tm → Tm
  | none => noDst
  | some d => slotP d
noncomputable def dOne (o : COper) (rest : KD) : KD := match lookOf o.op with
  | some l => dLook o.idx o.un o.pre l (dPut o.dst) rest
  | none => dTurn o.idx o.un o.pre o.op.writes (turnOf o.op) (dPut o.dst) rest
noncomputable def dOf (o : COper) (rest : KD) : KD := match o.guard with
  | none => dOne o rest
  | some (g, b) => dIf o.pre (wants g b) (dPut o.dst) (dOne o rest) rest
noncomputable def dstsOf (os : List COper) : List Nat := os.filterMap (·.dst)
noncomputable def drawOf (lost : List Nat) (os : List COper) : KD := List.rec (motive := fun _ => KD) (dEnd lost) (fun o _ ih => dOf o ih) os

noncomputable def den (c : CCode) : KB :=
  CCode.rec (motive := fun _ => KB) kSkip (fun draw os => Bool.rec (motive := fun _ => KB) (opsOf os) (kDraw (drawOf (dstsOf os) os)) draw)
    (fun _ _ a b => kSeq a b) (fun c _ _ a b => kCond c.val a b) (fun id _ a => kBlock id a) (fun _ a => kLoop a)
    (fun f ps assign body _ _ => kRange f.val ps assign body) kExit kRet kBad c

/-! ### Functions -/
abbrev ResF := List Nat → Tm → Heap → Option (List Value)
noncomputable def rTmp (n : Nat) (g : OpdF) : ResF := fun lost t _ => bif lost.contains n then none else some [g t]
noncomputable def rCell1 (n : Nat) (g : OpdF) : ResF := fun lost t h => bif lost.contains n then none else optV none (fun p => optV none (fun v => some [v]) (h.load1 p.block p.off)) (asPtr (g t))
noncomputable def rCellN (n : Nat) (g : OpdF) (k : Nat) : ResF := fun lost t h => bif lost.contains n then none else optV none (fun p => optV none (fun cs => some [.agg ⟨cs⟩]) (h.load p.block p.off k)) (asPtr (g t))
noncomputable def resOf : CRes → ResF
  | .tmp n => rTmp n (slotG n)
  | .cell1 n => rCell1 n (slotG n)
  | .cellN n k => rCellN n (slotG n) k
noncomputable def readRes (rs : List ResF) : ResF := fun lost t h =>
  List.rec (motive := fun _ => Option (List Value)) (some []) (fun r _ ih => match r lost t h, ih with
    | some v, some vs => some (app v vs)
    | _, _ => none) rs
noncomputable def ressOf (rs : List CRes) : List ResF := List.rec (motive := fun _ => List ResF) [] (fun r _ ih => resOf r :: ih) rs

structure KFun where
  res : List ResF
  body : KB

noncomputable def CFun.den (f : CFun) : KFun := ⟨ressOf f.results, Eng.den f.body⟩

abbrev Summ := List Value → Heap → Option (Value × Heap)

structure Env where
  fn : Nat → Option KFun
  sum : Nat → Option Summ
  meth : Nat → String → Option (Nat × Rcv)       -- a type's method: the function, what it is called with
  nilOk : Nat → String → Bool                    -- no nil pointer can stand ahead of that method's receiver

noncomputable def initTmps (vs : List Value) : Nat → Tm → Tm :=
  List.rec (motive := fun _ => Nat → Tm → Tm) (fun _ t => t) (fun v _ ih i t => ih (Nat.succ i) (slotP i v t)) vs

def single : List Value → Value
  | [v] => v
  | vs => .tuple ⟨vs⟩

def settleA : AMode → AMode
  | .panicking ((_, true) :: _) => .returning
  | m => m
def raisedA (u : AMode) (chain : List (Value × Bool)) : AMode :=
  match u with
  | .panicking old => .panicking (chain ++ old)
  | .returning => .panicking chain

/-- How a deferred call ends: its own end, the mode of the frame that deferred it. -/
inductive Dr where
  | ret (m : AMode) (h : Heap)
  | panic (chain : List (Value × Bool)) (m : AMode) (h : Heap)
  | fail (why : String)
  | any (n : Nat) (k : Nat → Dr)

noncomputable def Dr.toEr (r : Dr) (ret : AMode → Heap → Er) (panic : List (Value × Bool) → AMode → Heap → Er) : Er :=
  Dr.rec (motive := fun _ => Er) ret panic (fun s => .fail s) (fun n _ ih => .any n ih) r
noncomputable def Rz.toDr (r : Rz) (leave : Tm → Aux → Heap → Dr) (panic : Aux → Heap → Value → Dr) : Dr :=
  Rz.rec (motive := fun _ => Dr) leave (fun _ _ _ _ => .fail "exit") leave (fun v _ _ x h => panic x h v) (fun _ _ _ => .fail "got") (fun s => .fail s) (fun n _ ih => .any n ih) r

section
variable (E : Env) (c : Ctx)

noncomputable def enterD (f : Value) (args : List Value) (m : AMode) (h : Heap) : Dr :=
  match f with
  | .func (.func f) first captured => match E.fn f with
    | some fn =>
      bif !(Nat.ble (lenL (app first.toList (app args captured.toList))) 255) then .fail "arguments" else
      (fn.body c (initTmps (app first.toList (app args captured.toList)) 0 Tm.empty) ⟨[], none, some m⟩ h).toDr
        (fun t x h => match x.defers, x.rc with
          | [], some m' => match readRes fn.res [] t h with
            | some _ => .ret m' h
            | none => .fail "results"
          | _, _ => .fail "deferred calls of a deferred call")
        (fun x h v => match x.defers, x.rc with
          | [], some m' => .panic [(v, false)] m' h
          | _, _ => .fail "deferred calls of a deferred call")
    | none => .fail "no function"
  | _ => .fail "deferred: no function"

noncomputable def finish (rs : List ResF) (lost : List Nat) (t : Tm) (ds : List ADef) : AMode → Heap → Er :=
  List.rec (motive := fun _ => AMode → Heap → Er)
    (fun m h => match m with
      | .returning => match readRes rs lost t h with
        | some vs => .ret (single vs) h
        | none => .fail "results"
      | .panicking chain => .panic chain h)
    (fun d _ ih m h => match d with
      | .call f args => (enterD E c f args m h).toEr (fun m' h' => ih (settleA m') h') (fun chain m' h' => ih (raisedA m' chain) h')
      | .mark l => match h.get l with
        | some .mark => ih m (h.put l none)
        | _ => .fail "no mark") ds

noncomputable def enterK (fn : KFun) (args : List Value) (h : Heap) : Er :=
  bif !(Nat.ble (lenL args) 255) then .fail "arguments" else
  (fn.body c (initTmps args 0 Tm.empty) ⟨[], none, none⟩ h).toEr (fun t x h => finish E c fn.res [] t x.defers .returning h)
    (fun v lost t x h => finish E c fn.res lost t x.defers (.panicking [(v, false)]) h) (fun _ _ _ _ => .fail "exit")
    (fun t x h => finish E c fn.res [] t x.defers .returning h)

noncomputable def enter (f : Nat) (args : List Value) (h : Heap) : Er :=
  optV (optV (.fail "no function") (fun fn => enterK E c fn args h) (E.fn f))
    (fun s => optV (.fail "summary") (fun r => .ret r.1 r.2) (s args h)) (E.sum f)

noncomputable def invokeV (x : Value) (name : String) (args : List Value) (h : Heap) : Er :=
  match x with
  | .iface u v => match E.meth u name with
    | some (f, .whole) => enter E c f (v :: args) h
    | some (f, .part off none) => match asAgg v with
      | some cs => match nth off cs with
        | some r => enter E c f (r :: args) h
        | none => .fail "receiver"
      | none => .fail "receiver"
    | some (f, .part off (some n)) => match asAgg v with
      | some cs => match takeN n (dropN off cs) with
        | some r => enter E c f (.agg ⟨r⟩ :: args) h
        | none => .fail "receiver"
      | none => .fail "receiver"
    | some (f, .cell) => match v with
      | .pointer (some p) => match h.load1 p.block p.off with
        | some r => enter E c f (r :: args) h
        | none => .fail "receiver"
      | _ => .fail "receiver"
    | some (f, .cells n) => match v with
      | .pointer (some p) => match h.load p.block p.off n with
        | some r => enter E c f (.agg ⟨r⟩ :: args) h
        | none => .fail "receiver"
      | _ => .fail "receiver"
    | none => .fail "invoke"
  | _ => .fail "invoke"

noncomputable def setAll (ps : List Nat) : List Value → Tm → Option Tm :=
  List.rec (motive := fun _ => List Value → Tm → Option Tm) (fun vs t => match vs with
      | [] => some t
      | _ => none)
    (fun p _ ih vs t => match vs with
      | v :: vs => ih vs (slotP p v t)
      | [] => none) ps

noncomputable def endRound (l : Nat) (j : Option Jump) (h : Heap) : Er :=
  match h.get l with
  | some (.loop r) => .ret (.bool j.isNone) (h.put l (some (.loop (r.with (match j with
    | none => .ready
    | some _ => .done) j))))
  | _ => .fail "no loop"

/-- A round of a loop over a function. -/
noncomputable def yieldTo (l : Nat) (args : List Value) (h : Heap) : Er :=
  match h.get l with
  | some (.loop r) => match setAll r.params args r.tmps with
    | some t =>
      (Eng.den r.assign c t ⟨[], some l, none⟩ h).toEr (fun t x h => match h.get l with
        | some (.loop r') => match r'.state with
          | .ready =>
            (Eng.den r.body c t x (h.put l (some (.loop (r'.with .busy r'.pending))))).toEr (fun _ _ h => endRound l none h) (fun _ _ _ _ _ => .fail "a panic of a round")
              (fun id _ _ h => endRound l (some (.exit id)) h) (fun _ _ h => endRound l (some .ret) h)
          | _ => .fail "a round beside a loop that is not ready"
        | _ => .fail "no loop") (fun _ _ _ _ _ => .fail "assignment of a round") (fun _ _ _ _ => .fail "assignment of a round") (fun _ _ _ => .fail "assignment of a round")
    | none => .fail "yield"
  | _ => .fail "yield: no loop"

noncomputable def callV (f : Value) (args : List Value) (h : Heap) : Er :=
  match f with
  | .func (.func f) first captured => enter E c f (app first.toList (app args captured.toList)) h
  | .func (.yield l) first _ => match first.toList with
    | [] => yieldTo c l args h
    | _ => .fail "yield: arguments of its own"
  | .func (.method name) first _ => match first.toList with
    | r :: more => invokeV E c r name (app more args) h
    | [] => .fail "method value"
  | _ => .fail "call: no function"
end

/-- What code is given whose calls go n deep. -/
noncomputable def ctx (E : Env) (n : Nat) : Ctx :=
  Nat.rec (motive := fun _ => Ctx) ⟨fun _ _ _ => .fail "depth", fun _ _ _ _ => .fail "depth", E.nilOk, 0⟩
    (fun n ih => ⟨callV E ih, invokeV E ih, E.nilOk, Nat.succ n⟩) n

noncomputable def callAt (E : Env) (n : Nat) (f : Nat) (args : List Value) (h : Heap) : Er := enter E (ctx E n) f args h

end Go.Eng

/- The abstract machine: the model's code, compiled. -/
namespace Go.Eng
set_option linter.unusedVariables false

def isAggD : TypeDesc → Bool
  | .struct _ | .array _ _ => true
  | _ => false

/-- Values that hold no address: one cell each; whole. -/
def plain1 : Value → Bool
  | .bool _ | .int _ _ | .string _ | .pointer none | .slice none 0 0 | .map none | .nilFunc | .nilIface => true
  | _ => false
def plainL : List Value → Bool
  | [] => true
  | x :: xs => plain1 x && plainL xs
def plainV : Value → Bool
  | .agg cs => plainL cs.toList
  | v => plain1 v

section
variable (P : Program)

def und (t : TypeId) : TypeDesc := (P.underlying t).getD .invalid
def cellN (t : TypeId) : Nat := P.cellsOf t
def okT (t : TypeId) : Bool := (P.underlying t).isSome
def need {α : Type} (b : Bool) (x : Option α) : Option α := bif b then x else none
/-- The zero value, if it is plain and of its size. -/
def zeroOf (t : TypeId) : Option Value := ((P.info? t).bind (·.zero)).bind fun v => bif plainV v then some v else none
def aggT (t : TypeId) : Bool := isAggD (und P t)
def zcells (v : Value) : List Value := match v with
  | .agg cs => cs.toList
  | v => [v]

variable (m : Nat)     -- how many temporaries there are

def cSlot (t : Nat) : Option Nat := bif Nat.blt t 256 && Nat.blt t m then some t else none

def repC (xs : List Value) : Nat → List Value
  | 0 => []
  | n + 1 => xs ++ repC xs n

def cOpd : Operand → Option Opd
  | .tmp t => (cSlot m t).map .tmp
  | .const v => bif plainV v then some (.const v) else none
  | .func f => some (.const (.func (.func f) #[] #[]))
  | .global _ => none

/-- The leaves that a value of a type has, if they are ints, strings and bools alone, laid flat. -/
def flatN : Nat → TypeId → Option (List Leaf)
  | 0, _ => none
  | d + 1, t => match und P t with
    | .int k => some [.int k]
    | .string => some [.str]
    | .bool => some [.bool]
    | .struct fs => if P.stoodInHeld t then none else fields (flatN d) fs.toList 0
    | .array n e => match flatN d e with
      | some ls => if cellN P e = ls.length && okT P e then some (times ls n) else none
      | none => none
    | _ => none
where
  times (ls : List Leaf) : Nat → List Leaf
    | 0 => []
    | n + 1 => ls ++ times ls n
  fields (leaves : TypeId → Option (List Leaf)) : List Field → Nat → Option (List Leaf)
    | [], off => some []
    | f :: fs, off => if f.name = "_" || f.offset != off || !(okT P f.type) then none else match leaves f.type with
      | some ls => if cellN P f.type = ls.length then (fields leaves fs (off + ls.length)).map (ls ++ ·) else none
      | none => none

def keySh (t : TypeId) : Option KSh :=
  match und P t with
  | .int k => some (.one (.int k))
  | .string => some (.one .str)
  | .bool => some (.one .bool)
  | .array n e => match und P e with
    | .int k => if cellN P e = 1 then some (.many n k) else none
    | _ => none
  | _ => none

def cPred (t : TypeId) : Option Pred :=
  match und P t with
  | .int _ => some .int
  | .string => some .str
  | .bool => some .bool
  | .pointer e => if okT P e then some .ptr else none
  | .slice _ => some .slice
  | .map _ _ => some .map
  | .func .. => some .func
  | .interface _ => some .iface
  | .struct _ | .array _ _ => match flatN P 12 t with
    | some ls => if P.eqGuardType P.depth t then none else some (.flat ls)
    | none => none
  | _ => none

def isIfaceP : Pred → Bool
  | .iface => true
  | _ => false
def nilC : Operand → Bool
  | .const .nilIface => true
  | _ => false
def opt2 {α β γ : Type} (a : Option α) (b : Option β) (f : α → β → γ) : Option γ := a.bind fun a => b.map (f a)
def optO (x : Option Operand) : Option (Option Opd) := match x with
  | none => some none
  | some x => (cOpd m x).map some
def cOpds (xs : Array Operand) : Option (List Opd) := xs.toList.mapM (cOpd m)

def parts (place : Nat → Option (Nat × Nat)) (ps : Array (Nat × Operand)) : Option (List Part) :=
  ps.toList.mapM fun (i, x) => (place i).bind fun (off, n) => (cOpd m x).map fun x => ⟨off, n, x⟩

def cMethod (t : TypeId) (name : String) : Option (Nat × Rcv) :=
  ((P.info? t).bind fun i => i.methods.find? (·.name == name)).bind fun m =>
    if !(okT P t) then none else m.func.bind fun (f, ptr) =>
      match m.path.toList with
      | [] => (match und P t, ptr with
        | .pointer _, true => some (f, .whole)
        | .pointer e, false => need (okT P e) <| some (f, if aggT P e then .cells (cellN P e) else .cell)
        | .interface _, _ => none
        | _, false => some (f, .whole)
        | _, true => none)
      | [s] => if s.deref || ptr then none else (match und P s.struct with
        | .struct fs => (fs[s.index]?).bind fun fd => need (okT P fd.type) (match und P fd.type with
          | .pointer _ => none
          | _ => some (f, .part fd.offset (if aggT P fd.type then some (cellN P fd.type) else none)))
        | _ => none)
      | _ => none

/-- The receiver is no nil pointer that the method would be called through. -/
def cNilOk (t : TypeId) (name : String) : Bool :=
  match (P.info? t).bind fun i => i.methods.find? (·.name == name) with
  | some m => okT P t && m.path.isEmpty && (match m.func with
    | some (_, true) => true
    | some (_, false) => (match und P t with
      | .pointer _ => false
      | _ => true)
    | none => false)
  | none => false

/-- The type of the first argument. -/
def und0 (c : Call) : TypeDesc := match c.argTypes[0]? with
  | some t => und P t
  | none => .invalid

def cCall (c : Call) : COp :=
  match c.callee with
  | .value f => ((cOpd m f).bind fun f => (cOpds m c.args).map (COp.call f)).getD (.bad "call")
  | .invoke x name => ((cOpd m x).bind fun x => (cOpds m c.args).map fun as => COp.invoke x name as).getD (.bad "invoke")
  | .builtin b =>
    match b, c.args.toList with
    | .len, [x] => match und0 P c with
      | .array n _ => .lenC n
      | .pointer a => match und P a with
        | .array n _ => .lenC n
        | _ => .bad "len"
      | .string => ((cOpd m x).map (COp.len .str)).getD (.bad "len")
      | .slice _ => ((cOpd m x).map (COp.len .sl)).getD (.bad "len")
      | .map _ _ => ((cOpd m x).map (COp.len .map)).getD (.bad "len")
      | _ => .bad "len"
    | .cap, [x] => match und0 P c with
      | .slice _ => ((cOpd m x).map COp.cap).getD (.bad "cap")
      | _ => .bad "cap"
    | .append, [s, x] => match und0 P c, (c.argTypes[1]?).map (und P) with
      | .slice e, some (.slice _) | .slice e, some .string => match zeroOf P e with
        | some z => if (zcells z).isEmpty || (zcells z).length != cellN P e || ((P.info? e).map (·.bytes)).getD 0 ≥ 2 ^ 20 || ((P.info? e).map (·.bytes)).getD 0 = 0 then .bad "append: size" else (opt2 (cOpd m s) (cOpd m x) (COp.append (cellN P e))).getD (.bad "append")
        | none => .bad "append"
      | .slice e, some (.int _) => match zeroOf P e with
        | some z => if (zcells z).isEmpty || (zcells z).length != cellN P e || ((P.info? e).map (·.bytes)).getD 0 ≥ 2 ^ 20 || ((P.info? e).map (·.bytes)).getD 0 = 0 then .bad "append: size" else (opt2 (cOpd m s) (cOpd m x) (COp.appendZ (zcells z))).getD (.bad "append")
        | none => .bad "append"
      | _, _ => .bad "append"
    | .copy, [d, s] => match und0 P c with
      | .slice e => (need (okT P e) <| opt2 (cOpd m d) (cOpd m s) (COp.copy (cellN P e))).getD (.bad "copy")
      | _ => .bad "copy"
    | .delete, [mp, k] => match und0 P c with
      | .map kt _ => ((keySh P kt).bind fun sh => opt2 (cOpd m mp) (cOpd m k) (COp.delete sh)).getD (.bad "delete")
      | _ => .bad "delete"
    | .clear, [x] => match und0 P c with
      | .slice e => match zeroOf P e, cOpd m x with
        | some z, some x => if (zcells z).length != cellN P e then .bad "clear" else .clear (zcells z) x
        | _, _ => .bad "clear"
      | .map _ _ => ((cOpd m x).map (COp.clear [])).getD (.bad "clear")
      | _ => .bad "clear"
    | .max, x :: xs => (opt2 (cOpd m x) (xs.mapM (cOpd m)) COp.max).getD (.bad "max")
    | .min, x :: xs => (opt2 (cOpd m x) (xs.mapM (cOpd m)) COp.min).getD (.bad "min")
    | .panic, [x] => ((cOpd m x).map COp.panic).getD (.bad "panic")
    | .recover, [] => .recover
    | _, _ => .bad "builtin"

def orBad (x : Option COp) (why : String) : COp := x.getD (.bad why)

def cOp (o : Oper) : COp :=
  match o.op with
  | .move x | .assign x => orBad ((cOpd m x).map .move) "move"
  | .pick c a b => orBad ((cOpd m c).bind fun c => opt2 (cOpd m a) (cOpd m b) (COp.pick c)) "pick"
  | .alloc e => orBad ((zeroOf P e).map fun z => COp.alloc (zcells z)) "alloc"
  | .box _ x => orBad ((cOpd m x).map .box) "box"
  | .build t ps => orBad ((zeroOf P t).bind fun z => match und P t with
      | .struct fs => need (fs.toList.all fun f => okT P f.type) <| (parts m (fun i => (fs[i]?).map fun f => (f.offset, cellN P f.type)) ps).map (COp.build (zcells z))
      | .array _ e => need (okT P e) <| (parts m (fun i => some (i * cellN P e, cellN P e)) ps).map (COp.build (zcells z))
      | _ => none) "build"
  | .buildSlice t n ps => orBad (match und P t with
      | .slice e => if n * cellN P e > 2 ^ 24 then none else (zeroOf P e).bind fun z => if (zcells z).length != cellN P e then none else
          (parts m (fun i => some (i * cellN P e, cellN P e)) ps).map fun ps => COp.buildSlice (repC (zcells z) n) ps n
      | _ => none) "buildSlice"
  | .load t a => orBad (need (okT P t) <| (cOpd m a).map fun a => if aggT P t then COp.loadN (cellN P t) a else .load1 a) "load"
  | .store t a x => orBad (need (okT P t) <| opt2 (cOpd m a) (cOpd m x) (COp.store (cellN P t))) "store"
  | .nilCheck x => orBad ((cOpd m x).map .nilCheck) "nilCheck"
  | .binOp op t x y _ => match op with
    | .eql => orBad ((cPred P t).bind fun p => opt2 (cOpd m x) (cOpd m y) (COp.eq false (if isIfaceP p && (nilC x || nilC y) then .ifaceNil else p))) "eql"
    | .neq => orBad ((cPred P t).bind fun p => opt2 (cOpd m x) (cOpd m y) (COp.eq true (if isIfaceP p && (nilC x || nilC y) then .ifaceNil else p))) "neq"
    | _ => orBad (opt2 (cOpd m x) (cOpd m y) (COp.bin op)) "bin"
  | .unOp op _ x => orBad ((cOpd m x).map (COp.un op)) "un"
  | .convert s d x => orBad (match und P s, und P d with
      | .slice _, .slice e => (match und P e with
        | .int .u8 => if s = d then (cOpd m x).map .stamp else none
        | _ => none)
      | .int _, .int k => (cOpd m x).map (COp.intTo k)
      | .string, .string => (cOpd m x).map .str
      | .string, .slice e => match und P e with
        | .int .u8 => (cOpd m x).map .toBytes
        | _ => none
      | .slice e, .string => match und P e with
        | .int .u8 => (cOpd m x).map .bytesTo
        | _ => none
      | _, _ => none) "convert"
  | .sliceToArrayPointer t x => orBad (match und P t with
      | .array n _ => (cOpd m x).map (COp.toArr n)
      | _ => none) "sliceToArrayPointer"
  | .makeInterface t x => orBad (match und P t with
      | .interface _ | .invalid => none
      | _ => (cOpd m x).map (COp.mkIface t)) "makeInterface"
  | .makeFunc fn fs cs => orBad (match fn with
      | .func _ | .method _ => opt2 (cOpds m fs) (cOpds m cs) (COp.mkFunc fn)
      | _ => none) "makeFunc"
  | .makeMap t none => orBad (match und P t with
      | .map kt _ => (keySh P kt).map COp.mkMap
      | _ => none) "makeMap"
  | .makeMap _ (some _) => .bad "makeMap: room"
  | .makeSlice t l c => orBad (match und P t with
      | .slice e => (zeroOf P e).bind fun z => if (zcells z).length != cellN P e || ((P.info? e).map (·.bytes)).getD 0 ≥ 2 ^ 20 then none else opt2 (cOpd m l) (cOpd m c) (COp.mkSlice (zcells z))
      | _ => none) "makeSlice"
  | .slice t x lo hi mx => orBad ((cOpd m x).bind fun x => (optO m lo).bind fun lo => (optO m hi).bind fun hi => (optO m mx).bind fun mx => match und P t with
      | .string => if mx.isSome then none else some (.sliceStr x lo hi)
      | .slice e => need (okT P e) <| some (.sliceSl (cellN P e) x lo hi mx)
      | .array n e => need (okT P e) <| some (.sliceArr n (cellN P e) x lo hi mx)
      | .pointer a => match und P a with
        | .array n e => need (okT P e) <| some (.sliceArr n (cellN P e) x lo hi mx)
        | _ => none
      | _ => none) "slice"
  | .fieldAddr t x f => orBad (match und P t with
      | .struct fs => (fs[f]?).bind fun f => if cellN P f.type = 0 then none else (cOpd m x).map (COp.fieldAddr f.offset)
      | _ => none) "fieldAddr"
  | .field t x f => orBad (match und P t with
      | .struct fs => (fs[f]?).bind fun f => need (okT P f.type) <| (cOpd m x).map (COp.field f.offset (if aggT P f.type then some (cellN P f.type) else none))
      | _ => none) "field"
  | .indexAddr t x i => orBad (match und P t with
      | .array n e => need (okT P e) <| opt2 (cOpd m x) (cOpd m i) (COp.ixArr n (cellN P e))
      | .slice e => need (okT P e) <| opt2 (cOpd m x) (cOpd m i) (COp.ixSl (cellN P e))
      | _ => none) "indexAddr"
  | .index t x i => orBad (match und P t with
      | .array n e => need (okT P e && (aggT P e || Nat.beq (cellN P e) 1)) <| opt2 (cOpd m x) (cOpd m i) (COp.ixVal n (cellN P e) (aggT P e))
      | .string => opt2 (cOpd m x) (cOpd m i) COp.ixStr
      | _ => none) "index"
  | .lookup t x i ok => orBad (match und P t with
      | .map kt e => (keySh P kt).bind fun sh => (zeroOf P e).bind fun z => opt2 (cOpd m x) (cOpd m i) (COp.lookup sh z ok)
      | _ => none) "lookup"
  | .mapUpdate t mp k x => orBad (match und P t with
      | .map kt _ => (keySh P kt).bind fun sh => (cOpd m mp).bind fun mp => opt2 (cOpd m k) (cOpd m x) (COp.mapUpdate sh mp)
      | _ => none) "mapUpdate"
  | .insert t mp k x => orBad (match und P t with
      | .map kt _ => (keySh P kt).bind fun sh => (cOpd m mp).bind fun mp => opt2 (cOpd m k) (cOpd m x) (COp.mapUpdate sh mp)
      | _ => none) "insert"
  | .range t x => orBad (match und P t with
      | .map _ _ => (cOpd m x).map .rangeMap
      | .string => (cOpd m x).map .rangeStr
      | _ => none) "range"
  | .next it s => orBad ((cOpd m it).map fun it => if s then COp.nextStr it else .nextMap it) "next"
  | .entry it => orBad ((cOpd m it).map .entry) "entry"
  | .typeAssert x _ t ok => orBad (match und P t with
      | .interface want => (zeroOf P t).bind fun z => (cOpd m x).map (COp.assertI P.types.size ((List.range P.types.size).filter fun u => (Instr.missingMethod want (((P.info? u).map (·.methods)).getD #[])).isNone) z ok)
      | .invalid => none
      | _ => (zeroOf P t).bind fun z => (cOpd m x).map (COp.assertT t z ok)) "typeAssert"
  | .extract x i => orBad ((cOpd m x).map (COp.extract i)) "extract"
  | .call c => cCall P m c
  | .defer c => match c.callee with
    | .value f => orBad (opt2 (cOpd m f) (cOpds m c.args) COp.defer) "defer"
    | _ => .bad "defer"
  | .panic x => orBad ((cOpd m x).map .panic) "panic"
  | _ => .bad "operation"

def memLook : COp → Bool
  | .load1 _ | .loadN .. | .lookup .. | .len .. | .bytesTo _ | .entry _ => true
  | _ => false

def cOne (ops : Array Oper) (o : Oper) (j : Nat) (un pre : List Nat) : COper :=
  match (match o.dst with
      | none => some none
      | some d => (cSlot m d).map some), (match o.guard with
      | none => some none
      | some (g, w) => (((ops[g]?).bind (·.dst)).bind (cSlot m)).map fun s => some (s, w)) with
    | some dst, some guard => { guard, dst, op := cOp P m o, idx := j, un, pre }
    | _, _ => { guard := none, dst := none, op := .bad "slot", idx := j, un := [], pre := [] }

def oList : Option Opd → List Opd
  | none => []
  | some x => [x]

def COp.opds : COp → List Opd
  | .move x | .box x | .load1 x | .loadN _ x | .nilCheck x | .un _ x | .intTo _ x | .str x | .bytesTo x | .toBytes x | .stamp x | .mkIface _ x | .toArr _ x | .fieldAddr _ x | .field _ _ x | .rangeMap x | .rangeStr x | .nextMap x | .nextStr x
  | .entry x | .assertT _ _ _ x | .assertI _ _ _ _ x | .extract _ x | .len _ x | .cap x | .clear _ x | .panic x => [x]
  | .pick c a b => [c, a, b]
  | .build _ ps => ps.map (·.x)
  | .buildSlice _ ps _ => ps.map (·.x)
  | .store _ a x => [a, x]
  | .bin _ x y | .eq _ _ x y | .ixSl _ x y | .ixArr _ _ x y | .ixStr x y | .ixVal _ _ _ x y | .lookup _ _ _ x y | .append _ x y | .appendZ _ x y | .copy _ x y | .delete _ x y | .mkSlice _ x y => [x, y]
  | .mkFunc _ a b => a ++ b
  | .sliceStr x lo hi => x :: (oList lo ++ oList hi)
  | .sliceSl _ x lo hi mx | .sliceArr _ _ x lo hi mx => x :: (oList lo ++ (oList hi ++ oList mx))
  | .mapUpdate _ m k x => [m, k, x]
  | .max x xs | .min x xs => x :: xs
  | .call f args | .defer f args => f :: args
  | .invoke x _ args => x :: args
  | .alloc _ | .mkMap _ | .lenC _ | .recover | .bad _ => []

/-- The slots that an operation looks at: by the model's operation, by the compiled one, by its guard. -/
def tmpsOf (xs : List Operand) : List Nat := xs.filterMap fun
  | .tmp n => some n
  | _ => none
def slotsOf (xs : List Opd) : List Nat := xs.filterMap fun
  | .tmp n => some n
  | _ => none
def guardSlot (ops : Array Oper) (o : Oper) : List Nat := match o.guard with
  | none => []
  | some (g, _) => ((ops[g]?).bind (·.dst)).toList
def looks (ops : Array Oper) (o : Oper) (c : COp) : List Nat := tmpsOf o.op.operands.toList ++ (slotsOf c.opds ++ guardSlot ops o)

/-- A region whose order is drawn, as the machine takes it: each edge goes back, no temporary is written twice, and what an operation looks at is written ahead of it or behind it, whatever the order. -/
def drawFine (ops : Array Oper) (cs : Array COp) (b : Array Nat) : Bool :=
  (ops.toList.zipIdx.all fun (o, i) => o.after.toList.all fun e => !(Region.binds .any e) || Nat.blt e.on i) &&
  (ops.toList.zipIdx.all fun (o, i) => match o.dst with
    | none => true
    | some d => ops.toList.zipIdx.all fun (p, j) => Nat.beq i j || (match p.dst with
      | none => true
      | some d' => !(Nat.beq d d'))) &&
  (ops.toList.zipIdx.all fun (o, i) => (looks ops o (cs.getD i (.bad ""))).all fun s => Nat.blt s 256 && Nat.blt s m && ops.toList.zipIdx.all fun (p, j) => match p.dst with
    | none => true
    | some d => !(Nat.beq d s) || (Nat.blt j i && (b.getD i 0).testBit j) || Nat.beq i j || (Nat.blt i j && (b.getD j 0).testBit i))

def unOf (cs : Array COp) (b : Array Nat) (j : Nat) : List Nat := (List.range j).filter fun i =>
  !(b.getD j 0).testBit i && ((memLook (cs.getD i (.bad "")) && (cs.getD j (.bad "")).writes) || ((cs.getD i (.bad "")).writes && memLook (cs.getD j (.bad ""))) || ((cs.getD i (.bad "")).writes && (cs.getD j (.bad "")).writes))
def preOf (cs : Array COp) (b : Array Nat) (j : Nat) : List Nat := (List.range j).filter fun i => (b.getD j 0).testBit i && (cs.getD i (.bad "")).writes

def cOpersD (ops : Array Oper) (cs : Array COp) (b : Array Nat) : List COper :=
  if drawFine m ops cs b then ops.toList.zipIdx.map fun (o, j) => cOne P m ops o j (unOf cs b j) (preOf cs b j)
  else [{ guard := none, dst := none, op := .bad "region", idx := 0, un := [], pre := [] }]

def cOpers (draw : Bool) (ops : Array Oper) : List COper :=
  if draw then cOpersD P m ops (ops.map (cOp P m)) (Region.before ops)
  else ops.toList.zipIdx.map fun (o, j) => cOne P m ops o j [] []

def cCode : Code → CCode
  | .skip => .skip
  | .region _ ops draw => .region draw (cOpers P m draw ops)
  | .seq a b => .seq (cCode a) (cCode b)
  | .cond c a b => match cOpd m c with
    | some c => .cond c (cCode a) (cCode b)
    | none => .bad "cond"
  | .block id c => .block id (cCode c)
  | .loop c => .loop (cCode c)
  | .rangeFunc f ps a c => match cOpd m f, ps.toList.mapM (cSlot m) with
    | some f, some ps => .rangeFunc f ps (cCode a) (cCode c)
    | _, _ => .bad "rangeFunc"
  | .exit id => .exit id
  | .scope c => cCode c
  | .label _ => .skip
  | .goto _ => .bad "goto"
  | .ret => .ret
  | .refuse w => .bad w

def cRes (fn : Func) : Option (List CRes) :=
  fn.results.toList.mapM fun
    | .tmp t => (cSlot m t).map .tmp
    | .cell a t => need (okT P t) <| (cSlot m a).map fun a => if aggT P t then .cellN a (cellN P t) else .cell1 a

def cFun (f : Nat) : Option CFun :=
  (P.funcs[f]?).bind fun fn => bif fn.name == "runtime.NumGoroutine" then none else
    fn.body.bind fun c => (cRes P fn.ntmps fn).map fun rs => { results := rs, body := cCode P fn.ntmps c }
end

noncomputable def fnOf (P : Program) (f : Nat) : Option KFun := optV none (fun c => some (CFun.den c)) (cFun P f)

noncomputable def envOf (P : Program) (sum : Nat → Option Summ) : Env := ⟨fnOf P, sum, cMethod P, cNilOk P⟩

end Go.Eng

/- Temporaries by name. -/
namespace Go.Eng
def g0 : OpdF := fun t => T4.a (T4.a (T4.a (T4.a t)))
def g1 : OpdF := fun t => T4.b (T4.a (T4.a (T4.a t)))
def g2 : OpdF := fun t => T4.c (T4.a (T4.a (T4.a t)))
def g3 : OpdF := fun t => T4.d (T4.a (T4.a (T4.a t)))
def g4 : OpdF := fun t => T4.a (T4.b (T4.a (T4.a t)))
def g5 : OpdF := fun t => T4.b (T4.b (T4.a (T4.a t)))
def g6 : OpdF := fun t => T4.c (T4.b (T4.a (T4.a t)))
def g7 : OpdF := fun t => T4.d (T4.b (T4.a (T4.a t)))
def g8 : OpdF := fun t => T4.a (T4.c (T4.a (T4.a t)))
def g9 : OpdF := fun t => T4.b (T4.c (T4.a (T4.a t)))
def g10 : OpdF := fun t => T4.c (T4.c (T4.a (T4.a t)))
def g11 : OpdF := fun t => T4.d (T4.c (T4.a (T4.a t)))
def g12 : OpdF := fun t => T4.a (T4.d (T4.a (T4.a t)))
def g13 : OpdF := fun t => T4.b (T4.d (T4.a (T4.a t)))
def g14 : OpdF := fun t => T4.c (T4.d (T4.a (T4.a t)))
def g15 : OpdF := fun t => T4.d (T4.d (T4.a (T4.a t)))
def g16 : OpdF := fun t => T4.a (T4.a (T4.b (T4.a t)))
def g17 : OpdF := fun t => T4.b (T4.a (T4.b (T4.a t)))
def g18 : OpdF := fun t => T4.c (T4.a (T4.b (T4.a t)))
def g19 : OpdF := fun t => T4.d (T4.a (T4.b (T4.a t)))
def g20 : OpdF := fun t => T4.a (T4.b (T4.b (T4.a t)))
def g21 : OpdF := fun t => T4.b (T4.b (T4.b (T4.a t)))
def g22 : OpdF := fun t => T4.c (T4.b (T4.b (T4.a t)))
def g23 : OpdF := fun t => T4.d (T4.b (T4.b (T4.a t)))
def g24 : OpdF := fun t => T4.a (T4.c (T4.b (T4.a t)))
def g25 : OpdF := fun t => T4.b (T4.c (T4.b (T4.a t)))
def g26 : OpdF := fun t => T4.c (T4.c (T4.b (T4.a t)))
def g27 : OpdF := fun t => T4.d (T4.c (T4.b (T4.a t)))
def g28 : OpdF := fun t => T4.a (T4.d (T4.b (T4.a t)))
def g29 : OpdF := fun t => T4.b (T4.d (T4.b (T4.a t)))
def g30 : OpdF := fun t => T4.c (T4.d (T4.b (T4.a t)))
def g31 : OpdF := fun t => T4.d (T4.d (T4.b (T4.a t)))
def g32 : OpdF := fun t => T4.a (T4.a (T4.c (T4.a t)))
def g33 : OpdF := fun t => T4.b (T4.a (T4.c (T4.a t)))
def g34 : OpdF := fun t => T4.c (T4.a (T4.c (T4.a t)))
def g35 : OpdF := fun t => T4.d (T4.a (T4.c (T4.a t)))
def g36 : OpdF := fun t => T4.a (T4.b (T4.c (T4.a t)))
def g37 : OpdF := fun t => T4.b (T4.b (T4.c (T4.a t)))
def g38 : OpdF := fun t => T4.c (T4.b (T4.c (T4.a t)))
def g39 : OpdF := fun t => T4.d (T4.b (T4.c (T4.a t)))
def g40 : OpdF := fun t => T4.a (T4.c (T4.c (T4.a t)))
def g41 : OpdF := fun t => T4.b (T4.c (T4.c (T4.a t)))
def g42 : OpdF := fun t => T4.c (T4.c (T4.c (T4.a t)))
def g43 : OpdF := fun t => T4.d (T4.c (T4.c (T4.a t)))
def g44 : OpdF := fun t => T4.a (T4.d (T4.c (T4.a t)))
def g45 : OpdF := fun t => T4.b (T4.d (T4.c (T4.a t)))
def g46 : OpdF := fun t => T4.c (T4.d (T4.c (T4.a t)))
def g47 : OpdF := fun t => T4.d (T4.d (T4.c (T4.a t)))
def g48 : OpdF := fun t => T4.a (T4.a (T4.d (T4.a t)))
def g49 : OpdF := fun t => T4.b (T4.a (T4.d (T4.a t)))
def g50 : OpdF := fun t => T4.c (T4.a (T4.d (T4.a t)))
def g51 : OpdF := fun t => T4.d (T4.a (T4.d (T4.a t)))
def g52 : OpdF := fun t => T4.a (T4.b (T4.d (T4.a t)))
def g53 : OpdF := fun t => T4.b (T4.b (T4.d (T4.a t)))
def g54 : OpdF := fun t => T4.c (T4.b (T4.d (T4.a t)))
def g55 : OpdF := fun t => T4.d (T4.b (T4.d (T4.a t)))
def g56 : OpdF := fun t => T4.a (T4.c (T4.d (T4.a t)))
def g57 : OpdF := fun t => T4.b (T4.c (T4.d (T4.a t)))
def g58 : OpdF := fun t => T4.c (T4.c (T4.d (T4.a t)))
def g59 : OpdF := fun t => T4.d (T4.c (T4.d (T4.a t)))
def g60 : OpdF := fun t => T4.a (T4.d (T4.d (T4.a t)))
def g61 : OpdF := fun t => T4.b (T4.d (T4.d (T4.a t)))
def g62 : OpdF := fun t => T4.c (T4.d (T4.d (T4.a t)))
def g63 : OpdF := fun t => T4.d (T4.d (T4.d (T4.a t)))
def g64 : OpdF := fun t => T4.a (T4.a (T4.a (T4.b t)))
def g65 : OpdF := fun t => T4.b (T4.a (T4.a (T4.b t)))
def g66 : OpdF := fun t => T4.c (T4.a (T4.a (T4.b t)))
def g67 : OpdF := fun t => T4.d (T4.a (T4.a (T4.b t)))
def g68 : OpdF := fun t => T4.a (T4.b (T4.a (T4.b t)))
def g69 : OpdF := fun t => T4.b (T4.b (T4.a (T4.b t)))
def g70 : OpdF := fun t => T4.c (T4.b (T4.a (T4.b t)))
def g71 : OpdF := fun t => T4.d (T4.b (T4.a (T4.b t)))
def g72 : OpdF := fun t => T4.a (T4.c (T4.a (T4.b t)))
def g73 : OpdF := fun t => T4.b (T4.c (T4.a (T4.b t)))
def g74 : OpdF := fun t => T4.c (T4.c (T4.a (T4.b t)))
def g75 : OpdF := fun t => T4.d (T4.c (T4.a (T4.b t)))
def g76 : OpdF := fun t => T4.a (T4.d (T4.a (T4.b t)))
def g77 : OpdF := fun t => T4.b (T4.d (T4.a (T4.b t)))
def g78 : OpdF := fun t => T4.c (T4.d (T4.a (T4.b t)))
def g79 : OpdF := fun t => T4.d (T4.d (T4.a (T4.b t)))
def g80 : OpdF := fun t => T4.a (T4.a (T4.b (T4.b t)))
def g81 : OpdF := fun t => T4.b (T4.a (T4.b (T4.b t)))
def g82 : OpdF := fun t => T4.c (T4.a (T4.b (T4.b t)))
def g83 : OpdF := fun t => T4.d (T4.a (T4.b (T4.b t)))
def g84 : OpdF := fun t => T4.a (T4.b (T4.b (T4.b t)))
def g85 : OpdF := fun t => T4.b (T4.b (T4.b (T4.b t)))
def g86 : OpdF := fun t => T4.c (T4.b (T4.b (T4.b t)))
def g87 : OpdF := fun t => T4.d (T4.b (T4.b (T4.b t)))
def g88 : OpdF := fun t => T4.a (T4.c (T4.b (T4.b t)))
def g89 : OpdF := fun t => T4.b (T4.c (T4.b (T4.b t)))
def g90 : OpdF := fun t => T4.c (T4.c (T4.b (T4.b t)))
def g91 : OpdF := fun t => T4.d (T4.c (T4.b (T4.b t)))
def g92 : OpdF := fun t => T4.a (T4.d (T4.b (T4.b t)))
def g93 : OpdF := fun t => T4.b (T4.d (T4.b (T4.b t)))
def g94 : OpdF := fun t => T4.c (T4.d (T4.b (T4.b t)))
def g95 : OpdF := fun t => T4.d (T4.d (T4.b (T4.b t)))
def g96 : OpdF := fun t => T4.a (T4.a (T4.c (T4.b t)))
def g97 : OpdF := fun t => T4.b (T4.a (T4.c (T4.b t)))
def g98 : OpdF := fun t => T4.c (T4.a (T4.c (T4.b t)))
def g99 : OpdF := fun t => T4.d (T4.a (T4.c (T4.b t)))
def g100 : OpdF := fun t => T4.a (T4.b (T4.c (T4.b t)))
def g101 : OpdF := fun t => T4.b (T4.b (T4.c (T4.b t)))
def g102 : OpdF := fun t => T4.c (T4.b (T4.c (T4.b t)))
def g103 : OpdF := fun t => T4.d (T4.b (T4.c (T4.b t)))
def g104 : OpdF := fun t => T4.a (T4.c (T4.c (T4.b t)))
def g105 : OpdF := fun t => T4.b (T4.c (T4.c (T4.b t)))
def g106 : OpdF := fun t => T4.c (T4.c (T4.c (T4.b t)))
def g107 : OpdF := fun t => T4.d (T4.c (T4.c (T4.b t)))
def g108 : OpdF := fun t => T4.a (T4.d (T4.c (T4.b t)))
def g109 : OpdF := fun t => T4.b (T4.d (T4.c (T4.b t)))
def g110 : OpdF := fun t => T4.c (T4.d (T4.c (T4.b t)))
def g111 : OpdF := fun t => T4.d (T4.d (T4.c (T4.b t)))
def g112 : OpdF := fun t => T4.a (T4.a (T4.d (T4.b t)))
def g113 : OpdF := fun t => T4.b (T4.a (T4.d (T4.b t)))
def g114 : OpdF := fun t => T4.c (T4.a (T4.d (T4.b t)))
def g115 : OpdF := fun t => T4.d (T4.a (T4.d (T4.b t)))
def g116 : OpdF := fun t => T4.a (T4.b (T4.d (T4.b t)))
def g117 : OpdF := fun t => T4.b (T4.b (T4.d (T4.b t)))
def g118 : OpdF := fun t => T4.c (T4.b (T4.d (T4.b t)))
def g119 : OpdF := fun t => T4.d (T4.b (T4.d (T4.b t)))
def g120 : OpdF := fun t => T4.a (T4.c (T4.d (T4.b t)))
def g121 : OpdF := fun t => T4.b (T4.c (T4.d (T4.b t)))
def g122 : OpdF := fun t => T4.c (T4.c (T4.d (T4.b t)))
def g123 : OpdF := fun t => T4.d (T4.c (T4.d (T4.b t)))
def g124 : OpdF := fun t => T4.a (T4.d (T4.d (T4.b t)))
def g125 : OpdF := fun t => T4.b (T4.d (T4.d (T4.b t)))
def g126 : OpdF := fun t => T4.c (T4.d (T4.d (T4.b t)))
def g127 : OpdF := fun t => T4.d (T4.d (T4.d (T4.b t)))
def g128 : OpdF := fun t => T4.a (T4.a (T4.a (T4.c t)))
def g129 : OpdF := fun t => T4.b (T4.a (T4.a (T4.c t)))
def g130 : OpdF := fun t => T4.c (T4.a (T4.a (T4.c t)))
def g131 : OpdF := fun t => T4.d (T4.a (T4.a (T4.c t)))
def g132 : OpdF := fun t => T4.a (T4.b (T4.a (T4.c t)))
def g133 : OpdF := fun t => T4.b (T4.b (T4.a (T4.c t)))
def g134 : OpdF := fun t => T4.c (T4.b (T4.a (T4.c t)))
def g135 : OpdF := fun t => T4.d (T4.b (T4.a (T4.c t)))
def g136 : OpdF := fun t => T4.a (T4.c (T4.a (T4.c t)))
def g137 : OpdF := fun t => T4.b (T4.c (T4.a (T4.c t)))
def g138 : OpdF := fun t => T4.c (T4.c (T4.a (T4.c t)))
def g139 : OpdF := fun t => T4.d (T4.c (T4.a (T4.c t)))
def g140 : OpdF := fun t => T4.a (T4.d (T4.a (T4.c t)))
def g141 : OpdF := fun t => T4.b (T4.d (T4.a (T4.c t)))
def g142 : OpdF := fun t => T4.c (T4.d (T4.a (T4.c t)))
def g143 : OpdF := fun t => T4.d (T4.d (T4.a (T4.c t)))
def g144 : OpdF := fun t => T4.a (T4.a (T4.b (T4.c t)))
def g145 : OpdF := fun t => T4.b (T4.a (T4.b (T4.c t)))
def g146 : OpdF := fun t => T4.c (T4.a (T4.b (T4.c t)))
def g147 : OpdF := fun t => T4.d (T4.a (T4.b (T4.c t)))
def g148 : OpdF := fun t => T4.a (T4.b (T4.b (T4.c t)))
def g149 : OpdF := fun t => T4.b (T4.b (T4.b (T4.c t)))
def g150 : OpdF := fun t => T4.c (T4.b (T4.b (T4.c t)))
def g151 : OpdF := fun t => T4.d (T4.b (T4.b (T4.c t)))
def g152 : OpdF := fun t => T4.a (T4.c (T4.b (T4.c t)))
def g153 : OpdF := fun t => T4.b (T4.c (T4.b (T4.c t)))
def g154 : OpdF := fun t => T4.c (T4.c (T4.b (T4.c t)))
def g155 : OpdF := fun t => T4.d (T4.c (T4.b (T4.c t)))
def g156 : OpdF := fun t => T4.a (T4.d (T4.b (T4.c t)))
def g157 : OpdF := fun t => T4.b (T4.d (T4.b (T4.c t)))
def g158 : OpdF := fun t => T4.c (T4.d (T4.b (T4.c t)))
def g159 : OpdF := fun t => T4.d (T4.d (T4.b (T4.c t)))
def g160 : OpdF := fun t => T4.a (T4.a (T4.c (T4.c t)))
def g161 : OpdF := fun t => T4.b (T4.a (T4.c (T4.c t)))
def g162 : OpdF := fun t => T4.c (T4.a (T4.c (T4.c t)))
def g163 : OpdF := fun t => T4.d (T4.a (T4.c (T4.c t)))
def g164 : OpdF := fun t => T4.a (T4.b (T4.c (T4.c t)))
def g165 : OpdF := fun t => T4.b (T4.b (T4.c (T4.c t)))
def g166 : OpdF := fun t => T4.c (T4.b (T4.c (T4.c t)))
def g167 : OpdF := fun t => T4.d (T4.b (T4.c (T4.c t)))
def g168 : OpdF := fun t => T4.a (T4.c (T4.c (T4.c t)))
def g169 : OpdF := fun t => T4.b (T4.c (T4.c (T4.c t)))
def g170 : OpdF := fun t => T4.c (T4.c (T4.c (T4.c t)))
def g171 : OpdF := fun t => T4.d (T4.c (T4.c (T4.c t)))
def g172 : OpdF := fun t => T4.a (T4.d (T4.c (T4.c t)))
def g173 : OpdF := fun t => T4.b (T4.d (T4.c (T4.c t)))
def g174 : OpdF := fun t => T4.c (T4.d (T4.c (T4.c t)))
def g175 : OpdF := fun t => T4.d (T4.d (T4.c (T4.c t)))
def g176 : OpdF := fun t => T4.a (T4.a (T4.d (T4.c t)))
def g177 : OpdF := fun t => T4.b (T4.a (T4.d (T4.c t)))
def g178 : OpdF := fun t => T4.c (T4.a (T4.d (T4.c t)))
def g179 : OpdF := fun t => T4.d (T4.a (T4.d (T4.c t)))
def g180 : OpdF := fun t => T4.a (T4.b (T4.d (T4.c t)))
def g181 : OpdF := fun t => T4.b (T4.b (T4.d (T4.c t)))
def g182 : OpdF := fun t => T4.c (T4.b (T4.d (T4.c t)))
def g183 : OpdF := fun t => T4.d (T4.b (T4.d (T4.c t)))
def g184 : OpdF := fun t => T4.a (T4.c (T4.d (T4.c t)))
def g185 : OpdF := fun t => T4.b (T4.c (T4.d (T4.c t)))
def g186 : OpdF := fun t => T4.c (T4.c (T4.d (T4.c t)))
def g187 : OpdF := fun t => T4.d (T4.c (T4.d (T4.c t)))
def g188 : OpdF := fun t => T4.a (T4.d (T4.d (T4.c t)))
def g189 : OpdF := fun t => T4.b (T4.d (T4.d (T4.c t)))
def g190 : OpdF := fun t => T4.c (T4.d (T4.d (T4.c t)))
def g191 : OpdF := fun t => T4.d (T4.d (T4.d (T4.c t)))
def g192 : OpdF := fun t => T4.a (T4.a (T4.a (T4.d t)))
def g193 : OpdF := fun t => T4.b (T4.a (T4.a (T4.d t)))
def g194 : OpdF := fun t => T4.c (T4.a (T4.a (T4.d t)))
def g195 : OpdF := fun t => T4.d (T4.a (T4.a (T4.d t)))
def g196 : OpdF := fun t => T4.a (T4.b (T4.a (T4.d t)))
def g197 : OpdF := fun t => T4.b (T4.b (T4.a (T4.d t)))
def g198 : OpdF := fun t => T4.c (T4.b (T4.a (T4.d t)))
def g199 : OpdF := fun t => T4.d (T4.b (T4.a (T4.d t)))
def g200 : OpdF := fun t => T4.a (T4.c (T4.a (T4.d t)))
def g201 : OpdF := fun t => T4.b (T4.c (T4.a (T4.d t)))
def g202 : OpdF := fun t => T4.c (T4.c (T4.a (T4.d t)))
def g203 : OpdF := fun t => T4.d (T4.c (T4.a (T4.d t)))
def g204 : OpdF := fun t => T4.a (T4.d (T4.a (T4.d t)))
def g205 : OpdF := fun t => T4.b (T4.d (T4.a (T4.d t)))
def g206 : OpdF := fun t => T4.c (T4.d (T4.a (T4.d t)))
def g207 : OpdF := fun t => T4.d (T4.d (T4.a (T4.d t)))
def g208 : OpdF := fun t => T4.a (T4.a (T4.b (T4.d t)))
def g209 : OpdF := fun t => T4.b (T4.a (T4.b (T4.d t)))
def g210 : OpdF := fun t => T4.c (T4.a (T4.b (T4.d t)))
def g211 : OpdF := fun t => T4.d (T4.a (T4.b (T4.d t)))
def g212 : OpdF := fun t => T4.a (T4.b (T4.b (T4.d t)))
def g213 : OpdF := fun t => T4.b (T4.b (T4.b (T4.d t)))
def g214 : OpdF := fun t => T4.c (T4.b (T4.b (T4.d t)))
def g215 : OpdF := fun t => T4.d (T4.b (T4.b (T4.d t)))
def g216 : OpdF := fun t => T4.a (T4.c (T4.b (T4.d t)))
def g217 : OpdF := fun t => T4.b (T4.c (T4.b (T4.d t)))
def g218 : OpdF := fun t => T4.c (T4.c (T4.b (T4.d t)))
def g219 : OpdF := fun t => T4.d (T4.c (T4.b (T4.d t)))
def g220 : OpdF := fun t => T4.a (T4.d (T4.b (T4.d t)))
def g221 : OpdF := fun t => T4.b (T4.d (T4.b (T4.d t)))
def g222 : OpdF := fun t => T4.c (T4.d (T4.b (T4.d t)))
def g223 : OpdF := fun t => T4.d (T4.d (T4.b (T4.d t)))
def g224 : OpdF := fun t => T4.a (T4.a (T4.c (T4.d t)))
def g225 : OpdF := fun t => T4.b (T4.a (T4.c (T4.d t)))
def g226 : OpdF := fun t => T4.c (T4.a (T4.c (T4.d t)))
def g227 : OpdF := fun t => T4.d (T4.a (T4.c (T4.d t)))
def g228 : OpdF := fun t => T4.a (T4.b (T4.c (T4.d t)))
def g229 : OpdF := fun t => T4.b (T4.b (T4.c (T4.d t)))
def g230 : OpdF := fun t => T4.c (T4.b (T4.c (T4.d t)))
def g231 : OpdF := fun t => T4.d (T4.b (T4.c (T4.d t)))
def g232 : OpdF := fun t => T4.a (T4.c (T4.c (T4.d t)))
def g233 : OpdF := fun t => T4.b (T4.c (T4.c (T4.d t)))
def g234 : OpdF := fun t => T4.c (T4.c (T4.c (T4.d t)))
def g235 : OpdF := fun t => T4.d (T4.c (T4.c (T4.d t)))
def g236 : OpdF := fun t => T4.a (T4.d (T4.c (T4.d t)))
def g237 : OpdF := fun t => T4.b (T4.d (T4.c (T4.d t)))
def g238 : OpdF := fun t => T4.c (T4.d (T4.c (T4.d t)))
def g239 : OpdF := fun t => T4.d (T4.d (T4.c (T4.d t)))
def g240 : OpdF := fun t => T4.a (T4.a (T4.d (T4.d t)))
def g241 : OpdF := fun t => T4.b (T4.a (T4.d (T4.d t)))
def g242 : OpdF := fun t => T4.c (T4.a (T4.d (T4.d t)))
def g243 : OpdF := fun t => T4.d (T4.a (T4.d (T4.d t)))
def g244 : OpdF := fun t => T4.a (T4.b (T4.d (T4.d t)))
def g245 : OpdF := fun t => T4.b (T4.b (T4.d (T4.d t)))
def g246 : OpdF := fun t => T4.c (T4.b (T4.d (T4.d t)))
def g247 : OpdF := fun t => T4.d (T4.b (T4.d (T4.d t)))
def g248 : OpdF := fun t => T4.a (T4.c (T4.d (T4.d t)))
def g249 : OpdF := fun t => T4.b (T4.c (T4.d (T4.d t)))
def g250 : OpdF := fun t => T4.c (T4.c (T4.d (T4.d t)))
def g251 : OpdF := fun t => T4.d (T4.c (T4.d (T4.d t)))
def g252 : OpdF := fun t => T4.a (T4.d (T4.d (T4.d t)))
def g253 : OpdF := fun t => T4.b (T4.d (T4.d (T4.d t)))
def g254 : OpdF := fun t => T4.c (T4.d (T4.d (T4.d t)))
def g255 : OpdF := fun t => T4.d (T4.d (T4.d (T4.d t)))
noncomputable def p0 : Value → Tm → Tm := fun v => T4.ua (T4.ua (T4.ua (T4.ua fun _ => v)))
noncomputable def p1 : Value → Tm → Tm := fun v => T4.ua (T4.ua (T4.ua (T4.ub fun _ => v)))
noncomputable def p2 : Value → Tm → Tm := fun v => T4.ua (T4.ua (T4.ua (T4.uc fun _ => v)))
noncomputable def p3 : Value → Tm → Tm := fun v => T4.ua (T4.ua (T4.ua (T4.ud fun _ => v)))
noncomputable def p4 : Value → Tm → Tm := fun v => T4.ua (T4.ua (T4.ub (T4.ua fun _ => v)))
noncomputable def p5 : Value → Tm → Tm := fun v => T4.ua (T4.ua (T4.ub (T4.ub fun _ => v)))
noncomputable def p6 : Value → Tm → Tm := fun v => T4.ua (T4.ua (T4.ub (T4.uc fun _ => v)))
noncomputable def p7 : Value → Tm → Tm := fun v => T4.ua (T4.ua (T4.ub (T4.ud fun _ => v)))
noncomputable def p8 : Value → Tm → Tm := fun v => T4.ua (T4.ua (T4.uc (T4.ua fun _ => v)))
noncomputable def p9 : Value → Tm → Tm := fun v => T4.ua (T4.ua (T4.uc (T4.ub fun _ => v)))
noncomputable def p10 : Value → Tm → Tm := fun v => T4.ua (T4.ua (T4.uc (T4.uc fun _ => v)))
noncomputable def p11 : Value → Tm → Tm := fun v => T4.ua (T4.ua (T4.uc (T4.ud fun _ => v)))
noncomputable def p12 : Value → Tm → Tm := fun v => T4.ua (T4.ua (T4.ud (T4.ua fun _ => v)))
noncomputable def p13 : Value → Tm → Tm := fun v => T4.ua (T4.ua (T4.ud (T4.ub fun _ => v)))
noncomputable def p14 : Value → Tm → Tm := fun v => T4.ua (T4.ua (T4.ud (T4.uc fun _ => v)))
noncomputable def p15 : Value → Tm → Tm := fun v => T4.ua (T4.ua (T4.ud (T4.ud fun _ => v)))
noncomputable def p16 : Value → Tm → Tm := fun v => T4.ua (T4.ub (T4.ua (T4.ua fun _ => v)))
noncomputable def p17 : Value → Tm → Tm := fun v => T4.ua (T4.ub (T4.ua (T4.ub fun _ => v)))
noncomputable def p18 : Value → Tm → Tm := fun v => T4.ua (T4.ub (T4.ua (T4.uc fun _ => v)))
noncomputable def p19 : Value → Tm → Tm := fun v => T4.ua (T4.ub (T4.ua (T4.ud fun _ => v)))
noncomputable def p20 : Value → Tm → Tm := fun v => T4.ua (T4.ub (T4.ub (T4.ua fun _ => v)))
noncomputable def p21 : Value → Tm → Tm := fun v => T4.ua (T4.ub (T4.ub (T4.ub fun _ => v)))
noncomputable def p22 : Value → Tm → Tm := fun v => T4.ua (T4.ub (T4.ub (T4.uc fun _ => v)))
noncomputable def p23 : Value → Tm → Tm := fun v => T4.ua (T4.ub (T4.ub (T4.ud fun _ => v)))
noncomputable def p24 : Value → Tm → Tm := fun v => T4.ua (T4.ub (T4.uc (T4.ua fun _ => v)))
noncomputable def p25 : Value → Tm → Tm := fun v => T4.ua (T4.ub (T4.uc (T4.ub fun _ => v)))
noncomputable def p26 : Value → Tm → Tm := fun v => T4.ua (T4.ub (T4.uc (T4.uc fun _ => v)))
noncomputable def p27 : Value → Tm → Tm := fun v => T4.ua (T4.ub (T4.uc (T4.ud fun _ => v)))
noncomputable def p28 : Value → Tm → Tm := fun v => T4.ua (T4.ub (T4.ud (T4.ua fun _ => v)))
noncomputable def p29 : Value → Tm → Tm := fun v => T4.ua (T4.ub (T4.ud (T4.ub fun _ => v)))
noncomputable def p30 : Value → Tm → Tm := fun v => T4.ua (T4.ub (T4.ud (T4.uc fun _ => v)))
noncomputable def p31 : Value → Tm → Tm := fun v => T4.ua (T4.ub (T4.ud (T4.ud fun _ => v)))
noncomputable def p32 : Value → Tm → Tm := fun v => T4.ua (T4.uc (T4.ua (T4.ua fun _ => v)))
noncomputable def p33 : Value → Tm → Tm := fun v => T4.ua (T4.uc (T4.ua (T4.ub fun _ => v)))
noncomputable def p34 : Value → Tm → Tm := fun v => T4.ua (T4.uc (T4.ua (T4.uc fun _ => v)))
noncomputable def p35 : Value → Tm → Tm := fun v => T4.ua (T4.uc (T4.ua (T4.ud fun _ => v)))
noncomputable def p36 : Value → Tm → Tm := fun v => T4.ua (T4.uc (T4.ub (T4.ua fun _ => v)))
noncomputable def p37 : Value → Tm → Tm := fun v => T4.ua (T4.uc (T4.ub (T4.ub fun _ => v)))
noncomputable def p38 : Value → Tm → Tm := fun v => T4.ua (T4.uc (T4.ub (T4.uc fun _ => v)))
noncomputable def p39 : Value → Tm → Tm := fun v => T4.ua (T4.uc (T4.ub (T4.ud fun _ => v)))
noncomputable def p40 : Value → Tm → Tm := fun v => T4.ua (T4.uc (T4.uc (T4.ua fun _ => v)))
noncomputable def p41 : Value → Tm → Tm := fun v => T4.ua (T4.uc (T4.uc (T4.ub fun _ => v)))
noncomputable def p42 : Value → Tm → Tm := fun v => T4.ua (T4.uc (T4.uc (T4.uc fun _ => v)))
noncomputable def p43 : Value → Tm → Tm := fun v => T4.ua (T4.uc (T4.uc (T4.ud fun _ => v)))
noncomputable def p44 : Value → Tm → Tm := fun v => T4.ua (T4.uc (T4.ud (T4.ua fun _ => v)))
noncomputable def p45 : Value → Tm → Tm := fun v => T4.ua (T4.uc (T4.ud (T4.ub fun _ => v)))
noncomputable def p46 : Value → Tm → Tm := fun v => T4.ua (T4.uc (T4.ud (T4.uc fun _ => v)))
noncomputable def p47 : Value → Tm → Tm := fun v => T4.ua (T4.uc (T4.ud (T4.ud fun _ => v)))
noncomputable def p48 : Value → Tm → Tm := fun v => T4.ua (T4.ud (T4.ua (T4.ua fun _ => v)))
noncomputable def p49 : Value → Tm → Tm := fun v => T4.ua (T4.ud (T4.ua (T4.ub fun _ => v)))
noncomputable def p50 : Value → Tm → Tm := fun v => T4.ua (T4.ud (T4.ua (T4.uc fun _ => v)))
noncomputable def p51 : Value → Tm → Tm := fun v => T4.ua (T4.ud (T4.ua (T4.ud fun _ => v)))
noncomputable def p52 : Value → Tm → Tm := fun v => T4.ua (T4.ud (T4.ub (T4.ua fun _ => v)))
noncomputable def p53 : Value → Tm → Tm := fun v => T4.ua (T4.ud (T4.ub (T4.ub fun _ => v)))
noncomputable def p54 : Value → Tm → Tm := fun v => T4.ua (T4.ud (T4.ub (T4.uc fun _ => v)))
noncomputable def p55 : Value → Tm → Tm := fun v => T4.ua (T4.ud (T4.ub (T4.ud fun _ => v)))
noncomputable def p56 : Value → Tm → Tm := fun v => T4.ua (T4.ud (T4.uc (T4.ua fun _ => v)))
noncomputable def p57 : Value → Tm → Tm := fun v => T4.ua (T4.ud (T4.uc (T4.ub fun _ => v)))
noncomputable def p58 : Value → Tm → Tm := fun v => T4.ua (T4.ud (T4.uc (T4.uc fun _ => v)))
noncomputable def p59 : Value → Tm → Tm := fun v => T4.ua (T4.ud (T4.uc (T4.ud fun _ => v)))
noncomputable def p60 : Value → Tm → Tm := fun v => T4.ua (T4.ud (T4.ud (T4.ua fun _ => v)))
noncomputable def p61 : Value → Tm → Tm := fun v => T4.ua (T4.ud (T4.ud (T4.ub fun _ => v)))
noncomputable def p62 : Value → Tm → Tm := fun v => T4.ua (T4.ud (T4.ud (T4.uc fun _ => v)))
noncomputable def p63 : Value → Tm → Tm := fun v => T4.ua (T4.ud (T4.ud (T4.ud fun _ => v)))
noncomputable def p64 : Value → Tm → Tm := fun v => T4.ub (T4.ua (T4.ua (T4.ua fun _ => v)))
noncomputable def p65 : Value → Tm → Tm := fun v => T4.ub (T4.ua (T4.ua (T4.ub fun _ => v)))
noncomputable def p66 : Value → Tm → Tm := fun v => T4.ub (T4.ua (T4.ua (T4.uc fun _ => v)))
noncomputable def p67 : Value → Tm → Tm := fun v => T4.ub (T4.ua (T4.ua (T4.ud fun _ => v)))
noncomputable def p68 : Value → Tm → Tm := fun v => T4.ub (T4.ua (T4.ub (T4.ua fun _ => v)))
noncomputable def p69 : Value → Tm → Tm := fun v => T4.ub (T4.ua (T4.ub (T4.ub fun _ => v)))
noncomputable def p70 : Value → Tm → Tm := fun v => T4.ub (T4.ua (T4.ub (T4.uc fun _ => v)))
noncomputable def p71 : Value → Tm → Tm := fun v => T4.ub (T4.ua (T4.ub (T4.ud fun _ => v)))
noncomputable def p72 : Value → Tm → Tm := fun v => T4.ub (T4.ua (T4.uc (T4.ua fun _ => v)))
noncomputable def p73 : Value → Tm → Tm := fun v => T4.ub (T4.ua (T4.uc (T4.ub fun _ => v)))
noncomputable def p74 : Value → Tm → Tm := fun v => T4.ub (T4.ua (T4.uc (T4.uc fun _ => v)))
noncomputable def p75 : Value → Tm → Tm := fun v => T4.ub (T4.ua (T4.uc (T4.ud fun _ => v)))
noncomputable def p76 : Value → Tm → Tm := fun v => T4.ub (T4.ua (T4.ud (T4.ua fun _ => v)))
noncomputable def p77 : Value → Tm → Tm := fun v => T4.ub (T4.ua (T4.ud (T4.ub fun _ => v)))
noncomputable def p78 : Value → Tm → Tm := fun v => T4.ub (T4.ua (T4.ud (T4.uc fun _ => v)))
noncomputable def p79 : Value → Tm → Tm := fun v => T4.ub (T4.ua (T4.ud (T4.ud fun _ => v)))
noncomputable def p80 : Value → Tm → Tm := fun v => T4.ub (T4.ub (T4.ua (T4.ua fun _ => v)))
noncomputable def p81 : Value → Tm → Tm := fun v => T4.ub (T4.ub (T4.ua (T4.ub fun _ => v)))
noncomputable def p82 : Value → Tm → Tm := fun v => T4.ub (T4.ub (T4.ua (T4.uc fun _ => v)))
noncomputable def p83 : Value → Tm → Tm := fun v => T4.ub (T4.ub (T4.ua (T4.ud fun _ => v)))
noncomputable def p84 : Value → Tm → Tm := fun v => T4.ub (T4.ub (T4.ub (T4.ua fun _ => v)))
noncomputable def p85 : Value → Tm → Tm := fun v => T4.ub (T4.ub (T4.ub (T4.ub fun _ => v)))
noncomputable def p86 : Value → Tm → Tm := fun v => T4.ub (T4.ub (T4.ub (T4.uc fun _ => v)))
noncomputable def p87 : Value → Tm → Tm := fun v => T4.ub (T4.ub (T4.ub (T4.ud fun _ => v)))
noncomputable def p88 : Value → Tm → Tm := fun v => T4.ub (T4.ub (T4.uc (T4.ua fun _ => v)))
noncomputable def p89 : Value → Tm → Tm := fun v => T4.ub (T4.ub (T4.uc (T4.ub fun _ => v)))
noncomputable def p90 : Value → Tm → Tm := fun v => T4.ub (T4.ub (T4.uc (T4.uc fun _ => v)))
noncomputable def p91 : Value → Tm → Tm := fun v => T4.ub (T4.ub (T4.uc (T4.ud fun _ => v)))
noncomputable def p92 : Value → Tm → Tm := fun v => T4.ub (T4.ub (T4.ud (T4.ua fun _ => v)))
noncomputable def p93 : Value → Tm → Tm := fun v => T4.ub (T4.ub (T4.ud (T4.ub fun _ => v)))
noncomputable def p94 : Value → Tm → Tm := fun v => T4.ub (T4.ub (T4.ud (T4.uc fun _ => v)))
noncomputable def p95 : Value → Tm → Tm := fun v => T4.ub (T4.ub (T4.ud (T4.ud fun _ => v)))
noncomputable def p96 : Value → Tm → Tm := fun v => T4.ub (T4.uc (T4.ua (T4.ua fun _ => v)))
noncomputable def p97 : Value → Tm → Tm := fun v => T4.ub (T4.uc (T4.ua (T4.ub fun _ => v)))
noncomputable def p98 : Value → Tm → Tm := fun v => T4.ub (T4.uc (T4.ua (T4.uc fun _ => v)))
noncomputable def p99 : Value → Tm → Tm := fun v => T4.ub (T4.uc (T4.ua (T4.ud fun _ => v)))
noncomputable def p100 : Value → Tm → Tm := fun v => T4.ub (T4.uc (T4.ub (T4.ua fun _ => v)))
noncomputable def p101 : Value → Tm → Tm := fun v => T4.ub (T4.uc (T4.ub (T4.ub fun _ => v)))
noncomputable def p102 : Value → Tm → Tm := fun v => T4.ub (T4.uc (T4.ub (T4.uc fun _ => v)))
noncomputable def p103 : Value → Tm → Tm := fun v => T4.ub (T4.uc (T4.ub (T4.ud fun _ => v)))
noncomputable def p104 : Value → Tm → Tm := fun v => T4.ub (T4.uc (T4.uc (T4.ua fun _ => v)))
noncomputable def p105 : Value → Tm → Tm := fun v => T4.ub (T4.uc (T4.uc (T4.ub fun _ => v)))
noncomputable def p106 : Value → Tm → Tm := fun v => T4.ub (T4.uc (T4.uc (T4.uc fun _ => v)))
noncomputable def p107 : Value → Tm → Tm := fun v => T4.ub (T4.uc (T4.uc (T4.ud fun _ => v)))
noncomputable def p108 : Value → Tm → Tm := fun v => T4.ub (T4.uc (T4.ud (T4.ua fun _ => v)))
noncomputable def p109 : Value → Tm → Tm := fun v => T4.ub (T4.uc (T4.ud (T4.ub fun _ => v)))
noncomputable def p110 : Value → Tm → Tm := fun v => T4.ub (T4.uc (T4.ud (T4.uc fun _ => v)))
noncomputable def p111 : Value → Tm → Tm := fun v => T4.ub (T4.uc (T4.ud (T4.ud fun _ => v)))
noncomputable def p112 : Value → Tm → Tm := fun v => T4.ub (T4.ud (T4.ua (T4.ua fun _ => v)))
noncomputable def p113 : Value → Tm → Tm := fun v => T4.ub (T4.ud (T4.ua (T4.ub fun _ => v)))
noncomputable def p114 : Value → Tm → Tm := fun v => T4.ub (T4.ud (T4.ua (T4.uc fun _ => v)))
noncomputable def p115 : Value → Tm → Tm := fun v => T4.ub (T4.ud (T4.ua (T4.ud fun _ => v)))
noncomputable def p116 : Value → Tm → Tm := fun v => T4.ub (T4.ud (T4.ub (T4.ua fun _ => v)))
noncomputable def p117 : Value → Tm → Tm := fun v => T4.ub (T4.ud (T4.ub (T4.ub fun _ => v)))
noncomputable def p118 : Value → Tm → Tm := fun v => T4.ub (T4.ud (T4.ub (T4.uc fun _ => v)))
noncomputable def p119 : Value → Tm → Tm := fun v => T4.ub (T4.ud (T4.ub (T4.ud fun _ => v)))
noncomputable def p120 : Value → Tm → Tm := fun v => T4.ub (T4.ud (T4.uc (T4.ua fun _ => v)))
noncomputable def p121 : Value → Tm → Tm := fun v => T4.ub (T4.ud (T4.uc (T4.ub fun _ => v)))
noncomputable def p122 : Value → Tm → Tm := fun v => T4.ub (T4.ud (T4.uc (T4.uc fun _ => v)))
noncomputable def p123 : Value → Tm → Tm := fun v => T4.ub (T4.ud (T4.uc (T4.ud fun _ => v)))
noncomputable def p124 : Value → Tm → Tm := fun v => T4.ub (T4.ud (T4.ud (T4.ua fun _ => v)))
noncomputable def p125 : Value → Tm → Tm := fun v => T4.ub (T4.ud (T4.ud (T4.ub fun _ => v)))
noncomputable def p126 : Value → Tm → Tm := fun v => T4.ub (T4.ud (T4.ud (T4.uc fun _ => v)))
noncomputable def p127 : Value → Tm → Tm := fun v => T4.ub (T4.ud (T4.ud (T4.ud fun _ => v)))
noncomputable def p128 : Value → Tm → Tm := fun v => T4.uc (T4.ua (T4.ua (T4.ua fun _ => v)))
noncomputable def p129 : Value → Tm → Tm := fun v => T4.uc (T4.ua (T4.ua (T4.ub fun _ => v)))
noncomputable def p130 : Value → Tm → Tm := fun v => T4.uc (T4.ua (T4.ua (T4.uc fun _ => v)))
noncomputable def p131 : Value → Tm → Tm := fun v => T4.uc (T4.ua (T4.ua (T4.ud fun _ => v)))
noncomputable def p132 : Value → Tm → Tm := fun v => T4.uc (T4.ua (T4.ub (T4.ua fun _ => v)))
noncomputable def p133 : Value → Tm → Tm := fun v => T4.uc (T4.ua (T4.ub (T4.ub fun _ => v)))
noncomputable def p134 : Value → Tm → Tm := fun v => T4.uc (T4.ua (T4.ub (T4.uc fun _ => v)))
noncomputable def p135 : Value → Tm → Tm := fun v => T4.uc (T4.ua (T4.ub (T4.ud fun _ => v)))
noncomputable def p136 : Value → Tm → Tm := fun v => T4.uc (T4.ua (T4.uc (T4.ua fun _ => v)))
noncomputable def p137 : Value → Tm → Tm := fun v => T4.uc (T4.ua (T4.uc (T4.ub fun _ => v)))
noncomputable def p138 : Value → Tm → Tm := fun v => T4.uc (T4.ua (T4.uc (T4.uc fun _ => v)))
noncomputable def p139 : Value → Tm → Tm := fun v => T4.uc (T4.ua (T4.uc (T4.ud fun _ => v)))
noncomputable def p140 : Value → Tm → Tm := fun v => T4.uc (T4.ua (T4.ud (T4.ua fun _ => v)))
noncomputable def p141 : Value → Tm → Tm := fun v => T4.uc (T4.ua (T4.ud (T4.ub fun _ => v)))
noncomputable def p142 : Value → Tm → Tm := fun v => T4.uc (T4.ua (T4.ud (T4.uc fun _ => v)))
noncomputable def p143 : Value → Tm → Tm := fun v => T4.uc (T4.ua (T4.ud (T4.ud fun _ => v)))
noncomputable def p144 : Value → Tm → Tm := fun v => T4.uc (T4.ub (T4.ua (T4.ua fun _ => v)))
noncomputable def p145 : Value → Tm → Tm := fun v => T4.uc (T4.ub (T4.ua (T4.ub fun _ => v)))
noncomputable def p146 : Value → Tm → Tm := fun v => T4.uc (T4.ub (T4.ua (T4.uc fun _ => v)))
noncomputable def p147 : Value → Tm → Tm := fun v => T4.uc (T4.ub (T4.ua (T4.ud fun _ => v)))
noncomputable def p148 : Value → Tm → Tm := fun v => T4.uc (T4.ub (T4.ub (T4.ua fun _ => v)))
noncomputable def p149 : Value → Tm → Tm := fun v => T4.uc (T4.ub (T4.ub (T4.ub fun _ => v)))
noncomputable def p150 : Value → Tm → Tm := fun v => T4.uc (T4.ub (T4.ub (T4.uc fun _ => v)))
noncomputable def p151 : Value → Tm → Tm := fun v => T4.uc (T4.ub (T4.ub (T4.ud fun _ => v)))
noncomputable def p152 : Value → Tm → Tm := fun v => T4.uc (T4.ub (T4.uc (T4.ua fun _ => v)))
noncomputable def p153 : Value → Tm → Tm := fun v => T4.uc (T4.ub (T4.uc (T4.ub fun _ => v)))
noncomputable def p154 : Value → Tm → Tm := fun v => T4.uc (T4.ub (T4.uc (T4.uc fun _ => v)))
noncomputable def p155 : Value → Tm → Tm := fun v => T4.uc (T4.ub (T4.uc (T4.ud fun _ => v)))
noncomputable def p156 : Value → Tm → Tm := fun v => T4.uc (T4.ub (T4.ud (T4.ua fun _ => v)))
noncomputable def p157 : Value → Tm → Tm := fun v => T4.uc (T4.ub (T4.ud (T4.ub fun _ => v)))
noncomputable def p158 : Value → Tm → Tm := fun v => T4.uc (T4.ub (T4.ud (T4.uc fun _ => v)))
noncomputable def p159 : Value → Tm → Tm := fun v => T4.uc (T4.ub (T4.ud (T4.ud fun _ => v)))
noncomputable def p160 : Value → Tm → Tm := fun v => T4.uc (T4.uc (T4.ua (T4.ua fun _ => v)))
noncomputable def p161 : Value → Tm → Tm := fun v => T4.uc (T4.uc (T4.ua (T4.ub fun _ => v)))
noncomputable def p162 : Value → Tm → Tm := fun v => T4.uc (T4.uc (T4.ua (T4.uc fun _ => v)))
noncomputable def p163 : Value → Tm → Tm := fun v => T4.uc (T4.uc (T4.ua (T4.ud fun _ => v)))
noncomputable def p164 : Value → Tm → Tm := fun v => T4.uc (T4.uc (T4.ub (T4.ua fun _ => v)))
noncomputable def p165 : Value → Tm → Tm := fun v => T4.uc (T4.uc (T4.ub (T4.ub fun _ => v)))
noncomputable def p166 : Value → Tm → Tm := fun v => T4.uc (T4.uc (T4.ub (T4.uc fun _ => v)))
noncomputable def p167 : Value → Tm → Tm := fun v => T4.uc (T4.uc (T4.ub (T4.ud fun _ => v)))
noncomputable def p168 : Value → Tm → Tm := fun v => T4.uc (T4.uc (T4.uc (T4.ua fun _ => v)))
noncomputable def p169 : Value → Tm → Tm := fun v => T4.uc (T4.uc (T4.uc (T4.ub fun _ => v)))
noncomputable def p170 : Value → Tm → Tm := fun v => T4.uc (T4.uc (T4.uc (T4.uc fun _ => v)))
noncomputable def p171 : Value → Tm → Tm := fun v => T4.uc (T4.uc (T4.uc (T4.ud fun _ => v)))
noncomputable def p172 : Value → Tm → Tm := fun v => T4.uc (T4.uc (T4.ud (T4.ua fun _ => v)))
noncomputable def p173 : Value → Tm → Tm := fun v => T4.uc (T4.uc (T4.ud (T4.ub fun _ => v)))
noncomputable def p174 : Value → Tm → Tm := fun v => T4.uc (T4.uc (T4.ud (T4.uc fun _ => v)))
noncomputable def p175 : Value → Tm → Tm := fun v => T4.uc (T4.uc (T4.ud (T4.ud fun _ => v)))
noncomputable def p176 : Value → Tm → Tm := fun v => T4.uc (T4.ud (T4.ua (T4.ua fun _ => v)))
noncomputable def p177 : Value → Tm → Tm := fun v => T4.uc (T4.ud (T4.ua (T4.ub fun _ => v)))
noncomputable def p178 : Value → Tm → Tm := fun v => T4.uc (T4.ud (T4.ua (T4.uc fun _ => v)))
noncomputable def p179 : Value → Tm → Tm := fun v => T4.uc (T4.ud (T4.ua (T4.ud fun _ => v)))
noncomputable def p180 : Value → Tm → Tm := fun v => T4.uc (T4.ud (T4.ub (T4.ua fun _ => v)))
noncomputable def p181 : Value → Tm → Tm := fun v => T4.uc (T4.ud (T4.ub (T4.ub fun _ => v)))
noncomputable def p182 : Value → Tm → Tm := fun v => T4.uc (T4.ud (T4.ub (T4.uc fun _ => v)))
noncomputable def p183 : Value → Tm → Tm := fun v => T4.uc (T4.ud (T4.ub (T4.ud fun _ => v)))
noncomputable def p184 : Value → Tm → Tm := fun v => T4.uc (T4.ud (T4.uc (T4.ua fun _ => v)))
noncomputable def p185 : Value → Tm → Tm := fun v => T4.uc (T4.ud (T4.uc (T4.ub fun _ => v)))
noncomputable def p186 : Value → Tm → Tm := fun v => T4.uc (T4.ud (T4.uc (T4.uc fun _ => v)))
noncomputable def p187 : Value → Tm → Tm := fun v => T4.uc (T4.ud (T4.uc (T4.ud fun _ => v)))
noncomputable def p188 : Value → Tm → Tm := fun v => T4.uc (T4.ud (T4.ud (T4.ua fun _ => v)))
noncomputable def p189 : Value → Tm → Tm := fun v => T4.uc (T4.ud (T4.ud (T4.ub fun _ => v)))
noncomputable def p190 : Value → Tm → Tm := fun v => T4.uc (T4.ud (T4.ud (T4.uc fun _ => v)))
noncomputable def p191 : Value → Tm → Tm := fun v => T4.uc (T4.ud (T4.ud (T4.ud fun _ => v)))
noncomputable def p192 : Value → Tm → Tm := fun v => T4.ud (T4.ua (T4.ua (T4.ua fun _ => v)))
noncomputable def p193 : Value → Tm → Tm := fun v => T4.ud (T4.ua (T4.ua (T4.ub fun _ => v)))
noncomputable def p194 : Value → Tm → Tm := fun v => T4.ud (T4.ua (T4.ua (T4.uc fun _ => v)))
noncomputable def p195 : Value → Tm → Tm := fun v => T4.ud (T4.ua (T4.ua (T4.ud fun _ => v)))
noncomputable def p196 : Value → Tm → Tm := fun v => T4.ud (T4.ua (T4.ub (T4.ua fun _ => v)))
noncomputable def p197 : Value → Tm → Tm := fun v => T4.ud (T4.ua (T4.ub (T4.ub fun _ => v)))
noncomputable def p198 : Value → Tm → Tm := fun v => T4.ud (T4.ua (T4.ub (T4.uc fun _ => v)))
noncomputable def p199 : Value → Tm → Tm := fun v => T4.ud (T4.ua (T4.ub (T4.ud fun _ => v)))
noncomputable def p200 : Value → Tm → Tm := fun v => T4.ud (T4.ua (T4.uc (T4.ua fun _ => v)))
noncomputable def p201 : Value → Tm → Tm := fun v => T4.ud (T4.ua (T4.uc (T4.ub fun _ => v)))
noncomputable def p202 : Value → Tm → Tm := fun v => T4.ud (T4.ua (T4.uc (T4.uc fun _ => v)))
noncomputable def p203 : Value → Tm → Tm := fun v => T4.ud (T4.ua (T4.uc (T4.ud fun _ => v)))
noncomputable def p204 : Value → Tm → Tm := fun v => T4.ud (T4.ua (T4.ud (T4.ua fun _ => v)))
noncomputable def p205 : Value → Tm → Tm := fun v => T4.ud (T4.ua (T4.ud (T4.ub fun _ => v)))
noncomputable def p206 : Value → Tm → Tm := fun v => T4.ud (T4.ua (T4.ud (T4.uc fun _ => v)))
noncomputable def p207 : Value → Tm → Tm := fun v => T4.ud (T4.ua (T4.ud (T4.ud fun _ => v)))
noncomputable def p208 : Value → Tm → Tm := fun v => T4.ud (T4.ub (T4.ua (T4.ua fun _ => v)))
noncomputable def p209 : Value → Tm → Tm := fun v => T4.ud (T4.ub (T4.ua (T4.ub fun _ => v)))
noncomputable def p210 : Value → Tm → Tm := fun v => T4.ud (T4.ub (T4.ua (T4.uc fun _ => v)))
noncomputable def p211 : Value → Tm → Tm := fun v => T4.ud (T4.ub (T4.ua (T4.ud fun _ => v)))
noncomputable def p212 : Value → Tm → Tm := fun v => T4.ud (T4.ub (T4.ub (T4.ua fun _ => v)))
noncomputable def p213 : Value → Tm → Tm := fun v => T4.ud (T4.ub (T4.ub (T4.ub fun _ => v)))
noncomputable def p214 : Value → Tm → Tm := fun v => T4.ud (T4.ub (T4.ub (T4.uc fun _ => v)))
noncomputable def p215 : Value → Tm → Tm := fun v => T4.ud (T4.ub (T4.ub (T4.ud fun _ => v)))
noncomputable def p216 : Value → Tm → Tm := fun v => T4.ud (T4.ub (T4.uc (T4.ua fun _ => v)))
noncomputable def p217 : Value → Tm → Tm := fun v => T4.ud (T4.ub (T4.uc (T4.ub fun _ => v)))
noncomputable def p218 : Value → Tm → Tm := fun v => T4.ud (T4.ub (T4.uc (T4.uc fun _ => v)))
noncomputable def p219 : Value → Tm → Tm := fun v => T4.ud (T4.ub (T4.uc (T4.ud fun _ => v)))
noncomputable def p220 : Value → Tm → Tm := fun v => T4.ud (T4.ub (T4.ud (T4.ua fun _ => v)))
noncomputable def p221 : Value → Tm → Tm := fun v => T4.ud (T4.ub (T4.ud (T4.ub fun _ => v)))
noncomputable def p222 : Value → Tm → Tm := fun v => T4.ud (T4.ub (T4.ud (T4.uc fun _ => v)))
noncomputable def p223 : Value → Tm → Tm := fun v => T4.ud (T4.ub (T4.ud (T4.ud fun _ => v)))
noncomputable def p224 : Value → Tm → Tm := fun v => T4.ud (T4.uc (T4.ua (T4.ua fun _ => v)))
noncomputable def p225 : Value → Tm → Tm := fun v => T4.ud (T4.uc (T4.ua (T4.ub fun _ => v)))
noncomputable def p226 : Value → Tm → Tm := fun v => T4.ud (T4.uc (T4.ua (T4.uc fun _ => v)))
noncomputable def p227 : Value → Tm → Tm := fun v => T4.ud (T4.uc (T4.ua (T4.ud fun _ => v)))
noncomputable def p228 : Value → Tm → Tm := fun v => T4.ud (T4.uc (T4.ub (T4.ua fun _ => v)))
noncomputable def p229 : Value → Tm → Tm := fun v => T4.ud (T4.uc (T4.ub (T4.ub fun _ => v)))
noncomputable def p230 : Value → Tm → Tm := fun v => T4.ud (T4.uc (T4.ub (T4.uc fun _ => v)))
noncomputable def p231 : Value → Tm → Tm := fun v => T4.ud (T4.uc (T4.ub (T4.ud fun _ => v)))
noncomputable def p232 : Value → Tm → Tm := fun v => T4.ud (T4.uc (T4.uc (T4.ua fun _ => v)))
noncomputable def p233 : Value → Tm → Tm := fun v => T4.ud (T4.uc (T4.uc (T4.ub fun _ => v)))
noncomputable def p234 : Value → Tm → Tm := fun v => T4.ud (T4.uc (T4.uc (T4.uc fun _ => v)))
noncomputable def p235 : Value → Tm → Tm := fun v => T4.ud (T4.uc (T4.uc (T4.ud fun _ => v)))
noncomputable def p236 : Value → Tm → Tm := fun v => T4.ud (T4.uc (T4.ud (T4.ua fun _ => v)))
noncomputable def p237 : Value → Tm → Tm := fun v => T4.ud (T4.uc (T4.ud (T4.ub fun _ => v)))
noncomputable def p238 : Value → Tm → Tm := fun v => T4.ud (T4.uc (T4.ud (T4.uc fun _ => v)))
noncomputable def p239 : Value → Tm → Tm := fun v => T4.ud (T4.uc (T4.ud (T4.ud fun _ => v)))
noncomputable def p240 : Value → Tm → Tm := fun v => T4.ud (T4.ud (T4.ua (T4.ua fun _ => v)))
noncomputable def p241 : Value → Tm → Tm := fun v => T4.ud (T4.ud (T4.ua (T4.ub fun _ => v)))
noncomputable def p242 : Value → Tm → Tm := fun v => T4.ud (T4.ud (T4.ua (T4.uc fun _ => v)))
noncomputable def p243 : Value → Tm → Tm := fun v => T4.ud (T4.ud (T4.ua (T4.ud fun _ => v)))
noncomputable def p244 : Value → Tm → Tm := fun v => T4.ud (T4.ud (T4.ub (T4.ua fun _ => v)))
noncomputable def p245 : Value → Tm → Tm := fun v => T4.ud (T4.ud (T4.ub (T4.ub fun _ => v)))
noncomputable def p246 : Value → Tm → Tm := fun v => T4.ud (T4.ud (T4.ub (T4.uc fun _ => v)))
noncomputable def p247 : Value → Tm → Tm := fun v => T4.ud (T4.ud (T4.ub (T4.ud fun _ => v)))
noncomputable def p248 : Value → Tm → Tm := fun v => T4.ud (T4.ud (T4.uc (T4.ua fun _ => v)))
noncomputable def p249 : Value → Tm → Tm := fun v => T4.ud (T4.ud (T4.uc (T4.ub fun _ => v)))
noncomputable def p250 : Value → Tm → Tm := fun v => T4.ud (T4.ud (T4.uc (T4.uc fun _ => v)))
noncomputable def p251 : Value → Tm → Tm := fun v => T4.ud (T4.ud (T4.uc (T4.ud fun _ => v)))
noncomputable def p252 : Value → Tm → Tm := fun v => T4.ud (T4.ud (T4.ud (T4.ua fun _ => v)))
noncomputable def p253 : Value → Tm → Tm := fun v => T4.ud (T4.ud (T4.ud (T4.ub fun _ => v)))
noncomputable def p254 : Value → Tm → Tm := fun v => T4.ud (T4.ud (T4.ud (T4.uc fun _ => v)))
noncomputable def p255 : Value → Tm → Tm := fun v => T4.ud (T4.ud (T4.ud (T4.ud fun _ => v)))
end Go.Eng
