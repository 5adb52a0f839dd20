/-
  An abstract machine for the program's code: values, memory, what operations and code do, how the model's code is compiled for it. No condition.
-/
import GoSem.Dispatch
import GoSem.Machine.Frame
set_option linter.unusedVariables false
set_option linter.unusedSimpArgs false
set_option linter.unusedSectionVars false
open Nat renaming rec -> Xje, beq -> Xik, succ -> XiU, ble -> Xiv, add -> Xiy, blt -> Xis, mul -> XiE
open Bool renaming rec -> XiL
open List renaming rec -> XiA, range -> Xi4
open BitVec renaming ofInt -> XiJ
noncomputable section
namespace Go.Eng
inductive Dg where
 | d0 | d1 | d2 | d3
 deriving DecidableEq
def XdG : Nat -> Dg
 | 0 => .d0
 | 1 => .d1
 | 2 => .d2
 | _ => .d3
structure T4 (α : Type) where
 a : α
 b : α
 c : α
 d : α
def T4.all {α : Type} (v : α) : T4 α := ⟨v, v, v, v⟩
def T4.get {α : Type} : Dg -> T4 α -> α
 | .d0 => T4.a
 | .d1 => T4.b
 | .d2 => T4.c
 | .d3 => T4.d
def T4.ua {α : Type} (f : α -> α) : T4 α -> T4 α := T4.rec fun a b c d => ⟨f a, b, c, d⟩
def T4.ub {α : Type} (f : α -> α) : T4 α -> T4 α := T4.rec fun a b c d => ⟨a, f b, c, d⟩
def T4.uc {α : Type} (f : α -> α) : T4 α -> T4 α := T4.rec fun a b c d => ⟨a, b, f c, d⟩
def T4.ud {α : Type} (f : α -> α) : T4 α -> T4 α := T4.rec fun a b c d => ⟨a, b, c, f d⟩
def T4.up {α : Type} : Dg -> (α -> α) -> T4 α -> T4 α
 | .d0 => T4.ua
 | .d1 => T4.ub
 | .d2 => T4.uc
 | .d3 => T4.ud
abbrev Tm := T4 (T4 (T4 (T4 Value)))
def Zg (n : Nat) (t : Tm) : Value := T4.get (XdG (n % 4)) (T4.get (XdG (n / 4 % 4)) (T4.get (XdG (n / 16 % 4)) (T4.get (XdG (n / 64)) t)))
def KI (n : Nat) (v : Value) : Tm -> Tm := T4.up (XdG (n / 64)) (T4.up (XdG (n / 16 % 4)) (T4.up (XdG (n / 4 % 4)) (T4.up (XdG (n % 4)) fun _ => v)))
def Tm.empty : Tm := T4.all (T4.all (T4.all (T4.all undef)))
inductive Tr (α : Type) where
 | nil
 | node (v : Option α) (l r : Tr α)
def Tr.get {α : Type} (t : Tr α) : Nat -> Option α :=
 Tr.rec (motive := fun _ => Nat -> Option α) (fun _ => none)
  (fun v _ _ ihl ihr n => Xje (motive := fun _ => Option α) v
   (fun m _ => XiL (motive := fun _ => Option α) (ihr (Nat.div m 2)) (ihl (Nat.div m 2)) (Xik (Nat.mod m 2) 0)) n) t
def Tr.setF {α : Type} (a : Option α) (f : Nat) : Tr α -> Nat -> Tr α :=
 Xje (motive := fun _ => Tr α -> Nat -> Tr α) (fun t _ => t)
  (fun _ ih t n => Xje (motive := fun _ => Tr α)
   (Tr.rec (motive := fun _ => Tr α) (.node a .nil .nil) (fun _ l r _ _ => .node a l r) t)
   (fun m _ => XiL (motive := fun _ => Tr α)
    (Tr.rec (motive := fun _ => Tr α) (.node none .nil (ih .nil (Nat.div m 2))) (fun v l r _ _ => .node v l (ih r (Nat.div m 2))) t)
    (Tr.rec (motive := fun _ => Tr α) (.node none (ih .nil (Nat.div m 2)) .nil) (fun v l r _ _ => .node v (ih l (Nat.div m 2)) r) t)
    (Xik (Nat.mod m 2) 0)) n) f
def Tr.put {α : Type} (t : Tr α) (n : Nat) (a : Option α) : Tr α := Tr.setF a (XiU n) t n
inductive Opd where
 | tmp (n : Nat)
 | const (v : Value)
inductive Kt where
 | int (k : IntKind)
 | str
 | bool
 deriving DecidableEq
inductive Pred where   -- kinds of equality
 | int | str | bool | ptr | slice | map | func | iface | ifaceNil | flat (ls : List Kt)
inductive KSh where
 | one (l : Kt)
 | many (n : Nat) (k : IntKind)
inductive LenK where
 | str | sl | map
structure Part where
 off : Nat
 size : Nat
 x : Opd
inductive COp where
 | move (x : Opd)
 | pick (c a b : Opd)
 | alloc (zero : List Value)
 | box (x : Opd)
 | build (zero : List Value) (parts : List Part)
 | buildSlice (zero : List Value) (parts : List Part) (len : Nat)
 | load1 (a : Opd)
 | loadN (n : Nat) (a : Opd)
 | store (n : Nat) (a x : Opd)
 | nilCheck (x : Opd)
 | bin (op : BinOp) (x y : Opd)
 | eq (neg : Bool) (p : Pred) (x y : Opd)
 | un (op : UnOp) (x : Opd)
 | intTo (k : IntKind) (x : Opd)
 | str (x : Opd)
 | bytesTo (x : Opd)
 | toBytes (x : Opd)
 | stamp (x : Opd)
 | mkIface (t : Nat) (x : Opd)
 | mkFunc (fn : Fn) (first captured : List Opd)
 | mkMap (sh : KSh)
 | mkSlice (zero : List Value) (len cap : Opd)
 | sliceStr (x : Opd) (lo hi : Option Opd)
 | sliceSl (size : Nat) (x : Opd) (lo hi mx : Option Opd)
 | sliceArr (n size : Nat) (x : Opd) (lo hi mx : Option Opd)
 | toArr (n : Nat) (x : Opd)
 | fieldAddr (off : Nat) (x : Opd)
 | field (off : Nat) (size : Option Nat) (x : Opd)
 | ixSl (size : Nat) (x i : Opd)
 | ixArr (n size : Nat) (x i : Opd)
 | ixStr (x i : Opd)
 | ixVal (n esz : Nat) (agg : Bool) (x i : Opd)
 | lookup (sh : KSh) (zero : Value) (ok : Bool) (x i : Opd)
 | mapUpdate (sh : KSh) (m k x : Opd)
 | rangeMap (x : Opd)
 | rangeStr (x : Opd)
 | nextMap (it : Opd)
 | nextStr (it : Opd)
 | entry (it : Opd)
 | assertT (t : Nat) (zero : Value) (ok : Bool) (x : Opd)
 | assertI (types : Nat) (fits : List Nat) (zero : Value) (ok : Bool) (x : Opd)
 | extract (i : Nat) (x : Opd)
 | len (k : LenK) (x : Opd)
 | lenC (n : Nat)
 | cap (x : Opd)
 | append (size : Nat) (s x : Opd)
 | appendZ (zero : List Value) (s x : Opd)
 | copy (size : Nat) (d s : Opd)
 | delete (sh : KSh) (m k : Opd)
 | clear (zero : List Value) (x : Opd)
 | max (x : Opd) (xs : List Opd)
 | min (x : Opd) (xs : List Opd)
 | panic (x : Opd)
 | recover
 | call (f : Opd) (args : List Opd)
 | invoke (x : Opd) (name : String) (args : List Opd)
 | defer (f : Opd) (args : List Opd)
 | bad (why : String)
inductive Rcv where
 | whole
 | cell
 | cells (n : Nat)
 | part (off : Nat) (size : Option Nat)
structure VA where
 guard : Option (Nat × Bool)
 dst : Option Nat
 op : COp
 idx : Nat
 un : List Nat
 pre : List Nat
inductive CCode where
 | skip
 | region (draw : Bool) (ops : List VA)
 | seq (a b : CCode)
 | cond (c : Opd) (a b : CCode)
 | block (id : Nat) (c : CCode)
 | loop (c : CCode)
 | rangeFunc (f : Opd) (params : List Nat) (assign body : CCode)
 | exit (id : Nat)
 | ret
 | bad (why : String)
inductive CRes where
 | tmp (s : Nat)
 | cell1 (s : Nat)
 | cellN (s n : Nat)
structure CFun where
 results : List CRes
 body : CCode
inductive Jump where
 | ret | exit (id : Nat)
inductive LState where
 | ready | busy | done | exhausted
 deriving DecidableEq
inductive ADef where
 | call (fn : Value) (args : List Value)
 | mark (b : Nat)
structure ALoop where
 state : LState
 pending : Option Jump
 tmps : Tm
 params : List Nat
 assign : CCode
 body : CCode
inductive AObj where
 | cells (w : Bool) (c : List Value)
 | map (sh : KSh) (ver : Nat) (es : List (Value × Value))
 | miter (m : Option Nat) (ver : Nat) (left : List (Value × Value)) (last : Option (Value × Value))
 | siter (s : ByteArray) (pos : Nat)
 | loop (l : ALoop)
 | mark
structure Heap where
 next : Nat
 t : Tr AObj
def Heap.get (h : Heap) (b : Nat) : Option AObj := h.t.get b
def Heap.push (h : Heap) (o : AObj) : Heap := ⟨XiU h.next, h.t.put h.next (some o)⟩
def Heap.put (h : Heap) (b : Nat) (o : Option AObj) : Heap := ⟨h.next, h.t.put b o⟩
inductive Vf where
 | returning
 | panicking (chain : List (Value × Bool))     -- recovered?
structure Aux where
 defers : List ADef
 round : Option Nat
 rc : Option Vf
inductive Rz where
 | norm (t : Tm) (x : Aux) (h : Heap)
 | exit (id : Nat) (t : Tm) (x : Aux) (h : Heap)
 | ret (t : Tm) (x : Aux) (h : Heap)
 | panic (v : Value) (lost : List Nat) (t : Tm) (x : Aux) (h : Heap)
 | got (v : Value) (x : Aux) (h : Heap)
 | fail (why : String)
 | any (n : Nat) (k : Nat -> Rz)
inductive Er where
 | ret (v : Value) (h : Heap)
 | panic (chain : List (Value × Bool)) (h : Heap)
 | fail (why : String)
 | any (n : Nat) (k : Nat -> Er)
abbrev Xd := Tm -> Value
def kC (v : Value) : Xd := fun _ => v
def Opd.val : Opd -> Xd
 | .tmp n => Zg n
 | .const v => kC v
def XcG (v : Value) : Option Addr :=
 Value.casesOn (motive_1 := fun _ => Option Addr) v (fun _ => none) (fun _ _ => none) (fun _ _ => none) (fun _ _ _ => none) (fun _ => none) (fun a => a) (fun _ _ _ => none) (fun _ => none) (fun _ => none) (fun _ _ _ => none) none (fun _ _ => none) none (fun _ => none) (fun _ => none)
def asBool (v : Value) : Option Bool :=
 Value.casesOn (motive_1 := fun _ => Option Bool) v (fun b => some b) (fun _ _ => none) (fun _ _ => none) (fun _ _ _ => none) (fun _ => none) (fun _ => none) (fun _ _ _ => none) (fun _ => none) (fun _ => none) (fun _ _ _ => none) none (fun _ _ => none) none (fun _ => none) (fun _ => none)
def WO (v : Value) : Option Nat :=
 Value.casesOn (motive_1 := fun _ => Option Nat) v (fun _ => none) (fun _ n => Int.casesOn (motive := fun _ => Option Nat) n (fun n => some n) (fun _ => none)) (fun _ _ => none) (fun _ _ _ => none) (fun _ => none) (fun _ => none) (fun _ _ _ => none) (fun _ => none) (fun _ => none) (fun _ _ _ => none) none (fun _ _ => none) none (fun _ => none) (fun _ => none)
def asStr (v : Value) : Option (List UInt8) :=
 Value.casesOn (motive_1 := fun _ => Option (List UInt8)) v (fun _ => none) (fun _ _ => none) (fun _ _ => none) (fun _ _ _ => none) (fun s => some s.data.toList) (fun _ => none) (fun _ _ _ => none) (fun _ => none) (fun _ => none) (fun _ _ _ => none) none (fun _ _ => none) none (fun _ => none) (fun _ => none)
def asTuple (v : Value) : List Value :=
 Value.casesOn (motive_1 := fun _ => List Value) v (fun _ => []) (fun _ _ => []) (fun _ _ => []) (fun _ _ _ => []) (fun _ => []) (fun _ => []) (fun _ _ _ => []) (fun _ => []) (fun _ => []) (fun _ _ _ => []) [] (fun _ _ => []) [] (fun _ => []) (fun vs => vs.toList)
def Xe8 (v : Value) : Option (List Value) :=
 Value.casesOn (motive_1 := fun _ => Option (List Value)) v (fun _ => none) (fun _ _ => none) (fun _ _ => none) (fun _ _ _ => none) (fun _ => none) (fun _ => none) (fun _ _ _ => none) (fun _ => none) (fun _ => none) (fun _ _ _ => none) none (fun _ _ => none) none (fun vs => some vs.toList) (fun _ => none)
def isTrue (v : Value) : Bool :=
 Value.casesOn (motive_1 := fun _ => Bool) v (fun b => b) (fun _ _ => false) (fun _ _ => false) (fun _ _ _ => false) (fun _ => false) (fun _ => false) (fun _ _ _ => false) (fun _ => false) (fun _ => false) (fun _ _ _ => false) false (fun _ _ => false) false (fun _ => false) (fun _ => false)
def isFalse (v : Value) : Bool :=
 Value.casesOn (motive_1 := fun _ => Bool) v (fun b => XiL (motive := fun _ => Bool) true false b) (fun _ _ => false) (fun _ _ => false) (fun _ _ _ => false) (fun _ => false) (fun _ => false) (fun _ _ _ => false) (fun _ => false) (fun _ => false) (fun _ _ _ => false) false (fun _ _ => false) false (fun _ => false) (fun _ => false)
def Yu {α β : Type} (z : β) (k : α -> β) (o : Option α) : β := Option.rec (motive := fun _ => β) z k o
def cellsOf : Value -> Option (List Value)
 | .agg cs => some cs.toList
 | .tuple _ => none
 | v => some [v]
def over (ys : List Value) : List Value -> List Value :=
 XiA (motive := fun _ => List Value -> List Value) (fun xs => xs)
  (fun y _ ih xs => XiA (motive := fun _ => List Value) [] (fun _ xs _ => y :: ih xs) xs) ys
def X1 (ys : List Value) (n : Nat) : List Value -> List Value :=
 Xje (motive := fun _ => List Value -> List Value) (fun xs => over ys xs)
  (fun _ ih xs => XiA (motive := fun _ => List Value) [] (fun x xs _ => x :: ih xs) xs) n
def nth (n : Nat) : List Value -> Option Value :=
 Xje (motive := fun _ => List Value -> Option Value) (fun xs => XiA (motive := fun _ => Option Value) none (fun x _ _ => some x) xs)
  (fun _ ih xs => XiA (motive := fun _ => Option Value) none (fun _ xs _ => ih xs) xs) n
def XZ (n : Nat) : List Value -> List Value :=
 Xje (motive := fun _ => List Value -> List Value) (fun xs => xs)
  (fun _ ih xs => XiA (motive := fun _ => List Value) [] (fun _ xs _ => ih xs) xs) n
def XV (n : Nat) : List Value -> Option (List Value) :=
 Xje (motive := fun _ => List Value -> Option (List Value)) (fun _ => some [])
  (fun _ ih xs => XiA (motive := fun _ => Option (List Value)) none
   (fun x xs _ => Option.rec (motive := fun _ => Option (List Value)) none (fun r => some (x :: r)) (ih xs)) xs) n
def WJ (xs : List Value) : Nat := XiA (motive := fun _ => Nat) 0 (fun _ _ ih => XiU ih) xs
def app (xs ys : List Value) : List Value := XiA (motive := fun _ => List Value) ys (fun x _ ih => x :: ih) xs
def rep (xs : List Value) (n : Nat) : List Value := Xje (motive := fun _ => List Value) [] (fun _ ih => app xs ih) n
def KX (t : Tm) (xs : List Xd) : List Value := XiA (motive := fun _ => List Value) [] (fun x _ ih => x t :: ih) xs
def YE (t : Tm) (ps : List (Nat × Nat × Xd)) : List Value -> Option (List Value) :=
 XiA (motive := fun _ => List Value -> Option (List Value)) (fun cs => some cs)
  (fun p _ ih cs => Yu none (fun ys => bif Xik (WJ ys) p.2.1 && Xiv (Xiy p.1 p.2.1) (WJ cs) then ih (X1 ys p.1 cs) else none) (cellsOf (p.2.2 t))) ps
def KY (a b : Int) : Bool :=
 match a, b with
 | .ofNat m, .ofNat n => Xik m n
 | .negSucc m, .negSucc n => Xik m n
 | _, _ => false
def XdH (a b : Int) : Bool :=
 match a, b with
 | .ofNat m, .ofNat n => Xis m n
 | .ofNat _, .negSucc _ => false
 | .negSucc _, .ofNat _ => true
 | .negSucc m, .negSucc n => Xis n m
def XL : IntKind -> IntKind -> Bool
 | .i8, .i8 | .i16, .i16 | .i32, .i32 | .i64, .i64 | .u8, .u8 | .u16, .u16 | .u32, .u32 | .u64, .u64 => true
 | _, _ => false
def bytes (s : ByteArray) : List UInt8 := s.data.toList
def Z4 (xs : List UInt8) : List UInt8 -> Bool :=
 XiA (motive := fun _ => List UInt8 -> Bool) (fun ys => XiA (motive := fun _ => Bool) true (fun _ _ _ => false) ys)
  (fun x _ ih ys => XiA (motive := fun _ => Bool) false (fun y ys _ => bif Xik x.toNat y.toNat then ih ys else false) ys) xs
def Xem (xs : List UInt8) : List UInt8 -> Bool :=
 XiA (motive := fun _ => List UInt8 -> Bool) (fun ys => XiA (motive := fun _ => Bool) false (fun _ _ _ => true) ys)
  (fun x _ ih ys => XiA (motive := fun _ => Bool) false (fun y ys _ => bif Xis x.toNat y.toNat then true else bif Xik x.toNat y.toNat then ih ys else false) ys) xs
def Ue : Kt -> Value -> Value -> Option Bool
 | .int l, .int j a, .int k b => bif XL l j && XL l k then some (KY a b) else none
 | .str, .string a, .string b => some (Z4 (bytes a) (bytes b))
 | .bool, .bool a, .bool b => some (a == b)
 | _, _, _ => none
def YF (ls : List Kt) : List Value -> List Value -> Option Bool :=
 XiA (motive := fun _ => List Value -> List Value -> Option Bool) (fun _ _ => some true)
  (fun l _ ih xs ys => XiA (motive := fun _ => Option Bool) none (fun x xs _ => XiA (motive := fun _ => Option Bool) none
   (fun y ys _ => match Ue l x y with
    | some true => ih xs ys
    | some false => some false
    | none => none) ys) xs) ls
def manyEq (l : Kt) (xs : List Value) : List Value -> Option Bool :=
 XiA (motive := fun _ => List Value -> Option Bool) (fun ys => XiA (motive := fun _ => Option Bool) (some true) (fun _ _ _ => none) ys)
  (fun x _ ih ys => XiA (motive := fun _ => Option Bool) none
   (fun y ys _ => match Ue l x y with
    | some true => ih ys
    | some false => some false
    | none => none) ys) xs
def predEq : Pred -> Value -> Value -> Option Bool
 | .int, .int j a, .int k b => bif XL j k then some (KY a b) else none
 | .str, .string a, .string b => some (Z4 (bytes a) (bytes b))
 | .bool, .bool a, .bool b => some (a == b)
 | .ptr, .pointer none, .pointer b => some b.isNone
 | .ptr, .pointer _, .pointer none => some false
 | .ptr, .pointer (some a), .pointer (some b) => if a = b then some true else none
 | .slice, .slice none _ _, .slice b _ _ => some b.isNone
 | .slice, .slice (some _) _ _, .slice none _ _ => some false
 | .map, .map none, .map b => some b.isNone
 | .map, .map (some _), .map none => some false
 | .func, .nilFunc, .nilFunc => some true
 | .func, .nilFunc, .func _ _ _ | .func, .func _ _ _, .nilFunc => some false
 | .iface, .nilIface, .iface _ _ | .iface, .iface _ _, .nilIface => some false
 | .ifaceNil, .nilIface, .nilIface => some true
 | .ifaceNil, .nilIface, .iface _ _ | .ifaceNil, .iface _ _, .nilIface => some false
 | .flat ls, .agg a, .agg b => YF ls a.toList b.toList
 | _, _, _ => none
def XcA : Kt -> Value -> Bool
 | .int k, .int k' _ => XL k k'
 | .str, .string _ => true
 | .bool, .bool _ => true
 | _, _ => false
def Um (l : Kt) (cs : List Value) (n : Nat) : Bool :=      -- n of that kind, no more
 XiA (motive := fun _ => Nat -> Bool) (fun n => Xik n 0) (fun c _ ih n => Xje (motive := fun _ => Bool) false (fun n _ => XcA l c && ih n) n) cs n
def Wy : KSh -> Value -> Bool
 | .one l, v => XcA l v
 | .many n k, .agg cs => Um (.int k) cs.toList n
 | _, _ => false
def sameLeaf : Kt -> Kt -> Bool
 | .int a, .int b => XL a b
 | .str, .str => true
 | .bool, .bool => true
 | _, _ => false
def XdI : KSh -> KSh -> Bool
 | .one a, .one b => sameLeaf a b
 | .many n a, .many m b => Xik n m && XL a b
 | _, _ => false
def KJ : KSh -> Value -> Value -> Option Bool
 | .one l, x, y => Ue l x y
 | .many _ k, .agg a, .agg b => manyEq (.int k) a.toList b.toList
 | _, _, _ => none
def binInt (op : BinOp) : IntKind -> Int -> Int -> Option Value :=
 match op with
 | .add => fun k a b => some (.int k (k.wrap (a + b)))
 | .sub => fun k a b => some (.int k (k.wrap (a - b)))
 | .mul => fun k a b => some (.int k (k.wrap (a * b)))
 | .quo => fun k a b => bif KY b 0 then none else some (.int k (k.wrap (a.tdiv b)))
 | .rem => fun k a b => bif KY b 0 then none else some (.int k (a.tmod b))
 | .and => fun k a b => some (.int k (k.wrap ((XiJ k.bits a &&& XiJ k.bits b).toNat)))
 | .or => fun k a b => some (.int k (k.wrap ((XiJ k.bits a ||| XiJ k.bits b).toNat)))
 | .xor => fun k a b => some (.int k (k.wrap ((XiJ k.bits a ^^^ XiJ k.bits b).toNat)))
 | .andNot => fun k a b => some (.int k (k.wrap ((XiJ k.bits a &&& ~~~ (XiJ k.bits b)).toNat)))
 | .lss => fun _ a b => some (.bool (XdH a b))
 | .leq => fun _ a b => some (.bool (!XdH b a))
 | .gtr => fun _ a b => some (.bool (XdH b a))
 | .geq => fun _ a b => some (.bool (!XdH a b))
 | _ => fun _ _ _ => none
def binStr (op : BinOp) : List UInt8 -> List UInt8 -> Option Value :=
 match op with
 | .add => fun x y => bif Xiv (x.length + y.length) 9223372036854775807 then some (.string ⟨⟨x ++ y⟩⟩) else none
 | .lss => fun x y => some (.bool (Xem x y))
 | .leq => fun x y => some (.bool (Xem x y || Z4 x y))
 | .gtr => fun x y => some (.bool !(Xem x y || Z4 x y))
 | .geq => fun x y => some (.bool !(Xem x y))
 | _ => fun _ _ => none
def shiftV (op : BinOp) : IntKind -> Int -> Int -> Option Value :=
 match op with
 | .shl => fun k a b => bif XdH b 0 then none else some (.int k (k.wrap (a * 2 ^ (min b.toNat k.bits))))
 | .shr => fun k a b => bif XdH b 0 then none else some (.int k (a.fdiv (2 ^ (min b.toNat k.bits))))
 | _ => fun _ _ _ => none
def BinOp.isShift : BinOp -> Bool
 | .shl | .shr => true
 | _ => false
def binV (op : BinOp) : Value -> Value -> Option Value
 | .int k a, .int k' b => bif BinOp.isShift op then shiftV op k a b else bif XL k k' then binInt op k a b else none
 | .string a, .string b => binStr op (bytes a) (bytes b)
 | _, _ => none
def unV (op : UnOp) : Value -> Option Value
 | .int k n => match op with
  | .neg => some (.int k (k.wrap (0 - n)))
  | .xor => some (.int k (k.wrap ((XiJ k.bits (if k.signed then -1 else k.max) ^^^ XiJ k.bits n).toNat)))
  | _ => none
 | .bool b => match op with
  | .not => some (.bool !b)
  | _ => none
 | _ => none
def max2 : Value -> Value -> Option Value
 | .int k x, .int _ y => some (.int k (bif XdH x y then y else x))
 | .string x, .string y => some (.string (bif Xem (bytes x) (bytes y) then y else x))
 | _, _ => none
def min2 : Value -> Value -> Option Value
 | .int k x, .int _ y => some (.int k (bif XdH y x then y else x))
 | .string x, .string y => some (.string (bif Xem (bytes x) (bytes y) || Z4 (bytes x) (bytes y) then x else y))
 | _, _ => none
def foldV (f : Value -> Value -> Option Value) : Value -> List Value -> Option Value
 | v, [] => some v
 | v, x :: xs => match f v x with
  | some r => foldV f r xs
  | none => none
def Heap.load (h : Heap) (b off n : Nat) : Option (List Value) :=
 match h.get b with
 | some (.cells _ c) => XV n (XZ off c)
 | _ => none
def Heap.load1 (h : Heap) (b off : Nat) : Option Value :=
 match h.get b with
 | some (.cells _ c) => nth off c
 | _ => none
def Heap.store (h : Heap) (b off n : Nat) (ys : List Value) : Option Heap :=      -- n: how many ys are
 match h.get b with
 | some (.cells true c) => bif Xiv (Xiy off n) (WJ c) then some (h.put b (some (.cells true (X1 ys off c)))) else none
 | _ => none
def byteVal (b : UInt8) : Value := .int .u8 b.toNat
def Xa (xs : List UInt8) : List Value := XiA (motive := fun _ => List Value) [] (fun x _ ih => byteVal x :: ih) xs
def Heap.elems (h : Heap) (size n : Nat) : Value -> Option (List Value)
 | .slice (some a) _ _ => h.load a.block a.off (XiE n size)
 | .slice none _ _ => bif Xik n 0 then some [] else none
 | .string s => bif Xik size 1 then XV n (Xa (bytes s)) else none
 | _ => none
def lenV : Value -> Option Nat
 | .slice _ n _ => some n
 | .string s => some (bytes s).length
 | _ => none
def Vi (size : Nat) : Option Nat := some size
def Heap.appendL (h : Heap) (size : Nat) (s : Value) (n : Nat) (new : List Value) : Option (Value × Heap) :=
 match s with
 | .slice none 0 0 => match n with
  | 0 => some (.slice none 0 0, h)
  | n + 1 => bif Xis n 100000000 then some (.slice (some ⟨h.next, 0, Vi size⟩) (n + 1) (n + 1), h.push (.cells true new)) else none
 | .slice (some a) len cap =>
  match h.load a.block a.off (XiE len size) with
  | some old =>
   bif !(Xis (Xiy len n) 100000000) then none else
   bif Xiv (Xiy len n) cap then
    bif Xik n 0 then some (.slice (some a) len cap, h)
    else match h.store a.block (Xiy a.off (XiE len size)) (XiE n size) new with
    | some h' => some (.slice (some a) (Xiy len n) cap, h')
    | none => none
   else match a.spot with
    | none => some (.slice (some ⟨h.next, 0, Vi size⟩) (Xiy len n) (Xiy len n), h.push (.cells true (app old new)))
    | some sz =>
     bif Xik cap 0 || !(Xik sz size) then none else
     match h.get a.block with
     | some (.cells true _) => some (.slice (some ⟨h.next, 0, Vi size⟩) (Xiy len n) (Xiy len n), (h.put a.block none).push (.cells true (app old new)))
     | _ => none
  | none => none
 | _ => none
def Heap.append (h : Heap) (size : Nat) (s x : Value) : Option (Value × Heap) :=
 match lenV x with
 | some n => match h.elems size n x with
  | some new => h.appendL size s n new
  | none => none
 | none => none
def bytesOf : List Value -> Option (List UInt8)
 | [] => some []
 | .int .u8 n :: rest => match bytesOf rest with
  | some r => some (UInt8.ofNat n.toNat :: r)
  | none => none
 | _ => none
def KK (sh : KSh) (k : Value) (es : List (Value × Value)) : Option (Option Value) :=     -- none: it can't be told
 XiA (motive := fun _ => Option (Option Value)) (some none)
  (fun e _ ih => match KJ sh k e.1 with
   | some true => some (some e.2)
   | some false => ih
   | none => none) es
def Xbt (k v : Value) (eq : Value -> Value -> Option Bool) : List (Value × Value) -> Option (List (Value × Value))
 | [] => some [(k, v)]
 | (k', v') :: rest => match eq k k' with
  | some true => some ((k, v) :: rest)
  | some false => match Xbt k v eq rest with
   | some r => some ((k', v') :: r)
   | none => none
  | none => none
def Xe9 (k : Value) (eq : Value -> Value -> Option Bool) : List (Value × Value) -> Option (List (Value × Value))
 | [] => some []
 | (k', v') :: rest => match eq k k' with
  | some true => some rest
  | some false => match Xe9 k eq rest with
   | some r => some ((k', v') :: r)
   | none => none
  | none => none
def Xdk (size : Nat) (a : Option Addr) (cap l h m : Nat) (mx : Bool) : Option Value :=
 bif Xiv l h && Xiv h m && Xiv m cap then
  match a with
  | none => some (.slice none (Nat.sub h l) (Nat.sub m l))
  | some a =>
   bif Xik m l then some (.slice (some a) 0 0)
   else bif mx then some (.slice (some ⟨a.block, Xiy a.off (XiE l size), none⟩) (Nat.sub h l) (Nat.sub m l))
   else match a.spot with
    | none => some (.slice (some ⟨a.block, Xiy a.off (XiE l size), none⟩) (Nat.sub h l) (Nat.sub m l))
    | some z => bif Xik z size then some (.slice (some ⟨a.block, Xiy a.off (XiE l size), some z⟩) (Nat.sub h l) (Nat.sub m l)) else none
 else none
abbrev Zh := Tm -> Heap -> Option Value
def Uf (x : Xd) : Zh := fun t _ => some (x t)
def Yx (op : BinOp) (x y : Xd) : Zh := fun t _ => binV op (x t) (y t)
def UE (op : UnOp) (x : Xd) : Zh := fun t _ => unV op (x t)
def Xfa (ty : Nat) (x : Xd) : Zh := fun t _ => some (.iface ty (x t))
def lkLenC (n : Nat) : Zh := fun _ _ => some (.int .i64 (.ofNat n))
def lkMax (x : Xd) (xs : List Xd) : Zh := fun t _ => foldV max2 (x t) (KX t xs)
def lkMin (x : Xd) (xs : List Xd) : Zh := fun t _ => foldV min2 (x t) (KX t xs)
def XdJ (c a b : Xd) : Zh := fun t _ => Yu none (fun c => XiL (motive := fun _ => Option Value) (some (b t)) (some (a t)) c) (asBool (c t))
def XE (z : List Value) (ps : List (Nat × Nat × Xd)) : Zh := fun t _ => Yu none (fun cs => some (.agg ⟨cs⟩)) (YE t ps z)
def Xdl (a : Xd) : Zh := fun t h => Yu none (fun p => h.load1 p.block p.off) (XcG (a t))
def Xen (n : Nat) (a : Xd) : Zh := fun t h => Yu none (fun p => Yu none (fun cs => some (.agg ⟨cs⟩)) (h.load p.block p.off n)) (XcG (a t))
def XcB (neg : Bool) (p : Pred) (x y : Xd) : Zh := fun t _ => Yu none (fun b => some (.bool (bif neg then !b else b))) (predEq p (x t) (y t))
def Yh (k : IntKind) (x : Xd) : Zh := fun t _ => match x t with
 | .int _ n => some (.int k (k.wrap n))
 | _ => none
def Wh (x : Xd) : Zh := fun t h => match x t with
 | .slice none _ _ => some (.string ⟨⟨[]⟩⟩)
 | .slice (some a) n _ => match h.load a.block a.off n with
  | some cs => match bytesOf cs with
   | some bs => some (.string ⟨⟨bs⟩⟩)
   | none => none
  | none => none
 | _ => none
def UH (fn : Fn) (fs cs : List Xd) : Zh := fun t _ => some (.func fn ⟨KX t fs⟩ ⟨KX t cs⟩)
def Y7 (t : Tm) (d : Nat) (o : Option Xd) : Option Nat := Yu (some d) (fun x => WO (x t)) o
def lkSliceStr (x : Xd) (lo hi : Option Xd) : Zh := fun t _ => Yu none (fun s =>
 match Y7 t 0 lo, Y7 t s.length hi with
  | some l, some h => bif Xiv l h && Xiv h s.length then some (.string ⟨⟨(s.drop l).take (h - l)⟩⟩) else none
  | _, _ => none) (asStr (x t))
def XQ (size : Nat) (x : Xd) (lo hi mx : Option Xd) : Zh := fun t _ => match x t with
 | .slice a len cap => match Y7 t 0 lo, Y7 t len hi, Y7 t cap mx with
  | some l, some h, some m => bif mx.isSome && hi.isNone then none else Xdk size a cap l h m mx.isSome
  | _, _, _ => none
 | _ => none
def Y8 (n size : Nat) (x : Xd) (lo hi mx : Option Xd) : Zh := fun t _ => Yu none (fun a =>
 match Y7 t 0 lo, Y7 t n hi, Y7 t n mx with
  | some l, some h, some m => bif mx.isSome && hi.isNone then none else Xdk size (some ⟨a.block, a.off, none⟩) n l h m mx.isSome
  | _, _, _ => none) (XcG (x t))
def lkToArr (n : Nat) (x : Xd) : Zh := fun t _ => match x t with
 | .slice (some a) len _ => bif Xis len n || Xik n 0 then none else some (.pointer (some ⟨a.block, a.off, none⟩))
 | _ => none
def Wd (off : Nat) (x : Xd) : Zh := fun t _ => Yu none (fun a => some (.pointer (some ⟨a.block, Xiy a.off off, none⟩))) (XcG (x t))
def lkField1 (off : Nat) (x : Xd) : Zh := fun t _ => Yu none (fun cs => nth off cs) (Xe8 (x t))
def lkFieldN (off n : Nat) (x : Xd) : Zh := fun t _ => Yu none (fun cs => Yu none (fun c => some (.agg ⟨c⟩)) (XV n (XZ off cs))) (Xe8 (x t))
def XeV (size : Nat) (x i : Xd) : Zh := fun t _ => match x t with
 | .slice (some a) len _ => Yu none (fun i => bif Xis i len then some (.pointer (some ⟨a.block, Xiy a.off (XiE i size), none⟩)) else none) (WO (i t))
 | _ => none
def Yz (n size : Nat) (x i : Xd) : Zh := fun t _ => Yu none (fun a =>
 Yu none (fun i => bif Xis i n then some (.pointer (some ⟨a.block, Xiy a.off (XiE i size), none⟩)) else none) (WO (i t))) (XcG (x t))
def lkIxStr (x i : Xd) : Zh := fun t _ => Yu none (fun s => Yu none (fun i => Yu none (fun b => some (byteVal b)) s[i]?) (WO (i t))) (asStr (x t))
def XdK (n : Nat) (x i : Xd) : Zh := fun t _ => Yu none (fun cs => Yu none (fun i => bif Xis i n then nth i cs else none) (WO (i t))) (Xe8 (x t))
def lkIxValN (n esz : Nat) (x i : Xd) : Zh := fun t _ => Yu none (fun cs => Yu none (fun i => bif Xis i n then
 Yu none (fun c => some (.agg ⟨c⟩)) (XV esz (XZ (XiE i esz) cs)) else none) (WO (i t))) (Xe8 (x t))
def KZ (zero : Value) (ok : Bool) (r : Option Value) : Value := match r with
 | some v => bif ok then .tuple ⟨[v, .bool true]⟩ else v
 | none => bif ok then .tuple ⟨[zero, .bool false]⟩ else zero
def VB (sh : KSh) (zero : Value) (ok : Bool) (x i : Xd) : Zh := fun t h => bif !(Wy sh (i t)) then none else match x t with
 | .map none => some (KZ zero ok none)
 | .map (some r) => match h.get r with
  | some (.map sh' _ es) => bif !(XdI sh sh') then none else Yu none (fun v => some (KZ zero ok v)) (KK sh (i t) es)
  | _ => none
 | _ => none
def Xfb (ty : Nat) (zero : Value) (ok : Bool) (x : Xd) : Zh := fun t _ => match x t with
 | .nilIface => bif ok then some (KZ zero true none) else none
 | .iface u v => bif Xik u ty then some (KZ zero ok (some v)) else bif ok then some (KZ zero true none) else none
 | _ => none
def lkAssertI (types : Nat) (fits : List Nat) (zero : Value) (ok : Bool) (x : Xd) : Zh := fun t _ => match x t with
 | .nilIface => bif ok then some (KZ zero true none) else none
 | .iface u v => bif !(Xis u types) then none else bif fits.contains u then some (KZ zero ok (some (.iface u v))) else bif ok then some (KZ zero true none) else none
 | _ => none
def Jj (i : Nat) (x : Xd) : Zh := fun t _ => nth i (asTuple (x t))
def Xfc (k : LenK) (x : Xd) : Zh := match k with
 | .sl => fun t h => match x t with
  | .slice _ n _ => some (.int .i64 (.ofNat n))
  | _ => none
 | .str => fun t h => match x t with
  | .string s => some (.int .i64 (.ofNat (bytes s).length))
  | _ => none
 | .map => fun t h => match x t with
  | .map none => some (.int .i64 (.ofNat 0))
  | .map (some r) => match h.get r with
   | some (.map _ _ es) => some (.int .i64 (.ofNat es.length))
   | _ => none
  | _ => none
def lkStr (x : Xd) : Zh := fun t _ => match x t with
 | .string s => some (.string s)
 | _ => none
def lkCap (x : Xd) : Zh := fun t _ => match x t with
 | .slice (some ⟨_, _, none⟩) _ c => some (.int .i64 (.ofNat c))
 | .slice none _ c => some (.int .i64 (.ofNat c))
 | _ => none
def lkEntry (it : Xd) : Zh := fun t h => match it t with
 | .pointer (some ⟨r, 0, _⟩) => match h.get r with
  | some (.miter (some m) ver _ (some e)) => match h.get m with
   | some (.map _ ver' _) => bif Xik ver ver' then some (.tuple ⟨[e.1, e.2]⟩) else none
   | _ => none
  | _ => none
 | _ => none
abbrev Jk := Tm -> Heap -> Option (Value × Heap)
def newPtr (h : Heap) (cs : List Value) : Option (Value × Heap) := some (.pointer (some ⟨h.next, 0, none⟩), h.push (.cells true cs))
def Xeo (z : List Value) : Jk := fun _ h => newPtr h z
def Yy (x : Xd) : Jk := fun t h => Yu none (newPtr h) (cellsOf (x t))
def Xp (z : List Value) (ps : List (Nat × Nat × Xd)) (n : Nat) : Jk := fun t h => match YE t ps z with
 | some cs => some (.slice (some ⟨h.next, 0, none⟩) n n, h.push (.cells true cs))
 | none => none
def Xdm (n : Nat) (a x : Xd) : Jk := fun t h => Yu none (fun p => Yu none (fun ys =>
  bif Xik (WJ ys) n then Yu none (fun h' => some (undef, h')) (h.store p.block p.off n ys) else none) (cellsOf (x t))) (XcG (a t))
def KL (x : Xd) : Jk := fun t h => match x t with
 | .string s => some (.slice (some ⟨h.next, 0, Vi 1⟩) (bytes s).length (bytes s).length, h.push (.cells true (Xa (bytes s))))
 | _ => none
def tnStamp (x : Xd) : Jk := fun t h => match x t with
 | .slice (some a) n c => bif Xis 0 n then (match h.get a.block with
  | some (.cells true xs) => bif Xis 0 (WJ xs) then some (.slice (some a) n c, h) else none
  | _ => none) else none
 | _ => none
def Xdn (sh : KSh) : Jk := fun _ h => some (.map (some h.next), h.push (.map sh 0 []))
def Xa4 (z : List Value) (l c : Xd) : Jk := fun t h => match WO (l t), WO (c t) with
 | some l, some c => bif Xiv l c && Xis c 1000000 then some (.slice (some ⟨h.next, 0, none⟩) l c, h.push (.cells true (rep z c))) else none
 | _, _ => none
def WP (sh : KSh) (m k x : Xd) : Jk := fun t h => bif !(Wy sh (k t)) then none else match m t with
 | .map (some r) => match h.get r with
  | some (.map sh' ver es) => bif !(XdI sh sh') then none else match Xbt (k t) (x t) (KJ sh) es with
   | some es' => some (undef, h.put r (some (.map sh' (XiU ver) es')))
   | none => none
  | _ => none
 | _ => none
def UI (x : Xd) : Jk := fun t h => match x t with
 | .map none => some (.pointer (some ⟨h.next, 0, none⟩), h.push (.miter none 0 [] none))
 | .map (some r) => match h.get r with
  | some (.map _ ver es) => some (.pointer (some ⟨h.next, 0, none⟩), h.push (.miter (some r) ver es none))
  | _ => none
 | _ => none
def tnRangeStr (x : Xd) : Jk := fun t h => match x t with
 | .string s => some (.pointer (some ⟨h.next, 0, none⟩), h.push (.siter s 0))
 | _ => none
def XA (size : Nat) (s x : Xd) : Jk := fun t h => h.append size (s t) (x t)
def Uc (z : List Value) (s x : Xd) : Jk := fun t h => match WO (x t) with
 | some n => bif Xis n 1000000 then h.appendL (WJ z) (s t) n (rep z n) else none
 | none => none
def JW (size : Nat) (d s : Xd) : Jk := fun t h => match d t with
 | .slice none 0 _ => match lenV (s t) with
  | some _ => some (.int .i64 (.ofNat 0), h)
  | none => none
 | .slice (some a) dl _ => match lenV (s t) with
  | some sl =>
   match h.elems size (bif Xiv sl dl then sl else dl) (s t) with
   | some cs => bif Xik (bif Xiv sl dl then sl else dl) 0 then some (.int .i64 (.ofNat 0), h) else (match h.store a.block a.off (XiE (bif Xiv sl dl then sl else dl) size) cs with
    | some h' => some (.int .i64 (.ofNat (bif Xiv sl dl then sl else dl)), h')
    | none => none)
   | none => none
  | none => none
 | _ => none
def Xbu (sh : KSh) (m k : Xd) : Jk := fun t h => bif !(Wy sh (k t)) then none else match m t with
 | .map none => some (.tuple ⟨[]⟩, h)
 | .map (some r) => match h.get r with
  | some (.map sh' ver es) => bif !(XdI sh sh') then none else match Xe9 (k t) (KJ sh) es with
   | some es' => some (.tuple ⟨[]⟩, h.put r (some (.map sh' (XiU ver) es')))
   | none => none
  | _ => none
 | _ => none
def Xep (z : List Value) (x : Xd) : Jk := fun t h => match x t with
 | .map none => some (.tuple ⟨[]⟩, h)
 | .slice none _ _ => some (.tuple ⟨[]⟩, h)
 | .slice (some a) n _ => bif Xik n 0 then some (.tuple ⟨[]⟩, h) else bif Xik (WJ z) 0 then none else (match h.store a.block a.off (XiE n (WJ z)) (rep z n) with
  | some h' => some (.tuple ⟨[]⟩, h')
  | none => none)
 | .map (some r) => match h.get r with
  | some (.map sh ver _) => some (.tuple ⟨[]⟩, h.put r (some (.map sh (XiU ver) [])))
  | _ => none
 | _ => none
def Xfd (it : Xd) : Jk := fun t h => match it t with
 | .pointer (some ⟨r, 0, _⟩) => match h.get r with
  | some (.siter s pos) =>
   if pos < s.size then some (.tuple ⟨[.bool true, .int .i64 pos, .int .i32 (Utf8.decode s pos).1]⟩, h.put r (some (.siter s (pos + (Utf8.decode s pos).2))))
   else some (.tuple ⟨[.bool false]⟩, h)
  | _ => none
 | _ => none
def Xfe {α : Type} : List α -> Nat -> List α
 | [], _ => []
 | _ :: xs, 0 => xs
 | x :: xs, n + 1 => x :: Xfe xs n
def nextMap (h : Heap) (it : Value) : Option (Nat × (Nat -> Option (Value × Heap))) :=
 match it with
 | .pointer (some ⟨r, 0, _⟩) => match h.get r with
  | some (.miter none _ _ _) => some (0, fun _ => some (.tuple ⟨[.bool false]⟩, h))
  | some (.miter (some m) ver left _) => match h.get m with
   | some (.map _ ver' _) =>
    bif Xik ver ver' then
     match left with
     | [] => some (0, fun _ => some (.tuple ⟨[.bool false]⟩, h))
     | [e] => some (0, fun _ => some (.tuple ⟨[.bool true, e.1, e.2]⟩, h.put r (some (.miter (some m) ver [] (some e)))))
     | _ => some (left.length, fun i => match left[i]? with
      | some e => some (.tuple ⟨[.bool true, e.1, e.2]⟩, h.put r (some (.miter (some m) ver (Xfe left i) (some e))))
      | none => none)
    else none
   | _ => none
  | _ => none
 | _ => none
def Er.toRz (r : Er) (ret : Value -> Heap -> Rz) (panic : List (Value × Bool) -> Heap -> Rz) : Rz :=
 Er.rec (motive := fun _ => Rz) ret panic (fun s => .fail s) (fun n _ ih => .any n ih) r
def Rz.toEr (r : Rz) (leave : Tm -> Aux -> Heap -> Er) (panic : Value -> List Nat -> Tm -> Aux -> Heap -> Er) (exit : Nat -> Tm -> Aux -> Heap -> Er) (ret : Tm -> Aux -> Heap -> Er) : Er :=
 Rz.rec (motive := fun _ => Er) leave exit ret panic (fun _ _ _ => .fail "got") (fun s => .fail s) (fun n _ ih => .any n ih) r
def Rz.then (r : Rz) (k : Tm -> Aux -> Heap -> Rz) : Rz :=
 Rz.rec (motive := fun _ => Rz) k (fun id t x h => .exit id t x h) (fun t x h => .ret t x h) (fun v l t x h => .panic v l t x h) (fun v x h => .got v x h) (fun s => .fail s) (fun n _ ih => .any n ih) r
def Rz.onExit (r : Rz) (id : Nat) : Rz :=
 Rz.rec (motive := fun _ => Rz) (fun t x h => .norm t x h) (fun id' t x h => XiL (motive := fun _ => Rz) (.exit id' t x h) (.norm t x h) (Xik id' id)) (fun t x h => .ret t x h) (fun v l t x h => .panic v l t x h)
  (fun v x h => .got v x h) (fun s => .fail s) (fun n _ ih => .any n ih) r
structure Ctx where
 call : Value -> List Value -> Heap -> Er
 inv : Value -> String -> List Value -> Heap -> Er
 nilOk : Nat -> String -> Bool
 fuel : Nat
abbrev KB := Ctx -> Tm -> Aux -> Heap -> Rz
abbrev Cont := Value -> Aux -> Heap -> Rz
abbrev ExF := Ctx -> Tm -> Aux -> Heap -> Cont -> Rz
def Zi (l : Zh) : ExF := fun _ t x h k => Option.rec (motive := fun _ => Rz) (.fail "look") (fun v => k v x h) (l t h)
def Yl (l : Jk) : ExF := fun _ t x h k => Option.rec (motive := fun _ => Rz) (.fail "turn") (fun r => k r.1 x r.2) (l t h)
def Xhp (a : Xd) : ExF := fun _ t x h k => k (a t) x h
def WK (r : Er) (t : Tm) (x : Aux) (k : Cont) : Rz :=
 r.toRz (fun v h => k v x h) (fun chain h => match chain with
  | [(v, false)] => .panic v [] t x h
  | _ => .fail "a panic of many")
def xCall (f : Xd) (args : List Xd) : ExF := fun c t x h k => WK (c.call (f t) (KX t args) h) t x k
def xInvoke (o : Xd) (name : String) (args : List Xd) : ExF := fun c t x h k => WK (c.inv (o t) name (KX t args) h) t x k
def JX (o : Xd) : ExF := fun _ t x h _ => match o t with
 | .iface ty v => .panic (.iface ty v) [] t x h
 | _ => .fail "panic: nil"
def WQ : ExF := fun _ _ x h k => match x.round with
 | some _ => .fail "recover in a round"
 | none => match x.rc with
  | some (.panicking ((v, false) :: older)) => k v ⟨x.defers, none, some (.panicking ((v, true) :: older))⟩ h
  | _ => k .nilIface x h
def WL (f : Xd) (args : List Xd) : ExF := fun _ t x h k => match x.round with
 | none => match f t with
  | .func fn a b => k undef ⟨.call (.func fn a b) (KX t args) :: x.defers, none, x.rc⟩ h
  | _ => .fail "defer"
 | some _ => .fail "defer in a round"
def XI (o : Xd) : ExF := fun c t x h k => match o t with
 | .pointer (some a) => k (.pointer (some a)) x h
 | .func (.func f) first captured => k (.func (.func f) first captured) x h
 | .func (.method name) first captured => match first.toList with
  | .iface ty v :: _ => bif c.nilOk ty name then k (.func (.method name) first captured) x h else .fail "nilCheck: method"
  | _ => .fail "nilCheck: method"
 | .iface ty v => k (.iface ty v) x h
 | _ => .fail "nilCheck"
def Y9 (it : Xd) : ExF := fun _ t x h k => match nextMap h (it t) with
 | some (0, f) => match f 0 with
  | some (v, h') => k v x h'
  | none => .fail "next"
 | some (n + 1, f) => .any (n + 1) fun i => match f i with
  | some (v, h') => k v x h'
  | none => .fail "next"
 | none => .fail "next"
def xBad (why : String) : ExF := fun _ _ _ _ _ => .fail why
def oEnd : KB := fun _ t x h => .norm t x h
def YR (ex : ExF) (p : Value -> Tm -> Tm) (rest : KB) : KB := fun c t x h => ex c t x h fun v x h => rest c (p v t) x h
def oDo (ex : ExF) (rest : KB) : KB := fun c t x h => ex c t x h fun _ x h => rest c t x h
def XcC (want : Tm -> Bool) (ex : ExF) (p : Value -> Tm -> Tm) (rest : KB) : KB := fun c t x h =>
 XiL (motive := fun _ => Rz) (rest c (p undef t) x h) (ex c t x h fun v x h => rest c (p v t) x h) (want t)
def oDoIf (want : Tm -> Bool) (ex : ExF) (rest : KB) : KB := fun c t x h =>
 XiL (motive := fun _ => Rz) (rest c t x h) (ex c t x h fun _ x h => rest c t x h) (want t)
inductive K0 where
 | ld (again : Heap -> Bool)
 | wr (before : Heap)
def YZ (i : Nat) : List (Nat × K0) -> Option K0
 | [] => none
 | (j, e) :: rest => bif Xik i j then some e else YZ i rest
def sameV : Nat -> Value -> Value -> Bool
 | _, .bool a, .bool b => a == b
 | _, .int j a, .int k b => XL j k && KY a b
 | _, .string a, .string b => a == b
 | _, .pointer a, .pointer b => a == b
 | _, .slice a n c, .slice b m d => a == b && Xik n m && Xik c d
 | _, .map a, .map b => a == b
 | _, .nilFunc, .nilFunc => true
 | _, .nilIface, .nilIface => true
 | _, .chan none, .chan none => true
 | n + 1, .iface t v, .iface u w => Xik t u && sameV n v w
 | n + 1, .agg a, .agg b => all (sameV n) a.toList b.toList
 | n + 1, .tuple a, .tuple b => all (sameV n) a.toList b.toList
 | n + 1, .func f a b, .func g c d => f == g && all (sameV n) a.toList c.toList && all (sameV n) b.toList d.toList
 | _, _, _ => false
where
 all (f : Value -> Value -> Bool) : List Value -> List Value -> Bool
  | [], [] => true
  | x :: xs, y :: ys => f x y && all f xs ys
  | _, _ => false
def WR (l : Option Value) (v : Value) : Bool := Yu false (fun v' => sameV 20 v v') l
def K1 (log : List (Nat × K0)) (l : Zh) (t : Tm) (v : Value) (un : List Nat) : Bool :=
 XiA (motive := fun _ => Bool) true
  (fun i _ ih => (match YZ i log with
   | none => true           -- it was not wanted
   | some (.wr before) => WR (l t before) v
   | some (.ld _) => false) && ih) un
def ZL (log : List (Nat × K0)) (now : Heap) (un : List Nat) : Bool :=
 XiA (motive := fun _ => Bool) true
  (fun i _ ih => (match YZ i log with
   | none => true
   | some (.wr _) => false
   | some (.ld again) => again now) && ih) un
abbrev Dead := Option (Nat × Value)
abbrev KD := List (Nat × K0) -> Dead -> KB
def Z5 (pre : List Nat) : Dead -> Bool
 | none => false
 | some (j, _) => pre.contains j
def dEnd (lost : List Nat) : KD := fun _ d _ t x h => match d with
 | none => .norm t x h
 | some (_, v) => .panic v lost t x h
def YY (idx : Nat) (un pre : List Nat) (l : Zh) (p : Value -> Tm -> Tm) (rest : KD) : KD := fun log d c t x h =>
 bif Z5 pre d then rest log d c t x h else
 match l t h with
 | some v => bif K1 log l t v un then rest ((idx, .ld fun now => WR (l t now) v) :: log) d c (p v t) x h else .fail "a look beside a writer"
 | none => .fail "look"
def XaL (idx : Nat) (un pre : List Nat) (writer : Bool) (ex : ExF) (p : Value -> Tm -> Tm) (rest : KD) : KD := fun log d c t x h =>
 bif Z5 pre d then rest log d c t x h else
 bif writer && d.isSome then .fail "a writer beside a panic" else
 match ex c t x h fun v x h => .got v x h with
 | .got v x' h' => bif ZL log h' un then rest ((idx, .wr h) :: log) d c (p v t) x' h' else .fail "a writer beside a look"
 | .panic v _ _ x' h' => match d with
  | none => bif ZL log h' un then rest ((idx, .wr h) :: log) (some (idx, v)) c t x' h' else .fail "a writer beside a look"
  | some _ => .fail "two panics"
 | .fail s => .fail s
 | _ => .fail "a choice in a drawn region"
def dIf (pre : List Nat) (want : Tm -> Bool) (p : Value -> Tm -> Tm) (yes rest : KD) : KD := fun log d c t x h =>
 bif Z5 pre d then rest log d c t x h else XiL (motive := fun _ => Rz) (rest log d c (p undef t) x h) (yes log d c t x h) (want t)
def kSkip : KB := fun _ t x h => .norm t x h
def kRet : KB := fun _ t x h => .ret t x h
def kExit (id : Nat) : KB := fun _ t x h => .exit id t x h
def kBad (why : String) : KB := fun _ _ _ _ => .fail why
def Ya (d : KD) : KB := d [] none
def kCond (g : Xd) (a b : KB) : KB := fun c t x h => Yu (.fail "cond") (fun g => XiL (motive := fun _ => Rz) (b c t x h) (a c t x h) g) (asBool (g t))
def kSeq (a b : KB) : KB := fun c t x h => (a c t x h).then (b c)
def kBlock (id : Nat) (a : KB) : KB := fun c t x h => (a c t x h).onExit id
def kLoop (a : KB) : KB := fun c => Xje (motive := fun _ => Tm -> Aux -> Heap -> Rz) (fun _ _ _ => .fail "rounds") (fun _ ih t x h => (a c t x h).then ih) c.fuel
def ALoop.with (r : ALoop) (s : LState) (j : Option Jump) : ALoop := ⟨s, j, r.tmps, r.params, r.assign, r.body⟩
def kRangeAt (f : Xd) (params : List Nat) (assign body : CCode) : KB := fun c t x h =>
 (c.call (f t) [.func (.yield h.next) ⟨[]⟩ ⟨[]⟩] (h.push (.loop ⟨.ready, none, t, params, assign, body⟩))).toRz
  (fun _ h' => match h'.get h.next with
   | some (.loop r) => match r.state with
    | .busy => .fail "range over a function: busy"
    | _ => match r.pending with
     | none => .norm t x (h'.put h.next (some (.loop (r.with .exhausted r.pending))))
     | some .ret => .ret t x (h'.put h.next (some (.loop (r.with .exhausted r.pending))))
     | some (.exit id) => .exit id t x (h'.put h.next (some (.loop (r.with .exhausted r.pending))))
   | _ => .fail "range over a function: no loop")
  (fun chain h' => match chain with
   | [(v, false)] => .panic v [] t x h'
   | _ => .fail "a panic of many")
def kRange (f : Xd) (params : List Nat) (assign body : CCode) : KB := fun c t x h => match x.round with
 | none => kRangeAt f params assign body c t ⟨.mark h.next :: x.defers, none, x.rc⟩ (h.push .mark)
 | some l => match h.get l with
  | some (.loop _) => kRangeAt f params assign body c t x h
  | _ => .fail "range over a function: no loop around"
def opds (xs : List Opd) : List Xd := XiA (motive := fun _ => List Xd) [] (fun x _ ih => Opd.val x :: ih) xs
def XdL : Option Opd -> Option Xd
 | none => none
 | some x => some x.val
def K2 (ps : List Part) : List (Nat × Nat × Xd) := XiA (motive := fun _ => List (Nat × Nat × Xd)) [] (fun p _ ih => (p.off, p.size, p.x.val) :: ih) ps
def YL : COp -> Option Zh
 | .move x => some (Uf x.val)
 | .pick c a b => some (XdJ c.val a.val b.val)
 | .build z ps => some (XE z (K2 ps))
 | .load1 a => some (Xdl a.val)
 | .loadN n a => some (Xen n a.val)
 | .bin op x y => some (Yx op x.val y.val)
 | .eq neg p x y => some (XcB neg p x.val y.val)
 | .un op x => some (UE op x.val)
 | .intTo k x => some (Yh k x.val)
 | .str x => some (lkStr x.val)
 | .bytesTo x => some (Wh x.val)
 | .mkIface ty x => some (Xfa ty x.val)
 | .mkFunc fn fs cs => some (UH fn (opds fs) (opds cs))
 | .sliceStr x lo hi => some (lkSliceStr x.val (XdL lo) (XdL hi))
 | .sliceSl size x lo hi mx => some (XQ size x.val (XdL lo) (XdL hi) (XdL mx))
 | .sliceArr n size x lo hi mx => some (Y8 n size x.val (XdL lo) (XdL hi) (XdL mx))
 | .toArr n x => some (lkToArr n x.val)
 | .fieldAddr off x => some (Wd off x.val)
 | .field off none x => some (lkField1 off x.val)
 | .field off (some n) x => some (lkFieldN off n x.val)
 | .ixSl size x i => some (XeV size x.val i.val)
 | .ixArr n size x i => some (Yz n size x.val i.val)
 | .ixStr x i => some (lkIxStr x.val i.val)
 | .ixVal n _ false x i => some (XdK n x.val i.val)
 | .ixVal n esz true x i => some (lkIxValN n esz x.val i.val)
 | .lookup sh zero ok x i => some (VB sh zero ok x.val i.val)
 | .assertT ty zero ok x => some (Xfb ty zero ok x.val)
 | .assertI n fits zero ok x => some (lkAssertI n fits zero ok x.val)
 | .extract i x => some (Jj i x.val)
 | .len k x => some (Xfc k x.val)
 | .lenC n => some (lkLenC n)
 | .cap x => some (lkCap x.val)
 | .max x xs => some (lkMax x.val (opds xs))
 | .min x xs => some (lkMin x.val (opds xs))
 | .entry it => some (lkEntry it.val)
 | _ => none
def Zq : COp -> ExF
 | .alloc z => Yl (Xeo z)
 | .box x => Yl (Yy x.val)
 | .buildSlice z ps n => Yl (Xp z (K2 ps) n)
 | .store n a x => Yl (Xdm n a.val x.val)
 | .toBytes x => Yl (KL x.val)
 | .stamp x => Yl (tnStamp x.val)
 | .mkMap sh => Yl (Xdn sh)
 | .mkSlice z l c => Yl (Xa4 z l.val c.val)
 | .mapUpdate sh m k x => Yl (WP sh m.val k.val x.val)
 | .rangeMap x => Yl (UI x.val)
 | .rangeStr x => Yl (tnRangeStr x.val)
 | .nextStr it => Yl (Xfd it.val)
 | .append size s x => Yl (XA size s.val x.val)
 | .appendZ z s x => Yl (Uc z s.val x.val)
 | .copy size d s => Yl (JW size d.val s.val)
 | .delete sh m k => Yl (Xbu sh m.val k.val)
 | .clear z x => Yl (Xep z x.val)
 | .nilCheck x => XI x.val
 | .call f args => xCall f.val (opds args)
 | .invoke x name args => xInvoke x.val name (opds args)
 | .panic x => JX x.val
 | .recover => WQ
 | .defer f args => WL f.val (opds args)
 | .nextMap it => Y9 it.val
 | .bad why => xBad why
 | _ => xBad "look"
def exOf (o : COp) : ExF := match o with
 | .move x => Xhp x.val
 | o => match YL o with
  | some l => Zi l
  | none => Zq o
def wantT (g : Xd) : Tm -> Bool := fun t => isTrue (g t)
def wantF (g : Xd) : Tm -> Bool := fun t => isFalse (g t)
def Xbv (n : Nat) (b : Bool) : Tm -> Bool := match b with
 | true => wantT (Zg n)
 | false => wantF (Zg n)
def oOf (o : VA) (rest : KB) : KB :=
 match o.guard, o.dst with
 | none, none => oDo (exOf o.op) rest
 | none, some d => YR (exOf o.op) (KI d) rest
 | some (g, b), none => oDoIf (Xbv g b) (exOf o.op) rest
 | some (g, b), some d => XcC (Xbv g b) (exOf o.op) (KI d) rest
def opsOf (os : List VA) : KB := XiA (motive := fun _ => KB) oEnd (fun o _ ih => oOf o ih) os
def Wj : Value -> Tm -> Tm := fun _ t => t
def COp.writes : COp -> Bool
 | .store .. | .mapUpdate .. | .append .. | .appendZ .. | .copy .. | .delete .. | .clear .. | .call .. | .invoke .. | .nextMap _ | .nextStr _ | .panic _ | .recover | .defer .. | .bad _
 | .rangeMap _ | .rangeStr _ | .stamp _ => true
 | _ => false
def dPut : Option Nat -> Value -> Tm -> Tm
 | none => Wj
 | some d => KI d
def dOne (o : VA) (rest : KD) : KD := match YL o.op with
 | some l => YY o.idx o.un o.pre l (dPut o.dst) rest
 | none => XaL o.idx o.un o.pre o.op.writes (Zq o.op) (dPut o.dst) rest
def dOf (o : VA) (rest : KD) : KD := match o.guard with
 | none => dOne o rest
 | some (g, b) => dIf o.pre (Xbv g b) (dPut o.dst) (dOne o rest) rest
def dstsOf (os : List VA) : List Nat := os.filterMap (·.dst)
def drawOf (lost : List Nat) (os : List VA) : KD := XiA (motive := fun _ => KD) (dEnd lost) (fun o _ ih => dOf o ih) os
def den (c : CCode) : KB :=
 CCode.rec (motive := fun _ => KB) kSkip (fun draw os => XiL (motive := fun _ => KB) (opsOf os) (Ya (drawOf (dstsOf os) os)) draw)
  (fun _ _ a b => kSeq a b) (fun c _ _ a b => kCond c.val a b) (fun id _ a => kBlock id a) (fun _ a => kLoop a)
  (fun f ps assign body _ _ => kRange f.val ps assign body) kExit kRet kBad c
abbrev ResF := List Nat -> Tm -> Heap -> Option (List Value)
def XU (n : Nat) (g : Xd) : ResF := fun lost t _ => bif lost.contains n then none else some [g t]
def rCell1 (n : Nat) (g : Xd) : ResF := fun lost t h => bif lost.contains n then none else Yu none (fun p => Yu none (fun v => some [v]) (h.load1 p.block p.off)) (XcG (g t))
def Z6 (n : Nat) (g : Xd) (k : Nat) : ResF := fun lost t h => bif lost.contains n then none else Yu none (fun p => Yu none (fun cs => some [.agg ⟨cs⟩]) (h.load p.block p.off k)) (XcG (g t))
def resOf : CRes -> ResF
 | .tmp n => XU n (Zg n)
 | .cell1 n => rCell1 n (Zg n)
 | .cellN n k => Z6 n (Zg n) k
def YA (rs : List ResF) : ResF := fun lost t h =>
 XiA (motive := fun _ => Option (List Value)) (some []) (fun r _ ih => match r lost t h, ih with
  | some v, some vs => some (app v vs)
  | _, _ => none) rs
def XgM (rs : List CRes) : List ResF := XiA (motive := fun _ => List ResF) [] (fun r _ ih => resOf r :: ih) rs
structure XG where
 res : List ResF
 body : KB
def CFun.den (f : CFun) : XG := ⟨XgM f.results, Eng.den f.body⟩
abbrev Summ := List Value -> Heap -> Option (Value × Heap)
structure Env where
 fn : Nat -> Option XG
 sum : Nat -> Option Summ
 meth : Nat -> String -> Option (Nat × Rcv)       -- a type's method: the function, what it is called with
 nilOk : Nat -> String -> Bool                    -- no nil pointer can stand ahead of that method's receiver
def Wk (vs : List Value) : Nat -> Tm -> Tm :=
 XiA (motive := fun _ => Nat -> Tm -> Tm) (fun _ t => t) (fun v _ ih i t => ih (XiU i) (KI i v t)) vs
def W9 : List Value -> Value
 | [v] => v
 | vs => .tuple ⟨vs⟩
def settleA : Vf -> Vf
 | .panicking ((_, true) :: _) => .returning
 | m => m
def raisedA (u : Vf) (chain : List (Value × Bool)) : Vf :=
 match u with
 | .panicking old => .panicking (chain ++ old)
 | .returning => .panicking chain
inductive Dr where
 | ret (m : Vf) (h : Heap)
 | panic (chain : List (Value × Bool)) (m : Vf) (h : Heap)
 | fail (why : String)
 | any (n : Nat) (k : Nat -> Dr)
def Dr.toEr (r : Dr) (ret : Vf -> Heap -> Er) (panic : List (Value × Bool) -> Vf -> Heap -> Er) : Er :=
 Dr.rec (motive := fun _ => Er) ret panic (fun s => .fail s) (fun n _ ih => .any n ih) r
def Rz.toDr (r : Rz) (leave : Tm -> Aux -> Heap -> Dr) (panic : Aux -> Heap -> Value -> Dr) : Dr :=
 Rz.rec (motive := fun _ => Dr) leave (fun _ _ _ _ => .fail "exit") leave (fun v _ _ x h => panic x h v) (fun _ _ _ => .fail "got") (fun s => .fail s) (fun n _ ih => .any n ih) r
section
variable (E : Env) (c : Ctx)
def XgN (f : Value) (args : List Value) (m : Vf) (h : Heap) : Dr :=
 match f with
 | .func (.func f) first captured => match E.fn f with
  | some fn =>
   bif !(Xiv (WJ (app first.toList (app args captured.toList))) 255) then .fail "arguments" else
   (fn.body c (Wk (app first.toList (app args captured.toList)) 0 Tm.empty) ⟨[], none, some m⟩ h).toDr
    (fun t x h => match x.defers, x.rc with
     | [], some m' => match YA fn.res [] t h with
      | some _ => .ret m' h
      | none => .fail "results"
     | _, _ => .fail "deferred calls of a deferred call")
    (fun x h v => match x.defers, x.rc with
     | [], some m' => .panic [(v, false)] m' h
     | _, _ => .fail "deferred calls of a deferred call")
  | none => .fail "no function"
 | _ => .fail "deferred: no function"
def finish (rs : List ResF) (lost : List Nat) (t : Tm) (ds : List ADef) : Vf -> Heap -> Er :=
 XiA (motive := fun _ => Vf -> Heap -> Er)
  (fun m h => match m with
   | .returning => match YA rs lost t h with
    | some vs => .ret (W9 vs) h
    | none => .fail "results"
   | .panicking chain => .panic chain h)
  (fun d _ ih m h => match d with
   | .call f args => (XgN E c f args m h).toEr (fun m' h' => ih (settleA m') h') (fun chain m' h' => ih (raisedA m' chain) h')
   | .mark l => match h.get l with
    | some .mark => ih m (h.put l none)
    | _ => .fail "no mark") ds
def K3 (fn : XG) (args : List Value) (h : Heap) : Er :=
 bif !(Xiv (WJ args) 255) then .fail "arguments" else
 (fn.body c (Wk args 0 Tm.empty) ⟨[], none, none⟩ h).toEr (fun t x h => finish E c fn.res [] t x.defers .returning h)
  (fun v lost t x h => finish E c fn.res lost t x.defers (.panicking [(v, false)]) h) (fun _ _ _ _ => .fail "exit")
  (fun t x h => finish E c fn.res [] t x.defers .returning h)
def enter (f : Nat) (args : List Value) (h : Heap) : Er :=
 Yu (Yu (.fail "no function") (fun fn => K3 E c fn args h) (E.fn f))
  (fun s => Yu (.fail "summary") (fun r => .ret r.1 r.2) (s args h)) (E.sum f)
def invokeV (x : Value) (name : String) (args : List Value) (h : Heap) : Er :=
 match x with
 | .iface u v => match E.meth u name with
  | some (f, .whole) => enter E c f (v :: args) h
  | some (f, .part off none) => match Xe8 v with
   | some cs => match nth off cs with
    | some r => enter E c f (r :: args) h
    | none => .fail "receiver"
   | none => .fail "receiver"
  | some (f, .part off (some n)) => match Xe8 v with
   | some cs => match XV n (XZ off cs) with
    | some r => enter E c f (.agg ⟨r⟩ :: args) h
    | none => .fail "receiver"
   | none => .fail "receiver"
  | some (f, .cell) => match v with
   | .pointer (some p) => match h.load1 p.block p.off with
    | some r => enter E c f (r :: args) h
    | none => .fail "receiver"
   | _ => .fail "receiver"
  | some (f, .cells n) => match v with
   | .pointer (some p) => match h.load p.block p.off n with
    | some r => enter E c f (.agg ⟨r⟩ :: args) h
    | none => .fail "receiver"
   | _ => .fail "receiver"
  | none => .fail "invoke"
 | _ => .fail "invoke"
def setAll (ps : List Nat) : List Value -> Tm -> Option Tm :=
 XiA (motive := fun _ => List Value -> Tm -> Option Tm) (fun vs t => match vs with
   | [] => some t
   | _ => none)
  (fun p _ ih vs t => match vs with
   | v :: vs => ih vs (KI p v t)
   | [] => none) ps
def endRound (l : Nat) (j : Option Jump) (h : Heap) : Er :=
 match h.get l with
 | some (.loop r) => .ret (.bool j.isNone) (h.put l (some (.loop (r.with (match j with
  | none => .ready
  | some _ => .done) j))))
 | _ => .fail "no loop"
def yieldTo (l : Nat) (args : List Value) (h : Heap) : Er :=
 match h.get l with
 | some (.loop r) => match setAll r.params args r.tmps with
  | some t =>
   (Eng.den r.assign c t ⟨[], some l, none⟩ h).toEr (fun t x h => match h.get l with
    | some (.loop r') => match r'.state with
     | .ready =>
      (Eng.den r.body c t x (h.put l (some (.loop (r'.with .busy r'.pending))))).toEr (fun _ _ h => endRound l none h) (fun _ _ _ _ _ => .fail "a panic of a round")
       (fun id _ _ h => endRound l (some (.exit id)) h) (fun _ _ h => endRound l (some .ret) h)
     | _ => .fail "a round beside a loop that is not ready"
    | _ => .fail "no loop") (fun _ _ _ _ _ => .fail "assignment of a round") (fun _ _ _ _ => .fail "assignment of a round") (fun _ _ _ => .fail "assignment of a round")
  | none => .fail "yield"
 | _ => .fail "yield: no loop"
def callV (f : Value) (args : List Value) (h : Heap) : Er :=
 match f with
 | .func (.func f) first captured => enter E c f (app first.toList (app args captured.toList)) h
 | .func (.yield l) first _ => match first.toList with
  | [] => yieldTo c l args h
  | _ => .fail "yield: arguments of its own"
 | .func (.method name) first _ => match first.toList with
  | r :: more => invokeV E c r name (app more args) h
  | [] => .fail "method value"
 | _ => .fail "call: no function"
end
def ctx (E : Env) (n : Nat) : Ctx :=
 Xje (motive := fun _ => Ctx) ⟨fun _ _ _ => .fail "depth", fun _ _ _ _ => .fail "depth", E.nilOk, 0⟩
  (fun n ih => ⟨callV E ih, invokeV E ih, E.nilOk, XiU n⟩) n
def isAggD : TypeDesc -> Bool
 | .struct _ | .array _ _ => true
 | _ => false
def XgO : Value -> Bool
 | .bool _ | .int _ _ | .string _ | .pointer none | .slice none 0 0 | .map none | .nilFunc | .nilIface => true
 | _ => false
def XeW : List Value -> Bool
 | [] => true
 | x :: xs => XgO x && XeW xs
def JY : Value -> Bool
 | .agg cs => XeW cs.toList
 | v => XgO v
section
variable (P : Program)
def und (t : TypeId) : TypeDesc := (P.underlying t).getD .invalid
def cellN (t : TypeId) : Nat := P.cellsOf t
def okT (t : TypeId) : Bool := (P.underlying t).isSome
def XeX {α : Type} (b : Bool) (x : Option α) : Option α := bif b then x else none
def ZM (t : TypeId) : Option Value := ((P.info? t).bind (·.zero)).bind fun v => bif JY v then some v else none
def VJ (t : TypeId) : Bool := isAggD (und P t)
def Yb (v : Value) : List Value := match v with
 | .agg cs => cs.toList
 | v => [v]
variable (m : Nat)     -- how many temporaries there are
def Xbw (t : Nat) : Option Nat := bif Xis t 256 && Xis t m then some t else none
def repC (xs : List Value) : Nat -> List Value
 | 0 => []
 | n + 1 => xs ++ repC xs n
def XD : Operand -> Option Opd
 | .tmp t => (Xbw m t).map .tmp
 | .const v => bif JY v then some (.const v) else none
 | .func f => some (.const (.func (.func f) #[] #[]))
 | .global _ => none
def flatN : Nat -> TypeId -> Option (List Kt)
 | 0, _ => none
 | d + 1, t => match und P t with
  | .int k => some [.int k]
  | .string => some [.str]
  | .bool => some [.bool]
  | .struct fs => if P.stoodInHeld t then none else fields (flatN d) fs.toList 0
  | .array n e => match flatN d e with
   | some ls => if cellN P e = ls.length && okT P e then some (times ls n) else none
   | none => none
  | _ => none
where
 times (ls : List Kt) : Nat -> List Kt
  | 0 => []
  | n + 1 => ls ++ times ls n
 fields (leaves : TypeId -> Option (List Kt)) : List Field -> Nat -> Option (List Kt)
  | [], off => some []
  | f :: fs, off => if f.name = "_" || f.offset != off || !(okT P f.type) then none else match leaves f.type with
   | some ls => if cellN P f.type = ls.length then (fields leaves fs (off + ls.length)).map (ls ++ ·) else none
   | none => none
def XdM (t : TypeId) : Option KSh :=
 match und P t with
 | .int k => some (.one (.int k))
 | .string => some (.one .str)
 | .bool => some (.one .bool)
 | .array n e => match und P e with
  | .int k => if cellN P e = 1 then some (.many n k) else none
  | _ => none
 | _ => none
def cPred (t : TypeId) : Option Pred :=
 match und P t with
 | .int _ => some .int
 | .string => some .str
 | .bool => some .bool
 | .pointer e => if okT P e then some .ptr else none
 | .slice _ => some .slice
 | .map _ _ => some .map
 | .func .. => some .func
 | .interface _ => some .iface
 | .struct _ | .array _ _ => match flatN P 12 t with
  | some ls => if P.eqGuardType P.depth t then none else some (.flat ls)
  | none => none
 | _ => none
def Xff : Pred -> Bool
 | .iface => true
 | _ => false
def nilC : Operand -> Bool
 | .const .nilIface => true
 | _ => false
def Xa5 {α β γ : Type} (a : Option α) (b : Option β) (f : α -> β -> γ) : Option γ := a.bind fun a => b.map (f a)
def optO (x : Option Operand) : Option (Option Opd) := match x with
 | none => some none
 | some x => (XD m x).map some
def JJ (xs : Array Operand) : Option (List Opd) := xs.toList.mapM (XD m)
def parts (place : Nat -> Option (Nat × Nat)) (ps : Array (Nat × Operand)) : Option (List Part) :=
 ps.toList.mapM fun (i, x) => (place i).bind fun (off, n) => (XD m x).map fun x => ⟨off, n, x⟩
def cMethod (t : TypeId) (name : String) : Option (Nat × Rcv) :=
 ((P.info? t).bind fun i => i.methods.find? (·.name == name)).bind fun m =>
   if !(okT P t) then none else m.func.bind fun (f, ptr) =>
    match m.path.toList with
    | [] => (match und P t, ptr with
     | .pointer _, true => some (f, .whole)
     | .pointer e, false => XeX (okT P e) <| some (f, if VJ P e then .cells (cellN P e) else .cell)
     | .interface _, _ => none
     | _, false => some (f, .whole)
     | _, true => none)
    | [s] => if s.deref || ptr then none else (match und P s.struct with
     | .struct fs => (fs[s.index]?).bind fun fd => XeX (okT P fd.type) (match und P fd.type with
      | .pointer _ => none
      | _ => some (f, .part fd.offset (if VJ P fd.type then some (cellN P fd.type) else none)))
     | _ => none)
    | _ => none
def XeY (t : TypeId) (name : String) : Bool :=
 match (P.info? t).bind fun i => i.methods.find? (·.name == name) with
 | some m => okT P t && m.path.isEmpty && (match m.func with
  | some (_, true) => true
  | some (_, false) => (match und P t with
   | .pointer _ => false
   | _ => true)
  | none => false)
 | none => false
def und0 (c : Call) : TypeDesc := match c.argTypes[0]? with
 | some t => und P t
 | none => .invalid
def cCall (c : Call) : COp :=
 match c.callee with
 | .value f => ((XD m f).bind fun f => (JJ m c.args).map (COp.call f)).getD (.bad "call")
 | .invoke x name => ((XD m x).bind fun x => (JJ m c.args).map fun as => COp.invoke x name as).getD (.bad "invoke")
 | .builtin b =>
  match b, c.args.toList with
  | .len, [x] => match und0 P c with
   | .array n _ => .lenC n
   | .pointer a => match und P a with
    | .array n _ => .lenC n
    | _ => .bad "len"
   | .string => ((XD m x).map (COp.len .str)).getD (.bad "len")
   | .slice _ => ((XD m x).map (COp.len .sl)).getD (.bad "len")
   | .map _ _ => ((XD m x).map (COp.len .map)).getD (.bad "len")
   | _ => .bad "len"
  | .cap, [x] => match und0 P c with
   | .slice _ => ((XD m x).map COp.cap).getD (.bad "cap")
   | _ => .bad "cap"
  | .append, [s, x] => match und0 P c, (c.argTypes[1]?).map (und P) with
   | .slice e, some (.slice _) | .slice e, some .string => match ZM P e with
    | some z => if (Yb z).isEmpty || (Yb z).length != cellN P e || ((P.info? e).map (·.bytes)).getD 0 >= 2 ^ 20 || ((P.info? e).map (·.bytes)).getD 0 = 0 then .bad "append: size" else (Xa5 (XD m s) (XD m x) (COp.append (cellN P e))).getD (.bad "append")
    | none => .bad "append"
   | .slice e, some (.int _) => match ZM P e with
    | some z => if (Yb z).isEmpty || (Yb z).length != cellN P e || ((P.info? e).map (·.bytes)).getD 0 >= 2 ^ 20 || ((P.info? e).map (·.bytes)).getD 0 = 0 then .bad "append: size" else (Xa5 (XD m s) (XD m x) (COp.appendZ (Yb z))).getD (.bad "append")
    | none => .bad "append"
   | _, _ => .bad "append"
  | .copy, [d, s] => match und0 P c with
   | .slice e => (XeX (okT P e) <| Xa5 (XD m d) (XD m s) (COp.copy (cellN P e))).getD (.bad "copy")
   | _ => .bad "copy"
  | .delete, [mp, k] => match und0 P c with
   | .map kt _ => ((XdM P kt).bind fun sh => Xa5 (XD m mp) (XD m k) (COp.delete sh)).getD (.bad "delete")
   | _ => .bad "delete"
  | .clear, [x] => match und0 P c with
   | .slice e => match ZM P e, XD m x with
    | some z, some x => if (Yb z).length != cellN P e then .bad "clear" else .clear (Yb z) x
    | _, _ => .bad "clear"
   | .map _ _ => ((XD m x).map (COp.clear [])).getD (.bad "clear")
   | _ => .bad "clear"
  | .max, x :: xs => (Xa5 (XD m x) (xs.mapM (XD m)) COp.max).getD (.bad "max")
  | .min, x :: xs => (Xa5 (XD m x) (xs.mapM (XD m)) COp.min).getD (.bad "min")
  | .panic, [x] => ((XD m x).map COp.panic).getD (.bad "panic")
  | .recover, [] => .recover
  | _, _ => .bad "builtin"
def Zj (x : Option COp) (why : String) : COp := x.getD (.bad why)
def cOp (o : Oper) : COp :=
 match o.op with
 | .move x | .assign x => Zj ((XD m x).map .move) "move"
 | .pick c a b => Zj ((XD m c).bind fun c => Xa5 (XD m a) (XD m b) (COp.pick c)) "pick"
 | .alloc e => Zj ((ZM P e).map fun z => COp.alloc (Yb z)) "alloc"
 | .box _ x => Zj ((XD m x).map .box) "box"
 | .build t ps => Zj ((ZM P t).bind fun z => match und P t with
   | .struct fs => XeX (fs.toList.all fun f => okT P f.type) <| (parts m (fun i => (fs[i]?).map fun f => (f.offset, cellN P f.type)) ps).map (COp.build (Yb z))
   | .array _ e => XeX (okT P e) <| (parts m (fun i => some (i * cellN P e, cellN P e)) ps).map (COp.build (Yb z))
   | _ => none) "build"
 | .buildSlice t n ps => Zj (match und P t with
   | .slice e => if n * cellN P e > 2 ^ 24 then none else (ZM P e).bind fun z => if (Yb z).length != cellN P e then none else
     (parts m (fun i => some (i * cellN P e, cellN P e)) ps).map fun ps => COp.buildSlice (repC (Yb z) n) ps n
   | _ => none) "buildSlice"
 | .load t a => Zj (XeX (okT P t) <| (XD m a).map fun a => if VJ P t then COp.loadN (cellN P t) a else .load1 a) "load"
 | .store t a x => Zj (XeX (okT P t) <| Xa5 (XD m a) (XD m x) (COp.store (cellN P t))) "store"
 | .nilCheck x => Zj ((XD m x).map .nilCheck) "nilCheck"
 | .binOp op t x y _ => match op with
  | .eql => Zj ((cPred P t).bind fun p => Xa5 (XD m x) (XD m y) (COp.eq false (if Xff p && (nilC x || nilC y) then .ifaceNil else p))) "eql"
  | .neq => Zj ((cPred P t).bind fun p => Xa5 (XD m x) (XD m y) (COp.eq true (if Xff p && (nilC x || nilC y) then .ifaceNil else p))) "neq"
  | _ => Zj (Xa5 (XD m x) (XD m y) (COp.bin op)) "bin"
 | .unOp op _ x => Zj ((XD m x).map (COp.un op)) "un"
 | .convert s d x => Zj (match und P s, und P d with
   | .slice _, .slice e => (match und P e with
    | .int .u8 => if s = d then (XD m x).map .stamp else none
    | _ => none)
   | .int _, .int k => (XD m x).map (COp.intTo k)
   | .string, .string => (XD m x).map .str
   | .string, .slice e => match und P e with
    | .int .u8 => (XD m x).map .toBytes
    | _ => none
   | .slice e, .string => match und P e with
    | .int .u8 => (XD m x).map .bytesTo
    | _ => none
   | _, _ => none) "convert"
 | .sliceToArrayPointer t x => Zj (match und P t with
   | .array n _ => (XD m x).map (COp.toArr n)
   | _ => none) "sliceToArrayPointer"
 | .makeInterface t x => Zj (match und P t with
   | .interface _ | .invalid => none
   | _ => (XD m x).map (COp.mkIface t)) "makeInterface"
 | .makeFunc fn fs cs => Zj (match fn with
   | .func _ | .method _ => Xa5 (JJ m fs) (JJ m cs) (COp.mkFunc fn)
   | _ => none) "makeFunc"
 | .makeMap t none => Zj (match und P t with
   | .map kt _ => (XdM P kt).map COp.mkMap
   | _ => none) "makeMap"
 | .makeMap _ (some _) => .bad "makeMap: room"
 | .makeSlice t l c => Zj (match und P t with
   | .slice e => (ZM P e).bind fun z => if (Yb z).length != cellN P e || ((P.info? e).map (·.bytes)).getD 0 >= 2 ^ 20 then none else Xa5 (XD m l) (XD m c) (COp.mkSlice (Yb z))
   | _ => none) "makeSlice"
 | .slice t x lo hi mx => Zj ((XD m x).bind fun x => (optO m lo).bind fun lo => (optO m hi).bind fun hi => (optO m mx).bind fun mx => match und P t with
   | .string => if mx.isSome then none else some (.sliceStr x lo hi)
   | .slice e => XeX (okT P e) <| some (.sliceSl (cellN P e) x lo hi mx)
   | .array n e => XeX (okT P e) <| some (.sliceArr n (cellN P e) x lo hi mx)
   | .pointer a => match und P a with
    | .array n e => XeX (okT P e) <| some (.sliceArr n (cellN P e) x lo hi mx)
    | _ => none
   | _ => none) "slice"
 | .fieldAddr t x f => Zj (match und P t with
   | .struct fs => (fs[f]?).bind fun f => if cellN P f.type = 0 then none else (XD m x).map (COp.fieldAddr f.offset)
   | _ => none) "fieldAddr"
 | .field t x f => Zj (match und P t with
   | .struct fs => (fs[f]?).bind fun f => XeX (okT P f.type) <| (XD m x).map (COp.field f.offset (if VJ P f.type then some (cellN P f.type) else none))
   | _ => none) "field"
 | .indexAddr t x i => Zj (match und P t with
   | .array n e => XeX (okT P e) <| Xa5 (XD m x) (XD m i) (COp.ixArr n (cellN P e))
   | .slice e => XeX (okT P e) <| Xa5 (XD m x) (XD m i) (COp.ixSl (cellN P e))
   | _ => none) "indexAddr"
 | .index t x i => Zj (match und P t with
   | .array n e => XeX (okT P e && (VJ P e || Xik (cellN P e) 1)) <| Xa5 (XD m x) (XD m i) (COp.ixVal n (cellN P e) (VJ P e))
   | .string => Xa5 (XD m x) (XD m i) COp.ixStr
   | _ => none) "index"
 | .lookup t x i ok => Zj (match und P t with
   | .map kt e => (XdM P kt).bind fun sh => (ZM P e).bind fun z => Xa5 (XD m x) (XD m i) (COp.lookup sh z ok)
   | _ => none) "lookup"
 | .mapUpdate t mp k x => Zj (match und P t with
   | .map kt _ => (XdM P kt).bind fun sh => (XD m mp).bind fun mp => Xa5 (XD m k) (XD m x) (COp.mapUpdate sh mp)
   | _ => none) "mapUpdate"
 | .insert t mp k x => Zj (match und P t with
   | .map kt _ => (XdM P kt).bind fun sh => (XD m mp).bind fun mp => Xa5 (XD m k) (XD m x) (COp.mapUpdate sh mp)
   | _ => none) "insert"
 | .range t x => Zj (match und P t with
   | .map _ _ => (XD m x).map .rangeMap
   | .string => (XD m x).map .rangeStr
   | _ => none) "range"
 | .next it s => Zj ((XD m it).map fun it => if s then COp.nextStr it else .nextMap it) "next"
 | .entry it => Zj ((XD m it).map .entry) "entry"
 | .typeAssert x _ t ok => Zj (match und P t with
   | .interface want => (ZM P t).bind fun z => (XD m x).map (COp.assertI P.types.size ((Xi4 P.types.size).filter fun u => (Instr.missingMethod want (((P.info? u).map (·.methods)).getD #[])).isNone) z ok)
   | .invalid => none
   | _ => (ZM P t).bind fun z => (XD m x).map (COp.assertT t z ok)) "typeAssert"
 | .extract x i => Zj ((XD m x).map (COp.extract i)) "extract"
 | .call c => cCall P m c
 | .defer c => match c.callee with
  | .value f => Zj (Xa5 (XD m f) (JJ m c.args) COp.defer) "defer"
  | _ => .bad "defer"
 | .panic x => Zj ((XD m x).map .panic) "panic"
 | _ => .bad "operation"
def XgP : COp -> Bool
 | .load1 _ | .loadN .. | .lookup .. | .len .. | .bytesTo _ | .entry _ => true
 | _ => false
def XeZ (ops : Array Oper) (o : Oper) (j : Nat) (un pre : List Nat) : VA :=
 match (match o.dst with
   | none => some none
   | some d => (Xbw m d).map some), (match o.guard with
   | none => some none
   | some (g, w) => (((ops[g]?).bind (·.dst)).bind (Xbw m)).map fun s => some (s, w)) with
  | some dst, some guard => { guard, dst, op := cOp P m o, idx := j, un, pre }
  | _, _ => { guard := none, dst := none, op := .bad "slot", idx := j, un := [], pre := [] }
def oList : Option Opd -> List Opd
 | none => []
 | some x => [x]
def COp.opds : COp -> List Opd
 | .move x | .box x | .load1 x | .loadN _ x | .nilCheck x | .un _ x | .intTo _ x | .str x | .bytesTo x | .toBytes x | .stamp x | .mkIface _ x | .toArr _ x | .fieldAddr _ x | .field _ _ x | .rangeMap x | .rangeStr x | .nextMap x | .nextStr x
 | .entry x | .assertT _ _ _ x | .assertI _ _ _ _ x | .extract _ x | .len _ x | .cap x | .clear _ x | .panic x => [x]
 | .pick c a b => [c, a, b]
 | .build _ ps => ps.map (·.x)
 | .buildSlice _ ps _ => ps.map (·.x)
 | .store _ a x => [a, x]
 | .bin _ x y | .eq _ _ x y | .ixSl _ x y | .ixArr _ _ x y | .ixStr x y | .ixVal _ _ _ x y | .lookup _ _ _ x y | .append _ x y | .appendZ _ x y | .copy _ x y | .delete _ x y | .mkSlice _ x y => [x, y]
 | .mkFunc _ a b => a ++ b
 | .sliceStr x lo hi => x :: (oList lo ++ oList hi)
 | .sliceSl _ x lo hi mx | .sliceArr _ _ x lo hi mx => x :: (oList lo ++ (oList hi ++ oList mx))
 | .mapUpdate _ m k x => [m, k, x]
 | .max x xs | .min x xs => x :: xs
 | .call f args | .defer f args => f :: args
 | .invoke x _ args => x :: args
 | .alloc _ | .mkMap _ | .lenC _ | .recover | .bad _ => []
def tmpsOf (xs : List Operand) : List Nat := xs.filterMap fun
 | .tmp n => some n
 | _ => none
def slotsOf (xs : List Opd) : List Nat := xs.filterMap fun
 | .tmp n => some n
 | _ => none
def guardSlot (ops : Array Oper) (o : Oper) : List Nat := match o.guard with
 | none => []
 | some (g, _) => ((ops[g]?).bind (·.dst)).toList
def looks (ops : Array Oper) (o : Oper) (c : COp) : List Nat := tmpsOf o.op.operands.toList ++ (slotsOf c.opds ++ guardSlot ops o)
def K4 (ops : Array Oper) (cs : Array COp) (b : Array Nat) : Bool :=
 (ops.toList.zipIdx.all fun (o, i) => o.after.toList.all fun e => !(Region.binds .any e) || Xis e.on i) &&
 (ops.toList.zipIdx.all fun (o, i) => match o.dst with
  | none => true
  | some d => ops.toList.zipIdx.all fun (p, j) => Xik i j || (match p.dst with
   | none => true
   | some d' => !(Xik d d'))) &&
 (ops.toList.zipIdx.all fun (o, i) => (looks ops o (cs.getD i (.bad ""))).all fun s => Xis s 256 && Xis s m && ops.toList.zipIdx.all fun (p, j) => match p.dst with
  | none => true
  | some d => !(Xik d s) || (Xis j i && (b.getD i 0).testBit j) || Xik i j || (Xis i j && (b.getD j 0).testBit i))
def XgQ (cs : Array COp) (b : Array Nat) (j : Nat) : List Nat := (Xi4 j).filter fun i =>
 !(b.getD j 0).testBit i && ((XgP (cs.getD i (.bad "")) && (cs.getD j (.bad "")).writes) || ((cs.getD i (.bad "")).writes && XgP (cs.getD j (.bad ""))) || ((cs.getD i (.bad "")).writes && (cs.getD j (.bad "")).writes))
def Xbx (cs : Array COp) (b : Array Nat) (j : Nat) : List Nat := (Xi4 j).filter fun i => (b.getD j 0).testBit i && (cs.getD i (.bad "")).writes
def cOpersD (ops : Array Oper) (cs : Array COp) (b : Array Nat) : List VA :=
 if K4 m ops cs b then ops.toList.zipIdx.map fun (o, j) => XeZ P m ops o j (XgQ cs b j) (Xbx cs b j)
 else [{ guard := none, dst := none, op := .bad "region", idx := 0, un := [], pre := [] }]
def cOpers (draw : Bool) (ops : Array Oper) : List VA :=
 if draw then cOpersD P m ops (ops.map (cOp P m)) (Region.before ops)
 else ops.toList.zipIdx.map fun (o, j) => XeZ P m ops o j [] []
def WS : Code -> CCode
 | .skip => .skip
 | .region _ ops draw => .region draw (cOpers P m draw ops)
 | .seq a b => .seq (WS a) (WS b)
 | .cond c a b => match XD m c with
  | some c => .cond c (WS a) (WS b)
  | none => .bad "cond"
 | .block id c => .block id (WS c)
 | .loop c => .loop (WS c)
 | .rangeFunc f ps a c => match XD m f, ps.toList.mapM (Xbw m) with
  | some f, some ps => .rangeFunc f ps (WS a) (WS c)
  | _, _ => .bad "rangeFunc"
 | .exit id => .exit id
 | .scope c => WS c
 | .label _ => .skip
 | .goto _ => .bad "goto"
 | .ret => .ret
 | .refuse w => .bad w
def cRes (fn : Func) : Option (List CRes) :=
 fn.results.toList.mapM fun
  | .tmp t => (Xbw m t).map .tmp
  | .cell a t => XeX (okT P t) <| (Xbw m a).map fun a => if VJ P t then .cellN a (cellN P t) else .cell1 a
def cFun (f : Nat) : Option CFun :=
 (P.funcs[f]?).bind fun fn => bif fn.name == "runtime.NumGoroutine" then none else
  fn.body.bind fun c => (cRes P fn.ntmps fn).map fun rs => { results := rs, body := WS P fn.ntmps c }
end
def XN (P : Program) (f : Nat) : Option XG := Yu none (fun c => some (CFun.den c)) (cFun P f)
def g0 : Xd := fun t => T4.a (T4.a (T4.a (T4.a t)))
def g1 : Xd := fun t => T4.b (T4.a (T4.a (T4.a t)))
def g2 : Xd := fun t => T4.c (T4.a (T4.a (T4.a t)))
def g3 : Xd := fun t => T4.d (T4.a (T4.a (T4.a t)))
def g4 : Xd := fun t => T4.a (T4.b (T4.a (T4.a t)))
def g5 : Xd := fun t => T4.b (T4.b (T4.a (T4.a t)))
def g6 : Xd := fun t => T4.c (T4.b (T4.a (T4.a t)))
def g7 : Xd := fun t => T4.d (T4.b (T4.a (T4.a t)))
def g8 : Xd := fun t => T4.a (T4.c (T4.a (T4.a t)))
def g9 : Xd := fun t => T4.b (T4.c (T4.a (T4.a t)))
def g10 : Xd := fun t => T4.c (T4.c (T4.a (T4.a t)))
def g11 : Xd := fun t => T4.d (T4.c (T4.a (T4.a t)))
def g12 : Xd := fun t => T4.a (T4.d (T4.a (T4.a t)))
def g13 : Xd := fun t => T4.b (T4.d (T4.a (T4.a t)))
def g14 : Xd := fun t => T4.c (T4.d (T4.a (T4.a t)))
def g15 : Xd := fun t => T4.d (T4.d (T4.a (T4.a t)))
def g16 : Xd := fun t => T4.a (T4.a (T4.b (T4.a t)))
def g17 : Xd := fun t => T4.b (T4.a (T4.b (T4.a t)))
def g18 : Xd := fun t => T4.c (T4.a (T4.b (T4.a t)))
def g19 : Xd := fun t => T4.d (T4.a (T4.b (T4.a t)))
def g20 : Xd := fun t => T4.a (T4.b (T4.b (T4.a t)))
def g21 : Xd := fun t => T4.b (T4.b (T4.b (T4.a t)))
def g22 : Xd := fun t => T4.c (T4.b (T4.b (T4.a t)))
def g23 : Xd := fun t => T4.d (T4.b (T4.b (T4.a t)))
def g24 : Xd := fun t => T4.a (T4.c (T4.b (T4.a t)))
def g25 : Xd := fun t => T4.b (T4.c (T4.b (T4.a t)))
def g26 : Xd := fun t => T4.c (T4.c (T4.b (T4.a t)))
def g27 : Xd := fun t => T4.d (T4.c (T4.b (T4.a t)))
def g28 : Xd := fun t => T4.a (T4.d (T4.b (T4.a t)))
def g29 : Xd := fun t => T4.b (T4.d (T4.b (T4.a t)))
def g30 : Xd := fun t => T4.c (T4.d (T4.b (T4.a t)))
def g31 : Xd := fun t => T4.d (T4.d (T4.b (T4.a t)))
def g32 : Xd := fun t => T4.a (T4.a (T4.c (T4.a t)))
def g33 : Xd := fun t => T4.b (T4.a (T4.c (T4.a t)))
def g34 : Xd := fun t => T4.c (T4.a (T4.c (T4.a t)))
def g35 : Xd := fun t => T4.d (T4.a (T4.c (T4.a t)))
def g36 : Xd := fun t => T4.a (T4.b (T4.c (T4.a t)))
def g37 : Xd := fun t => T4.b (T4.b (T4.c (T4.a t)))
def g38 : Xd := fun t => T4.c (T4.b (T4.c (T4.a t)))
def g39 : Xd := fun t => T4.d (T4.b (T4.c (T4.a t)))
def g40 : Xd := fun t => T4.a (T4.c (T4.c (T4.a t)))
def g41 : Xd := fun t => T4.b (T4.c (T4.c (T4.a t)))
def g42 : Xd := fun t => T4.c (T4.c (T4.c (T4.a t)))
def g43 : Xd := fun t => T4.d (T4.c (T4.c (T4.a t)))
def g44 : Xd := fun t => T4.a (T4.d (T4.c (T4.a t)))
def g45 : Xd := fun t => T4.b (T4.d (T4.c (T4.a t)))
def g46 : Xd := fun t => T4.c (T4.d (T4.c (T4.a t)))
def g47 : Xd := fun t => T4.d (T4.d (T4.c (T4.a t)))
def g48 : Xd := fun t => T4.a (T4.a (T4.d (T4.a t)))
def g49 : Xd := fun t => T4.b (T4.a (T4.d (T4.a t)))
def g50 : Xd := fun t => T4.c (T4.a (T4.d (T4.a t)))
def g51 : Xd := fun t => T4.d (T4.a (T4.d (T4.a t)))
def g52 : Xd := fun t => T4.a (T4.b (T4.d (T4.a t)))
def g53 : Xd := fun t => T4.b (T4.b (T4.d (T4.a t)))
def g54 : Xd := fun t => T4.c (T4.b (T4.d (T4.a t)))
def g55 : Xd := fun t => T4.d (T4.b (T4.d (T4.a t)))
def g56 : Xd := fun t => T4.a (T4.c (T4.d (T4.a t)))
def g57 : Xd := fun t => T4.b (T4.c (T4.d (T4.a t)))
def g58 : Xd := fun t => T4.c (T4.c (T4.d (T4.a t)))
def g59 : Xd := fun t => T4.d (T4.c (T4.d (T4.a t)))
def g60 : Xd := fun t => T4.a (T4.d (T4.d (T4.a t)))
def g61 : Xd := fun t => T4.b (T4.d (T4.d (T4.a t)))
def g62 : Xd := fun t => T4.c (T4.d (T4.d (T4.a t)))
def g63 : Xd := fun t => T4.d (T4.d (T4.d (T4.a t)))
def g64 : Xd := fun t => T4.a (T4.a (T4.a (T4.b t)))
def g65 : Xd := fun t => T4.b (T4.a (T4.a (T4.b t)))
def g66 : Xd := fun t => T4.c (T4.a (T4.a (T4.b t)))
def g67 : Xd := fun t => T4.d (T4.a (T4.a (T4.b t)))
def g68 : Xd := fun t => T4.a (T4.b (T4.a (T4.b t)))
def g69 : Xd := fun t => T4.b (T4.b (T4.a (T4.b t)))
def g70 : Xd := fun t => T4.c (T4.b (T4.a (T4.b t)))
def g71 : Xd := fun t => T4.d (T4.b (T4.a (T4.b t)))
def g72 : Xd := fun t => T4.a (T4.c (T4.a (T4.b t)))
def g73 : Xd := fun t => T4.b (T4.c (T4.a (T4.b t)))
def g74 : Xd := fun t => T4.c (T4.c (T4.a (T4.b t)))
def g75 : Xd := fun t => T4.d (T4.c (T4.a (T4.b t)))
def g76 : Xd := fun t => T4.a (T4.d (T4.a (T4.b t)))
def g77 : Xd := fun t => T4.b (T4.d (T4.a (T4.b t)))
def g78 : Xd := fun t => T4.c (T4.d (T4.a (T4.b t)))
def g79 : Xd := fun t => T4.d (T4.d (T4.a (T4.b t)))
def g80 : Xd := fun t => T4.a (T4.a (T4.b (T4.b t)))
def g81 : Xd := fun t => T4.b (T4.a (T4.b (T4.b t)))
def g82 : Xd := fun t => T4.c (T4.a (T4.b (T4.b t)))
def g83 : Xd := fun t => T4.d (T4.a (T4.b (T4.b t)))
def g84 : Xd := fun t => T4.a (T4.b (T4.b (T4.b t)))
def g85 : Xd := fun t => T4.b (T4.b (T4.b (T4.b t)))
def g86 : Xd := fun t => T4.c (T4.b (T4.b (T4.b t)))
def g87 : Xd := fun t => T4.d (T4.b (T4.b (T4.b t)))
def g88 : Xd := fun t => T4.a (T4.c (T4.b (T4.b t)))
def g89 : Xd := fun t => T4.b (T4.c (T4.b (T4.b t)))
def g90 : Xd := fun t => T4.c (T4.c (T4.b (T4.b t)))
def g91 : Xd := fun t => T4.d (T4.c (T4.b (T4.b t)))
def g92 : Xd := fun t => T4.a (T4.d (T4.b (T4.b t)))
def g93 : Xd := fun t => T4.b (T4.d (T4.b (T4.b t)))
def g94 : Xd := fun t => T4.c (T4.d (T4.b (T4.b t)))
def g95 : Xd := fun t => T4.d (T4.d (T4.b (T4.b t)))
def g96 : Xd := fun t => T4.a (T4.a (T4.c (T4.b t)))
def g97 : Xd := fun t => T4.b (T4.a (T4.c (T4.b t)))
def g98 : Xd := fun t => T4.c (T4.a (T4.c (T4.b t)))
def g99 : Xd := fun t => T4.d (T4.a (T4.c (T4.b t)))
def g100 : Xd := fun t => T4.a (T4.b (T4.c (T4.b t)))
def g101 : Xd := fun t => T4.b (T4.b (T4.c (T4.b t)))
def g102 : Xd := fun t => T4.c (T4.b (T4.c (T4.b t)))
def g103 : Xd := fun t => T4.d (T4.b (T4.c (T4.b t)))
def g104 : Xd := fun t => T4.a (T4.c (T4.c (T4.b t)))
def g105 : Xd := fun t => T4.b (T4.c (T4.c (T4.b t)))
def g106 : Xd := fun t => T4.c (T4.c (T4.c (T4.b t)))
def g107 : Xd := fun t => T4.d (T4.c (T4.c (T4.b t)))
def g108 : Xd := fun t => T4.a (T4.d (T4.c (T4.b t)))
def g109 : Xd := fun t => T4.b (T4.d (T4.c (T4.b t)))
def g110 : Xd := fun t => T4.c (T4.d (T4.c (T4.b t)))
def g111 : Xd := fun t => T4.d (T4.d (T4.c (T4.b t)))
def g112 : Xd := fun t => T4.a (T4.a (T4.d (T4.b t)))
def g113 : Xd := fun t => T4.b (T4.a (T4.d (T4.b t)))
def g114 : Xd := fun t => T4.c (T4.a (T4.d (T4.b t)))
def g115 : Xd := fun t => T4.d (T4.a (T4.d (T4.b t)))
def g116 : Xd := fun t => T4.a (T4.b (T4.d (T4.b t)))
def g117 : Xd := fun t => T4.b (T4.b (T4.d (T4.b t)))
def g118 : Xd := fun t => T4.c (T4.b (T4.d (T4.b t)))
def g119 : Xd := fun t => T4.d (T4.b (T4.d (T4.b t)))
def g120 : Xd := fun t => T4.a (T4.c (T4.d (T4.b t)))
def g121 : Xd := fun t => T4.b (T4.c (T4.d (T4.b t)))
def g122 : Xd := fun t => T4.c (T4.c (T4.d (T4.b t)))
def g123 : Xd := fun t => T4.d (T4.c (T4.d (T4.b t)))
def g124 : Xd := fun t => T4.a (T4.d (T4.d (T4.b t)))
def g125 : Xd := fun t => T4.b (T4.d (T4.d (T4.b t)))
def g126 : Xd := fun t => T4.c (T4.d (T4.d (T4.b t)))
def g127 : Xd := fun t => T4.d (T4.d (T4.d (T4.b t)))
def g128 : Xd := fun t => T4.a (T4.a (T4.a (T4.c t)))
def g129 : Xd := fun t => T4.b (T4.a (T4.a (T4.c t)))
def g130 : Xd := fun t => T4.c (T4.a (T4.a (T4.c t)))
def g131 : Xd := fun t => T4.d (T4.a (T4.a (T4.c t)))
def g132 : Xd := fun t => T4.a (T4.b (T4.a (T4.c t)))
def g133 : Xd := fun t => T4.b (T4.b (T4.a (T4.c t)))
def g134 : Xd := fun t => T4.c (T4.b (T4.a (T4.c t)))
def g135 : Xd := fun t => T4.d (T4.b (T4.a (T4.c t)))
def g136 : Xd := fun t => T4.a (T4.c (T4.a (T4.c t)))
def g137 : Xd := fun t => T4.b (T4.c (T4.a (T4.c t)))
def g138 : Xd := fun t => T4.c (T4.c (T4.a (T4.c t)))
def g139 : Xd := fun t => T4.d (T4.c (T4.a (T4.c t)))
def g140 : Xd := fun t => T4.a (T4.d (T4.a (T4.c t)))
def g141 : Xd := fun t => T4.b (T4.d (T4.a (T4.c t)))
def g142 : Xd := fun t => T4.c (T4.d (T4.a (T4.c t)))
def g143 : Xd := fun t => T4.d (T4.d (T4.a (T4.c t)))
def g144 : Xd := fun t => T4.a (T4.a (T4.b (T4.c t)))
def g145 : Xd := fun t => T4.b (T4.a (T4.b (T4.c t)))
def g146 : Xd := fun t => T4.c (T4.a (T4.b (T4.c t)))
def g147 : Xd := fun t => T4.d (T4.a (T4.b (T4.c t)))
def g148 : Xd := fun t => T4.a (T4.b (T4.b (T4.c t)))
def g149 : Xd := fun t => T4.b (T4.b (T4.b (T4.c t)))
def g150 : Xd := fun t => T4.c (T4.b (T4.b (T4.c t)))
def g151 : Xd := fun t => T4.d (T4.b (T4.b (T4.c t)))
def g152 : Xd := fun t => T4.a (T4.c (T4.b (T4.c t)))
def g153 : Xd := fun t => T4.b (T4.c (T4.b (T4.c t)))
def g154 : Xd := fun t => T4.c (T4.c (T4.b (T4.c t)))
def g155 : Xd := fun t => T4.d (T4.c (T4.b (T4.c t)))
def g156 : Xd := fun t => T4.a (T4.d (T4.b (T4.c t)))
def g157 : Xd := fun t => T4.b (T4.d (T4.b (T4.c t)))
def g158 : Xd := fun t => T4.c (T4.d (T4.b (T4.c t)))
def g159 : Xd := fun t => T4.d (T4.d (T4.b (T4.c t)))
def g160 : Xd := fun t => T4.a (T4.a (T4.c (T4.c t)))
def g161 : Xd := fun t => T4.b (T4.a (T4.c (T4.c t)))
def g162 : Xd := fun t => T4.c (T4.a (T4.c (T4.c t)))
def g163 : Xd := fun t => T4.d (T4.a (T4.c (T4.c t)))
def g164 : Xd := fun t => T4.a (T4.b (T4.c (T4.c t)))
def g165 : Xd := fun t => T4.b (T4.b (T4.c (T4.c t)))
def g166 : Xd := fun t => T4.c (T4.b (T4.c (T4.c t)))
def g167 : Xd := fun t => T4.d (T4.b (T4.c (T4.c t)))
def g168 : Xd := fun t => T4.a (T4.c (T4.c (T4.c t)))
def g169 : Xd := fun t => T4.b (T4.c (T4.c (T4.c t)))
def g170 : Xd := fun t => T4.c (T4.c (T4.c (T4.c t)))
def g171 : Xd := fun t => T4.d (T4.c (T4.c (T4.c t)))
def g172 : Xd := fun t => T4.a (T4.d (T4.c (T4.c t)))
def g173 : Xd := fun t => T4.b (T4.d (T4.c (T4.c t)))
def g174 : Xd := fun t => T4.c (T4.d (T4.c (T4.c t)))
def g175 : Xd := fun t => T4.d (T4.d (T4.c (T4.c t)))
def g176 : Xd := fun t => T4.a (T4.a (T4.d (T4.c t)))
def g177 : Xd := fun t => T4.b (T4.a (T4.d (T4.c t)))
def g178 : Xd := fun t => T4.c (T4.a (T4.d (T4.c t)))
def g179 : Xd := fun t => T4.d (T4.a (T4.d (T4.c t)))
def g180 : Xd := fun t => T4.a (T4.b (T4.d (T4.c t)))
def g181 : Xd := fun t => T4.b (T4.b (T4.d (T4.c t)))
def g182 : Xd := fun t => T4.c (T4.b (T4.d (T4.c t)))
def g183 : Xd := fun t => T4.d (T4.b (T4.d (T4.c t)))
def g184 : Xd := fun t => T4.a (T4.c (T4.d (T4.c t)))
def g185 : Xd := fun t => T4.b (T4.c (T4.d (T4.c t)))
def g186 : Xd := fun t => T4.c (T4.c (T4.d (T4.c t)))
def g187 : Xd := fun t => T4.d (T4.c (T4.d (T4.c t)))
def g188 : Xd := fun t => T4.a (T4.d (T4.d (T4.c t)))
def g189 : Xd := fun t => T4.b (T4.d (T4.d (T4.c t)))
def g190 : Xd := fun t => T4.c (T4.d (T4.d (T4.c t)))
def g191 : Xd := fun t => T4.d (T4.d (T4.d (T4.c t)))
def g192 : Xd := fun t => T4.a (T4.a (T4.a (T4.d t)))
def g193 : Xd := fun t => T4.b (T4.a (T4.a (T4.d t)))
def g194 : Xd := fun t => T4.c (T4.a (T4.a (T4.d t)))
def g195 : Xd := fun t => T4.d (T4.a (T4.a (T4.d t)))
def p0 : Value -> Tm -> Tm := fun v => T4.ua (T4.ua (T4.ua (T4.ua fun _ => v)))
def p1 : Value -> Tm -> Tm := fun v => T4.ua (T4.ua (T4.ua (T4.ub fun _ => v)))
def p2 : Value -> Tm -> Tm := fun v => T4.ua (T4.ua (T4.ua (T4.uc fun _ => v)))
def p3 : Value -> Tm -> Tm := fun v => T4.ua (T4.ua (T4.ua (T4.ud fun _ => v)))
def p4 : Value -> Tm -> Tm := fun v => T4.ua (T4.ua (T4.ub (T4.ua fun _ => v)))
def p5 : Value -> Tm -> Tm := fun v => T4.ua (T4.ua (T4.ub (T4.ub fun _ => v)))
def p6 : Value -> Tm -> Tm := fun v => T4.ua (T4.ua (T4.ub (T4.uc fun _ => v)))
def p7 : Value -> Tm -> Tm := fun v => T4.ua (T4.ua (T4.ub (T4.ud fun _ => v)))
def p8 : Value -> Tm -> Tm := fun v => T4.ua (T4.ua (T4.uc (T4.ua fun _ => v)))
def p9 : Value -> Tm -> Tm := fun v => T4.ua (T4.ua (T4.uc (T4.ub fun _ => v)))
def p10 : Value -> Tm -> Tm := fun v => T4.ua (T4.ua (T4.uc (T4.uc fun _ => v)))
def p11 : Value -> Tm -> Tm := fun v => T4.ua (T4.ua (T4.uc (T4.ud fun _ => v)))
def p12 : Value -> Tm -> Tm := fun v => T4.ua (T4.ua (T4.ud (T4.ua fun _ => v)))
def p13 : Value -> Tm -> Tm := fun v => T4.ua (T4.ua (T4.ud (T4.ub fun _ => v)))
def p14 : Value -> Tm -> Tm := fun v => T4.ua (T4.ua (T4.ud (T4.uc fun _ => v)))
def p15 : Value -> Tm -> Tm := fun v => T4.ua (T4.ua (T4.ud (T4.ud fun _ => v)))
def p16 : Value -> Tm -> Tm := fun v => T4.ua (T4.ub (T4.ua (T4.ua fun _ => v)))
def p17 : Value -> Tm -> Tm := fun v => T4.ua (T4.ub (T4.ua (T4.ub fun _ => v)))
def p18 : Value -> Tm -> Tm := fun v => T4.ua (T4.ub (T4.ua (T4.uc fun _ => v)))
def p19 : Value -> Tm -> Tm := fun v => T4.ua (T4.ub (T4.ua (T4.ud fun _ => v)))
def p20 : Value -> Tm -> Tm := fun v => T4.ua (T4.ub (T4.ub (T4.ua fun _ => v)))
def p21 : Value -> Tm -> Tm := fun v => T4.ua (T4.ub (T4.ub (T4.ub fun _ => v)))
def p22 : Value -> Tm -> Tm := fun v => T4.ua (T4.ub (T4.ub (T4.uc fun _ => v)))
def p23 : Value -> Tm -> Tm := fun v => T4.ua (T4.ub (T4.ub (T4.ud fun _ => v)))
def p24 : Value -> Tm -> Tm := fun v => T4.ua (T4.ub (T4.uc (T4.ua fun _ => v)))
def p25 : Value -> Tm -> Tm := fun v => T4.ua (T4.ub (T4.uc (T4.ub fun _ => v)))
def p26 : Value -> Tm -> Tm := fun v => T4.ua (T4.ub (T4.uc (T4.uc fun _ => v)))
def p27 : Value -> Tm -> Tm := fun v => T4.ua (T4.ub (T4.uc (T4.ud fun _ => v)))
def p28 : Value -> Tm -> Tm := fun v => T4.ua (T4.ub (T4.ud (T4.ua fun _ => v)))
def p29 : Value -> Tm -> Tm := fun v => T4.ua (T4.ub (T4.ud (T4.ub fun _ => v)))
def p30 : Value -> Tm -> Tm := fun v => T4.ua (T4.ub (T4.ud (T4.uc fun _ => v)))
def p31 : Value -> Tm -> Tm := fun v => T4.ua (T4.ub (T4.ud (T4.ud fun _ => v)))
def p32 : Value -> Tm -> Tm := fun v => T4.ua (T4.uc (T4.ua (T4.ua fun _ => v)))
def p33 : Value -> Tm -> Tm := fun v => T4.ua (T4.uc (T4.ua (T4.ub fun _ => v)))
def p34 : Value -> Tm -> Tm := fun v => T4.ua (T4.uc (T4.ua (T4.uc fun _ => v)))
def p35 : Value -> Tm -> Tm := fun v => T4.ua (T4.uc (T4.ua (T4.ud fun _ => v)))
def p36 : Value -> Tm -> Tm := fun v => T4.ua (T4.uc (T4.ub (T4.ua fun _ => v)))
def p37 : Value -> Tm -> Tm := fun v => T4.ua (T4.uc (T4.ub (T4.ub fun _ => v)))
def p38 : Value -> Tm -> Tm := fun v => T4.ua (T4.uc (T4.ub (T4.uc fun _ => v)))
def p39 : Value -> Tm -> Tm := fun v => T4.ua (T4.uc (T4.ub (T4.ud fun _ => v)))
def p40 : Value -> Tm -> Tm := fun v => T4.ua (T4.uc (T4.uc (T4.ua fun _ => v)))
def p41 : Value -> Tm -> Tm := fun v => T4.ua (T4.uc (T4.uc (T4.ub fun _ => v)))
def p42 : Value -> Tm -> Tm := fun v => T4.ua (T4.uc (T4.uc (T4.uc fun _ => v)))
def p43 : Value -> Tm -> Tm := fun v => T4.ua (T4.uc (T4.uc (T4.ud fun _ => v)))
def p44 : Value -> Tm -> Tm := fun v => T4.ua (T4.uc (T4.ud (T4.ua fun _ => v)))
def p45 : Value -> Tm -> Tm := fun v => T4.ua (T4.uc (T4.ud (T4.ub fun _ => v)))
def p46 : Value -> Tm -> Tm := fun v => T4.ua (T4.uc (T4.ud (T4.uc fun _ => v)))
def p47 : Value -> Tm -> Tm := fun v => T4.ua (T4.uc (T4.ud (T4.ud fun _ => v)))
def p48 : Value -> Tm -> Tm := fun v => T4.ua (T4.ud (T4.ua (T4.ua fun _ => v)))
def p49 : Value -> Tm -> Tm := fun v => T4.ua (T4.ud (T4.ua (T4.ub fun _ => v)))
def p50 : Value -> Tm -> Tm := fun v => T4.ua (T4.ud (T4.ua (T4.uc fun _ => v)))
def p51 : Value -> Tm -> Tm := fun v => T4.ua (T4.ud (T4.ua (T4.ud fun _ => v)))
def p52 : Value -> Tm -> Tm := fun v => T4.ua (T4.ud (T4.ub (T4.ua fun _ => v)))
def p53 : Value -> Tm -> Tm := fun v => T4.ua (T4.ud (T4.ub (T4.ub fun _ => v)))
def p54 : Value -> Tm -> Tm := fun v => T4.ua (T4.ud (T4.ub (T4.uc fun _ => v)))
def p55 : Value -> Tm -> Tm := fun v => T4.ua (T4.ud (T4.ub (T4.ud fun _ => v)))
def p56 : Value -> Tm -> Tm := fun v => T4.ua (T4.ud (T4.uc (T4.ua fun _ => v)))
def p57 : Value -> Tm -> Tm := fun v => T4.ua (T4.ud (T4.uc (T4.ub fun _ => v)))
def p58 : Value -> Tm -> Tm := fun v => T4.ua (T4.ud (T4.uc (T4.uc fun _ => v)))
def p59 : Value -> Tm -> Tm := fun v => T4.ua (T4.ud (T4.uc (T4.ud fun _ => v)))
def p60 : Value -> Tm -> Tm := fun v => T4.ua (T4.ud (T4.ud (T4.ua fun _ => v)))
def p61 : Value -> Tm -> Tm := fun v => T4.ua (T4.ud (T4.ud (T4.ub fun _ => v)))
def p62 : Value -> Tm -> Tm := fun v => T4.ua (T4.ud (T4.ud (T4.uc fun _ => v)))
def p63 : Value -> Tm -> Tm := fun v => T4.ua (T4.ud (T4.ud (T4.ud fun _ => v)))
def p64 : Value -> Tm -> Tm := fun v => T4.ub (T4.ua (T4.ua (T4.ua fun _ => v)))
def p65 : Value -> Tm -> Tm := fun v => T4.ub (T4.ua (T4.ua (T4.ub fun _ => v)))
def p66 : Value -> Tm -> Tm := fun v => T4.ub (T4.ua (T4.ua (T4.uc fun _ => v)))
def p67 : Value -> Tm -> Tm := fun v => T4.ub (T4.ua (T4.ua (T4.ud fun _ => v)))
def p68 : Value -> Tm -> Tm := fun v => T4.ub (T4.ua (T4.ub (T4.ua fun _ => v)))
def p69 : Value -> Tm -> Tm := fun v => T4.ub (T4.ua (T4.ub (T4.ub fun _ => v)))
def p70 : Value -> Tm -> Tm := fun v => T4.ub (T4.ua (T4.ub (T4.uc fun _ => v)))
def p71 : Value -> Tm -> Tm := fun v => T4.ub (T4.ua (T4.ub (T4.ud fun _ => v)))
def p72 : Value -> Tm -> Tm := fun v => T4.ub (T4.ua (T4.uc (T4.ua fun _ => v)))
def p73 : Value -> Tm -> Tm := fun v => T4.ub (T4.ua (T4.uc (T4.ub fun _ => v)))
def p74 : Value -> Tm -> Tm := fun v => T4.ub (T4.ua (T4.uc (T4.uc fun _ => v)))
def p75 : Value -> Tm -> Tm := fun v => T4.ub (T4.ua (T4.uc (T4.ud fun _ => v)))
def p76 : Value -> Tm -> Tm := fun v => T4.ub (T4.ua (T4.ud (T4.ua fun _ => v)))
def p77 : Value -> Tm -> Tm := fun v => T4.ub (T4.ua (T4.ud (T4.ub fun _ => v)))
def p78 : Value -> Tm -> Tm := fun v => T4.ub (T4.ua (T4.ud (T4.uc fun _ => v)))
def p79 : Value -> Tm -> Tm := fun v => T4.ub (T4.ua (T4.ud (T4.ud fun _ => v)))
def p80 : Value -> Tm -> Tm := fun v => T4.ub (T4.ub (T4.ua (T4.ua fun _ => v)))
def p81 : Value -> Tm -> Tm := fun v => T4.ub (T4.ub (T4.ua (T4.ub fun _ => v)))
def p82 : Value -> Tm -> Tm := fun v => T4.ub (T4.ub (T4.ua (T4.uc fun _ => v)))
def p83 : Value -> Tm -> Tm := fun v => T4.ub (T4.ub (T4.ua (T4.ud fun _ => v)))
def p84 : Value -> Tm -> Tm := fun v => T4.ub (T4.ub (T4.ub (T4.ua fun _ => v)))
def p85 : Value -> Tm -> Tm := fun v => T4.ub (T4.ub (T4.ub (T4.ub fun _ => v)))
def p86 : Value -> Tm -> Tm := fun v => T4.ub (T4.ub (T4.ub (T4.uc fun _ => v)))
def p87 : Value -> Tm -> Tm := fun v => T4.ub (T4.ub (T4.ub (T4.ud fun _ => v)))
def p88 : Value -> Tm -> Tm := fun v => T4.ub (T4.ub (T4.uc (T4.ua fun _ => v)))
def p89 : Value -> Tm -> Tm := fun v => T4.ub (T4.ub (T4.uc (T4.ub fun _ => v)))
def p90 : Value -> Tm -> Tm := fun v => T4.ub (T4.ub (T4.uc (T4.uc fun _ => v)))
def p91 : Value -> Tm -> Tm := fun v => T4.ub (T4.ub (T4.uc (T4.ud fun _ => v)))
def p92 : Value -> Tm -> Tm := fun v => T4.ub (T4.ub (T4.ud (T4.ua fun _ => v)))
def p93 : Value -> Tm -> Tm := fun v => T4.ub (T4.ub (T4.ud (T4.ub fun _ => v)))
def p94 : Value -> Tm -> Tm := fun v => T4.ub (T4.ub (T4.ud (T4.uc fun _ => v)))
def p95 : Value -> Tm -> Tm := fun v => T4.ub (T4.ub (T4.ud (T4.ud fun _ => v)))
def p96 : Value -> Tm -> Tm := fun v => T4.ub (T4.uc (T4.ua (T4.ua fun _ => v)))
def p97 : Value -> Tm -> Tm := fun v => T4.ub (T4.uc (T4.ua (T4.ub fun _ => v)))
def p98 : Value -> Tm -> Tm := fun v => T4.ub (T4.uc (T4.ua (T4.uc fun _ => v)))
def p99 : Value -> Tm -> Tm := fun v => T4.ub (T4.uc (T4.ua (T4.ud fun _ => v)))
def p100 : Value -> Tm -> Tm := fun v => T4.ub (T4.uc (T4.ub (T4.ua fun _ => v)))
def p101 : Value -> Tm -> Tm := fun v => T4.ub (T4.uc (T4.ub (T4.ub fun _ => v)))
def p102 : Value -> Tm -> Tm := fun v => T4.ub (T4.uc (T4.ub (T4.uc fun _ => v)))
def p103 : Value -> Tm -> Tm := fun v => T4.ub (T4.uc (T4.ub (T4.ud fun _ => v)))
def p104 : Value -> Tm -> Tm := fun v => T4.ub (T4.uc (T4.uc (T4.ua fun _ => v)))
def p105 : Value -> Tm -> Tm := fun v => T4.ub (T4.uc (T4.uc (T4.ub fun _ => v)))
def p106 : Value -> Tm -> Tm := fun v => T4.ub (T4.uc (T4.uc (T4.uc fun _ => v)))
def p107 : Value -> Tm -> Tm := fun v => T4.ub (T4.uc (T4.uc (T4.ud fun _ => v)))
def p108 : Value -> Tm -> Tm := fun v => T4.ub (T4.uc (T4.ud (T4.ua fun _ => v)))
def p109 : Value -> Tm -> Tm := fun v => T4.ub (T4.uc (T4.ud (T4.ub fun _ => v)))
def p110 : Value -> Tm -> Tm := fun v => T4.ub (T4.uc (T4.ud (T4.uc fun _ => v)))
def p111 : Value -> Tm -> Tm := fun v => T4.ub (T4.uc (T4.ud (T4.ud fun _ => v)))
def p112 : Value -> Tm -> Tm := fun v => T4.ub (T4.ud (T4.ua (T4.ua fun _ => v)))
def p113 : Value -> Tm -> Tm := fun v => T4.ub (T4.ud (T4.ua (T4.ub fun _ => v)))
def p114 : Value -> Tm -> Tm := fun v => T4.ub (T4.ud (T4.ua (T4.uc fun _ => v)))
def p115 : Value -> Tm -> Tm := fun v => T4.ub (T4.ud (T4.ua (T4.ud fun _ => v)))
def p116 : Value -> Tm -> Tm := fun v => T4.ub (T4.ud (T4.ub (T4.ua fun _ => v)))
def p117 : Value -> Tm -> Tm := fun v => T4.ub (T4.ud (T4.ub (T4.ub fun _ => v)))
def p118 : Value -> Tm -> Tm := fun v => T4.ub (T4.ud (T4.ub (T4.uc fun _ => v)))
def p119 : Value -> Tm -> Tm := fun v => T4.ub (T4.ud (T4.ub (T4.ud fun _ => v)))
def p120 : Value -> Tm -> Tm := fun v => T4.ub (T4.ud (T4.uc (T4.ua fun _ => v)))
def p121 : Value -> Tm -> Tm := fun v => T4.ub (T4.ud (T4.uc (T4.ub fun _ => v)))
def p122 : Value -> Tm -> Tm := fun v => T4.ub (T4.ud (T4.uc (T4.uc fun _ => v)))
def p123 : Value -> Tm -> Tm := fun v => T4.ub (T4.ud (T4.uc (T4.ud fun _ => v)))
def p124 : Value -> Tm -> Tm := fun v => T4.ub (T4.ud (T4.ud (T4.ua fun _ => v)))
def p125 : Value -> Tm -> Tm := fun v => T4.ub (T4.ud (T4.ud (T4.ub fun _ => v)))
def p126 : Value -> Tm -> Tm := fun v => T4.ub (T4.ud (T4.ud (T4.uc fun _ => v)))
def p127 : Value -> Tm -> Tm := fun v => T4.ub (T4.ud (T4.ud (T4.ud fun _ => v)))
def p128 : Value -> Tm -> Tm := fun v => T4.uc (T4.ua (T4.ua (T4.ua fun _ => v)))
def p129 : Value -> Tm -> Tm := fun v => T4.uc (T4.ua (T4.ua (T4.ub fun _ => v)))
def p130 : Value -> Tm -> Tm := fun v => T4.uc (T4.ua (T4.ua (T4.uc fun _ => v)))
def p131 : Value -> Tm -> Tm := fun v => T4.uc (T4.ua (T4.ua (T4.ud fun _ => v)))
def p132 : Value -> Tm -> Tm := fun v => T4.uc (T4.ua (T4.ub (T4.ua fun _ => v)))
def p133 : Value -> Tm -> Tm := fun v => T4.uc (T4.ua (T4.ub (T4.ub fun _ => v)))
def p134 : Value -> Tm -> Tm := fun v => T4.uc (T4.ua (T4.ub (T4.uc fun _ => v)))
def p135 : Value -> Tm -> Tm := fun v => T4.uc (T4.ua (T4.ub (T4.ud fun _ => v)))
def p136 : Value -> Tm -> Tm := fun v => T4.uc (T4.ua (T4.uc (T4.ua fun _ => v)))
def p137 : Value -> Tm -> Tm := fun v => T4.uc (T4.ua (T4.uc (T4.ub fun _ => v)))
def p138 : Value -> Tm -> Tm := fun v => T4.uc (T4.ua (T4.uc (T4.uc fun _ => v)))
def p139 : Value -> Tm -> Tm := fun v => T4.uc (T4.ua (T4.uc (T4.ud fun _ => v)))
def p140 : Value -> Tm -> Tm := fun v => T4.uc (T4.ua (T4.ud (T4.ua fun _ => v)))
def p141 : Value -> Tm -> Tm := fun v => T4.uc (T4.ua (T4.ud (T4.ub fun _ => v)))
def p142 : Value -> Tm -> Tm := fun v => T4.uc (T4.ua (T4.ud (T4.uc fun _ => v)))
def p143 : Value -> Tm -> Tm := fun v => T4.uc (T4.ua (T4.ud (T4.ud fun _ => v)))
def p144 : Value -> Tm -> Tm := fun v => T4.uc (T4.ub (T4.ua (T4.ua fun _ => v)))
def p145 : Value -> Tm -> Tm := fun v => T4.uc (T4.ub (T4.ua (T4.ub fun _ => v)))
def p146 : Value -> Tm -> Tm := fun v => T4.uc (T4.ub (T4.ua (T4.uc fun _ => v)))
def p147 : Value -> Tm -> Tm := fun v => T4.uc (T4.ub (T4.ua (T4.ud fun _ => v)))
def p148 : Value -> Tm -> Tm := fun v => T4.uc (T4.ub (T4.ub (T4.ua fun _ => v)))
def p149 : Value -> Tm -> Tm := fun v => T4.uc (T4.ub (T4.ub (T4.ub fun _ => v)))
def p150 : Value -> Tm -> Tm := fun v => T4.uc (T4.ub (T4.ub (T4.uc fun _ => v)))
def p151 : Value -> Tm -> Tm := fun v => T4.uc (T4.ub (T4.ub (T4.ud fun _ => v)))
def p152 : Value -> Tm -> Tm := fun v => T4.uc (T4.ub (T4.uc (T4.ua fun _ => v)))
def p153 : Value -> Tm -> Tm := fun v => T4.uc (T4.ub (T4.uc (T4.ub fun _ => v)))
def p154 : Value -> Tm -> Tm := fun v => T4.uc (T4.ub (T4.uc (T4.uc fun _ => v)))
def p155 : Value -> Tm -> Tm := fun v => T4.uc (T4.ub (T4.uc (T4.ud fun _ => v)))
def p156 : Value -> Tm -> Tm := fun v => T4.uc (T4.ub (T4.ud (T4.ua fun _ => v)))
def p157 : Value -> Tm -> Tm := fun v => T4.uc (T4.ub (T4.ud (T4.ub fun _ => v)))
def p158 : Value -> Tm -> Tm := fun v => T4.uc (T4.ub (T4.ud (T4.uc fun _ => v)))
def p159 : Value -> Tm -> Tm := fun v => T4.uc (T4.ub (T4.ud (T4.ud fun _ => v)))
def p160 : Value -> Tm -> Tm := fun v => T4.uc (T4.uc (T4.ua (T4.ua fun _ => v)))
def p161 : Value -> Tm -> Tm := fun v => T4.uc (T4.uc (T4.ua (T4.ub fun _ => v)))
def p162 : Value -> Tm -> Tm := fun v => T4.uc (T4.uc (T4.ua (T4.uc fun _ => v)))
def p163 : Value -> Tm -> Tm := fun v => T4.uc (T4.uc (T4.ua (T4.ud fun _ => v)))
def p164 : Value -> Tm -> Tm := fun v => T4.uc (T4.uc (T4.ub (T4.ua fun _ => v)))
def p165 : Value -> Tm -> Tm := fun v => T4.uc (T4.uc (T4.ub (T4.ub fun _ => v)))
def p166 : Value -> Tm -> Tm := fun v => T4.uc (T4.uc (T4.ub (T4.uc fun _ => v)))
def p167 : Value -> Tm -> Tm := fun v => T4.uc (T4.uc (T4.ub (T4.ud fun _ => v)))
def p168 : Value -> Tm -> Tm := fun v => T4.uc (T4.uc (T4.uc (T4.ua fun _ => v)))
def p169 : Value -> Tm -> Tm := fun v => T4.uc (T4.uc (T4.uc (T4.ub fun _ => v)))
def p170 : Value -> Tm -> Tm := fun v => T4.uc (T4.uc (T4.uc (T4.uc fun _ => v)))
def p171 : Value -> Tm -> Tm := fun v => T4.uc (T4.uc (T4.uc (T4.ud fun _ => v)))
def p172 : Value -> Tm -> Tm := fun v => T4.uc (T4.uc (T4.ud (T4.ua fun _ => v)))
def p173 : Value -> Tm -> Tm := fun v => T4.uc (T4.uc (T4.ud (T4.ub fun _ => v)))
def p174 : Value -> Tm -> Tm := fun v => T4.uc (T4.uc (T4.ud (T4.uc fun _ => v)))
def p175 : Value -> Tm -> Tm := fun v => T4.uc (T4.uc (T4.ud (T4.ud fun _ => v)))
def p176 : Value -> Tm -> Tm := fun v => T4.uc (T4.ud (T4.ua (T4.ua fun _ => v)))
def p177 : Value -> Tm -> Tm := fun v => T4.uc (T4.ud (T4.ua (T4.ub fun _ => v)))
def p178 : Value -> Tm -> Tm := fun v => T4.uc (T4.ud (T4.ua (T4.uc fun _ => v)))
def p179 : Value -> Tm -> Tm := fun v => T4.uc (T4.ud (T4.ua (T4.ud fun _ => v)))
def p180 : Value -> Tm -> Tm := fun v => T4.uc (T4.ud (T4.ub (T4.ua fun _ => v)))
def p181 : Value -> Tm -> Tm := fun v => T4.uc (T4.ud (T4.ub (T4.ub fun _ => v)))
def p182 : Value -> Tm -> Tm := fun v => T4.uc (T4.ud (T4.ub (T4.uc fun _ => v)))
def p183 : Value -> Tm -> Tm := fun v => T4.uc (T4.ud (T4.ub (T4.ud fun _ => v)))
def p184 : Value -> Tm -> Tm := fun v => T4.uc (T4.ud (T4.uc (T4.ua fun _ => v)))
def p185 : Value -> Tm -> Tm := fun v => T4.uc (T4.ud (T4.uc (T4.ub fun _ => v)))
def p186 : Value -> Tm -> Tm := fun v => T4.uc (T4.ud (T4.uc (T4.uc fun _ => v)))
def p187 : Value -> Tm -> Tm := fun v => T4.uc (T4.ud (T4.uc (T4.ud fun _ => v)))
def p188 : Value -> Tm -> Tm := fun v => T4.uc (T4.ud (T4.ud (T4.ua fun _ => v)))
def p189 : Value -> Tm -> Tm := fun v => T4.uc (T4.ud (T4.ud (T4.ub fun _ => v)))
def p190 : Value -> Tm -> Tm := fun v => T4.uc (T4.ud (T4.ud (T4.uc fun _ => v)))
def p191 : Value -> Tm -> Tm := fun v => T4.uc (T4.ud (T4.ud (T4.ud fun _ => v)))
def p192 : Value -> Tm -> Tm := fun v => T4.ud (T4.ua (T4.ua (T4.ua fun _ => v)))
def p193 : Value -> Tm -> Tm := fun v => T4.ud (T4.ua (T4.ua (T4.ub fun _ => v)))
def p194 : Value -> Tm -> Tm := fun v => T4.ud (T4.ua (T4.ua (T4.uc fun _ => v)))
def p195 : Value -> Tm -> Tm := fun v => T4.ud (T4.ua (T4.ua (T4.ud fun _ => v)))
end Go.Eng
end
