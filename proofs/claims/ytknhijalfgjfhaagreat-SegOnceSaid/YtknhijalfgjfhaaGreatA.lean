/-
  An abstract machine for the program's code: values, memory, what operations and code do, how the model's code is compiled for it. No condition.
-/
import GoSem.Dispatch
import GoSem.Machine.Frame
set_option linter.unusedVariables false
set_option linter.unusedSimpArgs false
set_option linter.unusedSectionVars false
open Nat renaming rec -> Xix, beq -> XhD, succ -> Xid, ble -> XhM, add -> XhR, blt -> XhK, mul -> XhX
open Bool renaming rec -> Xh3
open List renaming rec -> XhS, range -> Xir
open BitVec renaming ofInt -> XhZ
noncomputable section
namespace Go.Eng
inductive Dg where
 | d0 | d1 | d2 | d3
 deriving DecidableEq
def XcR : Nat -> Dg
 | 0 => .d0
 | 1 => .d1
 | 2 => .d2
 | _ => .d3
structure T4 (α : Type) where
 a : α
 b : α
 c : α
 d : α
def T4.all {α : Type} (v : α) : T4 α := ⟨v, v, v, v⟩
def T4.get {α : Type} : Dg -> T4 α -> α
 | .d0 => T4.a
 | .d1 => T4.b
 | .d2 => T4.c
 | .d3 => T4.d
def T4.ua {α : Type} (f : α -> α) : T4 α -> T4 α := T4.rec fun a b c d => ⟨f a, b, c, d⟩
def T4.ub {α : Type} (f : α -> α) : T4 α -> T4 α := T4.rec fun a b c d => ⟨a, f b, c, d⟩
def T4.uc {α : Type} (f : α -> α) : T4 α -> T4 α := T4.rec fun a b c d => ⟨a, b, f c, d⟩
def T4.ud {α : Type} (f : α -> α) : T4 α -> T4 α := T4.rec fun a b c d => ⟨a, b, c, f d⟩
def T4.up {α : Type} : Dg -> (α -> α) -> T4 α -> T4 α
 | .d0 => T4.ua
 | .d1 => T4.ub
 | .d2 => T4.uc
 | .d3 => T4.ud
abbrev Tm := T4 (T4 (T4 (T4 Value)))
def Zi (n : Nat) (t : Tm) : Value := T4.get (XcR (n % 4)) (T4.get (XcR (n / 4 % 4)) (T4.get (XcR (n / 16 % 4)) (T4.get (XcR (n / 64)) t)))
def JK (n : Nat) (v : Value) : Tm -> Tm := T4.up (XcR (n / 64)) (T4.up (XcR (n / 16 % 4)) (T4.up (XcR (n / 4 % 4)) (T4.up (XcR (n % 4)) fun _ => v)))
def Tm.empty : Tm := T4.all (T4.all (T4.all (T4.all undef)))
inductive Tr (α : Type) where
 | nil
 | node (v : Option α) (l r : Tr α)
def Tr.get {α : Type} (t : Tr α) : Nat -> Option α :=
 Tr.rec (motive := fun _ => Nat -> Option α) (fun _ => none)
  (fun v _ _ ihl ihr n => Xix (motive := fun _ => Option α) v
   (fun m _ => Xh3 (motive := fun _ => Option α) (ihr (Nat.div m 2)) (ihl (Nat.div m 2)) (XhD (Nat.mod m 2) 0)) n) t
def Tr.setF {α : Type} (a : Option α) (f : Nat) : Tr α -> Nat -> Tr α :=
 Xix (motive := fun _ => Tr α -> Nat -> Tr α) (fun t _ => t)
  (fun _ ih t n => Xix (motive := fun _ => Tr α)
   (Tr.rec (motive := fun _ => Tr α) (.node a .nil .nil) (fun _ l r _ _ => .node a l r) t)
   (fun m _ => Xh3 (motive := fun _ => Tr α)
    (Tr.rec (motive := fun _ => Tr α) (.node none .nil (ih .nil (Nat.div m 2))) (fun v l r _ _ => .node v l (ih r (Nat.div m 2))) t)
    (Tr.rec (motive := fun _ => Tr α) (.node none (ih .nil (Nat.div m 2)) .nil) (fun v l r _ _ => .node v (ih l (Nat.div m 2)) r) t)
    (XhD (Nat.mod m 2) 0)) n) f
def Tr.put {α : Type} (t : Tr α) (n : Nat) (a : Option α) : Tr α := Tr.setF a (Xid n) t n
inductive Opd where
 | tmp (n : Nat)
 | const (v : Value)
inductive Jf where
 | int (k : IntKind)
 | str
 | bool
 deriving DecidableEq
inductive Pred where   -- kinds of equality
 | int | str | bool | ptr | slice | map | func | iface | ifaceNil | flat (ls : List Jf)
inductive KSh where
 | one (l : Jf)
 | many (n : Nat) (k : IntKind)
inductive LenK where
 | str | sl | map
structure Part where
 off : Nat
 size : Nat
 x : Opd
inductive COp where
 | move (x : Opd)
 | pick (c a b : Opd)
 | alloc (zero : List Value)
 | box (x : Opd)
 | build (zero : List Value) (parts : List Part)
 | buildSlice (zero : List Value) (parts : List Part) (len : Nat)
 | load1 (a : Opd)
 | loadN (n : Nat) (a : Opd)
 | store (n : Nat) (a x : Opd)
 | nilCheck (x : Opd)
 | bin (op : BinOp) (x y : Opd)
 | eq (neg : Bool) (p : Pred) (x y : Opd)
 | un (op : UnOp) (x : Opd)
 | intTo (k : IntKind) (x : Opd)
 | str (x : Opd)
 | bytesTo (x : Opd)
 | toBytes (x : Opd)
 | stamp (x : Opd)
 | mkIface (t : Nat) (x : Opd)
 | mkFunc (fn : Fn) (first captured : List Opd)
 | mkMap (sh : KSh)
 | mkSlice (zero : List Value) (len cap : Opd)
 | sliceStr (x : Opd) (lo hi : Option Opd)
 | sliceSl (size : Nat) (x : Opd) (lo hi mx : Option Opd)
 | sliceArr (n size : Nat) (x : Opd) (lo hi mx : Option Opd)
 | toArr (n : Nat) (x : Opd)
 | fieldAddr (off : Nat) (x : Opd)
 | field (off : Nat) (size : Option Nat) (x : Opd)
 | ixSl (size : Nat) (x i : Opd)
 | ixArr (n size : Nat) (x i : Opd)
 | ixStr (x i : Opd)
 | ixVal (n esz : Nat) (agg : Bool) (x i : Opd)
 | lookup (sh : KSh) (zero : Value) (ok : Bool) (x i : Opd)
 | mapUpdate (sh : KSh) (m k x : Opd)
 | rangeMap (x : Opd)
 | rangeStr (x : Opd)
 | nextMap (it : Opd)
 | nextStr (it : Opd)
 | entry (it : Opd)
 | assertT (t : Nat) (zero : Value) (ok : Bool) (x : Opd)
 | assertI (types : Nat) (fits : List Nat) (zero : Value) (ok : Bool) (x : Opd)
 | extract (i : Nat) (x : Opd)
 | len (k : LenK) (x : Opd)
 | lenC (n : Nat)
 | cap (x : Opd)
 | append (size : Nat) (s x : Opd)
 | appendZ (zero : List Value) (s x : Opd)
 | copy (size : Nat) (d s : Opd)
 | delete (sh : KSh) (m k : Opd)
 | clear (zero : List Value) (x : Opd)
 | max (x : Opd) (xs : List Opd)
 | min (x : Opd) (xs : List Opd)
 | panic (x : Opd)
 | recover
 | call (f : Opd) (args : List Opd)
 | invoke (x : Opd) (name : String) (args : List Opd)
 | defer (f : Opd) (args : List Opd)
 | bad (why : String)
inductive Rcv where
 | whole
 | cell
 | cells (n : Nat)
 | part (off : Nat) (size : Option Nat)
structure W0 where
 guard : Option (Nat × Bool)
 dst : Option Nat
 op : COp
 idx : Nat
 un : List Nat
 pre : List Nat
inductive CCode where
 | skip
 | region (draw : Bool) (ops : List W0)
 | seq (a b : CCode)
 | cond (c : Opd) (a b : CCode)
 | block (id : Nat) (c : CCode)
 | loop (c : CCode)
 | rangeFunc (f : Opd) (params : List Nat) (assign body : CCode)
 | exit (id : Nat)
 | ret
 | bad (why : String)
inductive CRes where
 | tmp (s : Nat)
 | cell1 (s : Nat)
 | cellN (s n : Nat)
structure CFun where
 results : List CRes
 body : CCode
inductive Jump where
 | ret | exit (id : Nat)
inductive LState where
 | ready | busy | done | exhausted
 deriving DecidableEq
inductive ADef where
 | call (fn : Value) (args : List Value)
 | mark (b : Nat)
structure ALoop where
 state : LState
 pending : Option Jump
 tmps : Tm
 params : List Nat
 assign : CCode
 body : CCode
inductive AObj where
 | cells (w : Bool) (c : List Value)
 | map (sh : KSh) (ver : Nat) (es : List (Value × Value))
 | miter (m : Option Nat) (ver : Nat) (left : List (Value × Value)) (last : Option (Value × Value))
 | siter (s : ByteArray) (pos : Nat)
 | loop (l : ALoop)
 | mark
structure Heap where
 next : Nat
 t : Tr AObj
def Heap.get (h : Heap) (b : Nat) : Option AObj := h.t.get b
def Heap.push (h : Heap) (o : AObj) : Heap := ⟨Xid h.next, h.t.put h.next (some o)⟩
def Heap.put (h : Heap) (b : Nat) (o : Option AObj) : Heap := ⟨h.next, h.t.put b o⟩
inductive WT where
 | returning
 | panicking (chain : List (Value × Bool))     -- recovered?
structure Aux where
 defers : List ADef
 round : Option Nat
 rc : Option WT
inductive Rz where
 | norm (t : Tm) (x : Aux) (h : Heap)
 | exit (id : Nat) (t : Tm) (x : Aux) (h : Heap)
 | ret (t : Tm) (x : Aux) (h : Heap)
 | panic (v : Value) (lost : List Nat) (t : Tm) (x : Aux) (h : Heap)
 | got (v : Value) (x : Aux) (h : Heap)
 | fail (why : String)
 | any (n : Nat) (k : Nat -> Rz)
inductive Er where
 | ret (v : Value) (h : Heap)
 | panic (chain : List (Value × Bool)) (h : Heap)
 | fail (why : String)
 | any (n : Nat) (k : Nat -> Er)
abbrev Xe := Tm -> Value
def kC (v : Value) : Xe := fun _ => v
def Opd.val : Opd -> Xe
 | .tmp n => Zi n
 | .const v => kC v
def Xb1 (v : Value) : Option Addr :=
 Value.casesOn (motive_1 := fun _ => Option Addr) v (fun _ => none) (fun _ _ => none) (fun _ _ => none) (fun _ _ _ => none) (fun _ => none) (fun a => a) (fun _ _ _ => none) (fun _ => none) (fun _ => none) (fun _ _ _ => none) none (fun _ _ => none) none (fun _ => none) (fun _ => none)
def asBool (v : Value) : Option Bool :=
 Value.casesOn (motive_1 := fun _ => Option Bool) v (fun b => some b) (fun _ _ => none) (fun _ _ => none) (fun _ _ _ => none) (fun _ => none) (fun _ => none) (fun _ _ _ => none) (fun _ => none) (fun _ => none) (fun _ _ _ => none) none (fun _ _ => none) none (fun _ => none) (fun _ => none)
def Wf (v : Value) : Option Nat :=
 Value.casesOn (motive_1 := fun _ => Option Nat) v (fun _ => none) (fun _ n => Int.casesOn (motive := fun _ => Option Nat) n (fun n => some n) (fun _ => none)) (fun _ _ => none) (fun _ _ _ => none) (fun _ => none) (fun _ => none) (fun _ _ _ => none) (fun _ => none) (fun _ => none) (fun _ _ _ => none) none (fun _ _ => none) none (fun _ => none) (fun _ => none)
def asStr (v : Value) : Option (List UInt8) :=
 Value.casesOn (motive_1 := fun _ => Option (List UInt8)) v (fun _ => none) (fun _ _ => none) (fun _ _ => none) (fun _ _ _ => none) (fun s => some s.data.toList) (fun _ => none) (fun _ _ _ => none) (fun _ => none) (fun _ => none) (fun _ _ _ => none) none (fun _ _ => none) none (fun _ => none) (fun _ => none)
def asTuple (v : Value) : List Value :=
 Value.casesOn (motive_1 := fun _ => List Value) v (fun _ => []) (fun _ _ => []) (fun _ _ => []) (fun _ _ _ => []) (fun _ => []) (fun _ => []) (fun _ _ _ => []) (fun _ => []) (fun _ => []) (fun _ _ _ => []) [] (fun _ _ => []) [] (fun _ => []) (fun vs => vs.toList)
def Xen (v : Value) : Option (List Value) :=
 Value.casesOn (motive_1 := fun _ => Option (List Value)) v (fun _ => none) (fun _ _ => none) (fun _ _ => none) (fun _ _ _ => none) (fun _ => none) (fun _ => none) (fun _ _ _ => none) (fun _ => none) (fun _ => none) (fun _ _ _ => none) none (fun _ _ => none) none (fun vs => some vs.toList) (fun _ => none)
def isTrue (v : Value) : Bool :=
 Value.casesOn (motive_1 := fun _ => Bool) v (fun b => b) (fun _ _ => false) (fun _ _ => false) (fun _ _ _ => false) (fun _ => false) (fun _ => false) (fun _ _ _ => false) (fun _ => false) (fun _ => false) (fun _ _ _ => false) false (fun _ _ => false) false (fun _ => false) (fun _ => false)
def isFalse (v : Value) : Bool :=
 Value.casesOn (motive_1 := fun _ => Bool) v (fun b => Xh3 (motive := fun _ => Bool) true false b) (fun _ _ => false) (fun _ _ => false) (fun _ _ _ => false) (fun _ => false) (fun _ => false) (fun _ _ _ => false) (fun _ => false) (fun _ => false) (fun _ _ _ => false) false (fun _ _ => false) false (fun _ => false) (fun _ => false)
def Yr {α β : Type} (z : β) (k : α -> β) (o : Option α) : β := Option.rec (motive := fun _ => β) z k o
def cellsOf : Value -> Option (List Value)
 | .agg cs => some cs.toList
 | .tuple _ => none
 | v => some [v]
def over (ys : List Value) : List Value -> List Value :=
 XhS (motive := fun _ => List Value -> List Value) (fun xs => xs)
  (fun y _ ih xs => XhS (motive := fun _ => List Value) [] (fun _ xs _ => y :: ih xs) xs) ys
def XZ (ys : List Value) (n : Nat) : List Value -> List Value :=
 Xix (motive := fun _ => List Value -> List Value) (fun xs => over ys xs)
  (fun _ ih xs => XhS (motive := fun _ => List Value) [] (fun x xs _ => x :: ih xs) xs) n
def nth (n : Nat) : List Value -> Option Value :=
 Xix (motive := fun _ => List Value -> Option Value) (fun xs => XhS (motive := fun _ => Option Value) none (fun x _ _ => some x) xs)
  (fun _ ih xs => XhS (motive := fun _ => Option Value) none (fun _ xs _ => ih xs) xs) n
def XY (n : Nat) : List Value -> List Value :=
 Xix (motive := fun _ => List Value -> List Value) (fun xs => xs)
  (fun _ ih xs => XhS (motive := fun _ => List Value) [] (fun _ xs _ => ih xs) xs) n
def XU (n : Nat) : List Value -> Option (List Value) :=
 Xix (motive := fun _ => List Value -> Option (List Value)) (fun _ => some [])
  (fun _ ih xs => XhS (motive := fun _ => Option (List Value)) none
   (fun x xs _ => Option.rec (motive := fun _ => Option (List Value)) none (fun r => some (x :: r)) (ih xs)) xs) n
def Wy (xs : List Value) : Nat := XhS (motive := fun _ => Nat) 0 (fun _ _ ih => Xid ih) xs
def app (xs ys : List Value) : List Value := XhS (motive := fun _ => List Value) ys (fun x _ ih => x :: ih) xs
def rep (xs : List Value) (n : Nat) : List Value := Xix (motive := fun _ => List Value) [] (fun _ ih => app xs ih) n
def J1 (t : Tm) (xs : List Xe) : List Value := XhS (motive := fun _ => List Value) [] (fun x _ ih => x t :: ih) xs
def Yz (t : Tm) (ps : List (Nat × Nat × Xe)) : List Value -> Option (List Value) :=
 XhS (motive := fun _ => List Value -> Option (List Value)) (fun cs => some cs)
  (fun p _ ih cs => Yr none (fun ys => bif XhD (Wy ys) p.2.1 && XhM (XhR p.1 p.2.1) (Wy cs) then ih (XZ ys p.1 cs) else none) (cellsOf (p.2.2 t))) ps
def J2 (a b : Int) : Bool :=
 match a, b with
 | .ofNat m, .ofNat n => XhD m n
 | .negSucc m, .negSucc n => XhD m n
 | _, _ => false
def XcS (a b : Int) : Bool :=
 match a, b with
 | .ofNat m, .ofNat n => XhK m n
 | .ofNat _, .negSucc _ => false
 | .negSucc _, .ofNat _ => true
 | .negSucc m, .negSucc n => XhK n m
def XL : IntKind -> IntKind -> Bool
 | .i8, .i8 | .i16, .i16 | .i32, .i32 | .i64, .i64 | .u8, .u8 | .u16, .u16 | .u32, .u32 | .u64, .u64 => true
 | _, _ => false
def bytes (s : ByteArray) : List UInt8 := s.data.toList
def Vf (xs : List UInt8) : List UInt8 -> Bool :=
 XhS (motive := fun _ => List UInt8 -> Bool) (fun ys => XhS (motive := fun _ => Bool) true (fun _ _ _ => false) ys)
  (fun x _ ih ys => XhS (motive := fun _ => Bool) false (fun y ys _ => bif XhD x.toNat y.toNat then ih ys else false) ys) xs
def XdA (xs : List UInt8) : List UInt8 -> Bool :=
 XhS (motive := fun _ => List UInt8 -> Bool) (fun ys => XhS (motive := fun _ => Bool) false (fun _ _ _ => true) ys)
  (fun x _ ih ys => XhS (motive := fun _ => Bool) false (fun y ys _ => bif XhK x.toNat y.toNat then true else bif XhD x.toNat y.toNat then ih ys else false) ys) xs
def Uy : Jf -> Value -> Value -> Option Bool
 | .int l, .int j a, .int k b => bif XL l j && XL l k then some (J2 a b) else none
 | .str, .string a, .string b => some (Vf (bytes a) (bytes b))
 | .bool, .bool a, .bool b => some (a == b)
 | _, _, _ => none
def YD (ls : List Jf) : List Value -> List Value -> Option Bool :=
 XhS (motive := fun _ => List Value -> List Value -> Option Bool) (fun _ _ => some true)
  (fun l _ ih xs ys => XhS (motive := fun _ => Option Bool) none (fun x xs _ => XhS (motive := fun _ => Option Bool) none
   (fun y ys _ => match Uy l x y with
    | some true => ih xs ys
    | some false => some false
    | none => none) ys) xs) ls
def manyEq (l : Jf) (xs : List Value) : List Value -> Option Bool :=
 XhS (motive := fun _ => List Value -> Option Bool) (fun ys => XhS (motive := fun _ => Option Bool) (some true) (fun _ _ _ => none) ys)
  (fun x _ ih ys => XhS (motive := fun _ => Option Bool) none
   (fun y ys _ => match Uy l x y with
    | some true => ih ys
    | some false => some false
    | none => none) ys) xs
def predEq : Pred -> Value -> Value -> Option Bool
 | .int, .int j a, .int k b => bif XL j k then some (J2 a b) else none
 | .str, .string a, .string b => some (Vf (bytes a) (bytes b))
 | .bool, .bool a, .bool b => some (a == b)
 | .ptr, .pointer none, .pointer b => some b.isNone
 | .ptr, .pointer _, .pointer none => some false
 | .ptr, .pointer (some a), .pointer (some b) => if a = b then some true else none
 | .slice, .slice none _ _, .slice b _ _ => some b.isNone
 | .slice, .slice (some _) _ _, .slice none _ _ => some false
 | .map, .map none, .map b => some b.isNone
 | .map, .map (some _), .map none => some false
 | .func, .nilFunc, .nilFunc => some true
 | .func, .nilFunc, .func _ _ _ | .func, .func _ _ _, .nilFunc => some false
 | .iface, .nilIface, .iface _ _ | .iface, .iface _ _, .nilIface => some false
 | .ifaceNil, .nilIface, .nilIface => some true
 | .ifaceNil, .nilIface, .iface _ _ | .ifaceNil, .iface _ _, .nilIface => some false
 | .flat ls, .agg a, .agg b => YD ls a.toList b.toList
 | _, _, _ => none
def XbT : Jf -> Value -> Bool
 | .int k, .int k' _ => XL k k'
 | .str, .string _ => true
 | .bool, .bool _ => true
 | _, _ => false
def VF (l : Jf) (cs : List Value) (n : Nat) : Bool :=      -- n of that kind, no more
 XhS (motive := fun _ => Nat -> Bool) (fun n => XhD n 0) (fun c _ ih n => Xix (motive := fun _ => Bool) false (fun n _ => XbT l c && ih n) n) cs n
def Wg : KSh -> Value -> Bool
 | .one l, v => XbT l v
 | .many n k, .agg cs => VF (.int k) cs.toList n
 | _, _ => false
def sameLeaf : Jf -> Jf -> Bool
 | .int a, .int b => XL a b
 | .str, .str => true
 | .bool, .bool => true
 | _, _ => false
def XcT : KSh -> KSh -> Bool
 | .one a, .one b => sameLeaf a b
 | .many n a, .many m b => XhD n m && XL a b
 | _, _ => false
def JL : KSh -> Value -> Value -> Option Bool
 | .one l, x, y => Uy l x y
 | .many _ k, .agg a, .agg b => manyEq (.int k) a.toList b.toList
 | _, _, _ => none
def binInt (op : BinOp) : IntKind -> Int -> Int -> Option Value :=
 match op with
 | .add => fun k a b => some (.int k (k.wrap (a + b)))
 | .sub => fun k a b => some (.int k (k.wrap (a - b)))
 | .mul => fun k a b => some (.int k (k.wrap (a * b)))
 | .quo => fun k a b => bif J2 b 0 then none else some (.int k (k.wrap (a.tdiv b)))
 | .rem => fun k a b => bif J2 b 0 then none else some (.int k (a.tmod b))
 | .and => fun k a b => some (.int k (k.wrap ((XhZ k.bits a &&& XhZ k.bits b).toNat)))
 | .or => fun k a b => some (.int k (k.wrap ((XhZ k.bits a ||| XhZ k.bits b).toNat)))
 | .xor => fun k a b => some (.int k (k.wrap ((XhZ k.bits a ^^^ XhZ k.bits b).toNat)))
 | .andNot => fun k a b => some (.int k (k.wrap ((XhZ k.bits a &&& ~~~ (XhZ k.bits b)).toNat)))
 | .lss => fun _ a b => some (.bool (XcS a b))
 | .leq => fun _ a b => some (.bool (!XcS b a))
 | .gtr => fun _ a b => some (.bool (XcS b a))
 | .geq => fun _ a b => some (.bool (!XcS a b))
 | _ => fun _ _ _ => none
def binStr (op : BinOp) : List UInt8 -> List UInt8 -> Option Value :=
 match op with
 | .add => fun x y => bif XhM (x.length + y.length) 9223372036854775807 then some (.string ⟨⟨x ++ y⟩⟩) else none
 | .lss => fun x y => some (.bool (XdA x y))
 | .leq => fun x y => some (.bool (XdA x y || Vf x y))
 | .gtr => fun x y => some (.bool !(XdA x y || Vf x y))
 | .geq => fun x y => some (.bool !(XdA x y))
 | _ => fun _ _ => none
def shiftV (op : BinOp) : IntKind -> Int -> Int -> Option Value :=
 match op with
 | .shl => fun k a b => bif XcS b 0 then none else some (.int k (k.wrap (a * 2 ^ (min b.toNat k.bits))))
 | .shr => fun k a b => bif XcS b 0 then none else some (.int k (a.fdiv (2 ^ (min b.toNat k.bits))))
 | _ => fun _ _ _ => none
def BinOp.isShift : BinOp -> Bool
 | .shl | .shr => true
 | _ => false
def binV (op : BinOp) : Value -> Value -> Option Value
 | .int k a, .int k' b => bif BinOp.isShift op then shiftV op k a b else bif XL k k' then binInt op k a b else none
 | .string a, .string b => binStr op (bytes a) (bytes b)
 | _, _ => none
def unV (op : UnOp) : Value -> Option Value
 | .int k n => match op with
  | .neg => some (.int k (k.wrap (0 - n)))
  | .xor => some (.int k (k.wrap ((XhZ k.bits (if k.signed then -1 else k.max) ^^^ XhZ k.bits n).toNat)))
  | _ => none
 | .bool b => match op with
  | .not => some (.bool !b)
  | _ => none
 | _ => none
def max2 : Value -> Value -> Option Value
 | .int k x, .int _ y => some (.int k (bif XcS x y then y else x))
 | .string x, .string y => some (.string (bif XdA (bytes x) (bytes y) then y else x))
 | _, _ => none
def min2 : Value -> Value -> Option Value
 | .int k x, .int _ y => some (.int k (bif XcS y x then y else x))
 | .string x, .string y => some (.string (bif XdA (bytes x) (bytes y) || Vf (bytes x) (bytes y) then x else y))
 | _, _ => none
def foldV (f : Value -> Value -> Option Value) : Value -> List Value -> Option Value
 | v, [] => some v
 | v, x :: xs => match f v x with
  | some r => foldV f r xs
  | none => none
def Heap.load (h : Heap) (b off n : Nat) : Option (List Value) :=
 match h.get b with
 | some (.cells _ c) => XU n (XY off c)
 | _ => none
def Heap.load1 (h : Heap) (b off : Nat) : Option Value :=
 match h.get b with
 | some (.cells _ c) => nth off c
 | _ => none
def Heap.store (h : Heap) (b off n : Nat) (ys : List Value) : Option Heap :=      -- n: how many ys are
 match h.get b with
 | some (.cells true c) => bif XhM (XhR off n) (Wy c) then some (h.put b (some (.cells true (XZ ys off c)))) else none
 | _ => none
def byteVal (b : UInt8) : Value := .int .u8 b.toNat
def Xa (xs : List UInt8) : List Value := XhS (motive := fun _ => List Value) [] (fun x _ ih => byteVal x :: ih) xs
def Heap.elems (h : Heap) (size n : Nat) : Value -> Option (List Value)
 | .slice (some a) _ _ => h.load a.block a.off (XhX n size)
 | .slice none _ _ => bif XhD n 0 then some [] else none
 | .string s => bif XhD size 1 then XU n (Xa (bytes s)) else none
 | _ => none
def lenV : Value -> Option Nat
 | .slice _ n _ => some n
 | .string s => some (bytes s).length
 | _ => none
def WV (size : Nat) : Option Nat := some size
def Heap.appendL (h : Heap) (size : Nat) (s : Value) (n : Nat) (new : List Value) : Option (Value × Heap) :=
 match s with
 | .slice none 0 0 => match n with
  | 0 => some (.slice none 0 0, h)
  | n + 1 => bif XhK n 100000000 then some (.slice (some ⟨h.next, 0, WV size⟩) (n + 1) (n + 1), h.push (.cells true new)) else none
 | .slice (some a) len cap =>
  match h.load a.block a.off (XhX len size) with
  | some old =>
   bif !(XhK (XhR len n) 100000000) then none else
   bif XhM (XhR len n) cap then
    bif XhD n 0 then some (.slice (some a) len cap, h)
    else match h.store a.block (XhR a.off (XhX len size)) (XhX n size) new with
    | some h' => some (.slice (some a) (XhR len n) cap, h')
    | none => none
   else match a.spot with
    | none => some (.slice (some ⟨h.next, 0, WV size⟩) (XhR len n) (XhR len n), h.push (.cells true (app old new)))
    | some sz =>
     bif XhD cap 0 || !(XhD sz size) then none else
     match h.get a.block with
     | some (.cells true _) => some (.slice (some ⟨h.next, 0, WV size⟩) (XhR len n) (XhR len n), (h.put a.block none).push (.cells true (app old new)))
     | _ => none
  | none => none
 | _ => none
def Heap.append (h : Heap) (size : Nat) (s x : Value) : Option (Value × Heap) :=
 match lenV x with
 | some n => match h.elems size n x with
  | some new => h.appendL size s n new
  | none => none
 | none => none
def bytesOf : List Value -> Option (List UInt8)
 | [] => some []
 | .int .u8 n :: rest => match bytesOf rest with
  | some r => some (UInt8.ofNat n.toNat :: r)
  | none => none
 | _ => none
def JM (sh : KSh) (k : Value) (es : List (Value × Value)) : Option (Option Value) :=     -- none: it can't be told
 XhS (motive := fun _ => Option (Option Value)) (some none)
  (fun e _ ih => match JL sh k e.1 with
   | some true => some (some e.2)
   | some false => ih
   | none => none) es
def XaN (k v : Value) (eq : Value -> Value -> Option Bool) : List (Value × Value) -> Option (List (Value × Value))
 | [] => some [(k, v)]
 | (k', v') :: rest => match eq k k' with
  | some true => some ((k, v) :: rest)
  | some false => match XaN k v eq rest with
   | some r => some ((k', v') :: r)
   | none => none
  | none => none
def Xeo (k : Value) (eq : Value -> Value -> Option Bool) : List (Value × Value) -> Option (List (Value × Value))
 | [] => some []
 | (k', v') :: rest => match eq k k' with
  | some true => some rest
  | some false => match Xeo k eq rest with
   | some r => some ((k', v') :: r)
   | none => none
  | none => none
def XaI (size : Nat) (a : Option Addr) (cap l h m : Nat) (mx : Bool) : Option Value :=
 bif XhM l h && XhM h m && XhM m cap then
  match a with
  | none => some (.slice none (Nat.sub h l) (Nat.sub m l))
  | some a =>
   bif XhD m l then some (.slice (some a) 0 0)
   else bif mx then some (.slice (some ⟨a.block, XhR a.off (XhX l size), none⟩) (Nat.sub h l) (Nat.sub m l))
   else match a.spot with
    | none => some (.slice (some ⟨a.block, XhR a.off (XhX l size), none⟩) (Nat.sub h l) (Nat.sub m l))
    | some z => bif XhD z size then some (.slice (some ⟨a.block, XhR a.off (XhX l size), some z⟩) (Nat.sub h l) (Nat.sub m l)) else none
 else none
abbrev Zj := Tm -> Heap -> Option Value
def Jg (x : Xe) : Zj := fun t _ => some (x t)
def YE (op : BinOp) (x y : Xe) : Zj := fun t _ => binV op (x t) (y t)
def Uh (op : UnOp) (x : Xe) : Zj := fun t _ => unV op (x t)
def Xep (ty : Nat) (x : Xe) : Zj := fun t _ => some (.iface ty (x t))
def lkLenC (n : Nat) : Zj := fun _ _ => some (.int .i64 (.ofNat n))
def lkMax (x : Xe) (xs : List Xe) : Zj := fun t _ => foldV max2 (x t) (J1 t xs)
def lkMin (x : Xe) (xs : List Xe) : Zj := fun t _ => foldV min2 (x t) (J1 t xs)
def XfY (c a b : Xe) : Zj := fun t _ => Yr none (fun c => Xh3 (motive := fun _ => Option Value) (some (b t)) (some (a t)) c) (asBool (c t))
def XF (z : List Value) (ps : List (Nat × Nat × Xe)) : Zj := fun t _ => Yr none (fun cs => some (.agg ⟨cs⟩)) (Yz t ps z)
def XcC (a : Xe) : Zj := fun t h => Yr none (fun p => h.load1 p.block p.off) (Xb1 (a t))
def XdB (n : Nat) (a : Xe) : Zj := fun t h => Yr none (fun p => Yr none (fun cs => some (.agg ⟨cs⟩)) (h.load p.block p.off n)) (Xb1 (a t))
def XfZ (neg : Bool) (p : Pred) (x y : Xe) : Zj := fun t _ => Yr none (fun b => some (.bool (bif neg then !b else b))) (predEq p (x t) (y t))
def Yn (k : IntKind) (x : Xe) : Zj := fun t _ => match x t with
 | .int _ n => some (.int k (k.wrap n))
 | _ => none
def Z5 (x : Xe) : Zj := fun t h => match x t with
 | .slice none _ _ => some (.string ⟨⟨[]⟩⟩)
 | .slice (some a) n _ => match h.load a.block a.off n with
  | some cs => match bytesOf cs with
   | some bs => some (.string ⟨⟨bs⟩⟩)
   | none => none
  | none => none
 | _ => none
def VP (fn : Fn) (fs cs : List Xe) : Zj := fun t _ => some (.func fn ⟨J1 t fs⟩ ⟨J1 t cs⟩)
def Y5 (t : Tm) (d : Nat) (o : Option Xe) : Option Nat := Yr (some d) (fun x => Wf (x t)) o
def lkSliceStr (x : Xe) (lo hi : Option Xe) : Zj := fun t _ => Yr none (fun s =>
 match Y5 t 0 lo, Y5 t s.length hi with
  | some l, some h => bif XhM l h && XhM h s.length then some (.string ⟨⟨(s.drop l).take (h - l)⟩⟩) else none
  | _, _ => none) (asStr (x t))
def XC (size : Nat) (x : Xe) (lo hi mx : Option Xe) : Zj := fun t _ => match x t with
 | .slice a len cap => match Y5 t 0 lo, Y5 t len hi, Y5 t cap mx with
  | some l, some h, some m => bif mx.isSome && hi.isNone then none else XaI size a cap l h m mx.isSome
  | _, _, _ => none
 | _ => none
def Za (n size : Nat) (x : Xe) (lo hi mx : Option Xe) : Zj := fun t _ => Yr none (fun a =>
 match Y5 t 0 lo, Y5 t n hi, Y5 t n mx with
  | some l, some h, some m => bif mx.isSome && hi.isNone then none else XaI size (some ⟨a.block, a.off, none⟩) n l h m mx.isSome
  | _, _, _ => none) (Xb1 (x t))
def lkToArr (n : Nat) (x : Xe) : Zj := fun t _ => match x t with
 | .slice (some a) len _ => bif XhK len n || XhD n 0 then none else some (.pointer (some ⟨a.block, a.off, none⟩))
 | _ => none
def Vd (off : Nat) (x : Xe) : Zj := fun t _ => Yr none (fun a => some (.pointer (some ⟨a.block, XhR a.off off, none⟩))) (Xb1 (x t))
def lkField1 (off : Nat) (x : Xe) : Zj := fun t _ => Yr none (fun cs => nth off cs) (Xen (x t))
def lkFieldN (off n : Nat) (x : Xe) : Zj := fun t _ => Yr none (fun cs => Yr none (fun c => some (.agg ⟨c⟩)) (XU n (XY off cs))) (Xen (x t))
def lkIxSl (size : Nat) (x i : Xe) : Zj := fun t _ => match x t with
 | .slice (some a) len _ => Yr none (fun i => bif XhK i len then some (.pointer (some ⟨a.block, XhR a.off (XhX i size), none⟩)) else none) (Wf (i t))
 | _ => none
def YG (n size : Nat) (x i : Xe) : Zj := fun t _ => Yr none (fun a =>
 Yr none (fun i => bif XhK i n then some (.pointer (some ⟨a.block, XhR a.off (XhX i size), none⟩)) else none) (Wf (i t))) (Xb1 (x t))
def lkIxStr (x i : Xe) : Zj := fun t _ => Yr none (fun s => Yr none (fun i => Yr none (fun b => some (byteVal b)) s[i]?) (Wf (i t))) (asStr (x t))
def XcU (n : Nat) (x i : Xe) : Zj := fun t _ => Yr none (fun cs => Yr none (fun i => bif XhK i n then nth i cs else none) (Wf (i t))) (Xen (x t))
def lkIxValN (n esz : Nat) (x i : Xe) : Zj := fun t _ => Yr none (fun cs => Yr none (fun i => bif XhK i n then
 Yr none (fun c => some (.agg ⟨c⟩)) (XU esz (XY (XhX i esz) cs)) else none) (Wf (i t))) (Xen (x t))
def J3 (zero : Value) (ok : Bool) (r : Option Value) : Value := match r with
 | some v => bif ok then .tuple ⟨[v, .bool true]⟩ else v
 | none => bif ok then .tuple ⟨[zero, .bool false]⟩ else zero
def W1 (sh : KSh) (zero : Value) (ok : Bool) (x i : Xe) : Zj := fun t h => bif !(Wg sh (i t)) then none else match x t with
 | .map none => some (J3 zero ok none)
 | .map (some r) => match h.get r with
  | some (.map sh' _ es) => bif !(XcT sh sh') then none else Yr none (fun v => some (J3 zero ok v)) (JM sh (i t) es)
  | _ => none
 | _ => none
def Xeq (ty : Nat) (zero : Value) (ok : Bool) (x : Xe) : Zj := fun t _ => match x t with
 | .nilIface => bif ok then some (J3 zero true none) else none
 | .iface u v => bif XhD u ty then some (J3 zero ok (some v)) else bif ok then some (J3 zero true none) else none
 | _ => none
def lkAssertI (types : Nat) (fits : List Nat) (zero : Value) (ok : Bool) (x : Xe) : Zj := fun t _ => match x t with
 | .nilIface => bif ok then some (J3 zero true none) else none
 | .iface u v => bif !(XhK u types) then none else bif fits.contains u then some (J3 zero ok (some (.iface u v))) else bif ok then some (J3 zero true none) else none
 | _ => none
def Xaa (i : Nat) (x : Xe) : Zj := fun t _ => nth i (asTuple (x t))
def lkLen (k : LenK) (x : Xe) : Zj := match k with
 | .sl => fun t h => match x t with
  | .slice _ n _ => some (.int .i64 (.ofNat n))
  | _ => none
 | .str => fun t h => match x t with
  | .string s => some (.int .i64 (.ofNat (bytes s).length))
  | _ => none
 | .map => fun t h => match x t with
  | .map none => some (.int .i64 (.ofNat 0))
  | .map (some r) => match h.get r with
   | some (.map _ _ es) => some (.int .i64 (.ofNat es.length))
   | _ => none
  | _ => none
def lkStr (x : Xe) : Zj := fun t _ => match x t with
 | .string s => some (.string s)
 | _ => none
def lkCap (x : Xe) : Zj := fun t _ => match x t with
 | .slice (some ⟨_, _, none⟩) _ c => some (.int .i64 (.ofNat c))
 | .slice none _ c => some (.int .i64 (.ofNat c))
 | _ => none
def lkEntry (it : Xe) : Zj := fun t h => match it t with
 | .pointer (some ⟨r, 0, _⟩) => match h.get r with
  | some (.miter (some m) ver _ (some e)) => match h.get m with
   | some (.map _ ver' _) => bif XhD ver ver' then some (.tuple ⟨[e.1, e.2]⟩) else none
   | _ => none
  | _ => none
 | _ => none
abbrev Ui := Tm -> Heap -> Option (Value × Heap)
def newPtr (h : Heap) (cs : List Value) : Option (Value × Heap) := some (.pointer (some ⟨h.next, 0, none⟩), h.push (.cells true cs))
def XdC (z : List Value) : Ui := fun _ h => newPtr h z
def Yv (x : Xe) : Ui := fun t h => Yr none (newPtr h) (cellsOf (x t))
def Xo (z : List Value) (ps : List (Nat × Nat × Xe)) (n : Nat) : Ui := fun t h => match Yz t ps z with
 | some cs => some (.slice (some ⟨h.next, 0, none⟩) n n, h.push (.cells true cs))
 | none => none
def XcD (n : Nat) (a x : Xe) : Ui := fun t h => Yr none (fun p => Yr none (fun ys =>
  bif XhD (Wy ys) n then Yr none (fun h' => some (undef, h')) (h.store p.block p.off n ys) else none) (cellsOf (x t))) (Xb1 (a t))
def JN (x : Xe) : Ui := fun t h => match x t with
 | .string s => some (.slice (some ⟨h.next, 0, WV 1⟩) (bytes s).length (bytes s).length, h.push (.cells true (Xa (bytes s))))
 | _ => none
def tnStamp (x : Xe) : Ui := fun t h => match x t with
 | .slice (some a) n c => bif XhK 0 n then (match h.get a.block with
  | some (.cells true xs) => bif XhK 0 (Wy xs) then some (.slice (some a) n c, h) else none
  | _ => none) else none
 | _ => none
def XcE (sh : KSh) : Ui := fun _ h => some (.map (some h.next), h.push (.map sh 0 []))
def Xab (z : List Value) (l c : Xe) : Ui := fun t h => match Wf (l t), Wf (c t) with
 | some l, some c => bif XhM l c && XhK c 1000000 then some (.slice (some ⟨h.next, 0, none⟩) l c, h.push (.cells true (rep z c))) else none
 | _, _ => none
def Wz (sh : KSh) (m k x : Xe) : Ui := fun t h => bif !(Wg sh (k t)) then none else match m t with
 | .map (some r) => match h.get r with
  | some (.map sh' ver es) => bif !(XcT sh sh') then none else match XaN (k t) (x t) (JL sh) es with
   | some es' => some (undef, h.put r (some (.map sh' (Xid ver) es')))
   | none => none
  | _ => none
 | _ => none
def VQ (x : Xe) : Ui := fun t h => match x t with
 | .map none => some (.pointer (some ⟨h.next, 0, none⟩), h.push (.miter none 0 [] none))
 | .map (some r) => match h.get r with
  | some (.map _ ver es) => some (.pointer (some ⟨h.next, 0, none⟩), h.push (.miter (some r) ver es none))
  | _ => none
 | _ => none
def tnRangeStr (x : Xe) : Ui := fun t h => match x t with
 | .string s => some (.pointer (some ⟨h.next, 0, none⟩), h.push (.siter s 0))
 | _ => none
def Xz (size : Nat) (s x : Xe) : Ui := fun t h => h.append size (s t) (x t)
def Vs (z : List Value) (s x : Xe) : Ui := fun t h => match Wf (x t) with
 | some n => bif XhK n 1000000 then h.appendL (Wy z) (s t) n (rep z n) else none
 | none => none
def Uz (size : Nat) (d s : Xe) : Ui := fun t h => match d t with
 | .slice none 0 _ => match lenV (s t) with
  | some _ => some (.int .i64 (.ofNat 0), h)
  | none => none
 | .slice (some a) dl _ => match lenV (s t) with
  | some sl =>
   match h.elems size (bif XhM sl dl then sl else dl) (s t) with
   | some cs => bif XhD (bif XhM sl dl then sl else dl) 0 then some (.int .i64 (.ofNat 0), h) else (match h.store a.block a.off (XhX (bif XhM sl dl then sl else dl) size) cs with
    | some h' => some (.int .i64 (.ofNat (bif XhM sl dl then sl else dl)), h')
    | none => none)
   | none => none
  | none => none
 | _ => none
def XaO (sh : KSh) (m k : Xe) : Ui := fun t h => bif !(Wg sh (k t)) then none else match m t with
 | .map none => some (.tuple ⟨[]⟩, h)
 | .map (some r) => match h.get r with
  | some (.map sh' ver es) => bif !(XcT sh sh') then none else match Xeo (k t) (JL sh) es with
   | some es' => some (.tuple ⟨[]⟩, h.put r (some (.map sh' (Xid ver) es')))
   | none => none
  | _ => none
 | _ => none
def XdD (z : List Value) (x : Xe) : Ui := fun t h => match x t with
 | .map none => some (.tuple ⟨[]⟩, h)
 | .slice none _ _ => some (.tuple ⟨[]⟩, h)
 | .slice (some a) n _ => bif XhD n 0 then some (.tuple ⟨[]⟩, h) else bif XhD (Wy z) 0 then none else (match h.store a.block a.off (XhX n (Wy z)) (rep z n) with
  | some h' => some (.tuple ⟨[]⟩, h')
  | none => none)
 | .map (some r) => match h.get r with
  | some (.map sh ver _) => some (.tuple ⟨[]⟩, h.put r (some (.map sh (Xid ver) [])))
  | _ => none
 | _ => none
def Xer (it : Xe) : Ui := fun t h => match it t with
 | .pointer (some ⟨r, 0, _⟩) => match h.get r with
  | some (.siter s pos) =>
   if pos < s.size then some (.tuple ⟨[.bool true, .int .i64 pos, .int .i32 (Utf8.decode s pos).1]⟩, h.put r (some (.siter s (pos + (Utf8.decode s pos).2))))
   else some (.tuple ⟨[.bool false]⟩, h)
  | _ => none
 | _ => none
def Xes {α : Type} : List α -> Nat -> List α
 | [], _ => []
 | _ :: xs, 0 => xs
 | x :: xs, n + 1 => x :: Xes xs n
def nextMap (h : Heap) (it : Value) : Option (Nat × (Nat -> Option (Value × Heap))) :=
 match it with
 | .pointer (some ⟨r, 0, _⟩) => match h.get r with
  | some (.miter none _ _ _) => some (0, fun _ => some (.tuple ⟨[.bool false]⟩, h))
  | some (.miter (some m) ver left _) => match h.get m with
   | some (.map _ ver' _) =>
    bif XhD ver ver' then
     match left with
     | [] => some (0, fun _ => some (.tuple ⟨[.bool false]⟩, h))
     | [e] => some (0, fun _ => some (.tuple ⟨[.bool true, e.1, e.2]⟩, h.put r (some (.miter (some m) ver [] (some e)))))
     | _ => some (left.length, fun i => match left[i]? with
      | some e => some (.tuple ⟨[.bool true, e.1, e.2]⟩, h.put r (some (.miter (some m) ver (Xes left i) (some e))))
      | none => none)
    else none
   | _ => none
  | _ => none
 | _ => none
def Er.toRz (r : Er) (ret : Value -> Heap -> Rz) (panic : List (Value × Bool) -> Heap -> Rz) : Rz :=
 Er.rec (motive := fun _ => Rz) ret panic (fun s => .fail s) (fun n _ ih => .any n ih) r
def Rz.toEr (r : Rz) (leave : Tm -> Aux -> Heap -> Er) (panic : Value -> List Nat -> Tm -> Aux -> Heap -> Er) (exit : Nat -> Tm -> Aux -> Heap -> Er) (ret : Tm -> Aux -> Heap -> Er) : Er :=
 Rz.rec (motive := fun _ => Er) leave exit ret panic (fun _ _ _ => .fail "got") (fun s => .fail s) (fun n _ ih => .any n ih) r
def Rz.then (r : Rz) (k : Tm -> Aux -> Heap -> Rz) : Rz :=
 Rz.rec (motive := fun _ => Rz) k (fun id t x h => .exit id t x h) (fun t x h => .ret t x h) (fun v l t x h => .panic v l t x h) (fun v x h => .got v x h) (fun s => .fail s) (fun n _ ih => .any n ih) r
def Rz.onExit (r : Rz) (id : Nat) : Rz :=
 Rz.rec (motive := fun _ => Rz) (fun t x h => .norm t x h) (fun id' t x h => Xh3 (motive := fun _ => Rz) (.exit id' t x h) (.norm t x h) (XhD id' id)) (fun t x h => .ret t x h) (fun v l t x h => .panic v l t x h)
  (fun v x h => .got v x h) (fun s => .fail s) (fun n _ ih => .any n ih) r
structure Ctx where
 call : Value -> List Value -> Heap -> Er
 inv : Value -> String -> List Value -> Heap -> Er
 nilOk : Nat -> String -> Bool
 fuel : Nat
abbrev KB := Ctx -> Tm -> Aux -> Heap -> Rz
abbrev Cont := Value -> Aux -> Heap -> Rz
abbrev ExF := Ctx -> Tm -> Aux -> Heap -> Cont -> Rz
def VG (l : Zj) : ExF := fun _ t x h k => Option.rec (motive := fun _ => Rz) (.fail "look") (fun v => k v x h) (l t h)
def Yi (l : Ui) : ExF := fun _ t x h k => Option.rec (motive := fun _ => Rz) (.fail "turn") (fun r => k r.1 x r.2) (l t h)
def xMove (a : Xe) : ExF := fun _ t x h k => k (a t) x h
def Wt (r : Er) (t : Tm) (x : Aux) (k : Cont) : Rz :=
 r.toRz (fun v h => k v x h) (fun chain h => match chain with
  | [(v, false)] => .panic v [] t x h
  | _ => .fail "a panic of many")
def xCall (f : Xe) (args : List Xe) : ExF := fun c t x h k => Wt (c.call (f t) (J1 t args) h) t x k
def xInvoke (o : Xe) (name : String) (args : List Xe) : ExF := fun c t x h k => Wt (c.inv (o t) name (J1 t args) h) t x k
def UA (o : Xe) : ExF := fun _ t x h _ => match o t with
 | .iface ty v => .panic (.iface ty v) [] t x h
 | _ => .fail "panic: nil"
def WA : ExF := fun _ _ x h k => match x.round with
 | some _ => .fail "recover in a round"
 | none => match x.rc with
  | some (.panicking ((v, false) :: older)) => k v ⟨x.defers, none, some (.panicking ((v, true) :: older))⟩ h
  | _ => k .nilIface x h
def Wu (f : Xe) (args : List Xe) : ExF := fun _ t x h k => match x.round with
 | none => match f t with
  | .func fn a b => k undef ⟨.call (.func fn a b) (J1 t args) :: x.defers, none, x.rc⟩ h
  | _ => .fail "defer"
 | some _ => .fail "defer in a round"
def XM (o : Xe) : ExF := fun c t x h k => match o t with
 | .pointer (some a) => k (.pointer (some a)) x h
 | .func (.func f) first captured => k (.func (.func f) first captured) x h
 | .func (.method name) first captured => match first.toList with
  | .iface ty v :: _ => bif c.nilOk ty name then k (.func (.method name) first captured) x h else .fail "nilCheck: method"
  | _ => .fail "nilCheck: method"
 | .iface ty v => k (.iface ty v) x h
 | _ => .fail "nilCheck"
def Zb (it : Xe) : ExF := fun _ t x h k => match nextMap h (it t) with
 | some (0, f) => match f 0 with
  | some (v, h') => k v x h'
  | none => .fail "next"
 | some (n + 1, f) => .any (n + 1) fun i => match f i with
  | some (v, h') => k v x h'
  | none => .fail "next"
 | none => .fail "next"
def xBad (why : String) : ExF := fun _ _ _ _ _ => .fail why
def oEnd : KB := fun _ t x h => .norm t x h
def ZN (ex : ExF) (p : Value -> Tm -> Tm) (rest : KB) : KB := fun c t x h => ex c t x h fun v x h => rest c (p v t) x h
def oDo (ex : ExF) (rest : KB) : KB := fun c t x h => ex c t x h fun _ x h => rest c t x h
def Xf0 (want : Tm -> Bool) (ex : ExF) (p : Value -> Tm -> Tm) (rest : KB) : KB := fun c t x h =>
 Xh3 (motive := fun _ => Rz) (rest c (p undef t) x h) (ex c t x h fun v x h => rest c (p v t) x h) (want t)
def oDoIf (want : Tm -> Bool) (ex : ExF) (rest : KB) : KB := fun c t x h =>
 Xh3 (motive := fun _ => Rz) (rest c t x h) (ex c t x h fun _ x h => rest c t x h) (want t)
inductive J4 where
 | ld (again : Heap -> Bool)
 | wr (before : Heap)
def Zc (i : Nat) : List (Nat × J4) -> Option J4
 | [] => none
 | (j, e) :: rest => bif XhD i j then some e else Zc i rest
def sameV : Nat -> Value -> Value -> Bool
 | _, .bool a, .bool b => a == b
 | _, .int j a, .int k b => XL j k && J2 a b
 | _, .string a, .string b => a == b
 | _, .pointer a, .pointer b => a == b
 | _, .slice a n c, .slice b m d => a == b && XhD n m && XhD c d
 | _, .map a, .map b => a == b
 | _, .nilFunc, .nilFunc => true
 | _, .nilIface, .nilIface => true
 | _, .chan none, .chan none => true
 | n + 1, .iface t v, .iface u w => XhD t u && sameV n v w
 | n + 1, .agg a, .agg b => all (sameV n) a.toList b.toList
 | n + 1, .tuple a, .tuple b => all (sameV n) a.toList b.toList
 | n + 1, .func f a b, .func g c d => f == g && all (sameV n) a.toList c.toList && all (sameV n) b.toList d.toList
 | _, _, _ => false
where
 all (f : Value -> Value -> Bool) : List Value -> List Value -> Bool
  | [], [] => true
  | x :: xs, y :: ys => f x y && all f xs ys
  | _, _ => false
def WB (l : Option Value) (v : Value) : Bool := Yr false (fun v' => sameV 20 v v') l
def J5 (log : List (Nat × J4)) (l : Zj) (t : Tm) (v : Value) (un : List Nat) : Bool :=
 XhS (motive := fun _ => Bool) true
  (fun i _ ih => (match Zc i log with
   | none => true           -- it was not wanted
   | some (.wr before) => WB (l t before) v
   | some (.ld _) => false) && ih) un
def ZG (log : List (Nat × J4)) (now : Heap) (un : List Nat) : Bool :=
 XhS (motive := fun _ => Bool) true
  (fun i _ ih => (match Zc i log with
   | none => true
   | some (.wr _) => false
   | some (.ld again) => again now) && ih) un
abbrev Dead := Option (Nat × Value)
abbrev KD := List (Nat × J4) -> Dead -> KB
def ZV (pre : List Nat) : Dead -> Bool
 | none => false
 | some (j, _) => pre.contains j
def dEnd (lost : List Nat) : KD := fun _ d _ t x h => match d with
 | none => .norm t x h
 | some (_, v) => .panic v lost t x h
def W2 (idx : Nat) (un pre : List Nat) (l : Zj) (p : Value -> Tm -> Tm) (rest : KD) : KD := fun log d c t x h =>
 bif ZV pre d then rest log d c t x h else
 match l t h with
 | some v => bif J5 log l t v un then rest ((idx, .ld fun now => WB (l t now) v) :: log) d c (p v t) x h else .fail "a look beside a writer"
 | none => .fail "look"
def XaP (idx : Nat) (un pre : List Nat) (writer : Bool) (ex : ExF) (p : Value -> Tm -> Tm) (rest : KD) : KD := fun log d c t x h =>
 bif ZV pre d then rest log d c t x h else
 bif writer && d.isSome then .fail "a writer beside a panic" else
 match ex c t x h fun v x h => .got v x h with
 | .got v x' h' => bif ZG log h' un then rest ((idx, .wr h) :: log) d c (p v t) x' h' else .fail "a writer beside a look"
 | .panic v _ _ x' h' => match d with
  | none => bif ZG log h' un then rest ((idx, .wr h) :: log) (some (idx, v)) c t x' h' else .fail "a writer beside a look"
  | some _ => .fail "two panics"
 | .fail s => .fail s
 | _ => .fail "a choice in a drawn region"
def dIf (pre : List Nat) (want : Tm -> Bool) (p : Value -> Tm -> Tm) (yes rest : KD) : KD := fun log d c t x h =>
 bif ZV pre d then rest log d c t x h else Xh3 (motive := fun _ => Rz) (rest log d c (p undef t) x h) (yes log d c t x h) (want t)
def kSkip : KB := fun _ t x h => .norm t x h
def kRet : KB := fun _ t x h => .ret t x h
def kExit (id : Nat) : KB := fun _ t x h => .exit id t x h
def kBad (why : String) : KB := fun _ _ _ _ => .fail why
def X8 (d : KD) : KB := d [] none
def kCond (g : Xe) (a b : KB) : KB := fun c t x h => Yr (.fail "cond") (fun g => Xh3 (motive := fun _ => Rz) (b c t x h) (a c t x h) g) (asBool (g t))
def kSeq (a b : KB) : KB := fun c t x h => (a c t x h).then (b c)
def kBlock (id : Nat) (a : KB) : KB := fun c t x h => (a c t x h).onExit id
def kLoop (a : KB) : KB := fun c => Xix (motive := fun _ => Tm -> Aux -> Heap -> Rz) (fun _ _ _ => .fail "rounds") (fun _ ih t x h => (a c t x h).then ih) c.fuel
def ALoop.with (r : ALoop) (s : LState) (j : Option Jump) : ALoop := ⟨s, j, r.tmps, r.params, r.assign, r.body⟩
def kRangeAt (f : Xe) (params : List Nat) (assign body : CCode) : KB := fun c t x h =>
 (c.call (f t) [.func (.yield h.next) ⟨[]⟩ ⟨[]⟩] (h.push (.loop ⟨.ready, none, t, params, assign, body⟩))).toRz
  (fun _ h' => match h'.get h.next with
   | some (.loop r) => match r.state with
    | .busy => .fail "range over a function: busy"
    | _ => match r.pending with
     | none => .norm t x (h'.put h.next (some (.loop (r.with .exhausted r.pending))))
     | some .ret => .ret t x (h'.put h.next (some (.loop (r.with .exhausted r.pending))))
     | some (.exit id) => .exit id t x (h'.put h.next (some (.loop (r.with .exhausted r.pending))))
   | _ => .fail "range over a function: no loop")
  (fun chain h' => match chain with
   | [(v, false)] => .panic v [] t x h'
   | _ => .fail "a panic of many")
def kRange (f : Xe) (params : List Nat) (assign body : CCode) : KB := fun c t x h => match x.round with
 | none => kRangeAt f params assign body c t ⟨.mark h.next :: x.defers, none, x.rc⟩ (h.push .mark)
 | some l => match h.get l with
  | some (.loop _) => kRangeAt f params assign body c t x h
  | _ => .fail "range over a function: no loop around"
def opds (xs : List Opd) : List Xe := XhS (motive := fun _ => List Xe) [] (fun x _ ih => Opd.val x :: ih) xs
def XcV : Option Opd -> Option Xe
 | none => none
 | some x => some x.val
def J6 (ps : List Part) : List (Nat × Nat × Xe) := XhS (motive := fun _ => List (Nat × Nat × Xe)) [] (fun p _ ih => (p.off, p.size, p.x.val) :: ih) ps
def YN : COp -> Option Zj
 | .move x => some (Jg x.val)
 | .pick c a b => some (XfY c.val a.val b.val)
 | .build z ps => some (XF z (J6 ps))
 | .load1 a => some (XcC a.val)
 | .loadN n a => some (XdB n a.val)
 | .bin op x y => some (YE op x.val y.val)
 | .eq neg p x y => some (XfZ neg p x.val y.val)
 | .un op x => some (Uh op x.val)
 | .intTo k x => some (Yn k x.val)
 | .str x => some (lkStr x.val)
 | .bytesTo x => some (Z5 x.val)
 | .mkIface ty x => some (Xep ty x.val)
 | .mkFunc fn fs cs => some (VP fn (opds fs) (opds cs))
 | .sliceStr x lo hi => some (lkSliceStr x.val (XcV lo) (XcV hi))
 | .sliceSl size x lo hi mx => some (XC size x.val (XcV lo) (XcV hi) (XcV mx))
 | .sliceArr n size x lo hi mx => some (Za n size x.val (XcV lo) (XcV hi) (XcV mx))
 | .toArr n x => some (lkToArr n x.val)
 | .fieldAddr off x => some (Vd off x.val)
 | .field off none x => some (lkField1 off x.val)
 | .field off (some n) x => some (lkFieldN off n x.val)
 | .ixSl size x i => some (lkIxSl size x.val i.val)
 | .ixArr n size x i => some (YG n size x.val i.val)
 | .ixStr x i => some (lkIxStr x.val i.val)
 | .ixVal n _ false x i => some (XcU n x.val i.val)
 | .ixVal n esz true x i => some (lkIxValN n esz x.val i.val)
 | .lookup sh zero ok x i => some (W1 sh zero ok x.val i.val)
 | .assertT ty zero ok x => some (Xeq ty zero ok x.val)
 | .assertI n fits zero ok x => some (lkAssertI n fits zero ok x.val)
 | .extract i x => some (Xaa i x.val)
 | .len k x => some (lkLen k x.val)
 | .lenC n => some (lkLenC n)
 | .cap x => some (lkCap x.val)
 | .max x xs => some (lkMax x.val (opds xs))
 | .min x xs => some (lkMin x.val (opds xs))
 | .entry it => some (lkEntry it.val)
 | _ => none
def Zq : COp -> ExF
 | .alloc z => Yi (XdC z)
 | .box x => Yi (Yv x.val)
 | .buildSlice z ps n => Yi (Xo z (J6 ps) n)
 | .store n a x => Yi (XcD n a.val x.val)
 | .toBytes x => Yi (JN x.val)
 | .stamp x => Yi (tnStamp x.val)
 | .mkMap sh => Yi (XcE sh)
 | .mkSlice z l c => Yi (Xab z l.val c.val)
 | .mapUpdate sh m k x => Yi (Wz sh m.val k.val x.val)
 | .rangeMap x => Yi (VQ x.val)
 | .rangeStr x => Yi (tnRangeStr x.val)
 | .nextStr it => Yi (Xer it.val)
 | .append size s x => Yi (Xz size s.val x.val)
 | .appendZ z s x => Yi (Vs z s.val x.val)
 | .copy size d s => Yi (Uz size d.val s.val)
 | .delete sh m k => Yi (XaO sh m.val k.val)
 | .clear z x => Yi (XdD z x.val)
 | .nilCheck x => XM x.val
 | .call f args => xCall f.val (opds args)
 | .invoke x name args => xInvoke x.val name (opds args)
 | .panic x => UA x.val
 | .recover => WA
 | .defer f args => Wu f.val (opds args)
 | .nextMap it => Zb it.val
 | .bad why => xBad why
 | _ => xBad "look"
def exOf (o : COp) : ExF := match o with
 | .move x => xMove x.val
 | o => match YN o with
  | some l => VG l
  | none => Zq o
def wantT (g : Xe) : Tm -> Bool := fun t => isTrue (g t)
def wantF (g : Xe) : Tm -> Bool := fun t => isFalse (g t)
def XaQ (n : Nat) (b : Bool) : Tm -> Bool := match b with
 | true => wantT (Zi n)
 | false => wantF (Zi n)
def oOf (o : W0) (rest : KB) : KB :=
 match o.guard, o.dst with
 | none, none => oDo (exOf o.op) rest
 | none, some d => ZN (exOf o.op) (JK d) rest
 | some (g, b), none => oDoIf (XaQ g b) (exOf o.op) rest
 | some (g, b), some d => Xf0 (XaQ g b) (exOf o.op) (JK d) rest
def opsOf (os : List W0) : KB := XhS (motive := fun _ => KB) oEnd (fun o _ ih => oOf o ih) os
def ZS : Value -> Tm -> Tm := fun _ t => t
def COp.writes : COp -> Bool
 | .store .. | .mapUpdate .. | .append .. | .appendZ .. | .copy .. | .delete .. | .clear .. | .call .. | .invoke .. | .nextMap _ | .nextStr _ | .panic _ | .recover | .defer .. | .bad _
 | .rangeMap _ | .rangeStr _ | .stamp _ => true
 | _ => false
def dPut : Option Nat -> Value -> Tm -> Tm
 | none => ZS
 | some d => JK d
def dOne (o : W0) (rest : KD) : KD := match YN o.op with
 | some l => W2 o.idx o.un o.pre l (dPut o.dst) rest
 | none => XaP o.idx o.un o.pre o.op.writes (Zq o.op) (dPut o.dst) rest
def dOf (o : W0) (rest : KD) : KD := match o.guard with
 | none => dOne o rest
 | some (g, b) => dIf o.pre (XaQ g b) (dPut o.dst) (dOne o rest) rest
def dstsOf (os : List W0) : List Nat := os.filterMap (·.dst)
def drawOf (lost : List Nat) (os : List W0) : KD := XhS (motive := fun _ => KD) (dEnd lost) (fun o _ ih => dOf o ih) os
def den (c : CCode) : KB :=
 CCode.rec (motive := fun _ => KB) kSkip (fun draw os => Xh3 (motive := fun _ => KB) (opsOf os) (X8 (drawOf (dstsOf os) os)) draw)
  (fun _ _ a b => kSeq a b) (fun c _ _ a b => kCond c.val a b) (fun id _ a => kBlock id a) (fun _ a => kLoop a)
  (fun f ps assign body _ _ => kRange f.val ps assign body) kExit kRet kBad c
abbrev ResF := List Nat -> Tm -> Heap -> Option (List Value)
def XV (n : Nat) (g : Xe) : ResF := fun lost t _ => bif lost.contains n then none else some [g t]
def rCell1 (n : Nat) (g : Xe) : ResF := fun lost t h => bif lost.contains n then none else Yr none (fun p => Yr none (fun v => some [v]) (h.load1 p.block p.off)) (Xb1 (g t))
def ZW (n : Nat) (g : Xe) (k : Nat) : ResF := fun lost t h => bif lost.contains n then none else Yr none (fun p => Yr none (fun cs => some [.agg ⟨cs⟩]) (h.load p.block p.off k)) (Xb1 (g t))
def resOf : CRes -> ResF
 | .tmp n => XV n (Zi n)
 | .cell1 n => rCell1 n (Zi n)
 | .cellN n k => ZW n (Zi n) k
def Yx (rs : List ResF) : ResF := fun lost t h =>
 XhS (motive := fun _ => Option (List Value)) (some []) (fun r _ ih => match r lost t h, ih with
  | some v, some vs => some (app v vs)
  | _, _ => none) rs
def Xf1 (rs : List CRes) : List ResF := XhS (motive := fun _ => List ResF) [] (fun r _ ih => resOf r :: ih) rs
structure XI where
 res : List ResF
 body : KB
def CFun.den (f : CFun) : XI := ⟨Xf1 f.results, Eng.den f.body⟩
abbrev Summ := List Value -> Heap -> Option (Value × Heap)
structure Env where
 fn : Nat -> Option XI
 sum : Nat -> Option Summ
 meth : Nat -> String -> Option (Nat × Rcv)       -- a type's method: the function, what it is called with
 nilOk : Nat -> String -> Bool                    -- no nil pointer can stand ahead of that method's receiver
def Z8 (vs : List Value) : Nat -> Tm -> Tm :=
 XhS (motive := fun _ => Nat -> Tm -> Tm) (fun _ t => t) (fun v _ ih i t => ih (Xid i) (JK i v t)) vs
def WL : List Value -> Value
 | [v] => v
 | vs => .tuple ⟨vs⟩
def settleA : WT -> WT
 | .panicking ((_, true) :: _) => .returning
 | m => m
def raisedA (u : WT) (chain : List (Value × Bool)) : WT :=
 match u with
 | .panicking old => .panicking (chain ++ old)
 | .returning => .panicking chain
inductive Dr where
 | ret (m : WT) (h : Heap)
 | panic (chain : List (Value × Bool)) (m : WT) (h : Heap)
 | fail (why : String)
 | any (n : Nat) (k : Nat -> Dr)
def Dr.toEr (r : Dr) (ret : WT -> Heap -> Er) (panic : List (Value × Bool) -> WT -> Heap -> Er) : Er :=
 Dr.rec (motive := fun _ => Er) ret panic (fun s => .fail s) (fun n _ ih => .any n ih) r
def Rz.toDr (r : Rz) (leave : Tm -> Aux -> Heap -> Dr) (panic : Aux -> Heap -> Value -> Dr) : Dr :=
 Rz.rec (motive := fun _ => Dr) leave (fun _ _ _ _ => .fail "exit") leave (fun v _ _ x h => panic x h v) (fun _ _ _ => .fail "got") (fun s => .fail s) (fun n _ ih => .any n ih) r
section
variable (E : Env) (c : Ctx)
def Xf2 (f : Value) (args : List Value) (m : WT) (h : Heap) : Dr :=
 match f with
 | .func (.func f) first captured => match E.fn f with
  | some fn =>
   bif !(XhM (Wy (app first.toList (app args captured.toList))) 255) then .fail "arguments" else
   (fn.body c (Z8 (app first.toList (app args captured.toList)) 0 Tm.empty) ⟨[], none, some m⟩ h).toDr
    (fun t x h => match x.defers, x.rc with
     | [], some m' => match Yx fn.res [] t h with
      | some _ => .ret m' h
      | none => .fail "results"
     | _, _ => .fail "deferred calls of a deferred call")
    (fun x h v => match x.defers, x.rc with
     | [], some m' => .panic [(v, false)] m' h
     | _, _ => .fail "deferred calls of a deferred call")
  | none => .fail "no function"
 | _ => .fail "deferred: no function"
def finish (rs : List ResF) (lost : List Nat) (t : Tm) (ds : List ADef) : WT -> Heap -> Er :=
 XhS (motive := fun _ => WT -> Heap -> Er)
  (fun m h => match m with
   | .returning => match Yx rs lost t h with
    | some vs => .ret (WL vs) h
    | none => .fail "results"
   | .panicking chain => .panic chain h)
  (fun d _ ih m h => match d with
   | .call f args => (Xf2 E c f args m h).toEr (fun m' h' => ih (settleA m') h') (fun chain m' h' => ih (raisedA m' chain) h')
   | .mark l => match h.get l with
    | some .mark => ih m (h.put l none)
    | _ => .fail "no mark") ds
def J7 (fn : XI) (args : List Value) (h : Heap) : Er :=
 bif !(XhM (Wy args) 255) then .fail "arguments" else
 (fn.body c (Z8 args 0 Tm.empty) ⟨[], none, none⟩ h).toEr (fun t x h => finish E c fn.res [] t x.defers .returning h)
  (fun v lost t x h => finish E c fn.res lost t x.defers (.panicking [(v, false)]) h) (fun _ _ _ _ => .fail "exit")
  (fun t x h => finish E c fn.res [] t x.defers .returning h)
def enter (f : Nat) (args : List Value) (h : Heap) : Er :=
 Yr (Yr (.fail "no function") (fun fn => J7 E c fn args h) (E.fn f))
  (fun s => Yr (.fail "summary") (fun r => .ret r.1 r.2) (s args h)) (E.sum f)
def invokeV (x : Value) (name : String) (args : List Value) (h : Heap) : Er :=
 match x with
 | .iface u v => match E.meth u name with
  | some (f, .whole) => enter E c f (v :: args) h
  | some (f, .part off none) => match Xen v with
   | some cs => match nth off cs with
    | some r => enter E c f (r :: args) h
    | none => .fail "receiver"
   | none => .fail "receiver"
  | some (f, .part off (some n)) => match Xen v with
   | some cs => match XU n (XY off cs) with
    | some r => enter E c f (.agg ⟨r⟩ :: args) h
    | none => .fail "receiver"
   | none => .fail "receiver"
  | some (f, .cell) => match v with
   | .pointer (some p) => match h.load1 p.block p.off with
    | some r => enter E c f (r :: args) h
    | none => .fail "receiver"
   | _ => .fail "receiver"
  | some (f, .cells n) => match v with
   | .pointer (some p) => match h.load p.block p.off n with
    | some r => enter E c f (.agg ⟨r⟩ :: args) h
    | none => .fail "receiver"
   | _ => .fail "receiver"
  | none => .fail "invoke"
 | _ => .fail "invoke"
def setAll (ps : List Nat) : List Value -> Tm -> Option Tm :=
 XhS (motive := fun _ => List Value -> Tm -> Option Tm) (fun vs t => match vs with
   | [] => some t
   | _ => none)
  (fun p _ ih vs t => match vs with
   | v :: vs => ih vs (JK p v t)
   | [] => none) ps
def endRound (l : Nat) (j : Option Jump) (h : Heap) : Er :=
 match h.get l with
 | some (.loop r) => .ret (.bool j.isNone) (h.put l (some (.loop (r.with (match j with
  | none => .ready
  | some _ => .done) j))))
 | _ => .fail "no loop"
def yieldTo (l : Nat) (args : List Value) (h : Heap) : Er :=
 match h.get l with
 | some (.loop r) => match setAll r.params args r.tmps with
  | some t =>
   (Eng.den r.assign c t ⟨[], some l, none⟩ h).toEr (fun t x h => match h.get l with
    | some (.loop r') => match r'.state with
     | .ready =>
      (Eng.den r.body c t x (h.put l (some (.loop (r'.with .busy r'.pending))))).toEr (fun _ _ h => endRound l none h) (fun _ _ _ _ _ => .fail "a panic of a round")
       (fun id _ _ h => endRound l (some (.exit id)) h) (fun _ _ h => endRound l (some .ret) h)
     | _ => .fail "a round beside a loop that is not ready"
    | _ => .fail "no loop") (fun _ _ _ _ _ => .fail "assignment of a round") (fun _ _ _ _ => .fail "assignment of a round") (fun _ _ _ => .fail "assignment of a round")
  | none => .fail "yield"
 | _ => .fail "yield: no loop"
def callV (f : Value) (args : List Value) (h : Heap) : Er :=
 match f with
 | .func (.func f) first captured => enter E c f (app first.toList (app args captured.toList)) h
 | .func (.yield l) first _ => match first.toList with
  | [] => yieldTo c l args h
  | _ => .fail "yield: arguments of its own"
 | .func (.method name) first _ => match first.toList with
  | r :: more => invokeV E c r name (app more args) h
  | [] => .fail "method value"
 | _ => .fail "call: no function"
end
def ctx (E : Env) (n : Nat) : Ctx :=
 Xix (motive := fun _ => Ctx) ⟨fun _ _ _ => .fail "depth", fun _ _ _ _ => .fail "depth", E.nilOk, 0⟩
  (fun n ih => ⟨callV E ih, invokeV E ih, E.nilOk, Xid n⟩) n
def isAggD : TypeDesc -> Bool
 | .struct _ | .array _ _ => true
 | _ => false
def plain1 : Value -> Bool
 | .bool _ | .int _ _ | .string _ | .pointer none | .slice none 0 0 | .map none | .nilFunc | .nilIface => true
 | _ => false
def Xd6 : List Value -> Bool
 | [] => true
 | x :: xs => plain1 x && Xd6 xs
def Jh : Value -> Bool
 | .agg cs => Xd6 cs.toList
 | v => plain1 v
section
variable (P : Program)
def und (t : TypeId) : TypeDesc := (P.underlying t).getD .invalid
def cellN (t : TypeId) : Nat := P.cellsOf t
def okT (t : TypeId) : Bool := (P.underlying t).isSome
def Xd7 {α : Type} (b : Bool) (x : Option α) : Option α := bif b then x else none
def ZH (t : TypeId) : Option Value := ((P.info? t).bind (·.zero)).bind fun v => bif Jh v then some v else none
def Vb (t : TypeId) : Bool := isAggD (und P t)
def Yb (v : Value) : List Value := match v with
 | .agg cs => cs.toList
 | v => [v]
variable (m : Nat)     -- how many temporaries there are
def XaR (t : Nat) : Option Nat := bif XhK t 256 && XhK t m then some t else none
def repC (xs : List Value) : Nat -> List Value
 | 0 => []
 | n + 1 => xs ++ repC xs n
def XE : Operand -> Option Opd
 | .tmp t => (XaR m t).map .tmp
 | .const v => bif Jh v then some (.const v) else none
 | .func f => some (.const (.func (.func f) #[] #[]))
 | .global _ => none
def flatN : Nat -> TypeId -> Option (List Jf)
 | 0, _ => none
 | d + 1, t => match und P t with
  | .int k => some [.int k]
  | .string => some [.str]
  | .bool => some [.bool]
  | .struct fs => if P.stoodInHeld t then none else fields (flatN d) fs.toList 0
  | .array n e => match flatN d e with
   | some ls => if cellN P e = ls.length && okT P e then some (times ls n) else none
   | none => none
  | _ => none
where
 times (ls : List Jf) : Nat -> List Jf
  | 0 => []
  | n + 1 => ls ++ times ls n
 fields (leaves : TypeId -> Option (List Jf)) : List Field -> Nat -> Option (List Jf)
  | [], off => some []
  | f :: fs, off => if f.name = "_" || f.offset != off || !(okT P f.type) then none else match leaves f.type with
   | some ls => if cellN P f.type = ls.length then (fields leaves fs (off + ls.length)).map (ls ++ ·) else none
   | none => none
def XcW (t : TypeId) : Option KSh :=
 match und P t with
 | .int k => some (.one (.int k))
 | .string => some (.one .str)
 | .bool => some (.one .bool)
 | .array n e => match und P e with
  | .int k => if cellN P e = 1 then some (.many n k) else none
  | _ => none
 | _ => none
def cPred (t : TypeId) : Option Pred :=
 match und P t with
 | .int _ => some .int
 | .string => some .str
 | .bool => some .bool
 | .pointer e => if okT P e then some .ptr else none
 | .slice _ => some .slice
 | .map _ _ => some .map
 | .func .. => some .func
 | .interface _ => some .iface
 | .struct _ | .array _ _ => match flatN P 12 t with
  | some ls => if P.eqGuardType P.depth t then none else some (.flat ls)
  | none => none
 | _ => none
def Xet : Pred -> Bool
 | .iface => true
 | _ => false
def nilC : Operand -> Bool
 | .const .nilIface => true
 | _ => false
def Xac {α β γ : Type} (a : Option α) (b : Option β) (f : α -> β -> γ) : Option γ := a.bind fun a => b.map (f a)
def optO (x : Option Operand) : Option (Option Opd) := match x with
 | none => some none
 | some x => (XE m x).map some
def Uv (xs : Array Operand) : Option (List Opd) := xs.toList.mapM (XE m)
def parts (place : Nat -> Option (Nat × Nat)) (ps : Array (Nat × Operand)) : Option (List Part) :=
 ps.toList.mapM fun (i, x) => (place i).bind fun (off, n) => (XE m x).map fun x => ⟨off, n, x⟩
def cMethod (t : TypeId) (name : String) : Option (Nat × Rcv) :=
 ((P.info? t).bind fun i => i.methods.find? (·.name == name)).bind fun m =>
   if !(okT P t) then none else m.func.bind fun (f, ptr) =>
    match m.path.toList with
    | [] => (match und P t, ptr with
     | .pointer _, true => some (f, .whole)
     | .pointer e, false => Xd7 (okT P e) <| some (f, if Vb P e then .cells (cellN P e) else .cell)
     | .interface _, _ => none
     | _, false => some (f, .whole)
     | _, true => none)
    | [s] => if s.deref || ptr then none else (match und P s.struct with
     | .struct fs => (fs[s.index]?).bind fun fd => Xd7 (okT P fd.type) (match und P fd.type with
      | .pointer _ => none
      | _ => some (f, .part fd.offset (if Vb P fd.type then some (cellN P fd.type) else none)))
     | _ => none)
    | _ => none
def Xd8 (t : TypeId) (name : String) : Bool :=
 match (P.info? t).bind fun i => i.methods.find? (·.name == name) with
 | some m => okT P t && m.path.isEmpty && (match m.func with
  | some (_, true) => true
  | some (_, false) => (match und P t with
   | .pointer _ => false
   | _ => true)
  | none => false)
 | none => false
def und0 (c : Call) : TypeDesc := match c.argTypes[0]? with
 | some t => und P t
 | none => .invalid
def cCall (c : Call) : COp :=
 match c.callee with
 | .value f => ((XE m f).bind fun f => (Uv m c.args).map (COp.call f)).getD (.bad "call")
 | .invoke x name => ((XE m x).bind fun x => (Uv m c.args).map fun as => COp.invoke x name as).getD (.bad "invoke")
 | .builtin b =>
  match b, c.args.toList with
  | .len, [x] => match und0 P c with
   | .array n _ => .lenC n
   | .pointer a => match und P a with
    | .array n _ => .lenC n
    | _ => .bad "len"
   | .string => ((XE m x).map (COp.len .str)).getD (.bad "len")
   | .slice _ => ((XE m x).map (COp.len .sl)).getD (.bad "len")
   | .map _ _ => ((XE m x).map (COp.len .map)).getD (.bad "len")
   | _ => .bad "len"
  | .cap, [x] => match und0 P c with
   | .slice _ => ((XE m x).map COp.cap).getD (.bad "cap")
   | _ => .bad "cap"
  | .append, [s, x] => match und0 P c, (c.argTypes[1]?).map (und P) with
   | .slice e, some (.slice _) | .slice e, some .string => match ZH P e with
    | some z => if (Yb z).isEmpty || (Yb z).length != cellN P e || ((P.info? e).map (·.bytes)).getD 0 >= 2 ^ 20 || ((P.info? e).map (·.bytes)).getD 0 = 0 then .bad "append: size" else (Xac (XE m s) (XE m x) (COp.append (cellN P e))).getD (.bad "append")
    | none => .bad "append"
   | .slice e, some (.int _) => match ZH P e with
    | some z => if (Yb z).isEmpty || (Yb z).length != cellN P e || ((P.info? e).map (·.bytes)).getD 0 >= 2 ^ 20 || ((P.info? e).map (·.bytes)).getD 0 = 0 then .bad "append: size" else (Xac (XE m s) (XE m x) (COp.appendZ (Yb z))).getD (.bad "append")
    | none => .bad "append"
   | _, _ => .bad "append"
  | .copy, [d, s] => match und0 P c with
   | .slice e => (Xd7 (okT P e) <| Xac (XE m d) (XE m s) (COp.copy (cellN P e))).getD (.bad "copy")
   | _ => .bad "copy"
  | .delete, [mp, k] => match und0 P c with
   | .map kt _ => ((XcW P kt).bind fun sh => Xac (XE m mp) (XE m k) (COp.delete sh)).getD (.bad "delete")
   | _ => .bad "delete"
  | .clear, [x] => match und0 P c with
   | .slice e => match ZH P e, XE m x with
    | some z, some x => if (Yb z).length != cellN P e then .bad "clear" else .clear (Yb z) x
    | _, _ => .bad "clear"
   | .map _ _ => ((XE m x).map (COp.clear [])).getD (.bad "clear")
   | _ => .bad "clear"
  | .max, x :: xs => (Xac (XE m x) (xs.mapM (XE m)) COp.max).getD (.bad "max")
  | .min, x :: xs => (Xac (XE m x) (xs.mapM (XE m)) COp.min).getD (.bad "min")
  | .panic, [x] => ((XE m x).map COp.panic).getD (.bad "panic")
  | .recover, [] => .recover
  | _, _ => .bad "builtin"
def Zk (x : Option COp) (why : String) : COp := x.getD (.bad why)
def cOp (o : Oper) : COp :=
 match o.op with
 | .move x | .assign x => Zk ((XE m x).map .move) "move"
 | .pick c a b => Zk ((XE m c).bind fun c => Xac (XE m a) (XE m b) (COp.pick c)) "pick"
 | .alloc e => Zk ((ZH P e).map fun z => COp.alloc (Yb z)) "alloc"
 | .box _ x => Zk ((XE m x).map .box) "box"
 | .build t ps => Zk ((ZH P t).bind fun z => match und P t with
   | .struct fs => Xd7 (fs.toList.all fun f => okT P f.type) <| (parts m (fun i => (fs[i]?).map fun f => (f.offset, cellN P f.type)) ps).map (COp.build (Yb z))
   | .array _ e => Xd7 (okT P e) <| (parts m (fun i => some (i * cellN P e, cellN P e)) ps).map (COp.build (Yb z))
   | _ => none) "build"
 | .buildSlice t n ps => Zk (match und P t with
   | .slice e => if n * cellN P e > 2 ^ 24 then none else (ZH P e).bind fun z => if (Yb z).length != cellN P e then none else
     (parts m (fun i => some (i * cellN P e, cellN P e)) ps).map fun ps => COp.buildSlice (repC (Yb z) n) ps n
   | _ => none) "buildSlice"
 | .load t a => Zk (Xd7 (okT P t) <| (XE m a).map fun a => if Vb P t then COp.loadN (cellN P t) a else .load1 a) "load"
 | .store t a x => Zk (Xd7 (okT P t) <| Xac (XE m a) (XE m x) (COp.store (cellN P t))) "store"
 | .nilCheck x => Zk ((XE m x).map .nilCheck) "nilCheck"
 | .binOp op t x y _ => match op with
  | .eql => Zk ((cPred P t).bind fun p => Xac (XE m x) (XE m y) (COp.eq false (if Xet p && (nilC x || nilC y) then .ifaceNil else p))) "eql"
  | .neq => Zk ((cPred P t).bind fun p => Xac (XE m x) (XE m y) (COp.eq true (if Xet p && (nilC x || nilC y) then .ifaceNil else p))) "neq"
  | _ => Zk (Xac (XE m x) (XE m y) (COp.bin op)) "bin"
 | .unOp op _ x => Zk ((XE m x).map (COp.un op)) "un"
 | .convert s d x => Zk (match und P s, und P d with
   | .slice _, .slice e => (match und P e with
    | .int .u8 => if s = d then (XE m x).map .stamp else none
    | _ => none)
   | .int _, .int k => (XE m x).map (COp.intTo k)
   | .string, .string => (XE m x).map .str
   | .string, .slice e => match und P e with
    | .int .u8 => (XE m x).map .toBytes
    | _ => none
   | .slice e, .string => match und P e with
    | .int .u8 => (XE m x).map .bytesTo
    | _ => none
   | _, _ => none) "convert"
 | .sliceToArrayPointer t x => Zk (match und P t with
   | .array n _ => (XE m x).map (COp.toArr n)
   | _ => none) "sliceToArrayPointer"
 | .makeInterface t x => Zk (match und P t with
   | .interface _ | .invalid => none
   | _ => (XE m x).map (COp.mkIface t)) "makeInterface"
 | .makeFunc fn fs cs => Zk (match fn with
   | .func _ | .method _ => Xac (Uv m fs) (Uv m cs) (COp.mkFunc fn)
   | _ => none) "makeFunc"
 | .makeMap t none => Zk (match und P t with
   | .map kt _ => (XcW P kt).map COp.mkMap
   | _ => none) "makeMap"
 | .makeMap _ (some _) => .bad "makeMap: room"
 | .makeSlice t l c => Zk (match und P t with
   | .slice e => (ZH P e).bind fun z => if (Yb z).length != cellN P e || ((P.info? e).map (·.bytes)).getD 0 >= 2 ^ 20 then none else Xac (XE m l) (XE m c) (COp.mkSlice (Yb z))
   | _ => none) "makeSlice"
 | .slice t x lo hi mx => Zk ((XE m x).bind fun x => (optO m lo).bind fun lo => (optO m hi).bind fun hi => (optO m mx).bind fun mx => match und P t with
   | .string => if mx.isSome then none else some (.sliceStr x lo hi)
   | .slice e => Xd7 (okT P e) <| some (.sliceSl (cellN P e) x lo hi mx)
   | .array n e => Xd7 (okT P e) <| some (.sliceArr n (cellN P e) x lo hi mx)
   | .pointer a => match und P a with
    | .array n e => Xd7 (okT P e) <| some (.sliceArr n (cellN P e) x lo hi mx)
    | _ => none
   | _ => none) "slice"
 | .fieldAddr t x f => Zk (match und P t with
   | .struct fs => (fs[f]?).bind fun f => if cellN P f.type = 0 then none else (XE m x).map (COp.fieldAddr f.offset)
   | _ => none) "fieldAddr"
 | .field t x f => Zk (match und P t with
   | .struct fs => (fs[f]?).bind fun f => Xd7 (okT P f.type) <| (XE m x).map (COp.field f.offset (if Vb P f.type then some (cellN P f.type) else none))
   | _ => none) "field"
 | .indexAddr t x i => Zk (match und P t with
   | .array n e => Xd7 (okT P e) <| Xac (XE m x) (XE m i) (COp.ixArr n (cellN P e))
   | .slice e => Xd7 (okT P e) <| Xac (XE m x) (XE m i) (COp.ixSl (cellN P e))
   | _ => none) "indexAddr"
 | .index t x i => Zk (match und P t with
   | .array n e => Xd7 (okT P e && (Vb P e || XhD (cellN P e) 1)) <| Xac (XE m x) (XE m i) (COp.ixVal n (cellN P e) (Vb P e))
   | .string => Xac (XE m x) (XE m i) COp.ixStr
   | _ => none) "index"
 | .lookup t x i ok => Zk (match und P t with
   | .map kt e => (XcW P kt).bind fun sh => (ZH P e).bind fun z => Xac (XE m x) (XE m i) (COp.lookup sh z ok)
   | _ => none) "lookup"
 | .mapUpdate t mp k x => Zk (match und P t with
   | .map kt _ => (XcW P kt).bind fun sh => (XE m mp).bind fun mp => Xac (XE m k) (XE m x) (COp.mapUpdate sh mp)
   | _ => none) "mapUpdate"
 | .insert t mp k x => Zk (match und P t with
   | .map kt _ => (XcW P kt).bind fun sh => (XE m mp).bind fun mp => Xac (XE m k) (XE m x) (COp.mapUpdate sh mp)
   | _ => none) "insert"
 | .range t x => Zk (match und P t with
   | .map _ _ => (XE m x).map .rangeMap
   | .string => (XE m x).map .rangeStr
   | _ => none) "range"
 | .next it s => Zk ((XE m it).map fun it => if s then COp.nextStr it else .nextMap it) "next"
 | .entry it => Zk ((XE m it).map .entry) "entry"
 | .typeAssert x _ t ok => Zk (match und P t with
   | .interface want => (ZH P t).bind fun z => (XE m x).map (COp.assertI P.types.size ((Xir P.types.size).filter fun u => (Instr.missingMethod want (((P.info? u).map (·.methods)).getD #[])).isNone) z ok)
   | .invalid => none
   | _ => (ZH P t).bind fun z => (XE m x).map (COp.assertT t z ok)) "typeAssert"
 | .extract x i => Zk ((XE m x).map (COp.extract i)) "extract"
 | .call c => cCall P m c
 | .defer c => match c.callee with
  | .value f => Zk (Xac (XE m f) (Uv m c.args) COp.defer) "defer"
  | _ => .bad "defer"
 | .panic x => Zk ((XE m x).map .panic) "panic"
 | _ => .bad "operation"
def Xf3 : COp -> Bool
 | .load1 _ | .loadN .. | .lookup .. | .len .. | .bytesTo _ | .entry _ => true
 | _ => false
def Xd9 (ops : Array Oper) (o : Oper) (j : Nat) (un pre : List Nat) : W0 :=
 match (match o.dst with
   | none => some none
   | some d => (XaR m d).map some), (match o.guard with
   | none => some none
   | some (g, w) => (((ops[g]?).bind (·.dst)).bind (XaR m)).map fun s => some (s, w)) with
  | some dst, some guard => { guard, dst, op := cOp P m o, idx := j, un, pre }
  | _, _ => { guard := none, dst := none, op := .bad "slot", idx := j, un := [], pre := [] }
def oList : Option Opd -> List Opd
 | none => []
 | some x => [x]
def COp.opds : COp -> List Opd
 | .move x | .box x | .load1 x | .loadN _ x | .nilCheck x | .un _ x | .intTo _ x | .str x | .bytesTo x | .toBytes x | .stamp x | .mkIface _ x | .toArr _ x | .fieldAddr _ x | .field _ _ x | .rangeMap x | .rangeStr x | .nextMap x | .nextStr x
 | .entry x | .assertT _ _ _ x | .assertI _ _ _ _ x | .extract _ x | .len _ x | .cap x | .clear _ x | .panic x => [x]
 | .pick c a b => [c, a, b]
 | .build _ ps => ps.map (·.x)
 | .buildSlice _ ps _ => ps.map (·.x)
 | .store _ a x => [a, x]
 | .bin _ x y | .eq _ _ x y | .ixSl _ x y | .ixArr _ _ x y | .ixStr x y | .ixVal _ _ _ x y | .lookup _ _ _ x y | .append _ x y | .appendZ _ x y | .copy _ x y | .delete _ x y | .mkSlice _ x y => [x, y]
 | .mkFunc _ a b => a ++ b
 | .sliceStr x lo hi => x :: (oList lo ++ oList hi)
 | .sliceSl _ x lo hi mx | .sliceArr _ _ x lo hi mx => x :: (oList lo ++ (oList hi ++ oList mx))
 | .mapUpdate _ m k x => [m, k, x]
 | .max x xs | .min x xs => x :: xs
 | .call f args | .defer f args => f :: args
 | .invoke x _ args => x :: args
 | .alloc _ | .mkMap _ | .lenC _ | .recover | .bad _ => []
def tmpsOf (xs : List Operand) : List Nat := xs.filterMap fun
 | .tmp n => some n
 | _ => none
def slotsOf (xs : List Opd) : List Nat := xs.filterMap fun
 | .tmp n => some n
 | _ => none
def guardSlot (ops : Array Oper) (o : Oper) : List Nat := match o.guard with
 | none => []
 | some (g, _) => ((ops[g]?).bind (·.dst)).toList
def looks (ops : Array Oper) (o : Oper) (c : COp) : List Nat := tmpsOf o.op.operands.toList ++ (slotsOf c.opds ++ guardSlot ops o)
def J8 (ops : Array Oper) (cs : Array COp) (b : Array Nat) : Bool :=
 (ops.toList.zipIdx.all fun (o, i) => o.after.toList.all fun e => !(Region.binds .any e) || XhK e.on i) &&
 (ops.toList.zipIdx.all fun (o, i) => match o.dst with
  | none => true
  | some d => ops.toList.zipIdx.all fun (p, j) => XhD i j || (match p.dst with
   | none => true
   | some d' => !(XhD d d'))) &&
 (ops.toList.zipIdx.all fun (o, i) => (looks ops o (cs.getD i (.bad ""))).all fun s => XhK s 256 && XhK s m && ops.toList.zipIdx.all fun (p, j) => match p.dst with
  | none => true
  | some d => !(XhD d s) || (XhK j i && (b.getD i 0).testBit j) || XhD i j || (XhK i j && (b.getD j 0).testBit i))
def Xf4 (cs : Array COp) (b : Array Nat) (j : Nat) : List Nat := (Xir j).filter fun i =>
 !(b.getD j 0).testBit i && ((Xf3 (cs.getD i (.bad "")) && (cs.getD j (.bad "")).writes) || ((cs.getD i (.bad "")).writes && Xf3 (cs.getD j (.bad ""))) || ((cs.getD i (.bad "")).writes && (cs.getD j (.bad "")).writes))
def XaS (cs : Array COp) (b : Array Nat) (j : Nat) : List Nat := (Xir j).filter fun i => (b.getD j 0).testBit i && (cs.getD i (.bad "")).writes
def cOpersD (ops : Array Oper) (cs : Array COp) (b : Array Nat) : List W0 :=
 if J8 m ops cs b then ops.toList.zipIdx.map fun (o, j) => Xd9 P m ops o j (Xf4 cs b j) (XaS cs b j)
 else [{ guard := none, dst := none, op := .bad "region", idx := 0, un := [], pre := [] }]
def cOpers (draw : Bool) (ops : Array Oper) : List W0 :=
 if draw then cOpersD P m ops (ops.map (cOp P m)) (Region.before ops)
 else ops.toList.zipIdx.map fun (o, j) => Xd9 P m ops o j [] []
def WC : Code -> CCode
 | .skip => .skip
 | .region _ ops draw => .region draw (cOpers P m draw ops)
 | .seq a b => .seq (WC a) (WC b)
 | .cond c a b => match XE m c with
  | some c => .cond c (WC a) (WC b)
  | none => .bad "cond"
 | .block id c => .block id (WC c)
 | .loop c => .loop (WC c)
 | .rangeFunc f ps a c => match XE m f, ps.toList.mapM (XaR m) with
  | some f, some ps => .rangeFunc f ps (WC a) (WC c)
  | _, _ => .bad "rangeFunc"
 | .exit id => .exit id
 | .scope c => WC c
 | .label _ => .skip
 | .goto _ => .bad "goto"
 | .ret => .ret
 | .refuse w => .bad w
def cRes (fn : Func) : Option (List CRes) :=
 fn.results.toList.mapM fun
  | .tmp t => (XaR m t).map .tmp
  | .cell a t => Xd7 (okT P t) <| (XaR m a).map fun a => if Vb P t then .cellN a (cellN P t) else .cell1 a
def cFun (f : Nat) : Option CFun :=
 (P.funcs[f]?).bind fun fn => bif fn.name == "runtime.NumGoroutine" then none else
  fn.body.bind fun c => (cRes P fn.ntmps fn).map fun rs => { results := rs, body := WC P fn.ntmps c }
end
def fnOf (P : Program) (f : Nat) : Option XI := Yr none (fun c => some (CFun.den c)) (cFun P f)
def g0 : Xe := fun t => t.a.a.a.a
def g1 : Xe := fun t => t.a.a.a.b
def g2 : Xe := fun t => t.a.a.a.c
def g3 : Xe := fun t => t.a.a.a.d
def g4 : Xe := fun t => t.a.a.b.a
def g5 : Xe := fun t => t.a.a.b.b
def g6 : Xe := fun t => t.a.a.b.c
def g7 : Xe := fun t => t.a.a.b.d
def g8 : Xe := fun t => t.a.a.c.a
def g9 : Xe := fun t => t.a.a.c.b
def g10 : Xe := fun t => t.a.a.c.c
def g11 : Xe := fun t => t.a.a.c.d
def g12 : Xe := fun t => t.a.a.d.a
def g13 : Xe := fun t => t.a.a.d.b
def g14 : Xe := fun t => t.a.a.d.c
def g15 : Xe := fun t => t.a.a.d.d
def g16 : Xe := fun t => t.a.b.a.a
def g17 : Xe := fun t => t.a.b.a.b
def g18 : Xe := fun t => t.a.b.a.c
def g19 : Xe := fun t => t.a.b.a.d
def g20 : Xe := fun t => t.a.b.b.a
def g21 : Xe := fun t => t.a.b.b.b
def g22 : Xe := fun t => t.a.b.b.c
def g23 : Xe := fun t => t.a.b.b.d
def g24 : Xe := fun t => t.a.b.c.a
def g25 : Xe := fun t => t.a.b.c.b
def g26 : Xe := fun t => t.a.b.c.c
def g27 : Xe := fun t => t.a.b.c.d
def g28 : Xe := fun t => t.a.b.d.a
def g29 : Xe := fun t => t.a.b.d.b
def g30 : Xe := fun t => t.a.b.d.c
def g31 : Xe := fun t => t.a.b.d.d
def g32 : Xe := fun t => t.a.c.a.a
def g33 : Xe := fun t => t.a.c.a.b
def g34 : Xe := fun t => t.a.c.a.c
def g35 : Xe := fun t => t.a.c.a.d
def g36 : Xe := fun t => t.a.c.b.a
def g37 : Xe := fun t => t.a.c.b.b
def g38 : Xe := fun t => t.a.c.b.c
def g39 : Xe := fun t => t.a.c.b.d
def g40 : Xe := fun t => t.a.c.c.a
def g41 : Xe := fun t => t.a.c.c.b
def g42 : Xe := fun t => t.a.c.c.c
def g43 : Xe := fun t => t.a.c.c.d
def g44 : Xe := fun t => t.a.c.d.a
def g45 : Xe := fun t => t.a.c.d.b
def g46 : Xe := fun t => t.a.c.d.c
def g47 : Xe := fun t => t.a.c.d.d
def g48 : Xe := fun t => t.a.d.a.a
def g49 : Xe := fun t => t.a.d.a.b
def g50 : Xe := fun t => t.a.d.a.c
def g51 : Xe := fun t => t.a.d.a.d
def g52 : Xe := fun t => t.a.d.b.a
def g53 : Xe := fun t => t.a.d.b.b
def g54 : Xe := fun t => t.a.d.b.c
def g55 : Xe := fun t => t.a.d.b.d
def g56 : Xe := fun t => t.a.d.c.a
def g57 : Xe := fun t => t.a.d.c.b
def g58 : Xe := fun t => t.a.d.c.c
def g59 : Xe := fun t => t.a.d.c.d
def g60 : Xe := fun t => t.a.d.d.a
def g61 : Xe := fun t => t.a.d.d.b
def g62 : Xe := fun t => t.a.d.d.c
def g63 : Xe := fun t => t.a.d.d.d
def g64 : Xe := fun t => t.b.a.a.a
def g65 : Xe := fun t => t.b.a.a.b
def g66 : Xe := fun t => t.b.a.a.c
def g67 : Xe := fun t => t.b.a.a.d
def g68 : Xe := fun t => t.b.a.b.a
def g69 : Xe := fun t => t.b.a.b.b
def g70 : Xe := fun t => t.b.a.b.c
def g71 : Xe := fun t => t.b.a.b.d
def g72 : Xe := fun t => t.b.a.c.a
def g73 : Xe := fun t => t.b.a.c.b
def g74 : Xe := fun t => t.b.a.c.c
def g75 : Xe := fun t => t.b.a.c.d
def g76 : Xe := fun t => t.b.a.d.a
def g77 : Xe := fun t => t.b.a.d.b
def g78 : Xe := fun t => t.b.a.d.c
def g79 : Xe := fun t => t.b.a.d.d
def g80 : Xe := fun t => t.b.b.a.a
def g81 : Xe := fun t => t.b.b.a.b
def g82 : Xe := fun t => t.b.b.a.c
def g83 : Xe := fun t => t.b.b.a.d
def g84 : Xe := fun t => t.b.b.b.a
def g85 : Xe := fun t => t.b.b.b.b
def g86 : Xe := fun t => t.b.b.b.c
def g87 : Xe := fun t => t.b.b.b.d
def g88 : Xe := fun t => t.b.b.c.a
def g89 : Xe := fun t => t.b.b.c.b
def g90 : Xe := fun t => t.b.b.c.c
def g91 : Xe := fun t => t.b.b.c.d
def g92 : Xe := fun t => t.b.b.d.a
def g93 : Xe := fun t => t.b.b.d.b
def g94 : Xe := fun t => t.b.b.d.c
def g95 : Xe := fun t => t.b.b.d.d
def g96 : Xe := fun t => t.b.c.a.a
def g97 : Xe := fun t => t.b.c.a.b
def g98 : Xe := fun t => t.b.c.a.c
def g99 : Xe := fun t => t.b.c.a.d
def g100 : Xe := fun t => t.b.c.b.a
def g101 : Xe := fun t => t.b.c.b.b
def g102 : Xe := fun t => t.b.c.b.c
def g103 : Xe := fun t => t.b.c.b.d
def g104 : Xe := fun t => t.b.c.c.a
def g105 : Xe := fun t => t.b.c.c.b
def g106 : Xe := fun t => t.b.c.c.c
def g107 : Xe := fun t => t.b.c.c.d
def g108 : Xe := fun t => t.b.c.d.a
def g109 : Xe := fun t => t.b.c.d.b
def g110 : Xe := fun t => t.b.c.d.c
def g111 : Xe := fun t => t.b.c.d.d
def g112 : Xe := fun t => t.b.d.a.a
def g113 : Xe := fun t => t.b.d.a.b
def g114 : Xe := fun t => t.b.d.a.c
def g115 : Xe := fun t => t.b.d.a.d
def g116 : Xe := fun t => t.b.d.b.a
def g117 : Xe := fun t => t.b.d.b.b
def g118 : Xe := fun t => t.b.d.b.c
def g119 : Xe := fun t => t.b.d.b.d
def g120 : Xe := fun t => t.b.d.c.a
def g121 : Xe := fun t => t.b.d.c.b
def g122 : Xe := fun t => t.b.d.c.c
def g123 : Xe := fun t => t.b.d.c.d
def g124 : Xe := fun t => t.b.d.d.a
def g125 : Xe := fun t => t.b.d.d.b
def g126 : Xe := fun t => t.b.d.d.c
def g127 : Xe := fun t => t.b.d.d.d
def g128 : Xe := fun t => t.c.a.a.a
def g129 : Xe := fun t => t.c.a.a.b
def g130 : Xe := fun t => t.c.a.a.c
def g131 : Xe := fun t => t.c.a.a.d
def g132 : Xe := fun t => t.c.a.b.a
def g133 : Xe := fun t => t.c.a.b.b
def g134 : Xe := fun t => t.c.a.b.c
def g135 : Xe := fun t => t.c.a.b.d
def g136 : Xe := fun t => t.c.a.c.a
def g137 : Xe := fun t => t.c.a.c.b
def g138 : Xe := fun t => t.c.a.c.c
def g139 : Xe := fun t => t.c.a.c.d
def g140 : Xe := fun t => t.c.a.d.a
def g141 : Xe := fun t => t.c.a.d.b
def g142 : Xe := fun t => t.c.a.d.c
def g143 : Xe := fun t => t.c.a.d.d
def g144 : Xe := fun t => t.c.b.a.a
def g145 : Xe := fun t => t.c.b.a.b
def g146 : Xe := fun t => t.c.b.a.c
def g147 : Xe := fun t => t.c.b.a.d
def g148 : Xe := fun t => t.c.b.b.a
def g149 : Xe := fun t => t.c.b.b.b
def g150 : Xe := fun t => t.c.b.b.c
def g151 : Xe := fun t => t.c.b.b.d
def g152 : Xe := fun t => t.c.b.c.a
def g153 : Xe := fun t => t.c.b.c.b
def g154 : Xe := fun t => t.c.b.c.c
def g155 : Xe := fun t => t.c.b.c.d
def g156 : Xe := fun t => t.c.b.d.a
def g157 : Xe := fun t => t.c.b.d.b
def g158 : Xe := fun t => t.c.b.d.c
def g159 : Xe := fun t => t.c.b.d.d
def g160 : Xe := fun t => t.c.c.a.a
def g161 : Xe := fun t => t.c.c.a.b
def g162 : Xe := fun t => t.c.c.a.c
def g163 : Xe := fun t => t.c.c.a.d
def g164 : Xe := fun t => t.c.c.b.a
def g165 : Xe := fun t => t.c.c.b.b
def g166 : Xe := fun t => t.c.c.b.c
def g167 : Xe := fun t => t.c.c.b.d
def g168 : Xe := fun t => t.c.c.c.a
def g169 : Xe := fun t => t.c.c.c.b
def g170 : Xe := fun t => t.c.c.c.c
def g171 : Xe := fun t => t.c.c.c.d
def g172 : Xe := fun t => t.c.c.d.a
def g173 : Xe := fun t => t.c.c.d.b
def g174 : Xe := fun t => t.c.c.d.c
def g175 : Xe := fun t => t.c.c.d.d
def g176 : Xe := fun t => t.c.d.a.a
def g177 : Xe := fun t => t.c.d.a.b
def g178 : Xe := fun t => t.c.d.a.c
def g179 : Xe := fun t => t.c.d.a.d
def g180 : Xe := fun t => t.c.d.b.a
def g181 : Xe := fun t => t.c.d.b.b
def g182 : Xe := fun t => t.c.d.b.c
def g183 : Xe := fun t => t.c.d.b.d
def g184 : Xe := fun t => t.c.d.c.a
def g185 : Xe := fun t => t.c.d.c.b
def g186 : Xe := fun t => t.c.d.c.c
def g187 : Xe := fun t => t.c.d.c.d
def g188 : Xe := fun t => t.c.d.d.a
def g189 : Xe := fun t => t.c.d.d.b
def g190 : Xe := fun t => t.c.d.d.c
def g191 : Xe := fun t => t.c.d.d.d
def g192 : Xe := fun t => t.d.a.a.a
def g193 : Xe := fun t => t.d.a.a.b
def g194 : Xe := fun t => t.d.a.a.c
def g195 : Xe := fun t => t.d.a.a.d
abbrev PSl := Value -> Tm -> Tm
section
open T4 (ua ub uc ud)
def p0 : PSl := fun v => ua (ua (ua (ua fun _ => v)))
def p1 : PSl := fun v => ua (ua (ua (ub fun _ => v)))
def p2 : PSl := fun v => ua (ua (ua (uc fun _ => v)))
def p3 : PSl := fun v => ua (ua (ua (ud fun _ => v)))
def p4 : PSl := fun v => ua (ua (ub (ua fun _ => v)))
def p5 : PSl := fun v => ua (ua (ub (ub fun _ => v)))
def p6 : PSl := fun v => ua (ua (ub (uc fun _ => v)))
def p7 : PSl := fun v => ua (ua (ub (ud fun _ => v)))
def p8 : PSl := fun v => ua (ua (uc (ua fun _ => v)))
def p9 : PSl := fun v => ua (ua (uc (ub fun _ => v)))
def p10 : PSl := fun v => ua (ua (uc (uc fun _ => v)))
def p11 : PSl := fun v => ua (ua (uc (ud fun _ => v)))
def p12 : PSl := fun v => ua (ua (ud (ua fun _ => v)))
def p13 : PSl := fun v => ua (ua (ud (ub fun _ => v)))
def p14 : PSl := fun v => ua (ua (ud (uc fun _ => v)))
def p15 : PSl := fun v => ua (ua (ud (ud fun _ => v)))
def p16 : PSl := fun v => ua (ub (ua (ua fun _ => v)))
def p17 : PSl := fun v => ua (ub (ua (ub fun _ => v)))
def p18 : PSl := fun v => ua (ub (ua (uc fun _ => v)))
def p19 : PSl := fun v => ua (ub (ua (ud fun _ => v)))
def p20 : PSl := fun v => ua (ub (ub (ua fun _ => v)))
def p21 : PSl := fun v => ua (ub (ub (ub fun _ => v)))
def p22 : PSl := fun v => ua (ub (ub (uc fun _ => v)))
def p23 : PSl := fun v => ua (ub (ub (ud fun _ => v)))
def p24 : PSl := fun v => ua (ub (uc (ua fun _ => v)))
def p25 : PSl := fun v => ua (ub (uc (ub fun _ => v)))
def p26 : PSl := fun v => ua (ub (uc (uc fun _ => v)))
def p27 : PSl := fun v => ua (ub (uc (ud fun _ => v)))
def p28 : PSl := fun v => ua (ub (ud (ua fun _ => v)))
def p29 : PSl := fun v => ua (ub (ud (ub fun _ => v)))
def p30 : PSl := fun v => ua (ub (ud (uc fun _ => v)))
def p31 : PSl := fun v => ua (ub (ud (ud fun _ => v)))
def p32 : PSl := fun v => ua (uc (ua (ua fun _ => v)))
def p33 : PSl := fun v => ua (uc (ua (ub fun _ => v)))
def p34 : PSl := fun v => ua (uc (ua (uc fun _ => v)))
def p35 : PSl := fun v => ua (uc (ua (ud fun _ => v)))
def p36 : PSl := fun v => ua (uc (ub (ua fun _ => v)))
def p37 : PSl := fun v => ua (uc (ub (ub fun _ => v)))
def p38 : PSl := fun v => ua (uc (ub (uc fun _ => v)))
def p39 : PSl := fun v => ua (uc (ub (ud fun _ => v)))
def p40 : PSl := fun v => ua (uc (uc (ua fun _ => v)))
def p41 : PSl := fun v => ua (uc (uc (ub fun _ => v)))
def p42 : PSl := fun v => ua (uc (uc (uc fun _ => v)))
def p43 : PSl := fun v => ua (uc (uc (ud fun _ => v)))
def p44 : PSl := fun v => ua (uc (ud (ua fun _ => v)))
def p45 : PSl := fun v => ua (uc (ud (ub fun _ => v)))
def p46 : PSl := fun v => ua (uc (ud (uc fun _ => v)))
def p47 : PSl := fun v => ua (uc (ud (ud fun _ => v)))
def p48 : PSl := fun v => ua (ud (ua (ua fun _ => v)))
def p49 : PSl := fun v => ua (ud (ua (ub fun _ => v)))
def p50 : PSl := fun v => ua (ud (ua (uc fun _ => v)))
def p51 : PSl := fun v => ua (ud (ua (ud fun _ => v)))
def p52 : PSl := fun v => ua (ud (ub (ua fun _ => v)))
def p53 : PSl := fun v => ua (ud (ub (ub fun _ => v)))
def p54 : PSl := fun v => ua (ud (ub (uc fun _ => v)))
def p55 : PSl := fun v => ua (ud (ub (ud fun _ => v)))
def p56 : PSl := fun v => ua (ud (uc (ua fun _ => v)))
def p57 : PSl := fun v => ua (ud (uc (ub fun _ => v)))
def p58 : PSl := fun v => ua (ud (uc (uc fun _ => v)))
def p59 : PSl := fun v => ua (ud (uc (ud fun _ => v)))
def p60 : PSl := fun v => ua (ud (ud (ua fun _ => v)))
def p61 : PSl := fun v => ua (ud (ud (ub fun _ => v)))
def p62 : PSl := fun v => ua (ud (ud (uc fun _ => v)))
def p63 : PSl := fun v => ua (ud (ud (ud fun _ => v)))
def p64 : PSl := fun v => ub (ua (ua (ua fun _ => v)))
def p65 : PSl := fun v => ub (ua (ua (ub fun _ => v)))
def p66 : PSl := fun v => ub (ua (ua (uc fun _ => v)))
def p67 : PSl := fun v => ub (ua (ua (ud fun _ => v)))
def p68 : PSl := fun v => ub (ua (ub (ua fun _ => v)))
def p69 : PSl := fun v => ub (ua (ub (ub fun _ => v)))
def p70 : PSl := fun v => ub (ua (ub (uc fun _ => v)))
def p71 : PSl := fun v => ub (ua (ub (ud fun _ => v)))
def p72 : PSl := fun v => ub (ua (uc (ua fun _ => v)))
def p73 : PSl := fun v => ub (ua (uc (ub fun _ => v)))
def p74 : PSl := fun v => ub (ua (uc (uc fun _ => v)))
def p75 : PSl := fun v => ub (ua (uc (ud fun _ => v)))
def p76 : PSl := fun v => ub (ua (ud (ua fun _ => v)))
def p77 : PSl := fun v => ub (ua (ud (ub fun _ => v)))
def p78 : PSl := fun v => ub (ua (ud (uc fun _ => v)))
def p79 : PSl := fun v => ub (ua (ud (ud fun _ => v)))
def p80 : PSl := fun v => ub (ub (ua (ua fun _ => v)))
def p81 : PSl := fun v => ub (ub (ua (ub fun _ => v)))
def p82 : PSl := fun v => ub (ub (ua (uc fun _ => v)))
def p83 : PSl := fun v => ub (ub (ua (ud fun _ => v)))
def p84 : PSl := fun v => ub (ub (ub (ua fun _ => v)))
def p85 : PSl := fun v => ub (ub (ub (ub fun _ => v)))
def p86 : PSl := fun v => ub (ub (ub (uc fun _ => v)))
def p87 : PSl := fun v => ub (ub (ub (ud fun _ => v)))
def p88 : PSl := fun v => ub (ub (uc (ua fun _ => v)))
def p89 : PSl := fun v => ub (ub (uc (ub fun _ => v)))
def p90 : PSl := fun v => ub (ub (uc (uc fun _ => v)))
def p91 : PSl := fun v => ub (ub (uc (ud fun _ => v)))
def p92 : PSl := fun v => ub (ub (ud (ua fun _ => v)))
def p93 : PSl := fun v => ub (ub (ud (ub fun _ => v)))
def p94 : PSl := fun v => ub (ub (ud (uc fun _ => v)))
def p95 : PSl := fun v => ub (ub (ud (ud fun _ => v)))
def p96 : PSl := fun v => ub (uc (ua (ua fun _ => v)))
def p97 : PSl := fun v => ub (uc (ua (ub fun _ => v)))
def p98 : PSl := fun v => ub (uc (ua (uc fun _ => v)))
def p99 : PSl := fun v => ub (uc (ua (ud fun _ => v)))
def p100 : PSl := fun v => ub (uc (ub (ua fun _ => v)))
def p101 : PSl := fun v => ub (uc (ub (ub fun _ => v)))
def p102 : PSl := fun v => ub (uc (ub (uc fun _ => v)))
def p103 : PSl := fun v => ub (uc (ub (ud fun _ => v)))
def p104 : PSl := fun v => ub (uc (uc (ua fun _ => v)))
def p105 : PSl := fun v => ub (uc (uc (ub fun _ => v)))
def p106 : PSl := fun v => ub (uc (uc (uc fun _ => v)))
def p107 : PSl := fun v => ub (uc (uc (ud fun _ => v)))
def p108 : PSl := fun v => ub (uc (ud (ua fun _ => v)))
def p109 : PSl := fun v => ub (uc (ud (ub fun _ => v)))
def p110 : PSl := fun v => ub (uc (ud (uc fun _ => v)))
def p111 : PSl := fun v => ub (uc (ud (ud fun _ => v)))
def p112 : PSl := fun v => ub (ud (ua (ua fun _ => v)))
def p113 : PSl := fun v => ub (ud (ua (ub fun _ => v)))
def p114 : PSl := fun v => ub (ud (ua (uc fun _ => v)))
def p115 : PSl := fun v => ub (ud (ua (ud fun _ => v)))
def p116 : PSl := fun v => ub (ud (ub (ua fun _ => v)))
def p117 : PSl := fun v => ub (ud (ub (ub fun _ => v)))
def p118 : PSl := fun v => ub (ud (ub (uc fun _ => v)))
def p119 : PSl := fun v => ub (ud (ub (ud fun _ => v)))
def p120 : PSl := fun v => ub (ud (uc (ua fun _ => v)))
def p121 : PSl := fun v => ub (ud (uc (ub fun _ => v)))
def p122 : PSl := fun v => ub (ud (uc (uc fun _ => v)))
def p123 : PSl := fun v => ub (ud (uc (ud fun _ => v)))
def p124 : PSl := fun v => ub (ud (ud (ua fun _ => v)))
def p125 : PSl := fun v => ub (ud (ud (ub fun _ => v)))
def p126 : PSl := fun v => ub (ud (ud (uc fun _ => v)))
def p127 : PSl := fun v => ub (ud (ud (ud fun _ => v)))
def p128 : PSl := fun v => uc (ua (ua (ua fun _ => v)))
def p129 : PSl := fun v => uc (ua (ua (ub fun _ => v)))
def p130 : PSl := fun v => uc (ua (ua (uc fun _ => v)))
def p131 : PSl := fun v => uc (ua (ua (ud fun _ => v)))
def p132 : PSl := fun v => uc (ua (ub (ua fun _ => v)))
def p133 : PSl := fun v => uc (ua (ub (ub fun _ => v)))
def p134 : PSl := fun v => uc (ua (ub (uc fun _ => v)))
def p135 : PSl := fun v => uc (ua (ub (ud fun _ => v)))
def p136 : PSl := fun v => uc (ua (uc (ua fun _ => v)))
def p137 : PSl := fun v => uc (ua (uc (ub fun _ => v)))
def p138 : PSl := fun v => uc (ua (uc (uc fun _ => v)))
def p139 : PSl := fun v => uc (ua (uc (ud fun _ => v)))
def p140 : PSl := fun v => uc (ua (ud (ua fun _ => v)))
def p141 : PSl := fun v => uc (ua (ud (ub fun _ => v)))
def p142 : PSl := fun v => uc (ua (ud (uc fun _ => v)))
def p143 : PSl := fun v => uc (ua (ud (ud fun _ => v)))
def p144 : PSl := fun v => uc (ub (ua (ua fun _ => v)))
def p145 : PSl := fun v => uc (ub (ua (ub fun _ => v)))
def p146 : PSl := fun v => uc (ub (ua (uc fun _ => v)))
def p147 : PSl := fun v => uc (ub (ua (ud fun _ => v)))
def p148 : PSl := fun v => uc (ub (ub (ua fun _ => v)))
def p149 : PSl := fun v => uc (ub (ub (ub fun _ => v)))
def p150 : PSl := fun v => uc (ub (ub (uc fun _ => v)))
def p151 : PSl := fun v => uc (ub (ub (ud fun _ => v)))
def p152 : PSl := fun v => uc (ub (uc (ua fun _ => v)))
def p153 : PSl := fun v => uc (ub (uc (ub fun _ => v)))
def p154 : PSl := fun v => uc (ub (uc (uc fun _ => v)))
def p155 : PSl := fun v => uc (ub (uc (ud fun _ => v)))
def p156 : PSl := fun v => uc (ub (ud (ua fun _ => v)))
def p157 : PSl := fun v => uc (ub (ud (ub fun _ => v)))
def p158 : PSl := fun v => uc (ub (ud (uc fun _ => v)))
def p159 : PSl := fun v => uc (ub (ud (ud fun _ => v)))
def p160 : PSl := fun v => uc (uc (ua (ua fun _ => v)))
def p161 : PSl := fun v => uc (uc (ua (ub fun _ => v)))
def p162 : PSl := fun v => uc (uc (ua (uc fun _ => v)))
def p163 : PSl := fun v => uc (uc (ua (ud fun _ => v)))
def p164 : PSl := fun v => uc (uc (ub (ua fun _ => v)))
def p165 : PSl := fun v => uc (uc (ub (ub fun _ => v)))
def p166 : PSl := fun v => uc (uc (ub (uc fun _ => v)))
def p167 : PSl := fun v => uc (uc (ub (ud fun _ => v)))
def p168 : PSl := fun v => uc (uc (uc (ua fun _ => v)))
def p169 : PSl := fun v => uc (uc (uc (ub fun _ => v)))
def p170 : PSl := fun v => uc (uc (uc (uc fun _ => v)))
def p171 : PSl := fun v => uc (uc (uc (ud fun _ => v)))
def p172 : PSl := fun v => uc (uc (ud (ua fun _ => v)))
def p173 : PSl := fun v => uc (uc (ud (ub fun _ => v)))
def p174 : PSl := fun v => uc (uc (ud (uc fun _ => v)))
def p175 : PSl := fun v => uc (uc (ud (ud fun _ => v)))
def p176 : PSl := fun v => uc (ud (ua (ua fun _ => v)))
def p177 : PSl := fun v => uc (ud (ua (ub fun _ => v)))
def p178 : PSl := fun v => uc (ud (ua (uc fun _ => v)))
def p179 : PSl := fun v => uc (ud (ua (ud fun _ => v)))
def p180 : PSl := fun v => uc (ud (ub (ua fun _ => v)))
def p181 : PSl := fun v => uc (ud (ub (ub fun _ => v)))
def p182 : PSl := fun v => uc (ud (ub (uc fun _ => v)))
def p183 : PSl := fun v => uc (ud (ub (ud fun _ => v)))
def p184 : PSl := fun v => uc (ud (uc (ua fun _ => v)))
def p185 : PSl := fun v => uc (ud (uc (ub fun _ => v)))
def p186 : PSl := fun v => uc (ud (uc (uc fun _ => v)))
def p187 : PSl := fun v => uc (ud (uc (ud fun _ => v)))
def p188 : PSl := fun v => uc (ud (ud (ua fun _ => v)))
def p189 : PSl := fun v => uc (ud (ud (ub fun _ => v)))
def p190 : PSl := fun v => uc (ud (ud (uc fun _ => v)))
def p191 : PSl := fun v => uc (ud (ud (ud fun _ => v)))
def p192 : PSl := fun v => ud (ua (ua (ua fun _ => v)))
def p193 : PSl := fun v => ud (ua (ua (ub fun _ => v)))
def p194 : PSl := fun v => ud (ua (ua (uc fun _ => v)))
def p195 : PSl := fun v => ud (ua (ua (ud fun _ => v)))
end
end Go.Eng
end
