/-
  No cell of these rows narrows 'for every input' (looked for: loops, veiled, ifaces, maps, wideKeys, modest, calm, conditions, laid).
  DERIVED. THE GIVEN ROWS OF THIS SEAT. 7 by the template 'for every input the law returns true; each argument reads behind the call as it read before'; 0 by the template 'total and deterministic' (their statements: YtlajogneffpnlaaGreatTotals.lean).
  GIVEN WITH THE SEED: the statements are not yours to turn. If you find one false, say at which input.
  Laid BY PROGRAM, IN A SANDBOX (cutbox-rows.mjs): the forced cells as the released guide's own fill.sh prints them over the translation ccc1b112457034aa… (all of the seat's roots in one cut). By AI agents, Wed Nov 11 2026. No macro, syntax, notation, axiom, sorry.
-/
import Derived.Test.YtlajogneffpnlaaGreatChecked
import GoSem.Claim
import GoSem.ClaimJoined
import GoSem.ClaimMapViews
import Derived.JoinedTies
import Derived.KernelRfl
namespace Go.Proofs.YtlajogneffpnlaaGreat
/- THE CELL 'sum', in the pinned program and in every row, IS THE sha256 OF THE DUMP (.gsa) THAT YtlajogneffpnlaaGreatProg.lean LOADS. Nothing in Lean hashes anything: it is a label: what it is worth is what the hold of that sum in a sandbox is worth. -/
noncomputable def Tryz.pinned : Pinned := { name := "ytlajogneffpnlaagreat", sum := "ccc1b112457034aa789dd667120f998757ebfb632782566d794a4fb551f22dca", checked := Tryz.checked }
namespace Rows
def none {H : Type} : Left H := { results := [], args := [] }

/-- 'retconlaw21.SegKnown': WHATEVER THE INPUT: true; the input reads as it did. -/
def segKnownSpec : ChangeSpec := { name := "segKnown", fn := fun _ => fun
  | [] => { results := [.lit (.bool true)], args := [] }
  | _ => none }
def segKnownRow : OpenClaim := { program := "ytlajogneffpnlaagreat", sum := "ccc1b112457034aa789dd667120f998757ebfb632782566d794a4fb551f22dca", func := "retcon/retconlaw21.SegKnown", spec := "segKnown", inPlace := ["internal/bytealg.Compare", "slices.overlaps[retcon/api.Extent]"], unfollowed := true, recurses := true, plainKeys := false, apart := false }
def SegKnownSaid : Prop := segKnownRow.holds Tryz.pinned (OpenSpec.ofChange segKnownSpec)

/-- ITS FALSE NEIGHBOUR: 'it returns false'. Refute it at one input. -/
def segKnownWrong : ChangeSpec := { name := "segKnown", fn := fun _ => fun
  | [] => { results := [.lit (.bool false)], args := [] }
  | _ => none }
def SegKnownWrongFalsely : Prop := segKnownRow.holds Tryz.pinned (OpenSpec.ofChange segKnownWrong)

/-- 'retconlaw16.StoreKnown': WHATEVER THE INPUT: true; the input reads as it did. -/
def storeKnownSpec : ChangeSpec := { name := "storeKnown", fn := fun _ => fun
  | [] => { results := [.lit (.bool true)], args := [] }
  | _ => none }
def storeKnownRow : OpenClaim := { program := "ytlajogneffpnlaagreat", sum := "ccc1b112457034aa789dd667120f998757ebfb632782566d794a4fb551f22dca", func := "retcon/retconlaw16.StoreKnown", spec := "storeKnown", inPlace := ["internal/bytealg.Compare", "slices.overlaps[retcon/api.Extent]"], unfollowed := true, recurses := true, plainKeys := false, apart := false }
def StoreKnownSaid : Prop := storeKnownRow.holds Tryz.pinned (OpenSpec.ofChange storeKnownSpec)

/-- ITS FALSE NEIGHBOUR: 'it returns false'. Refute it at one input. -/
def storeKnownWrong : ChangeSpec := { name := "storeKnown", fn := fun _ => fun
  | [] => { results := [.lit (.bool false)], args := [] }
  | _ => none }
def StoreKnownWrongFalsely : Prop := storeKnownRow.holds Tryz.pinned (OpenSpec.ofChange storeKnownWrong)

/-- 'retconlaw16.StoreNone': WHATEVER THE INPUT: true; the input reads as it did. -/
def storeNoneSpec : ChangeSpec := { name := "storeNone", fn := fun _ => fun
  | [d1, d2] => { results := [.lit (.bool true)], args := [d1, d2] }
  | _ => none }
def storeNoneRow : OpenClaim := { program := "ytlajogneffpnlaagreat", sum := "ccc1b112457034aa789dd667120f998757ebfb632782566d794a4fb551f22dca", func := "retcon/retconlaw16.StoreNone", spec := "storeNone", inPlace := ["internal/bytealg.Compare", "slices.overlaps[retcon/api.Extent]"], unfollowed := true, recurses := true, plainKeys := false, apart := false }
def StoreNoneSaid : Prop := storeNoneRow.holds Tryz.pinned (OpenSpec.ofChange storeNoneSpec)

/-- ITS FALSE NEIGHBOUR: 'it returns false'. Refute it at one input. -/
def storeNoneWrong : ChangeSpec := { name := "storeNone", fn := fun _ => fun
  | [d1, d2] => { results := [.lit (.bool false)], args := [d1, d2] }
  | _ => none }
def StoreNoneWrongFalsely : Prop := storeNoneRow.holds Tryz.pinned (OpenSpec.ofChange storeNoneWrong)

/-- 'retconlaw20.DeltaKnown': WHATEVER THE INPUT: true; the input reads as it did. -/
def deltaKnownSpec : ChangeSpec := { name := "deltaKnown", fn := fun _ => fun
  | [] => { results := [.lit (.bool true)], args := [] }
  | _ => none }
def deltaKnownRow : OpenClaim := { program := "ytlajogneffpnlaagreat", sum := "ccc1b112457034aa789dd667120f998757ebfb632782566d794a4fb551f22dca", func := "retcon/retconlaw20.DeltaKnown", spec := "deltaKnown", inPlace := ["internal/bytealg.Compare", "slices.overlaps[retcon/api.Extent]"], unfollowed := true, recurses := true, plainKeys := false, apart := false }
def DeltaKnownSaid : Prop := deltaKnownRow.holds Tryz.pinned (OpenSpec.ofChange deltaKnownSpec)

/-- ITS FALSE NEIGHBOUR: 'it returns false'. Refute it at one input. -/
def deltaKnownWrong : ChangeSpec := { name := "deltaKnown", fn := fun _ => fun
  | [] => { results := [.lit (.bool false)], args := [] }
  | _ => none }
def DeltaKnownWrongFalsely : Prop := deltaKnownRow.holds Tryz.pinned (OpenSpec.ofChange deltaKnownWrong)

/-- 'retconlaw19.TreeNone': WHATEVER THE INPUT: true; the input reads as it did. -/
def treeNoneSpec : ChangeSpec := { name := "treeNone", fn := fun _ => fun
  | [d1, d2] => { results := [.lit (.bool true)], args := [d1, d2] }
  | _ => none }
def treeNoneRow : OpenClaim := { program := "ytlajogneffpnlaagreat", sum := "ccc1b112457034aa789dd667120f998757ebfb632782566d794a4fb551f22dca", func := "retcon/retconlaw19.TreeNone", spec := "treeNone", inPlace := ["slices.overlaps[retcon/api.Extent]", "internal/bytealg.Compare"], unfollowed := true, recurses := true, plainKeys := false, apart := false }
def TreeNoneSaid : Prop := treeNoneRow.holds Tryz.pinned (OpenSpec.ofChange treeNoneSpec)

/-- ITS FALSE NEIGHBOUR: 'it returns false'. Refute it at one input. -/
def treeNoneWrong : ChangeSpec := { name := "treeNone", fn := fun _ => fun
  | [d1, d2] => { results := [.lit (.bool false)], args := [d1, d2] }
  | _ => none }
def TreeNoneWrongFalsely : Prop := treeNoneRow.holds Tryz.pinned (OpenSpec.ofChange treeNoneWrong)

/-- 'retconlaw19.TreeKnown': WHATEVER THE INPUT: true; the input reads as it did. -/
def treeKnownSpec : ChangeSpec := { name := "treeKnown", fn := fun _ => fun
  | [] => { results := [.lit (.bool true)], args := [] }
  | _ => none }
def treeKnownRow : OpenClaim := { program := "ytlajogneffpnlaagreat", sum := "ccc1b112457034aa789dd667120f998757ebfb632782566d794a4fb551f22dca", func := "retcon/retconlaw19.TreeKnown", spec := "treeKnown", inPlace := ["internal/bytealg.Compare", "slices.overlaps[retcon/api.Extent]"], unfollowed := true, recurses := true, plainKeys := false, apart := false }
def TreeKnownSaid : Prop := treeKnownRow.holds Tryz.pinned (OpenSpec.ofChange treeKnownSpec)

/-- ITS FALSE NEIGHBOUR: 'it returns false'. Refute it at one input. -/
def treeKnownWrong : ChangeSpec := { name := "treeKnown", fn := fun _ => fun
  | [] => { results := [.lit (.bool false)], args := [] }
  | _ => none }
def TreeKnownWrongFalsely : Prop := treeKnownRow.holds Tryz.pinned (OpenSpec.ofChange treeKnownWrong)

/-- 'retconlaw24.TraceKnown': WHATEVER THE INPUT: true; the input reads as it did. -/
def traceKnownSpec : ChangeSpec := { name := "traceKnown", fn := fun _ => fun
  | [] => { results := [.lit (.bool true)], args := [] }
  | _ => none }
def traceKnownRow : OpenClaim := { program := "ytlajogneffpnlaagreat", sum := "ccc1b112457034aa789dd667120f998757ebfb632782566d794a4fb551f22dca", func := "retcon/retconlaw24.TraceKnown", spec := "traceKnown", inPlace := ["internal/bytealg.Compare", "slices.overlaps[retcon/api.Extent]"], unfollowed := true, recurses := true, plainKeys := false, apart := false }
def TraceKnownSaid : Prop := traceKnownRow.holds Tryz.pinned (OpenSpec.ofChange traceKnownSpec)

/-- ITS FALSE NEIGHBOUR: 'it returns false'. Refute it at one input. -/
def traceKnownWrong : ChangeSpec := { name := "traceKnown", fn := fun _ => fun
  | [] => { results := [.lit (.bool false)], args := [] }
  | _ => none }
def TraceKnownWrongFalsely : Prop := traceKnownRow.holds Tryz.pinned (OpenSpec.ofChange traceKnownWrong)

/- THE SECOND FORM. 'bulk': how many values and letters a reading holds, each counted each time it is reached (what is shared counts as often as it is met; a slice's spare places count too). A statement '..UptoSaid' is the law's where the arguments, and the package variables that the reading takes, are together of bulk at most 1048576: NARROWER than '..Said'. Prove '..Said' where nothing that the law and all that it calls make is longer than what came in: it says more and counts as full. Else prove '..UptoSaid'. A law counts once. -/
mutual
def uptoBulk {H : Type} : DataW H → Nat
  | .lit (.string bytes) => bytes.length + 1
  | .lit _ => 1
  | .nil => 1
  | .ptr d => uptoBulk d + 1
  | .slice elems spare => uptoBulkAll elems + uptoBulkAll spare + 1
  | .agg parts => uptoBulkAll parts + 1
  | .iface _ d => uptoBulk d + 1
  | .map entries => uptoBulkEntries entries + 1
  | .held _ => 1
def uptoBulkAll {H : Type} : List (DataW H) → Nat
  | [] => 0
  | d :: r => uptoBulk d + uptoBulkAll r
def uptoBulkEntries {H : Type} : List (Lit × DataW H) → Nat
  | [] => 0
  | x :: r => uptoBulkEntry x + uptoBulkEntries r
def uptoBulkEntry {H : Type} : Lit × DataW H → Nat
  | (.string bytes, d) => bytes.length + uptoBulk d + 1
  | (_, d) => uptoBulk d + 1
 end
def uptoSmall : (H : Type) → List (DataW H) → Bool := fun _ ds => decide (uptoBulkAll ds ≤ 1048576)
def OpenSpec.upto (s : _root_.Go.ChangeSpec) : _root_.Go.OpenSpec := { _root_.Go.OpenSpec.ofChange s with cond := some uptoSmall }

/-- 'retconlaw21.SegKnown', WHERE WHAT IT READS IS OF BULK AT MOST 1048576: true; the input reads as it did. -/
def segKnownUptoRow : OpenClaim := { program := "ytlajogneffpnlaagreat", sum := "ccc1b112457034aa789dd667120f998757ebfb632782566d794a4fb551f22dca", func := "retcon/retconlaw21.SegKnown", spec := "segKnown", inPlace := ["internal/bytealg.Compare", "slices.overlaps[retcon/api.Extent]"], unfollowed := true, recurses := true, plainKeys := false, apart := false, narrowed := true }
def SegKnownUptoSaid : Prop := segKnownUptoRow.holds Tryz.pinned (OpenSpec.upto segKnownSpec)

/-- 'retconlaw16.StoreKnown', WHERE WHAT IT READS IS OF BULK AT MOST 1048576: true; the input reads as it did. -/
def storeKnownUptoRow : OpenClaim := { program := "ytlajogneffpnlaagreat", sum := "ccc1b112457034aa789dd667120f998757ebfb632782566d794a4fb551f22dca", func := "retcon/retconlaw16.StoreKnown", spec := "storeKnown", inPlace := ["internal/bytealg.Compare", "slices.overlaps[retcon/api.Extent]"], unfollowed := true, recurses := true, plainKeys := false, apart := false, narrowed := true }
def StoreKnownUptoSaid : Prop := storeKnownUptoRow.holds Tryz.pinned (OpenSpec.upto storeKnownSpec)

/-- 'retconlaw16.StoreNone', WHERE WHAT IT READS IS OF BULK AT MOST 1048576: true; the input reads as it did. -/
def storeNoneUptoRow : OpenClaim := { program := "ytlajogneffpnlaagreat", sum := "ccc1b112457034aa789dd667120f998757ebfb632782566d794a4fb551f22dca", func := "retcon/retconlaw16.StoreNone", spec := "storeNone", inPlace := ["internal/bytealg.Compare", "slices.overlaps[retcon/api.Extent]"], unfollowed := true, recurses := true, plainKeys := false, apart := false, narrowed := true }
def StoreNoneUptoSaid : Prop := storeNoneUptoRow.holds Tryz.pinned (OpenSpec.upto storeNoneSpec)

/-- 'retconlaw20.DeltaKnown', WHERE WHAT IT READS IS OF BULK AT MOST 1048576: true; the input reads as it did. -/
def deltaKnownUptoRow : OpenClaim := { program := "ytlajogneffpnlaagreat", sum := "ccc1b112457034aa789dd667120f998757ebfb632782566d794a4fb551f22dca", func := "retcon/retconlaw20.DeltaKnown", spec := "deltaKnown", inPlace := ["internal/bytealg.Compare", "slices.overlaps[retcon/api.Extent]"], unfollowed := true, recurses := true, plainKeys := false, apart := false, narrowed := true }
def DeltaKnownUptoSaid : Prop := deltaKnownUptoRow.holds Tryz.pinned (OpenSpec.upto deltaKnownSpec)

/-- 'retconlaw19.TreeNone', WHERE WHAT IT READS IS OF BULK AT MOST 1048576: true; the input reads as it did. -/
def treeNoneUptoRow : OpenClaim := { program := "ytlajogneffpnlaagreat", sum := "ccc1b112457034aa789dd667120f998757ebfb632782566d794a4fb551f22dca", func := "retcon/retconlaw19.TreeNone", spec := "treeNone", inPlace := ["slices.overlaps[retcon/api.Extent]", "internal/bytealg.Compare"], unfollowed := true, recurses := true, plainKeys := false, apart := false, narrowed := true }
def TreeNoneUptoSaid : Prop := treeNoneUptoRow.holds Tryz.pinned (OpenSpec.upto treeNoneSpec)

/-- 'retconlaw19.TreeKnown', WHERE WHAT IT READS IS OF BULK AT MOST 1048576: true; the input reads as it did. -/
def treeKnownUptoRow : OpenClaim := { program := "ytlajogneffpnlaagreat", sum := "ccc1b112457034aa789dd667120f998757ebfb632782566d794a4fb551f22dca", func := "retcon/retconlaw19.TreeKnown", spec := "treeKnown", inPlace := ["internal/bytealg.Compare", "slices.overlaps[retcon/api.Extent]"], unfollowed := true, recurses := true, plainKeys := false, apart := false, narrowed := true }
def TreeKnownUptoSaid : Prop := treeKnownUptoRow.holds Tryz.pinned (OpenSpec.upto treeKnownSpec)

/-- 'retconlaw24.TraceKnown', WHERE WHAT IT READS IS OF BULK AT MOST 1048576: true; the input reads as it did. -/
def traceKnownUptoRow : OpenClaim := { program := "ytlajogneffpnlaagreat", sum := "ccc1b112457034aa789dd667120f998757ebfb632782566d794a4fb551f22dca", func := "retcon/retconlaw24.TraceKnown", spec := "traceKnown", inPlace := ["internal/bytealg.Compare", "slices.overlaps[retcon/api.Extent]"], unfollowed := true, recurses := true, plainKeys := false, apart := false, narrowed := true }
def TraceKnownUptoSaid : Prop := traceKnownUptoRow.holds Tryz.pinned (OpenSpec.upto traceKnownSpec)

end Rows
end Go.Proofs.YtlajogneffpnlaaGreat
