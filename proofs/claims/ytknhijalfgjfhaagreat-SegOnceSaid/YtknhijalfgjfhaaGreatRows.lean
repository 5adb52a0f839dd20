/-
  No cell of these rows narrows 'for every input' (looked for: loops, veiled, ifaces, maps, wideKeys, modest, calm, conditions, laid).
  DERIVED. THE GIVEN ROWS OF THIS SEAT. 3 by the template 'for every input the law returns true; each argument reads behind the call as it read before'; 0 by the template 'total and deterministic' (their statements: YtknhijalfgjfhaaGreatTotals.lean).
  GIVEN WITH THE SEED: the statements are not yours to turn. If you find one false, say at which input.
  Laid BY PROGRAM, IN A SANDBOX (cutbox-rows.mjs): the forced cells as the released guide's own fill.sh prints them over the translation f2f4e16620affc19… (all of the seat's roots in one cut). By AI agents, Wed Nov 11 2026. No macro, syntax, notation, axiom, sorry.
-/
import Derived.Test.YtknhijalfgjfhaaGreatChecked
import GoSem.Claim
import GoSem.ClaimJoined
import GoSem.ClaimMapViews
import Derived.JoinedTies
import Derived.KernelRfl
namespace Go.Proofs.YtknhijalfgjfhaaGreat
/- THE CELL 'sum', in the pinned program and in every row, IS THE sha256 OF THE DUMP (.gsa) THAT YtknhijalfgjfhaaGreatProg.lean LOADS. Nothing in Lean hashes anything: it is a label: what it is worth is what the hold of that sum in a sandbox is worth. -/
noncomputable def Tryz.pinned : Pinned := { name := "ytknhijalfgjfhaagreat", sum := "f2f4e16620affc19607b7af4382fb45e8346889bd19a6315f345edda603279af", checked := Tryz.checked }
namespace Rows
def none {H : Type} : Left H := { results := [], args := [] }

/-- 'retconlaw21.SegOnce': WHATEVER THE INPUT: true; the input reads as it did. -/
def segOnceSpec : ChangeSpec := { name := "segOnce", fn := fun _ => fun
  | [d1, d2, d3] => { results := [.lit (.bool true)], args := [d1, d2, d3] }
  | _ => none }
def segOnceRow : OpenClaim := { program := "ytknhijalfgjfhaagreat", sum := "f2f4e16620affc19607b7af4382fb45e8346889bd19a6315f345edda603279af", func := "retcon/retconlaw21.SegOnce", spec := "segOnce", inPlace := ["internal/bytealg.Compare", "slices.overlaps[retcon/api.Extent]"], unfollowed := true, recurses := true, plainKeys := false, apart := false }
def SegOnceSaid : Prop := segOnceRow.holds Tryz.pinned (OpenSpec.ofChange segOnceSpec)

/-- ITS FALSE NEIGHBOUR: 'it returns false'. Refute it at one input. -/
def segOnceWrong : ChangeSpec := { name := "segOnce", fn := fun _ => fun
  | [d1, d2, d3] => { results := [.lit (.bool false)], args := [d1, d2, d3] }
  | _ => none }
def SegOnceWrongFalsely : Prop := segOnceRow.holds Tryz.pinned (OpenSpec.ofChange segOnceWrong)

/-- 'retconlaw21.SegApart': WHATEVER THE INPUT: true; the input reads as it did. -/
def segApartSpec : ChangeSpec := { name := "segApart", fn := fun _ => fun
  | [d1, d2] => { results := [.lit (.bool true)], args := [d1, d2] }
  | _ => none }
def segApartRow : OpenClaim := { program := "ytknhijalfgjfhaagreat", sum := "f2f4e16620affc19607b7af4382fb45e8346889bd19a6315f345edda603279af", func := "retcon/retconlaw21.SegApart", spec := "segApart", inPlace := ["internal/bytealg.Compare", "slices.overlaps[retcon/api.Extent]"], unfollowed := true, recurses := true, plainKeys := false, apart := false }
def SegApartSaid : Prop := segApartRow.holds Tryz.pinned (OpenSpec.ofChange segApartSpec)

/-- ITS FALSE NEIGHBOUR: 'it returns false'. Refute it at one input. -/
def segApartWrong : ChangeSpec := { name := "segApart", fn := fun _ => fun
  | [d1, d2] => { results := [.lit (.bool false)], args := [d1, d2] }
  | _ => none }
def SegApartWrongFalsely : Prop := segApartRow.holds Tryz.pinned (OpenSpec.ofChange segApartWrong)

/-- 'retconlaw21.SegBack': WHATEVER THE INPUT: true; the input reads as it did. -/
def segBackSpec : ChangeSpec := { name := "segBack", fn := fun _ => fun
  | [d1, d2] => { results := [.lit (.bool true)], args := [d1, d2] }
  | _ => none }
def segBackRow : OpenClaim := { program := "ytknhijalfgjfhaagreat", sum := "f2f4e16620affc19607b7af4382fb45e8346889bd19a6315f345edda603279af", func := "retcon/retconlaw21.SegBack", spec := "segBack", inPlace := ["internal/bytealg.Compare", "slices.overlaps[retcon/api.Extent]"], unfollowed := true, recurses := true, plainKeys := false, apart := false }
def SegBackSaid : Prop := segBackRow.holds Tryz.pinned (OpenSpec.ofChange segBackSpec)

/-- ITS FALSE NEIGHBOUR: 'it returns false'. Refute it at one input. -/
def segBackWrong : ChangeSpec := { name := "segBack", fn := fun _ => fun
  | [d1, d2] => { results := [.lit (.bool false)], args := [d1, d2] }
  | _ => none }
def SegBackWrongFalsely : Prop := segBackRow.holds Tryz.pinned (OpenSpec.ofChange segBackWrong)

/- THE SECOND FORM. 'bulk': how many values and letters a reading holds, each counted each time it is reached (what is shared counts as often as it is met; a slice's spare places count too). A statement '..UptoSaid' is the law's where the arguments, and the package variables that the reading takes, are together of bulk at most 1048576: NARROWER than '..Said'. Prove '..Said' where nothing that the law and all that it calls make is longer than what came in: it says more and counts as full. Else prove '..UptoSaid'. A law counts once. -/
mutual
def uptoBulk {H : Type} : DataW H → Nat
  | .lit (.string bytes) => bytes.length + 1
  | .lit _ => 1
  | .nil => 1
  | .ptr d => uptoBulk d + 1
  | .slice elems spare => uptoBulkAll elems + uptoBulkAll spare + 1
  | .agg parts => uptoBulkAll parts + 1
  | .iface _ d => uptoBulk d + 1
  | .map entries => uptoBulkEntries entries + 1
  | .held _ => 1
def uptoBulkAll {H : Type} : List (DataW H) → Nat
  | [] => 0
  | d :: r => uptoBulk d + uptoBulkAll r
def uptoBulkEntries {H : Type} : List (Lit × DataW H) → Nat
  | [] => 0
  | x :: r => uptoBulkEntry x + uptoBulkEntries r
def uptoBulkEntry {H : Type} : Lit × DataW H → Nat
  | (.string bytes, d) => bytes.length + uptoBulk d + 1
  | (_, d) => uptoBulk d + 1
 end
def uptoSmall : (H : Type) → List (DataW H) → Bool := fun _ ds => decide (uptoBulkAll ds ≤ 1048576)
def OpenSpec.upto (s : _root_.Go.ChangeSpec) : _root_.Go.OpenSpec := { _root_.Go.OpenSpec.ofChange s with cond := some uptoSmall }

/-- 'retconlaw21.SegOnce', WHERE WHAT IT READS IS OF BULK AT MOST 1048576: true; the input reads as it did. -/
def segOnceUptoRow : OpenClaim := { program := "ytknhijalfgjfhaagreat", sum := "f2f4e16620affc19607b7af4382fb45e8346889bd19a6315f345edda603279af", func := "retcon/retconlaw21.SegOnce", spec := "segOnce", inPlace := ["internal/bytealg.Compare", "slices.overlaps[retcon/api.Extent]"], unfollowed := true, recurses := true, plainKeys := false, apart := false, narrowed := true }
def SegOnceUptoSaid : Prop := segOnceUptoRow.holds Tryz.pinned (OpenSpec.upto segOnceSpec)

/-- 'retconlaw21.SegApart', WHERE WHAT IT READS IS OF BULK AT MOST 1048576: true; the input reads as it did. -/
def segApartUptoRow : OpenClaim := { program := "ytknhijalfgjfhaagreat", sum := "f2f4e16620affc19607b7af4382fb45e8346889bd19a6315f345edda603279af", func := "retcon/retconlaw21.SegApart", spec := "segApart", inPlace := ["internal/bytealg.Compare", "slices.overlaps[retcon/api.Extent]"], unfollowed := true, recurses := true, plainKeys := false, apart := false, narrowed := true }
def SegApartUptoSaid : Prop := segApartUptoRow.holds Tryz.pinned (OpenSpec.upto segApartSpec)

/-- 'retconlaw21.SegBack', WHERE WHAT IT READS IS OF BULK AT MOST 1048576: true; the input reads as it did. -/
def segBackUptoRow : OpenClaim := { program := "ytknhijalfgjfhaagreat", sum := "f2f4e16620affc19607b7af4382fb45e8346889bd19a6315f345edda603279af", func := "retcon/retconlaw21.SegBack", spec := "segBack", inPlace := ["internal/bytealg.Compare", "slices.overlaps[retcon/api.Extent]"], unfollowed := true, recurses := true, plainKeys := false, apart := false, narrowed := true }
def SegBackUptoSaid : Prop := segBackUptoRow.holds Tryz.pinned (OpenSpec.upto segBackSpec)

end Rows
end Go.Proofs.YtknhijalfgjfhaaGreat
