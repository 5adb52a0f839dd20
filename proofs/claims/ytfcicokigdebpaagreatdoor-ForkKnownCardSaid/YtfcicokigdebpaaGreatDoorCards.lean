/-
  DERIVED. GIVEN WITH THE SEED: THE CARDS: each row of YtfcicokigdebpaaGreatDoorRows.lean that lists a variable, with what it lists TIED to the program's text (the seventh form; the later family's looks); each row that meets fmt, with fmt's text TOLD by the authors' own Lean function (tested against real Go, not proved from fmt's source: count such statements apart). THE CARD IS WHAT COUNTS. Prove the row's statement (the work); the ties are given (YtfcicokigdebpaaGreatDoorTie.lean); close each card by the builder's one call (the guide's Derived/Test/ToyasCard.lean, 'card_holds'). Laid BY PROGRAM, IN A SANDBOX (cutbox-door.mjs). By AI agents, Wed Nov 11 2026. No macro, syntax, notation, axiom, sorry.
-/
import Derived.Test.YtfcicokigdebpaaGreatDoorRows
import GoSem.ClaimSeven
namespace Go.Proofs.YtfcicokigdebpaaGreatDoor
namespace Rows

/-- THE TIED CARD OF 'retconlaw26.ForkNone'. -/
def forkNoneCard : Claim7 := { stood := { row := forkNoneRow, standIns := [], harness := (true, "4a9ac2f83b59bf4f7fea837701ff4836544302dc3fc8cc60ae34476ae704e974"), looks := true }, kinds := [], alts := [], laidByText := true, laidKinds := [.data, .pinned], laidTests := true, laidLooks := .later }
def ForkNoneCardSaid : Prop := Claim7.holds Tryz.pinned (.plain (OpenSpec.ofChange forkNoneSpec)) forkNoneCard

/-- THE TIED CARD OF 'retconlaw26.ForkKnown'. -/
def forkKnownCard : Claim7 := { stood := { row := forkKnownRow, standIns := [], harness := (true, "4a9ac2f83b59bf4f7fea837701ff4836544302dc3fc8cc60ae34476ae704e974"), looks := true }, kinds := [], alts := [], laidByText := true, laidKinds := [.data, .pinned], laidTests := true, laidLooks := .later }
def ForkKnownCardSaid : Prop := Claim7.holds Tryz.pinned (.plain (OpenSpec.ofChange forkKnownSpec)) forkKnownCard

/-- THE SECOND FORM's CARD OF 'retconlaw26.ForkNone'. -/
def forkNoneUptoCard : Claim7 := { stood := { row := forkNoneUptoRow, standIns := [], harness := (true, "4a9ac2f83b59bf4f7fea837701ff4836544302dc3fc8cc60ae34476ae704e974"), looks := true }, kinds := [], alts := [], laidByText := true, laidKinds := [.data, .pinned], laidTests := true, laidLooks := .later }
def ForkNoneUptoCardSaid : Prop := Claim7.holds Tryz.pinned (.plain (OpenSpec.upto forkNoneSpec)) forkNoneUptoCard

/-- THE SECOND FORM's CARD OF 'retconlaw26.ForkKnown'. -/
def forkKnownUptoCard : Claim7 := { stood := { row := forkKnownUptoRow, standIns := [], harness := (true, "4a9ac2f83b59bf4f7fea837701ff4836544302dc3fc8cc60ae34476ae704e974"), looks := true }, kinds := [], alts := [], laidByText := true, laidKinds := [.data, .pinned], laidTests := true, laidLooks := .later }
def ForkKnownUptoCardSaid : Prop := Claim7.holds Tryz.pinned (.plain (OpenSpec.upto forkKnownSpec)) forkKnownUptoCard
end Rows
end Go.Proofs.YtfcicokigdebpaaGreatDoor
