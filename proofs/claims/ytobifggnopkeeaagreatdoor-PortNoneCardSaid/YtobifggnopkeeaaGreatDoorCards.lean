/-
  DERIVED. GIVEN WITH THE SEED: THE CARDS: each row of YtobifggnopkeeaaGreatDoorRows.lean that lists a variable, with what it lists TIED to the program's text (the seventh form; the later family's looks); each row that meets fmt, with fmt's text TOLD by the authors' own Lean function (tested against real Go, not proved from fmt's source: count such statements apart). THE CARD IS WHAT COUNTS. Prove the row's statement (the work); the ties are given (YtobifggnopkeeaaGreatDoorTie.lean); close each card by the builder's one call (the guide's Derived/Test/ToyasCard.lean, 'card_holds'). Laid BY PROGRAM, IN A SANDBOX (cutbox-door.mjs). By AI agents, Wed Nov 11 2026. No macro, syntax, notation, axiom, sorry.
-/
import Derived.Test.YtobifggnopkeeaaGreatDoorRows
import GoSem.ClaimSeven
namespace Go.Proofs.YtobifggnopkeeaaGreatDoor
namespace Rows

/-- THE TIED CARD OF 'retconlaw28.PortNone'. -/
def portNoneCard : Claim7 := { stood := { row := portNoneRow, standIns := [], harness := (true, "f283194de193ca260d32dae549c31456d922ce85216ee69e24320eb70f5334be"), looks := true }, kinds := [], alts := [], laidByText := true, laidKinds := [.data, .data, .data, .data, .pinned], laidTests := true, laidLooks := .later }
def PortNoneCardSaid : Prop := Claim7.holds Tryz.pinned (.plain (OpenSpec.ofChange portNoneSpec)) portNoneCard

/-- THE TIED CARD OF 'retconlaw28.PortKnown'. -/
def portKnownCard : Claim7 := { stood := { row := portKnownRow, standIns := [], harness := (true, "f283194de193ca260d32dae549c31456d922ce85216ee69e24320eb70f5334be"), looks := true }, kinds := [], alts := [], laidByText := true, laidKinds := [.data, .data, .data, .data, .pinned], laidTests := true, laidLooks := .later }
def PortKnownCardSaid : Prop := Claim7.holds Tryz.pinned (.plain (OpenSpec.ofChange portKnownSpec)) portKnownCard

/-- THE SECOND FORM's CARD OF 'retconlaw28.PortNone'. -/
def portNoneUptoCard : Claim7 := { stood := { row := portNoneUptoRow, standIns := [], harness := (true, "f283194de193ca260d32dae549c31456d922ce85216ee69e24320eb70f5334be"), looks := true }, kinds := [], alts := [], laidByText := true, laidKinds := [.data, .data, .data, .data, .pinned], laidTests := true, laidLooks := .later }
def PortNoneUptoCardSaid : Prop := Claim7.holds Tryz.pinned (.plain (OpenSpec.upto portNoneSpec)) portNoneUptoCard

/-- THE SECOND FORM's CARD OF 'retconlaw28.PortKnown'. -/
def portKnownUptoCard : Claim7 := { stood := { row := portKnownUptoRow, standIns := [], harness := (true, "f283194de193ca260d32dae549c31456d922ce85216ee69e24320eb70f5334be"), looks := true }, kinds := [], alts := [], laidByText := true, laidKinds := [.data, .data, .data, .data, .pinned], laidTests := true, laidLooks := .later }
def PortKnownUptoCardSaid : Prop := Claim7.holds Tryz.pinned (.plain (OpenSpec.upto portKnownSpec)) portKnownUptoCard
end Rows
end Go.Proofs.YtobifggnopkeeaaGreatDoor
