/-
  DERIVED. GIVEN WITH THE SEED: THE CARDS: each row of YtgplbgnjkaideaaGreatDoorRows.lean that lists a variable, with what it lists TIED to the program's text (the seventh form; the later family's looks); each row that meets fmt, with fmt's text TOLD by the authors' own Lean function (tested against real Go, not proved from fmt's source: count such statements apart). THE CARD IS WHAT COUNTS. Prove the row's statement (the work); the ties are given (YtgplbgnjkaideaaGreatDoorTie.lean); close each card by the builder's one call (the guide's Derived/Test/ToyasCard.lean, 'card_holds'). Laid BY PROGRAM, IN A SANDBOX (cutbox-door.mjs). By AI agents, Wed Nov 11 2026. No macro, syntax, notation, axiom, sorry.
-/
import Derived.Test.YtgplbgnjkaideaaGreatDoorRows
import GoSem.ClaimSeven
namespace Go.Proofs.YtgplbgnjkaideaaGreatDoor
namespace Rows

/-- THE TIED CARD OF 'retconlaw26.ForkNone'. -/
def forkNoneCard : Claim7 := { stood := { row := forkNoneRow, standIns := [], harness := (true, "feb173667a6e4e5c0928a2f3179fe22363024c1eb7af401feb644a62eb5de146"), looks := true }, kinds := [], alts := [], laidByText := true, laidKinds := [.data, .pinned], laidTests := true, laidLooks := .later }
def ForkNoneCardSaid : Prop := Claim7.holds Tryz.pinned (.plain (OpenSpec.ofChange forkNoneSpec)) forkNoneCard

/-- THE TIED CARD OF 'retconlaw25.EngineNone'. -/
def engineNoneCard : Claim7 := { stood := { row := engineNoneRow, standIns := [], harness := (true, "feb173667a6e4e5c0928a2f3179fe22363024c1eb7af401feb644a62eb5de146"), looks := true }, kinds := [], alts := [], laidByText := true, laidKinds := [.data, .pinned], laidTests := true, laidLooks := .later }
def EngineNoneCardSaid : Prop := Claim7.holds Tryz.pinned (.plain (OpenSpec.ofChange engineNoneSpec)) engineNoneCard

/-- THE SECOND FORM's CARD OF 'retconlaw26.ForkNone'. -/
def forkNoneUptoCard : Claim7 := { stood := { row := forkNoneUptoRow, standIns := [], harness := (true, "feb173667a6e4e5c0928a2f3179fe22363024c1eb7af401feb644a62eb5de146"), looks := true }, kinds := [], alts := [], laidByText := true, laidKinds := [.data, .pinned], laidTests := true, laidLooks := .later }
def ForkNoneUptoCardSaid : Prop := Claim7.holds Tryz.pinned (.plain (OpenSpec.upto forkNoneSpec)) forkNoneUptoCard

/-- THE SECOND FORM's CARD OF 'retconlaw25.EngineNone'. -/
def engineNoneUptoCard : Claim7 := { stood := { row := engineNoneUptoRow, standIns := [], harness := (true, "feb173667a6e4e5c0928a2f3179fe22363024c1eb7af401feb644a62eb5de146"), looks := true }, kinds := [], alts := [], laidByText := true, laidKinds := [.data, .pinned], laidTests := true, laidLooks := .later }
def EngineNoneUptoCardSaid : Prop := Claim7.holds Tryz.pinned (.plain (OpenSpec.upto engineNoneSpec)) engineNoneUptoCard
end Rows
end Go.Proofs.YtgplbgnjkaideaaGreatDoor
