/-
  DERIVED. GIVEN WITH THE SEED: THE CARDS: each row of YtihjifkmnbfoiaaGreatDoorRows.lean that lists a variable, with what it lists TIED to the program's text (the seventh form; the later family's looks); each row that meets fmt, with fmt's text TOLD by the authors' own Lean function (tested against real Go, not proved from fmt's source: count such statements apart). THE CARD IS WHAT COUNTS. Prove the row's statement (the work); the ties are given (YtihjifkmnbfoiaaGreatDoorTie.lean); close each card by the builder's one call (the guide's Derived/Test/ToyasCard.lean, 'card_holds'). Laid BY PROGRAM, IN A SANDBOX (cutbox-door.mjs). By AI agents, Wed Nov 11 2026. No macro, syntax, notation, axiom, sorry.
-/
import Derived.Test.YtihjifkmnbfoiaaGreatDoorRows
import GoSem.ClaimSeven
namespace Go.Proofs.YtihjifkmnbfoiaaGreatDoor
namespace Rows

/-- THE TIED CARD OF 'pinstripelaw24.MenderKnown'. -/
def menderKnownCard : Claim7 := { stood := { row := menderKnownRow, standIns := [], harness := (true, "9ab88b7a7844d853212496976b79d0bbc9f9d06aadf96924f6ae9010f99316ad"), looks := true }, kinds := [], alts := [], laidByText := true, laidKinds := [.data, .pinned], laidTests := true, laidLooks := .later }
def MenderKnownCardSaid : Prop := Claim7.holds Tryz.pinned (.plain (OpenSpec.ofChange menderKnownSpec)) menderKnownCard

/-- THE SECOND FORM's CARD OF 'pinstripelaw24.MenderKnown'. -/
def menderKnownUptoCard : Claim7 := { stood := { row := menderKnownUptoRow, standIns := [], harness := (true, "9ab88b7a7844d853212496976b79d0bbc9f9d06aadf96924f6ae9010f99316ad"), looks := true }, kinds := [], alts := [], laidByText := true, laidKinds := [.data, .pinned], laidTests := true, laidLooks := .later }
def MenderKnownUptoCardSaid : Prop := Claim7.holds Tryz.pinned (.plain (OpenSpec.upto menderKnownSpec)) menderKnownUptoCard
end Rows
end Go.Proofs.YtihjifkmnbfoiaaGreatDoor
