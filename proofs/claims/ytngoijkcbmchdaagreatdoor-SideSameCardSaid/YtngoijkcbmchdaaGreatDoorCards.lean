/-
  DERIVED. GIVEN WITH THE SEED: THE CARDS: each row of YtngoijkcbmchdaaGreatDoorRows.lean that lists a variable, with what it lists TIED to the program's text (the seventh form; the later family's looks); each row that meets fmt, with fmt's text TOLD by the authors' own Lean function (tested against real Go, not proved from fmt's source: count such statements apart). THE CARD IS WHAT COUNTS. Prove the row's statement (the work); the ties are given (YtngoijkcbmchdaaGreatDoorTie.lean); close each card by the builder's one call (the guide's Derived/Test/ToyasCard.lean, 'card_holds'). Laid BY PROGRAM, IN A SANDBOX (cutbox-door.mjs). By AI agents, Wed Nov 11 2026. No macro, syntax, notation, axiom, sorry.
-/
import Derived.Test.YtngoijkcbmchdaaGreatDoorRows
import GoSem.ClaimSeven
namespace Go.Proofs.YtngoijkcbmchdaaGreatDoor
namespace Rows

/-- THE TIED CARD OF 'tallyrollkeep.SideSame'. -/
def sideSameCard : Claim7 := { stood := { row := sideSameRow, standIns := [], harness := (true, "0ff428265fdd404c5d806802767dfb0332e455fe860778523055ee45556f6fc8"), looks := false }, kinds := [], alts := [], goes := true, laidByText := true, laidKinds := [.data, .pinned], laidTests := true, laidLooks := .later }
def SideSameCardSaid : Prop := Claim7.holds Tryz.pinned (.plain (OpenSpec.ofChange sideSameSpec)) sideSameCard

/-- THE SECOND FORM's CARD OF 'tallyrollkeep.SideSame'. -/
def sideSameUptoCard : Claim7 := { stood := { row := sideSameUptoRow, standIns := [], harness := (true, "0ff428265fdd404c5d806802767dfb0332e455fe860778523055ee45556f6fc8"), looks := false }, kinds := [], alts := [], goes := true, laidByText := true, laidKinds := [.data, .pinned], laidTests := true, laidLooks := .later }
def SideSameUptoCardSaid : Prop := Claim7.holds Tryz.pinned (.plain (OpenSpec.upto sideSameSpec)) sideSameUptoCard
end Rows
end Go.Proofs.YtngoijkcbmchdaaGreatDoor
