/-
  DERIVED. GIVEN WITH THE SEED: THE CARDS: each row of YtpofnmobbbcpgaaDoorRows.lean that lists a variable, with what it lists TIED to the program's text (the seventh form; the later family's looks); each row that meets fmt, with fmt's text TOLD by the authors' own Lean function (tested against real Go, not proved from fmt's source: count such statements apart). THE CARD IS WHAT COUNTS. Prove the row's statement (the work); the ties are given (YtpofnmobbbcpgaaDoorTie.lean); close each card by the builder's one call (the guide's Derived/Test/ToyasCard.lean, 'card_holds'). Laid BY PROGRAM, IN A SANDBOX (cutbox-door.mjs). By AI agents, Wed Nov 11 2026. No macro, syntax, notation, axiom, sorry.
-/
import Derived.Test.YtpofnmobbbcpgaaDoorRows
import GoSem.ClaimSeven
namespace Go.Proofs.YtpofnmobbbcpgaaDoor
namespace Rows

/-- THE TIED CARD OF 'tallyrollkeep.BookOwn'. -/
def bookOwnCard : Claim7 := { stood := { row := bookOwnRow, standIns := [], harness := (true, "8369d66926e484bb135190c7714cf400dadd1eb9264279d6a703c3ffc537a17c"), looks := false }, kinds := [], alts := [], laidByText := true, laidKinds := [.data, .pinned], laidTests := true, laidLooks := .later }
def BookOwnCardSaid : Prop := Claim7.holds Tryd.pinned (.plain (OpenSpec.ofChange bookOwnSpec)) bookOwnCard

/-- THE SECOND FORM's CARD OF 'tallyrollkeep.BookOwn'. -/
def bookOwnUptoCard : Claim7 := { stood := { row := bookOwnUptoRow, standIns := [], harness := (true, "8369d66926e484bb135190c7714cf400dadd1eb9264279d6a703c3ffc537a17c"), looks := false }, kinds := [], alts := [], laidByText := true, laidKinds := [.data, .pinned], laidTests := true, laidLooks := .later }
def BookOwnUptoCardSaid : Prop := Claim7.holds Tryd.pinned (.plain (OpenSpec.upto bookOwnSpec)) bookOwnUptoCard
end Rows
end Go.Proofs.YtpofnmobbbcpgaaDoor
