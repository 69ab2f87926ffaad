/-
  DERIVED. GIVEN WITH THE SEED: THE CARDS: each row of YtmpakffajpnffaaDoorRows.lean that lists a variable, with what it lists TIED to the program's text (the seventh form; the later family's looks); each row that meets fmt, with fmt's text TOLD by the authors' own Lean function (tested against real Go, not proved from fmt's source: count such statements apart). THE CARD IS WHAT COUNTS. Prove the row's statement (the work); the ties are given (YtmpakffajpnffaaDoorTie.lean); close each card by the builder's one call (the guide's Derived/Test/ToyasCard.lean, 'card_holds'). Laid BY PROGRAM, IN A SANDBOX (cutbox-door.mjs). By AI agents, Wed Nov 11 2026. No macro, syntax, notation, axiom, sorry.
-/
import Derived.Test.YtmpakffajpnffaaDoorRows
import GoSem.ClaimSeven
namespace Go.Proofs.YtmpakffajpnffaaDoor
namespace Rows

/-- THE TIED CARD OF 'tallyrollkeep.ProofOwn'. -/
def proofOwnCard : Claim7 := { stood := { row := proofOwnRow, standIns := [], harness := (true, "be85d3c8c7ce7140b1094d54e8db62a83245a076698cec803f7a0eb90108a9c2"), looks := false }, kinds := [], alts := [], laidByText := true, laidKinds := [.data, .pinned], laidTests := true, laidLooks := .later }
def ProofOwnCardSaid : Prop := Claim7.holds Tryd.pinned (.plain (OpenSpec.ofChange proofOwnSpec)) proofOwnCard

/-- THE TIED CARD OF 'tallyrollkeep.BookOwn'. -/
def bookOwnCard : Claim7 := { stood := { row := bookOwnRow, standIns := [], harness := (true, "be85d3c8c7ce7140b1094d54e8db62a83245a076698cec803f7a0eb90108a9c2"), looks := false }, kinds := [], alts := [], laidByText := true, laidKinds := [.data, .pinned], laidTests := true, laidLooks := .later }
def BookOwnCardSaid : Prop := Claim7.holds Tryd.pinned (.plain (OpenSpec.ofChange bookOwnSpec)) bookOwnCard

/-- THE SECOND FORM's CARD OF 'tallyrollkeep.ProofOwn'. -/
def proofOwnUptoCard : Claim7 := { stood := { row := proofOwnUptoRow, standIns := [], harness := (true, "be85d3c8c7ce7140b1094d54e8db62a83245a076698cec803f7a0eb90108a9c2"), looks := false }, kinds := [], alts := [], laidByText := true, laidKinds := [.data, .pinned], laidTests := true, laidLooks := .later }
def ProofOwnUptoCardSaid : Prop := Claim7.holds Tryd.pinned (.plain (OpenSpec.upto proofOwnSpec)) proofOwnUptoCard

/-- THE SECOND FORM's CARD OF 'tallyrollkeep.BookOwn'. -/
def bookOwnUptoCard : Claim7 := { stood := { row := bookOwnUptoRow, standIns := [], harness := (true, "be85d3c8c7ce7140b1094d54e8db62a83245a076698cec803f7a0eb90108a9c2"), looks := false }, kinds := [], alts := [], laidByText := true, laidKinds := [.data, .pinned], laidTests := true, laidLooks := .later }
def BookOwnUptoCardSaid : Prop := Claim7.holds Tryd.pinned (.plain (OpenSpec.upto bookOwnSpec)) bookOwnUptoCard
end Rows
end Go.Proofs.YtmpakffajpnffaaDoor
