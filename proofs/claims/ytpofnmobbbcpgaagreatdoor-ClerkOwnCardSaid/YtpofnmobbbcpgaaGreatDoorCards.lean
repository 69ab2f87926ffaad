/-
  DERIVED. GIVEN WITH THE SEED: THE CARDS: each row of YtpofnmobbbcpgaaGreatDoorRows.lean that lists a variable, with what it lists TIED to the program's text (the seventh form; the later family's looks); each row that meets fmt, with fmt's text TOLD by the authors' own Lean function (tested against real Go, not proved from fmt's source: count such statements apart). THE CARD IS WHAT COUNTS. Prove the row's statement (the work); the ties are given (YtpofnmobbbcpgaaGreatDoorTie.lean); close each card by the builder's one call (the guide's Derived/Test/ToyasCard.lean, 'card_holds'). Laid BY PROGRAM, IN A SANDBOX (cutbox-door.mjs). By AI agents, Wed Nov 11 2026. No macro, syntax, notation, axiom, sorry.
-/
import Derived.Test.YtpofnmobbbcpgaaGreatDoorRows
import GoSem.ClaimSeven
namespace Go.Proofs.YtpofnmobbbcpgaaGreatDoor
namespace Rows

/-- THE TIED CARD OF 'tallyrollkeep.ServeBack'. -/
def serveBackCard : Claim7 := { stood := { row := serveBackRow, standIns := [], harness := (true, "a3661ed1362275627ff62bbf13867fb71c55891f8a4b8ff8fbe42db0e4be5ca0"), looks := false }, kinds := [], alts := [], laidByText := true, laidKinds := [.data, .pinned], laidTests := true, laidLooks := .later }
def ServeBackCardSaid : Prop := Claim7.holds Tryz.pinned (.plain (OpenSpec.ofChange serveBackSpec)) serveBackCard

/-- THE TIED CARD OF 'tallyrollkeep.ClerkOwn'. -/
def clerkOwnCard : Claim7 := { stood := { row := clerkOwnRow, standIns := [], harness := (true, "a3661ed1362275627ff62bbf13867fb71c55891f8a4b8ff8fbe42db0e4be5ca0"), looks := false }, kinds := [], alts := [], laidByText := true, laidKinds := [.data, .pinned], laidTests := true, laidLooks := .later }
def ClerkOwnCardSaid : Prop := Claim7.holds Tryz.pinned (.plain (OpenSpec.ofChange clerkOwnSpec)) clerkOwnCard

/-- THE SECOND FORM's CARD OF 'tallyrollkeep.ServeBack'. -/
def serveBackUptoCard : Claim7 := { stood := { row := serveBackUptoRow, standIns := [], harness := (true, "a3661ed1362275627ff62bbf13867fb71c55891f8a4b8ff8fbe42db0e4be5ca0"), looks := false }, kinds := [], alts := [], laidByText := true, laidKinds := [.data, .pinned], laidTests := true, laidLooks := .later }
def ServeBackUptoCardSaid : Prop := Claim7.holds Tryz.pinned (.plain (OpenSpec.upto serveBackSpec)) serveBackUptoCard

/-- THE SECOND FORM's CARD OF 'tallyrollkeep.ClerkOwn'. -/
def clerkOwnUptoCard : Claim7 := { stood := { row := clerkOwnUptoRow, standIns := [], harness := (true, "a3661ed1362275627ff62bbf13867fb71c55891f8a4b8ff8fbe42db0e4be5ca0"), looks := false }, kinds := [], alts := [], laidByText := true, laidKinds := [.data, .pinned], laidTests := true, laidLooks := .later }
def ClerkOwnUptoCardSaid : Prop := Claim7.holds Tryz.pinned (.plain (OpenSpec.upto clerkOwnSpec)) clerkOwnUptoCard
end Rows
end Go.Proofs.YtpofnmobbbcpgaaGreatDoor
