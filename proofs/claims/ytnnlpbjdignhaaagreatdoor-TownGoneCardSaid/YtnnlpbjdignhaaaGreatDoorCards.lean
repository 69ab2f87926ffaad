/-
  DERIVED. GIVEN WITH THE SEED: THE CARDS: each row of YtnnlpbjdignhaaaGreatDoorRows.lean that lists a variable, with what it lists TIED to the program's text (the seventh form; the later family's looks); each row that meets fmt, with fmt's text TOLD by the authors' own Lean function (tested against real Go, not proved from fmt's source: count such statements apart). THE CARD IS WHAT COUNTS. Prove the row's statement (the work); the ties are given (YtnnlpbjdignhaaaGreatDoorTie.lean); close each card by the builder's one call (the guide's Derived/Test/ToyasCard.lean, 'card_holds'). Laid BY PROGRAM, IN A SANDBOX (cutbox-door.mjs). By AI agents, Wed Nov 11 2026. No macro, syntax, notation, axiom, sorry.
-/
import Derived.Test.YtnnlpbjdignhaaaGreatDoorRows
import GoSem.ClaimSeven
namespace Go.Proofs.YtnnlpbjdignhaaaGreatDoor
namespace Rows

/-- THE TIED CARD OF 'tallyrollkeep.TownRight'. -/
def townRightCard : Claim7 := { stood := { row := townRightRow, standIns := [], harness := (true, "b35f401e56e57606a7f82422449b394f4f5a5e2a7439d50caf6ff5a96b1d7525"), looks := false }, kinds := [], alts := [], laidByText := true, laidKinds := [.data, .pinned], laidTests := true, laidLooks := .later }
def TownRightCardSaid : Prop := Claim7.holds Tryz.pinned (.plain (OpenSpec.ofChange townRightSpec)) townRightCard

/-- THE TIED CARD OF 'tallyrollkeep.TownFront'. -/
def townFrontCard : Claim7 := { stood := { row := townFrontRow, standIns := [], harness := (true, "b35f401e56e57606a7f82422449b394f4f5a5e2a7439d50caf6ff5a96b1d7525"), looks := false }, kinds := [], alts := [], laidByText := true, laidKinds := [.data, .pinned], laidTests := true, laidLooks := .later }
def TownFrontCardSaid : Prop := Claim7.holds Tryz.pinned (.plain (OpenSpec.ofChange townFrontSpec)) townFrontCard

/-- THE TIED CARD OF 'tallyrollkeep.TownCalm'. -/
def townCalmCard : Claim7 := { stood := { row := townCalmRow, standIns := [], harness := (true, "b35f401e56e57606a7f82422449b394f4f5a5e2a7439d50caf6ff5a96b1d7525"), looks := false }, kinds := [], alts := [], laidByText := true, laidKinds := [.data, .pinned], laidTests := true, laidLooks := .later }
def TownCalmCardSaid : Prop := Claim7.holds Tryz.pinned (.plain (OpenSpec.ofChange townCalmSpec)) townCalmCard

/-- THE TIED CARD OF 'tallyrollkeep.TownGone'. -/
def townGoneCard : Claim7 := { stood := { row := townGoneRow, standIns := [], harness := (true, "b35f401e56e57606a7f82422449b394f4f5a5e2a7439d50caf6ff5a96b1d7525"), looks := false }, kinds := [], alts := [], laidByText := true, laidKinds := [.data, .pinned], laidTests := true, laidLooks := .later }
def TownGoneCardSaid : Prop := Claim7.holds Tryz.pinned (.plain (OpenSpec.ofChange townGoneSpec)) townGoneCard

/-- THE TIED CARD OF 'tallyrollkeep.ServeBack'. -/
def serveBackCard : Claim7 := { stood := { row := serveBackRow, standIns := [], harness := (true, "b35f401e56e57606a7f82422449b394f4f5a5e2a7439d50caf6ff5a96b1d7525"), looks := false }, kinds := [], alts := [], laidByText := true, laidKinds := [.data, .pinned], laidTests := true, laidLooks := .later }
def ServeBackCardSaid : Prop := Claim7.holds Tryz.pinned (.plain (OpenSpec.ofChange serveBackSpec)) serveBackCard

/-- THE TIED CARD OF 'tallyrollkeep.ClerkOwn'. -/
def clerkOwnCard : Claim7 := { stood := { row := clerkOwnRow, standIns := [], harness := (true, "b35f401e56e57606a7f82422449b394f4f5a5e2a7439d50caf6ff5a96b1d7525"), looks := false }, kinds := [], alts := [], laidByText := true, laidKinds := [.data, .pinned], laidTests := true, laidLooks := .later }
def ClerkOwnCardSaid : Prop := Claim7.holds Tryz.pinned (.plain (OpenSpec.ofChange clerkOwnSpec)) clerkOwnCard

/-- THE SECOND FORM's CARD OF 'tallyrollkeep.TownRight'. -/
def townRightUptoCard : Claim7 := { stood := { row := townRightUptoRow, standIns := [], harness := (true, "b35f401e56e57606a7f82422449b394f4f5a5e2a7439d50caf6ff5a96b1d7525"), looks := false }, kinds := [], alts := [], laidByText := true, laidKinds := [.data, .pinned], laidTests := true, laidLooks := .later }
def TownRightUptoCardSaid : Prop := Claim7.holds Tryz.pinned (.plain (OpenSpec.upto townRightSpec)) townRightUptoCard

/-- THE SECOND FORM's CARD OF 'tallyrollkeep.TownFront'. -/
def townFrontUptoCard : Claim7 := { stood := { row := townFrontUptoRow, standIns := [], harness := (true, "b35f401e56e57606a7f82422449b394f4f5a5e2a7439d50caf6ff5a96b1d7525"), looks := false }, kinds := [], alts := [], laidByText := true, laidKinds := [.data, .pinned], laidTests := true, laidLooks := .later }
def TownFrontUptoCardSaid : Prop := Claim7.holds Tryz.pinned (.plain (OpenSpec.upto townFrontSpec)) townFrontUptoCard

/-- THE SECOND FORM's CARD OF 'tallyrollkeep.TownCalm'. -/
def townCalmUptoCard : Claim7 := { stood := { row := townCalmUptoRow, standIns := [], harness := (true, "b35f401e56e57606a7f82422449b394f4f5a5e2a7439d50caf6ff5a96b1d7525"), looks := false }, kinds := [], alts := [], laidByText := true, laidKinds := [.data, .pinned], laidTests := true, laidLooks := .later }
def TownCalmUptoCardSaid : Prop := Claim7.holds Tryz.pinned (.plain (OpenSpec.upto townCalmSpec)) townCalmUptoCard

/-- THE SECOND FORM's CARD OF 'tallyrollkeep.TownGone'. -/
def townGoneUptoCard : Claim7 := { stood := { row := townGoneUptoRow, standIns := [], harness := (true, "b35f401e56e57606a7f82422449b394f4f5a5e2a7439d50caf6ff5a96b1d7525"), looks := false }, kinds := [], alts := [], laidByText := true, laidKinds := [.data, .pinned], laidTests := true, laidLooks := .later }
def TownGoneUptoCardSaid : Prop := Claim7.holds Tryz.pinned (.plain (OpenSpec.upto townGoneSpec)) townGoneUptoCard

/-- THE SECOND FORM's CARD OF 'tallyrollkeep.ServeBack'. -/
def serveBackUptoCard : Claim7 := { stood := { row := serveBackUptoRow, standIns := [], harness := (true, "b35f401e56e57606a7f82422449b394f4f5a5e2a7439d50caf6ff5a96b1d7525"), looks := false }, kinds := [], alts := [], laidByText := true, laidKinds := [.data, .pinned], laidTests := true, laidLooks := .later }
def ServeBackUptoCardSaid : Prop := Claim7.holds Tryz.pinned (.plain (OpenSpec.upto serveBackSpec)) serveBackUptoCard

/-- THE SECOND FORM's CARD OF 'tallyrollkeep.ClerkOwn'. -/
def clerkOwnUptoCard : Claim7 := { stood := { row := clerkOwnUptoRow, standIns := [], harness := (true, "b35f401e56e57606a7f82422449b394f4f5a5e2a7439d50caf6ff5a96b1d7525"), looks := false }, kinds := [], alts := [], laidByText := true, laidKinds := [.data, .pinned], laidTests := true, laidLooks := .later }
def ClerkOwnUptoCardSaid : Prop := Claim7.holds Tryz.pinned (.plain (OpenSpec.upto clerkOwnSpec)) clerkOwnUptoCard
end Rows
end Go.Proofs.YtnnlpbjdignhaaaGreatDoor
