/-
  DERIVED. GIVEN WITH THE SEED: THE CARDS: each row of YtmpakffajpnffaaGreatDoorRows.lean that lists a variable, with what it lists TIED to the program's text (the seventh form; the later family's looks); each row that meets fmt, with fmt's text TOLD by the authors' own Lean function (tested against real Go, not proved from fmt's source: count such statements apart). THE CARD IS WHAT COUNTS. Prove the row's statement (the work); the ties are given (YtmpakffajpnffaaGreatDoorTie.lean); close each card by the builder's one call (the guide's Derived/Test/ToyasCard.lean, 'card_holds'). Laid BY PROGRAM, IN A SANDBOX (cutbox-door.mjs). By AI agents, Wed Nov 11 2026. No macro, syntax, notation, axiom, sorry.
-/
import Derived.Test.YtmpakffajpnffaaGreatDoorRows
import GoSem.ClaimSeven
namespace Go.Proofs.YtmpakffajpnffaaGreatDoor
namespace Rows

/-- THE TIED CARD OF 'tallyrollkeep.ServeHolds'. -/
def serveHoldsCard : Claim7 := { stood := { row := serveHoldsRow, standIns := [], harness := (true, "f0dad2e1b9537bff8f1dd29dab56dbb0bc9e42c8ef2945b2ecfc4b183fa57f01"), looks := false }, kinds := [], alts := [], laidByText := true, laidKinds := [.data, .pinned], laidTests := true, laidLooks := .later }
def ServeHoldsCardSaid : Prop := Claim7.holds Tryz.pinned (.plain (OpenSpec.ofChange serveHoldsSpec)) serveHoldsCard

/-- THE TIED CARD OF 'tallyrollkeep.ServeBinds'. -/
def serveBindsCard : Claim7 := { stood := { row := serveBindsRow, standIns := [], harness := (true, "f0dad2e1b9537bff8f1dd29dab56dbb0bc9e42c8ef2945b2ecfc4b183fa57f01"), looks := false }, kinds := [], alts := [], laidByText := true, laidKinds := [.data, .pinned], laidTests := true, laidLooks := .later }
def ServeBindsCardSaid : Prop := Claim7.holds Tryz.pinned (.plain (OpenSpec.ofChange serveBindsSpec)) serveBindsCard

/-- THE TIED CARD OF 'tallyrollkeep.ClerkDue'. -/
def clerkDueCard : Claim7 := { stood := { row := clerkDueRow, standIns := [], harness := (true, "f0dad2e1b9537bff8f1dd29dab56dbb0bc9e42c8ef2945b2ecfc4b183fa57f01"), looks := false }, kinds := [], alts := [], laidByText := true, laidKinds := [.data, .pinned], laidTests := true, laidLooks := .later }
def ClerkDueCardSaid : Prop := Claim7.holds Tryz.pinned (.plain (OpenSpec.ofChange clerkDueSpec)) clerkDueCard

/-- THE TIED CARD OF 'tallyrollkeep.ClerkRight'. -/
def clerkRightCard : Claim7 := { stood := { row := clerkRightRow, standIns := [], harness := (true, "f0dad2e1b9537bff8f1dd29dab56dbb0bc9e42c8ef2945b2ecfc4b183fa57f01"), looks := false }, kinds := [], alts := [], laidByText := true, laidKinds := [.data, .pinned], laidTests := true, laidLooks := .later }
def ClerkRightCardSaid : Prop := Claim7.holds Tryz.pinned (.plain (OpenSpec.ofChange clerkRightSpec)) clerkRightCard

/-- THE TIED CARD OF 'tallyrollkeep.ChangeNone'. -/
def changeNoneCard : Claim7 := { stood := { row := changeNoneRow, standIns := [], harness := (true, "f0dad2e1b9537bff8f1dd29dab56dbb0bc9e42c8ef2945b2ecfc4b183fa57f01"), looks := false }, kinds := [], alts := [], laidByText := true, laidKinds := [.data, .pinned], laidTests := true, laidLooks := .later }
def ChangeNoneCardSaid : Prop := Claim7.holds Tryz.pinned (.plain (OpenSpec.ofChange changeNoneSpec)) changeNoneCard

/-- THE TIED CARD OF 'tallyrollkeep.ChangeFinds'. -/
def changeFindsCard : Claim7 := { stood := { row := changeFindsRow, standIns := [], harness := (true, "f0dad2e1b9537bff8f1dd29dab56dbb0bc9e42c8ef2945b2ecfc4b183fa57f01"), looks := false }, kinds := [], alts := [], laidByText := true, laidKinds := [.data, .pinned], laidTests := true, laidLooks := .later }
def ChangeFindsCardSaid : Prop := Claim7.holds Tryz.pinned (.plain (OpenSpec.ofChange changeFindsSpec)) changeFindsCard

/-- THE TIED CARD OF 'tallyrollkeep.ChangeApplies'. -/
def changeAppliesCard : Claim7 := { stood := { row := changeAppliesRow, standIns := [], harness := (true, "f0dad2e1b9537bff8f1dd29dab56dbb0bc9e42c8ef2945b2ecfc4b183fa57f01"), looks := false }, kinds := [], alts := [], laidByText := true, laidKinds := [.data, .pinned], laidTests := true, laidLooks := .later }
def ChangeAppliesCardSaid : Prop := Claim7.holds Tryz.pinned (.plain (OpenSpec.ofChange changeAppliesSpec)) changeAppliesCard

/-- THE TIED CARD OF 'tallyrollkeep.ServeBack'. -/
def serveBackCard : Claim7 := { stood := { row := serveBackRow, standIns := [], harness := (true, "f0dad2e1b9537bff8f1dd29dab56dbb0bc9e42c8ef2945b2ecfc4b183fa57f01"), looks := false }, kinds := [], alts := [], laidByText := true, laidKinds := [.data, .pinned], laidTests := true, laidLooks := .later }
def ServeBackCardSaid : Prop := Claim7.holds Tryz.pinned (.plain (OpenSpec.ofChange serveBackSpec)) serveBackCard

/-- THE TIED CARD OF 'tallyrollkeep.OwnerCalm'. -/
def ownerCalmCard : Claim7 := { stood := { row := ownerCalmRow, standIns := [], harness := (true, "f0dad2e1b9537bff8f1dd29dab56dbb0bc9e42c8ef2945b2ecfc4b183fa57f01"), looks := false }, kinds := [], alts := [], laidByText := true, laidKinds := [.data, .pinned], laidTests := true, laidLooks := .later }
def OwnerCalmCardSaid : Prop := Claim7.holds Tryz.pinned (.plain (OpenSpec.ofChange ownerCalmSpec)) ownerCalmCard

/-- THE SECOND FORM's CARD OF 'tallyrollkeep.ServeHolds'. -/
def serveHoldsUptoCard : Claim7 := { stood := { row := serveHoldsUptoRow, standIns := [], harness := (true, "f0dad2e1b9537bff8f1dd29dab56dbb0bc9e42c8ef2945b2ecfc4b183fa57f01"), looks := false }, kinds := [], alts := [], laidByText := true, laidKinds := [.data, .pinned], laidTests := true, laidLooks := .later }
def ServeHoldsUptoCardSaid : Prop := Claim7.holds Tryz.pinned (.plain (OpenSpec.upto serveHoldsSpec)) serveHoldsUptoCard

/-- THE SECOND FORM's CARD OF 'tallyrollkeep.ServeBinds'. -/
def serveBindsUptoCard : Claim7 := { stood := { row := serveBindsUptoRow, standIns := [], harness := (true, "f0dad2e1b9537bff8f1dd29dab56dbb0bc9e42c8ef2945b2ecfc4b183fa57f01"), looks := false }, kinds := [], alts := [], laidByText := true, laidKinds := [.data, .pinned], laidTests := true, laidLooks := .later }
def ServeBindsUptoCardSaid : Prop := Claim7.holds Tryz.pinned (.plain (OpenSpec.upto serveBindsSpec)) serveBindsUptoCard

/-- THE SECOND FORM's CARD OF 'tallyrollkeep.ClerkDue'. -/
def clerkDueUptoCard : Claim7 := { stood := { row := clerkDueUptoRow, standIns := [], harness := (true, "f0dad2e1b9537bff8f1dd29dab56dbb0bc9e42c8ef2945b2ecfc4b183fa57f01"), looks := false }, kinds := [], alts := [], laidByText := true, laidKinds := [.data, .pinned], laidTests := true, laidLooks := .later }
def ClerkDueUptoCardSaid : Prop := Claim7.holds Tryz.pinned (.plain (OpenSpec.upto clerkDueSpec)) clerkDueUptoCard

/-- THE SECOND FORM's CARD OF 'tallyrollkeep.ClerkRight'. -/
def clerkRightUptoCard : Claim7 := { stood := { row := clerkRightUptoRow, standIns := [], harness := (true, "f0dad2e1b9537bff8f1dd29dab56dbb0bc9e42c8ef2945b2ecfc4b183fa57f01"), looks := false }, kinds := [], alts := [], laidByText := true, laidKinds := [.data, .pinned], laidTests := true, laidLooks := .later }
def ClerkRightUptoCardSaid : Prop := Claim7.holds Tryz.pinned (.plain (OpenSpec.upto clerkRightSpec)) clerkRightUptoCard

/-- THE SECOND FORM's CARD OF 'tallyrollkeep.ChangeNone'. -/
def changeNoneUptoCard : Claim7 := { stood := { row := changeNoneUptoRow, standIns := [], harness := (true, "f0dad2e1b9537bff8f1dd29dab56dbb0bc9e42c8ef2945b2ecfc4b183fa57f01"), looks := false }, kinds := [], alts := [], laidByText := true, laidKinds := [.data, .pinned], laidTests := true, laidLooks := .later }
def ChangeNoneUptoCardSaid : Prop := Claim7.holds Tryz.pinned (.plain (OpenSpec.upto changeNoneSpec)) changeNoneUptoCard

/-- THE SECOND FORM's CARD OF 'tallyrollkeep.ChangeFinds'. -/
def changeFindsUptoCard : Claim7 := { stood := { row := changeFindsUptoRow, standIns := [], harness := (true, "f0dad2e1b9537bff8f1dd29dab56dbb0bc9e42c8ef2945b2ecfc4b183fa57f01"), looks := false }, kinds := [], alts := [], laidByText := true, laidKinds := [.data, .pinned], laidTests := true, laidLooks := .later }
def ChangeFindsUptoCardSaid : Prop := Claim7.holds Tryz.pinned (.plain (OpenSpec.upto changeFindsSpec)) changeFindsUptoCard

/-- THE SECOND FORM's CARD OF 'tallyrollkeep.ChangeApplies'. -/
def changeAppliesUptoCard : Claim7 := { stood := { row := changeAppliesUptoRow, standIns := [], harness := (true, "f0dad2e1b9537bff8f1dd29dab56dbb0bc9e42c8ef2945b2ecfc4b183fa57f01"), looks := false }, kinds := [], alts := [], laidByText := true, laidKinds := [.data, .pinned], laidTests := true, laidLooks := .later }
def ChangeAppliesUptoCardSaid : Prop := Claim7.holds Tryz.pinned (.plain (OpenSpec.upto changeAppliesSpec)) changeAppliesUptoCard

/-- THE SECOND FORM's CARD OF 'tallyrollkeep.ServeBack'. -/
def serveBackUptoCard : Claim7 := { stood := { row := serveBackUptoRow, standIns := [], harness := (true, "f0dad2e1b9537bff8f1dd29dab56dbb0bc9e42c8ef2945b2ecfc4b183fa57f01"), looks := false }, kinds := [], alts := [], laidByText := true, laidKinds := [.data, .pinned], laidTests := true, laidLooks := .later }
def ServeBackUptoCardSaid : Prop := Claim7.holds Tryz.pinned (.plain (OpenSpec.upto serveBackSpec)) serveBackUptoCard

/-- THE SECOND FORM's CARD OF 'tallyrollkeep.OwnerCalm'. -/
def ownerCalmUptoCard : Claim7 := { stood := { row := ownerCalmUptoRow, standIns := [], harness := (true, "f0dad2e1b9537bff8f1dd29dab56dbb0bc9e42c8ef2945b2ecfc4b183fa57f01"), looks := false }, kinds := [], alts := [], laidByText := true, laidKinds := [.data, .pinned], laidTests := true, laidLooks := .later }
def OwnerCalmUptoCardSaid : Prop := Claim7.holds Tryz.pinned (.plain (OpenSpec.upto ownerCalmSpec)) ownerCalmUptoCard
end Rows
end Go.Proofs.YtmpakffajpnffaaGreatDoor
