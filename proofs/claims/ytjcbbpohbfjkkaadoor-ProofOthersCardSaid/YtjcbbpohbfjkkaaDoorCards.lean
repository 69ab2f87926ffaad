/-
  DERIVED. GIVEN WITH THE SEED: THE CARDS: each row of YtjcbbpohbfjkkaaDoorRows.lean that lists a variable, with what it lists TIED to the program's text (the seventh form; the later family's looks); each row that meets fmt, with fmt's text TOLD by the authors' own Lean function (tested against real Go, not proved from fmt's source: count such statements apart). THE CARD IS WHAT COUNTS. Prove the row's statement (the work); the ties are given (YtjcbbpohbfjkkaaDoorTie.lean); close each card by the builder's one call (the guide's Derived/Test/ToyasCard.lean, 'card_holds'). Laid BY PROGRAM, IN A SANDBOX (cutbox-door.mjs). By AI agents, Wed Nov 11 2026. No macro, syntax, notation, axiom, sorry.
-/
import Derived.Test.YtjcbbpohbfjkkaaDoorRows
import GoSem.ClaimSeven
namespace Go.Proofs.YtjcbbpohbfjkkaaDoor
namespace Rows

/-- THE TIED CARD OF 'tallyrollkeep.PathBits'. -/
def pathBitsCard : Claim7 := { stood := { row := pathBitsRow, standIns := [], harness := (true, "7283574e88b4f45c81e9d097349a5e74dce4293290079ac1c3f4e28d6ecb1bbc"), looks := false }, kinds := [], alts := [], laidByText := true, laidKinds := [.data, .pinned], laidTests := true, laidLooks := .later }
def PathBitsCardSaid : Prop := Claim7.holds Tryd.pinned (.plain (OpenSpec.ofChange pathBitsSpec)) pathBitsCard

/-- THE TIED CARD OF 'tallyrollkeep.ProofOthers'. -/
def proofOthersCard : Claim7 := { stood := { row := proofOthersRow, standIns := [], harness := (true, "7283574e88b4f45c81e9d097349a5e74dce4293290079ac1c3f4e28d6ecb1bbc"), looks := false }, kinds := [], alts := [], laidByText := true, laidKinds := [.data, .pinned], laidTests := true, laidLooks := .later }
def ProofOthersCardSaid : Prop := Claim7.holds Tryd.pinned (.plain (OpenSpec.ofChange proofOthersSpec)) proofOthersCard

/-- THE TIED CARD OF 'tallyrollkeep.ProofHolds'. -/
def proofHoldsCard : Claim7 := { stood := { row := proofHoldsRow, standIns := [], harness := (true, "7283574e88b4f45c81e9d097349a5e74dce4293290079ac1c3f4e28d6ecb1bbc"), looks := false }, kinds := [], alts := [], laidByText := true, laidKinds := [.data, .pinned], laidTests := true, laidLooks := .later }
def ProofHoldsCardSaid : Prop := Claim7.holds Tryd.pinned (.plain (OpenSpec.ofChange proofHoldsSpec)) proofHoldsCard

/-- THE TIED CARD OF 'tallyrollkeep.ProofBinds'. -/
def proofBindsCard : Claim7 := { stood := { row := proofBindsRow, standIns := [], harness := (true, "7283574e88b4f45c81e9d097349a5e74dce4293290079ac1c3f4e28d6ecb1bbc"), looks := false }, kinds := [], alts := [], laidByText := true, laidKinds := [.data, .pinned], laidTests := true, laidLooks := .later }
def ProofBindsCardSaid : Prop := Claim7.holds Tryd.pinned (.plain (OpenSpec.ofChange proofBindsSpec)) proofBindsCard

/-- THE TIED CARD OF 'tallyrollkeep.TreeParts'. -/
def treePartsCard : Claim7 := { stood := { row := treePartsRow, standIns := [], harness := (true, "7283574e88b4f45c81e9d097349a5e74dce4293290079ac1c3f4e28d6ecb1bbc"), looks := false }, kinds := [], alts := [], laidByText := true, laidKinds := [.data, .pinned], laidTests := true, laidLooks := .later }
def TreePartsCardSaid : Prop := Claim7.holds Tryd.pinned (.plain (OpenSpec.ofChange treePartsSpec)) treePartsCard

/-- THE TIED CARD OF 'tallyrollkeep.TreeTurns'. -/
def treeTurnsCard : Claim7 := { stood := { row := treeTurnsRow, standIns := [], harness := (true, "7283574e88b4f45c81e9d097349a5e74dce4293290079ac1c3f4e28d6ecb1bbc"), looks := false }, kinds := [], alts := [], laidByText := true, laidKinds := [.data, .pinned], laidTests := true, laidLooks := .later }
def TreeTurnsCardSaid : Prop := Claim7.holds Tryd.pinned (.plain (OpenSpec.ofChange treeTurnsSpec)) treeTurnsCard

/-- THE TIED CARD OF 'tallyrollkeep.ProofAfter'. -/
def proofAfterCard : Claim7 := { stood := { row := proofAfterRow, standIns := [], harness := (true, "7283574e88b4f45c81e9d097349a5e74dce4293290079ac1c3f4e28d6ecb1bbc"), looks := false }, kinds := [], alts := [], laidByText := true, laidKinds := [.data, .pinned], laidTests := true, laidLooks := .later }
def ProofAfterCardSaid : Prop := Claim7.holds Tryd.pinned (.plain (OpenSpec.ofChange proofAfterSpec)) proofAfterCard

/-- THE SECOND FORM's CARD OF 'tallyrollkeep.PathBits'. -/
def pathBitsUptoCard : Claim7 := { stood := { row := pathBitsUptoRow, standIns := [], harness := (true, "7283574e88b4f45c81e9d097349a5e74dce4293290079ac1c3f4e28d6ecb1bbc"), looks := false }, kinds := [], alts := [], laidByText := true, laidKinds := [.data, .pinned], laidTests := true, laidLooks := .later }
def PathBitsUptoCardSaid : Prop := Claim7.holds Tryd.pinned (.plain (OpenSpec.upto pathBitsSpec)) pathBitsUptoCard

/-- THE SECOND FORM's CARD OF 'tallyrollkeep.ProofOthers'. -/
def proofOthersUptoCard : Claim7 := { stood := { row := proofOthersUptoRow, standIns := [], harness := (true, "7283574e88b4f45c81e9d097349a5e74dce4293290079ac1c3f4e28d6ecb1bbc"), looks := false }, kinds := [], alts := [], laidByText := true, laidKinds := [.data, .pinned], laidTests := true, laidLooks := .later }
def ProofOthersUptoCardSaid : Prop := Claim7.holds Tryd.pinned (.plain (OpenSpec.upto proofOthersSpec)) proofOthersUptoCard

/-- THE SECOND FORM's CARD OF 'tallyrollkeep.ProofHolds'. -/
def proofHoldsUptoCard : Claim7 := { stood := { row := proofHoldsUptoRow, standIns := [], harness := (true, "7283574e88b4f45c81e9d097349a5e74dce4293290079ac1c3f4e28d6ecb1bbc"), looks := false }, kinds := [], alts := [], laidByText := true, laidKinds := [.data, .pinned], laidTests := true, laidLooks := .later }
def ProofHoldsUptoCardSaid : Prop := Claim7.holds Tryd.pinned (.plain (OpenSpec.upto proofHoldsSpec)) proofHoldsUptoCard

/-- THE SECOND FORM's CARD OF 'tallyrollkeep.ProofBinds'. -/
def proofBindsUptoCard : Claim7 := { stood := { row := proofBindsUptoRow, standIns := [], harness := (true, "7283574e88b4f45c81e9d097349a5e74dce4293290079ac1c3f4e28d6ecb1bbc"), looks := false }, kinds := [], alts := [], laidByText := true, laidKinds := [.data, .pinned], laidTests := true, laidLooks := .later }
def ProofBindsUptoCardSaid : Prop := Claim7.holds Tryd.pinned (.plain (OpenSpec.upto proofBindsSpec)) proofBindsUptoCard

/-- THE SECOND FORM's CARD OF 'tallyrollkeep.TreeParts'. -/
def treePartsUptoCard : Claim7 := { stood := { row := treePartsUptoRow, standIns := [], harness := (true, "7283574e88b4f45c81e9d097349a5e74dce4293290079ac1c3f4e28d6ecb1bbc"), looks := false }, kinds := [], alts := [], laidByText := true, laidKinds := [.data, .pinned], laidTests := true, laidLooks := .later }
def TreePartsUptoCardSaid : Prop := Claim7.holds Tryd.pinned (.plain (OpenSpec.upto treePartsSpec)) treePartsUptoCard

/-- THE SECOND FORM's CARD OF 'tallyrollkeep.TreeTurns'. -/
def treeTurnsUptoCard : Claim7 := { stood := { row := treeTurnsUptoRow, standIns := [], harness := (true, "7283574e88b4f45c81e9d097349a5e74dce4293290079ac1c3f4e28d6ecb1bbc"), looks := false }, kinds := [], alts := [], laidByText := true, laidKinds := [.data, .pinned], laidTests := true, laidLooks := .later }
def TreeTurnsUptoCardSaid : Prop := Claim7.holds Tryd.pinned (.plain (OpenSpec.upto treeTurnsSpec)) treeTurnsUptoCard

/-- THE SECOND FORM's CARD OF 'tallyrollkeep.ProofAfter'. -/
def proofAfterUptoCard : Claim7 := { stood := { row := proofAfterUptoRow, standIns := [], harness := (true, "7283574e88b4f45c81e9d097349a5e74dce4293290079ac1c3f4e28d6ecb1bbc"), looks := false }, kinds := [], alts := [], laidByText := true, laidKinds := [.data, .pinned], laidTests := true, laidLooks := .later }
def ProofAfterUptoCardSaid : Prop := Claim7.holds Tryd.pinned (.plain (OpenSpec.upto proofAfterSpec)) proofAfterUptoCard
end Rows
end Go.Proofs.YtjcbbpohbfjkkaaDoor
