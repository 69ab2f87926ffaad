import Derived.Test.YtpofnmobbbcpgaaGreatDoorZaUnder
import Derived.Test.YtpofnmobbbcpgaaGreatDoorZaBack
namespace Go.Proofs.YtpofnmobbbcpgaaGreatDoor
open Go.Tx
set_option linter.unusedVariables false
set_option linter.unusedSimpArgs false
theorem treeAtE_ok {l : List EntD} {q : List UInt8} (h : (treeAtE l q).2 = 0) : TreeOk l ∧ q.length ≤ 16 ∧ (∀ b ∈ q, isB b = true) ∧ (treeAtE l q).1 = treeAt (treeUnder l q) q := by
  unfold treeAtE at h ⊢
  split at h
  · contradiction
  rename_i h1
  split at h
  · cases h
  rename_i h2
  rw [if_neg h1, if_neg h2]
  have h3 : trimS q = [] := Decidable.not_not.1 fun hc => h2 (.inr hc)
  have h4 : ¬ (q.length : Int) > 16 := fun hc => h2 (.inl hc)
  exact ⟨treeCheck_iff.1 (Decidable.not_not.1 h1), by omega, trimS_nil.1 h3, rfl⟩
theorem treeAtE_of {l : List EntD} {q : List UInt8} (h1 : TreeOk l) (h2 : q.length ≤ 16) (h3 : ∀ b ∈ q, isB b = true) : treeAtE l q = (treeAt (treeUnder l q) q, 0) := by
  unfold treeAtE
  rw [if_neg (fun hc => hc (treeCheck_iff.2 h1)), if_neg]
  rintro (hc | hc)
  · omega
  · exact hc (trimS_nil.2 h3)
end Go.Proofs.YtpofnmobbbcpgaaGreatDoor
