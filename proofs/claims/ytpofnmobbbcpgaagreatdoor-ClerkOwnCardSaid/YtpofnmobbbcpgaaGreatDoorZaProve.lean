import Derived.Test.YtpofnmobbbcpgaaGreatDoorZaMake
import Derived.Test.YtpofnmobbbcpgaaGreatDoorZaSee
import Derived.Test.YtpofnmobbbcpgaaGreatDoorZaWireL
namespace Go.Proofs.YtpofnmobbbcpgaaGreatDoor
open Go.Tx
set_option linter.unusedVariables false
set_option linter.unusedSimpArgs false
theorem right_bd {n v : List UInt8} (h : treeRight n v = 0) : n.length ≤ 12 ∧ v.length ≤ 20 ∧ pathName n = true := by
  unfold treeRight at h
  split at h
  · cases h
  rename_i h1
  split at h
  · cases h
  have h2 : pathName n = true := by simpa using h1
  have := (pathName_iff.1 h2).2.1
  exact ⟨this, by omega, h2⟩
theorem treeAt_bd61 (l : List EntD) (q : List UInt8) : 0 ≤ treeAt l q ∧ treeAt l q < 2305843009213693951 := by
  unfold treeAt
  generalize 16 - q.length = n
  cases n with
  | zero => exact markOf_bd _
  | succ n =>
    rw [atG]
    split
    · exact markOf_bd _
    split
    · exact markOf_bd _
    · exact markOf_bd _
end Go.Proofs.YtpofnmobbbcpgaaGreatDoor
