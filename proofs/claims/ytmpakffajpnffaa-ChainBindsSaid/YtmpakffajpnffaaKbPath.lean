import Derived.Test.YtmpakffajpnffaaKbHeadN
namespace Go.Proofs.Ytmpakffajpnffaa
open Go.Tx
set_option linter.unusedVariables false
set_option linter.unusedSimpArgs false
theorem le48r' {n : Nat} (h : n ≤ 140737488351232) : n ≤ 140737488355328 := by omega
end Go.Proofs.Ytmpakffajpnffaa
