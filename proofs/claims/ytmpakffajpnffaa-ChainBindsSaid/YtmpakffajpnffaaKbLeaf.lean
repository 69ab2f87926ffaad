import Derived.Test.YtmpakffajpnffaaKbTree
namespace Go.Proofs.Ytmpakffajpnffaa
open Go.Tx
set_option linter.unusedVariables false
set_option linter.unusedSimpArgs false
end Go.Proofs.Ytmpakffajpnffaa
