import Derived.Test.YtmpakffajpnffaaKbLeaf
namespace Go.Proofs.Ytmpakffajpnffaa
open Go.Tx
set_option linter.unusedVariables false
set_option linter.unusedSimpArgs false
def alikeB (s t : List UInt8) : Bool := !(s == t) && decide (markOf s = markOf t)
end Go.Proofs.Ytmpakffajpnffaa
