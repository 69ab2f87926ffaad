import Derived.Test.YtmpakffajpnffaaGreatDoorCaWire
namespace Go.Proofs.YtmpakffajpnffaaGreatDoor
open Go.Tx
set_option linter.unusedVariables false
set_option linter.unusedSimpArgs false
end Go.Proofs.YtmpakffajpnffaaGreatDoor
