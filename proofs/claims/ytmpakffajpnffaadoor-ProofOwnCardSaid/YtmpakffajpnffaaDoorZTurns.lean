import Derived.Test.YtmpakffajpnffaaDoorZUnder
import Derived.Test.YtmpakffajpnffaaDoorZBack
namespace Go.Proofs.YtmpakffajpnffaaDoor
open Go.Tx
set_option linter.unusedVariables false
set_option linter.unusedSimpArgs false

end Go.Proofs.YtmpakffajpnffaaDoor
