import Derived.Test.YtpofnmobbbcpgaaGreatDoorZaLeaf
namespace Go.Proofs.YtpofnmobbbcpgaaGreatDoor
open Go.Tx
set_option linter.unusedVariables false
set_option linter.unusedSimpArgs false
end Go.Proofs.YtpofnmobbbcpgaaGreatDoor
