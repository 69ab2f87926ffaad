import Derived.Test.YtnnlpbjdignhaaaGreatDoorTfTick
namespace Go.Proofs.YtnnlpbjdignhaaaGreatDoor
open Go.Tx
set_option linter.unusedVariables false
set_option linter.unusedSimpArgs false
open Go.Tx Go.Proofs
end Go.Proofs.YtnnlpbjdignhaaaGreatDoor
