import Derived.Test.YtmfbohanboiklaaGreatDoorCtTd
set_option linter.unusedSimpArgs false
set_option linter.unusedVariables false
namespace Go.Proofs.YtmfbohanboiklaaGreatDoor
open Go.Sx
set_option maxRecDepth 100000
end Go.Proofs.YtmfbohanboiklaaGreatDoor
