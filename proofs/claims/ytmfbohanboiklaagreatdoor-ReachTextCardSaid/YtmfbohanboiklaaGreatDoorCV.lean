import Derived.Test.YtmfbohanboiklaaGreatDoorSxF
import Derived.RecoverIn
set_option linter.unusedSimpArgs false
set_option linter.unusedVariables false
set_option maxRecDepth 100000
namespace Go.Proofs.YtmfbohanboiklaaGreatDoor
open Go.Sx
open Go.RowKit (Below)
end Go.Proofs.YtmfbohanboiklaaGreatDoor
set_option maxRecDepth 100000
namespace Go.Proofs.YtmfbohanboiklaaGreatDoor
open Go.Sx
open Go.RowKit (Below)
end Go.Proofs.YtmfbohanboiklaaGreatDoor
set_option maxRecDepth 100000
namespace Go.Proofs.YtmfbohanboiklaaGreatDoor
open Go.Sx
open Go.RowKit (Below)
end Go.Proofs.YtmfbohanboiklaaGreatDoor
set_option maxRecDepth 100000
namespace Go.Proofs.YtmfbohanboiklaaGreatDoor
open Go.Sx
open Go.RowKit (Below)
end Go.Proofs.YtmfbohanboiklaaGreatDoor
set_option maxRecDepth 100000
namespace Go.Proofs.YtmfbohanboiklaaGreatDoor
open Go.Sx
open Go.RowKit (Below)
end Go.Proofs.YtmfbohanboiklaaGreatDoor
set_option maxRecDepth 100000
namespace Go.Proofs.YtmfbohanboiklaaGreatDoor
open Go.Sx
open Go.RowKit (Below)
end Go.Proofs.YtmfbohanboiklaaGreatDoor
