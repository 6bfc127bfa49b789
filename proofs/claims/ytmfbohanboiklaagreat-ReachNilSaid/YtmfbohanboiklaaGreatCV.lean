import Derived.Test.YtmfbohanboiklaaGreatSxF
import Derived.RecoverIn
set_option linter.unusedSimpArgs false
set_option linter.unusedVariables false
set_option maxRecDepth 100000
namespace Go.Proofs.YtmfbohanboiklaaGreat
open Go.Sx
open Go.RowKit (Below)
end Go.Proofs.YtmfbohanboiklaaGreat
set_option maxRecDepth 100000
namespace Go.Proofs.YtmfbohanboiklaaGreat
open Go.Sx
open Go.RowKit (Below)
end Go.Proofs.YtmfbohanboiklaaGreat
set_option maxRecDepth 100000
namespace Go.Proofs.YtmfbohanboiklaaGreat
open Go.Sx
open Go.RowKit (Below)
end Go.Proofs.YtmfbohanboiklaaGreat
set_option maxRecDepth 100000
namespace Go.Proofs.YtmfbohanboiklaaGreat
open Go.Sx
open Go.RowKit (Below)
end Go.Proofs.YtmfbohanboiklaaGreat
set_option maxRecDepth 100000
namespace Go.Proofs.YtmfbohanboiklaaGreat
open Go.Sx
open Go.RowKit (Below)
end Go.Proofs.YtmfbohanboiklaaGreat
set_option maxRecDepth 100000
namespace Go.Proofs.YtmfbohanboiklaaGreat
open Go.Sx
open Go.RowKit (Below)
end Go.Proofs.YtmfbohanboiklaaGreat
