import Derived.Test.YtmfbohanboiklaaGreatCN
import Derived.Test.YtmfbohanboiklaaGreatKS
import Derived.Test.YtmfbohanboiklaaGreatSpP
set_option linter.unusedSimpArgs false
set_option linter.unusedVariables false
namespace Go.Proofs.YtmfbohanboiklaaGreat
open Go.Sx
set_option maxRecDepth 100000
end Go.Proofs.YtmfbohanboiklaaGreat
namespace Go.Proofs.YtmfbohanboiklaaGreat
open Go.Sx
set_option maxRecDepth 100000
end Go.Proofs.YtmfbohanboiklaaGreat
