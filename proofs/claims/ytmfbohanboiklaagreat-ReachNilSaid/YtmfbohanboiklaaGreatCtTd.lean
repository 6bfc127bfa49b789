import Derived.Test.YtmfbohanboiklaaGreatCtTc
import Derived.Test.YtmfbohanboiklaaGreatSpHe
set_option linter.unusedSimpArgs false
set_option linter.unusedVariables false
namespace Go.Proofs.YtmfbohanboiklaaGreat
open Go.Sx
set_option maxRecDepth 100000
end Go.Proofs.YtmfbohanboiklaaGreat
