import Derived.Test.YtghpaegglbbocaaGreatCtQa
import Derived.Test.YtghpaegglbbocaaGreatSQ
import Derived.Test.YtghpaegglbbocaaGreatCN
set_option linter.unusedSimpArgs false
set_option linter.unusedVariables false
namespace Go.Proofs.YtghpaegglbbocaaGreat
open Go.Sx
set_option maxRecDepth 100000
end Go.Proofs.YtghpaegglbbocaaGreat
