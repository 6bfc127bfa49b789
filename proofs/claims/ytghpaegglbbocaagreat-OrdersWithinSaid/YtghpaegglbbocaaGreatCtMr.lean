import Derived.Test.YtghpaegglbbocaaGreatCtRc
set_option linter.unusedSimpArgs false
set_option linter.unusedVariables false
namespace Go.Proofs.YtghpaegglbbocaaGreat
open Go.Sx
set_option maxRecDepth 100000
end Go.Proofs.YtghpaegglbbocaaGreat
