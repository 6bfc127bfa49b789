import Derived.Test.YtmfbohanboiklaaGreatDoorSpHd
set_option linter.unusedSimpArgs false
set_option linter.unusedVariables false
set_option maxRecDepth 100000
namespace Go.Sx
end Go.Sx
