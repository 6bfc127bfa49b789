import Derived.Test.YtmfbohanboiklaaGreatSpR
set_option linter.unusedSimpArgs false
set_option linter.unusedVariables false
namespace Go.Sx
end Go.Sx
