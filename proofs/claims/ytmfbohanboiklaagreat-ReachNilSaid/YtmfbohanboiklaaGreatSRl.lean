import Derived.Test.YtmfbohanboiklaaGreatSpB
import Derived.Test.YtmfbohanboiklaaGreatKS
import Derived.Test.YtmfbohanboiklaaGreatSW
import Derived.Test.YtmfbohanboiklaaGreatSpP
import Derived.Test.YtmfbohanboiklaaGreatSpQl
import Derived.Test.YtmfbohanboiklaaGreatSpRd
set_option linter.unusedSimpArgs false
set_option linter.unusedVariables false
namespace Go.Sx
end Go.Sx
namespace Go.Sx
end Go.Sx
namespace Go.Sx
end Go.Sx
namespace Go.Sx
structure JO where
 key:Key
 msg:FK
 now:Int
end Go.Sx
