import Derived.Test.YtmfbohanboiklaaGreatKS
import Derived.Test.YtmfbohanboiklaaGreatSpP
set_option linter.unusedSimpArgs false
set_option linter.unusedVariables false
namespace Go.Sx
end Go.Sx
namespace Go.Sx
structure FK where
 code:Int
 data:ByteArray
 k0:Key
 k1:Key
 k2:Key
end Go.Sx
set_option maxRecDepth 100000
namespace Go.Sx
section
variable {L:List Obj} {i:Int} {k:Key} {md:Int} {m:FK}
end
end Go.Sx
