import Derived.Test.YtmfbohanboiklaaGreatSQ
import Derived.Test.YtmfbohanboiklaaGreatKS
set_option linter.unusedSimpArgs false
set_option linter.unusedVariables false
namespace Go.Sx
structure JN where
 kind:Int
 oid:Int
 key:Key
 mode:Int
 state:Int
 msg:FK
end Go.Sx
