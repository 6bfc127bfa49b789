import Derived.Test.YtmfbohanboiklaaGreatCP
import Derived.Test.YtmfbohanboiklaaGreatSpP
import Derived.Test.YtmfbohanboiklaaGreatKS
set_option linter.unusedSimpArgs false
set_option linter.unusedVariables false
namespace Go.Sx
structure Wk where
 pos:Key
 adr:Int
 rts:Int
 kpr:Key
 dep:Int
 hi:Int
structure Wr where
 kd:Int
 pos:Key
 adr:Int
 kpr:Key
 dep:Int
end Go.Sx
namespace Go.Sx
structure JL where
 kind:Int
 num:Int
 root:Key
 adr:Int
 bytes:ByteArray
structure JM where
 hgt:Int
 slot:Int
 rts:Int
 kept:Bool
end Go.Sx
