import Derived.Test.YtlblcfaclmpekaaGreatSQ
import Derived.Test.YtlblcfaclmpekaaGreatKS
set_option linter.unusedSimpArgs false
set_option linter.unusedVariables false
namespace Go.Sx
structure Xk where
 kind:Int
 oid:Int
 key:Key
 mode:Int
 state:Int
 msg:bh
theorem Hj {L:List Obj} (h:aq L):jn L:=by have:=gf h;unfold jn;omega
end Go.Sx
