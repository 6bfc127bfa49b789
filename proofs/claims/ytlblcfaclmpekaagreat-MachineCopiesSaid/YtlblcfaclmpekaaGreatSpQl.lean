import Derived.Test.YtlblcfaclmpekaaGreatSQ
import Derived.Test.YtlblcfaclmpekaaGreatKS
set_option linter.unusedSimpArgs false
set_option linter.unusedVariables false
namespace Go.Sx
structure VH where
 kind:Int
 oid:Int
 key:Key
 mode:Int
 state:Int
 msg:bk
theorem FT {L:List Obj} (h:aw L):ja L:=by have:=iN h;unfold ja;omega
end Go.Sx
