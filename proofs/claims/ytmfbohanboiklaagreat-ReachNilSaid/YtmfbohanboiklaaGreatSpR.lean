import Derived.Test.YtmfbohanboiklaaGreatSQ
import Derived.Test.YtmfbohanboiklaaGreatSW
import Derived.Test.YtmfbohanboiklaaGreatSpB
set_option linter.unusedSimpArgs false
set_option linter.unusedVariables false
namespace Go.Sx
def kk (c:Int) (k:Key):Key:=⟨c,k.oid,k.count,k.call,k.rights,k.value⟩
def mm (c:Int) (m:FK):FK:=⟨c,m.data,m.k0,m.k1,m.k2⟩
end Go.Sx
