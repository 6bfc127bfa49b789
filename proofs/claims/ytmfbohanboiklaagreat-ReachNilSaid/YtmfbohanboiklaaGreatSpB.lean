import Derived.Test.YtmfbohanboiklaaGreatSpP
import Derived.Test.YtmfbohanboiklaaGreatKS
set_option linter.unusedSimpArgs false
set_option linter.unusedVariables false
namespace Go.Sx
structure Jn where
 kind:Int
 num:Int
 bank:Key
 key:Key
 obj:Int
def Jn.wf (x:Jn):Prop:=br .i64 x.kind/\br .i64 x.num/\x.bank.wf/\x.key.wf/\br .i64 x.obj
end Go.Sx
