import Derived.Test.YtmfbohanboiklaaGreatSpR
set_option linter.unusedSimpArgs false
set_option linter.unusedVariables false
set_option maxRecDepth 100000
namespace Go.Sx
structure EJ where
 kind:Int
 proc:Int
 reg:Int
 mode:Int
 code:Int
 data:ByteArray
 s0:Int
 s1:Int
 s2:Int
 num:Bool
 val:Int
def HY (o:EJ):V:= .ag [.it .i64 o.kind,.it .i64 o.proc,.it .i64 o.reg,.it .i64 o.mode,.it .i64 o.code,.st o.data,.ag [.it .i64 o.s0,.it .i64 o.s1,.it .i64 o.s2],.bo o.num,.it .i64 o.val]
structure Dn where
 out:Int
 proc:Int
 err:Int
 ans:FK
 wants:Bool
end Go.Sx
set_option maxRecDepth 100000
namespace Go.Sx
end Go.Sx
