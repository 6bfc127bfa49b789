import Derived.Test.YtmfbohanboiklaaGreatKS
set_option linter.unusedSimpArgs false
set_option linter.unusedVariables false
namespace Go.Sx
def pk (s:ByteArray):Prop:=(s.size:Int)<=9223372036854775807
structure Jr where
 kind:Int
 pos:Int
 num:Int
 key:Key
 other:Key
 bytes:ByteArray
def Jr.wf (x:Jr):Prop:=br .i64 x.kind/\br .i64 x.pos/\br .i64 x.num/\x.key.wf/\x.other.wf/\pk x.bytes
end Go.Sx
