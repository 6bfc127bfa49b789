import Derived.Test.YtmfbohanboiklaaGreatSM
import Derived.Test.YtmfbohanboiklaaGreatSRl
set_option linter.unusedSimpArgs false
set_option linter.unusedVariables false
set_option maxRecDepth 100000
namespace Go.Sx
section
variable {L:List Obj} {n:Int} {k:Key} {m:FK} {p:EJ}
end
def Jc:EJ:=⟨0,0,0,0,0,⟨#[]⟩,0,0,0,false,0⟩
end Go.Sx
