import Derived.Test.YtghpaegglbbocaaGreatGlA
import Derived.Test.YtghpaegglbbocaaGreatSRl
set_option linter.unusedSimpArgs false
set_option linter.unusedVariables false
set_option maxRecDepth 100000
namespace Go.Proofs.YtghpaegglbbocaaGreat
open Go.Sx Go.ChangeShapes Go.WideShapes
def V3:List Kd:= [.i .i64]++(DG++([.s]++ []))
theorem HJ:Qx V3 (fun x:Int×Key×ByteArray×Unit=>cg .i64 x.1/\x.2.1.wf/\aA x.2.2.1/\True) (fun x=> .ag [.it .i64 x.1,.key x.2.1,.st x.2.2.1]):=Tb (ux (Rh .i64) (ux Pn (ux U5 Jf)))
end Go.Proofs.YtghpaegglbbocaaGreat
