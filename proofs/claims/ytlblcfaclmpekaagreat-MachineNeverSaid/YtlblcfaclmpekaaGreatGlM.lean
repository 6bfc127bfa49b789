import Derived.Test.YtlblcfaclmpekaaGreatGlA
import Derived.Test.YtlblcfaclmpekaaGreatSpMb
import Derived.SizedLaws
import Derived.Handed
set_option linter.unusedSimpArgs false
set_option linter.unusedVariables false
set_option maxRecDepth 100000
namespace Go.Proofs.YtlblcfaclmpekaaGreat
open Go.Sx Go.ChangeShapes Go.WideShapes
def kI:List Kd:= [.i .i64]
def Wp:List Kd:=kI++(kI++(kI++ []))
def WT:List Kd:=kI++(kI++(kI++(kI++(kI++([.s]++(Wp++([.b]++(kI++ []))))))))
def V1 (x:ke):Prop:=cg .i64 x.kind/\cg .i64 x.proc/\cg .i64 x.reg/\cg .i64 x.mode/\cg .i64 x.code/\aw x.data/\(cg .i64 x.s0/\cg .i64 x.s1/\cg .i64 x.s2/\True)/\True/\cg .i64 x.val/\True
theorem TY:Lu WT V1 Su:=
 Nu (K2 (fO (sq .i64) (fO (sq .i64) (fO (sq .i64) (fO (sq .i64) (fO (sq .i64) (fO UO (fO (K2 (fO (sq .i64) (fO (sq .i64) (fO (sq .i64) Cb)))) (fO Us (fO (sq .i64) Cb))))))))))
  (fun x=>(⟨x.1,x.2.1,x.2.2.1,x.2.2.2.1,x.2.2.2.2.1,x.2.2.2.2.2.1,x.2.2.2.2.2.2.1.1,x.2.2.2.2.2.2.1.2.1,x.2.2.2.2.2.2.1.2.2.1,x.2.2.2.2.2.2.2.1,x.2.2.2.2.2.2.2.2.1⟩:ke))
  (fun y:ke=>(y.kind,y.proc,y.reg,y.mode,y.code,y.data,(y.s0,y.s1,y.s2,()),y.num,y.val,())) (fun _=>rfl) (fun _=>rfl)
end Go.Proofs.YtlblcfaclmpekaaGreat
