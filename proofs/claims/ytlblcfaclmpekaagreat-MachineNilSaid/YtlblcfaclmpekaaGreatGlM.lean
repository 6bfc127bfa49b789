import Derived.Test.YtlblcfaclmpekaaGreatGlA
import Derived.Test.YtlblcfaclmpekaaGreatSpMb
set_option linter.unusedSimpArgs false
set_option linter.unusedVariables false
set_option maxRecDepth 100000
namespace Go.Proofs.YtlblcfaclmpekaaGreat
open Go.Sx Go.ChangeShapes Go.WideShapes
def kI:List Kd:= [.i .i64]
def Tm:List Kd:=kI++(kI++(kI++ []))
def Tn:List Kd:=kI++(kI++(kI++(kI++(kI++([.s]++(Tm++([.b]++(kI++ []))))))))
def Ty (x:kh):Prop:=b7 .i64 x.kind/\b7 .i64 x.proc/\b7 .i64 x.reg/\b7 .i64 x.mode/\b7 .i64 x.code/\au x.data/\(b7 .i64 x.s0/\b7 .i64 x.s1/\b7 .i64 x.s2/\True)/\True/\b7 .i64 x.val/\True
theorem H3:KV Tn Ty KY:=
 MU (KK (fB (ru .i64) (fB (ru .i64) (fB (ru .i64) (fB (ru .i64) (fB (ru .i64) (fB Sb (fB (KK (fB (ru .i64) (fB (ru .i64) (fB (ru .i64) BM)))) (fB SF (fB (ru .i64) BM))))))))))
  (fun x=>(⟨x.1,x.2.1,x.2.2.1,x.2.2.2.1,x.2.2.2.2.1,x.2.2.2.2.2.1,x.2.2.2.2.2.2.1.1,x.2.2.2.2.2.2.1.2.1,x.2.2.2.2.2.2.1.2.2.1,x.2.2.2.2.2.2.2.1,x.2.2.2.2.2.2.2.2.1⟩:kh))
  (fun y:kh=>(y.kind,y.proc,y.reg,y.mode,y.code,y.data,(y.s0,y.s1,y.s2,()),y.num,y.val,())) (fun _=>rfl) (fun _=>rfl)
end Go.Proofs.YtlblcfaclmpekaaGreat
