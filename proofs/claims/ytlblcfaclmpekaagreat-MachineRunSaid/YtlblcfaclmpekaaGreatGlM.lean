import Derived.Test.YtlblcfaclmpekaaGreatGlA
import Derived.Test.YtlblcfaclmpekaaGreatSpMb
set_option linter.unusedSimpArgs false
set_option linter.unusedVariables false
set_option maxRecDepth 100000
namespace Go.Proofs.YtlblcfaclmpekaaGreat
open Go.Sx Go.ChangeShapes Go.WideShapes
def kI:List Kd:= [.i .i64]
def UM:List Kd:=kI++(kI++(kI++ []))
def Vm:List Kd:=kI++(kI++(kI++(kI++(kI++([.s]++(UM++([.b]++(kI++ []))))))))
def Uc (x:k7):Prop:=cj .i64 x.kind/\cj .i64 x.proc/\cj .i64 x.reg/\cj .i64 x.mode/\cj .i64 x.code/\aw x.data/\(cj .i64 x.s0/\cj .i64 x.s1/\cj .i64 x.s2/\True)/\True/\cj .i64 x.val/\True
theorem Si:Na Vm Uc Lu:=
 NM (Hb (fK (rT .i64) (fK (rT .i64) (fK (rT .i64) (fK (rT .i64) (fK (rT .i64) (fK Sk (fK (Hb (fK (rT .i64) (fK (rT .i64) (fK (rT .i64) BC)))) (fK S2 (fK (rT .i64) BC))))))))))
  (fun x=>(⟨x.1,x.2.1,x.2.2.1,x.2.2.2.1,x.2.2.2.2.1,x.2.2.2.2.2.1,x.2.2.2.2.2.2.1.1,x.2.2.2.2.2.2.1.2.1,x.2.2.2.2.2.2.1.2.2.1,x.2.2.2.2.2.2.2.1,x.2.2.2.2.2.2.2.2.1⟩:k7))
  (fun y:k7=>(y.kind,y.proc,y.reg,y.mode,y.code,y.data,(y.s0,y.s1,y.s2,()),y.num,y.val,())) (fun _=>rfl) (fun _=>rfl)
end Go.Proofs.YtlblcfaclmpekaaGreat
