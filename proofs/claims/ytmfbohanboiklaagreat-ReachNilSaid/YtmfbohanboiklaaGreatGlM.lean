import Derived.Test.YtmfbohanboiklaaGreatGlA
import Derived.Test.YtmfbohanboiklaaGreatSpMb
import Derived.SizedLaws
import Derived.Handed
set_option linter.unusedSimpArgs false
set_option linter.unusedVariables false
set_option maxRecDepth 100000
namespace Go.Proofs.YtmfbohanboiklaaGreat
open Go.Sx Go.ChangeShapes Go.WideShapes
def kI:List Kd:= [.i .i64]
def II:List Kd:=kI++(kI++(kI++ []))
def Jm:List Kd:=kI++(kI++(kI++(kI++(kI++([.s]++(II++([.b]++(kI++ []))))))))
def Is (x:EJ):Prop:=br .i64 x.kind/\br .i64 x.proc/\br .i64 x.reg/\br .i64 x.mode/\br .i64 x.code/\pk x.data/\(br .i64 x.s0/\br .i64 x.s1/\br .i64 x.s2/\True)/\True/\br .i64 x.val/\True
theorem Ey:Dt Jm Is HY:=
 DF (BT (cA (mE .i64) (cA (mE .i64) (cA (mE .i64) (cA (mE .i64) (cA (mE .i64) (cA HF (cA (BT (cA (mE .i64) (cA (mE .i64) (cA (mE .i64) ux)))) (cA GM (cA (mE .i64) ux))))))))))
  (fun x=>(⟨x.1,x.2.1,x.2.2.1,x.2.2.2.1,x.2.2.2.2.1,x.2.2.2.2.2.1,x.2.2.2.2.2.2.1.1,x.2.2.2.2.2.2.1.2.1,x.2.2.2.2.2.2.1.2.2.1,x.2.2.2.2.2.2.2.1,x.2.2.2.2.2.2.2.2.1⟩:EJ))
  (fun y:EJ=>(y.kind,y.proc,y.reg,y.mode,y.code,y.data,(y.s0,y.s1,y.s2,()),y.num,y.val,())) (fun _=>rfl) (fun _=>rfl)
end Go.Proofs.YtmfbohanboiklaaGreat
