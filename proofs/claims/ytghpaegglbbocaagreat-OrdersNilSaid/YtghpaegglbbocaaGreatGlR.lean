import Derived.Test.YtghpaegglbbocaaGreatGlA
import Derived.Test.YtghpaegglbbocaaGreatSRl
set_option linter.unusedSimpArgs false
set_option linter.unusedVariables false
set_option maxRecDepth 100000
namespace Go.Proofs.YtghpaegglbbocaaGreat
open Go.Sx Go.ChangeShapes Go.WideShapes
def Xn:List Kd:=yX++(yX++(yX++ []))
def Uj:List Kd:= [.i .i64]++([.s]++(Xn++ []))
def RQ (m:bm):Prop:=bY .i64 m.code/\aw m.data/\(m.k0.wf/\m.k1.wf/\m.k2.wf/\True)/\True
theorem EK:H6 Uj RQ jR:=
 Gx (EB (jb (RL .i64) (jb Vv (jb (EB (jb wj (jb wj (jb wj xZ)))) xZ))))
  (fun x=>(⟨x.1,x.2.1,x.2.2.1.1,x.2.2.1.2.1,x.2.2.1.2.2.1⟩:bm)) (fun y:bm=>(y.code,y.data,(y.k0,y.k1,y.k2,()),())) (fun _=>rfl) (fun _=>rfl)
def Mb:List Kd:=yX++(Uj++([.i .i64]++ []))
def Wm (x:sJ):Prop:=x.key.wf/\RQ x.msg/\bY .i64 x.now/\True
theorem uL:H6 Mb Wm rQ:=
 Gx (EB (jb wj (jb EK (jb (RL .i64) xZ))))
  (fun x=>(⟨x.1,x.2.1,x.2.2.1⟩:sJ)) (fun y:sJ=>(y.key,y.msg,y.now,())) (fun _=>rfl) (fun _=>rfl)
end Go.Proofs.YtghpaegglbbocaaGreat
