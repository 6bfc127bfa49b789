import Derived.Test.YtghpaegglbbocaaGreatGlA
import Derived.Test.YtghpaegglbbocaaGreatSRl
set_option maxRecDepth 100000
namespace Go.Proofs.YtghpaegglbbocaaGreat
open Go.Sx Go.ChangeShapes Go.WideShapes
def Xd:List Kd:=yY++(yY++(yY++ []))
def Ug:List Kd:= [.i .i64]++([.s]++(Xd++ []))
def RT (m:bm):Prop:=bY .i64 m.code/\aw m.data/\(m.k0.wf/\m.k1.wf/\m.k2.wf/\True)/\True
theorem En:H4 Ug RT jP:=
 FU (DK (jd (RK .i64) (jd U3 (jd (DK (jd wF (jd wF (jd wF xC)))) xC))))
  (fun x=>(⟨x.1,x.2.1,x.2.2.1.1,x.2.2.1.2.1,x.2.2.1.2.2.1⟩:bm)) (fun y:bm=>(y.code,y.data,(y.k0,y.k1,y.k2,()),())) (fun _=>rfl) (fun _=>rfl)
def J4:List Kd:=yY++(Ug++([.i .i64]++ []))
def VM (x:tx):Prop:=x.key.wf/\RT x.msg/\bY .i64 x.now/\True
theorem va:H4 J4 VM se:=
 FU (DK (jd wF (jd En (jd (RK .i64) xC))))
  (fun x=>(⟨x.1,x.2.1,x.2.2.1⟩:tx)) (fun y:tx=>(y.key,y.msg,y.now,())) (fun _=>rfl) (fun _=>rfl)
end Go.Proofs.YtghpaegglbbocaaGreat
