import Derived.Test.YtghpaegglbbocaaGreatGlA
import Derived.Test.YtghpaegglbbocaaGreatSRl
set_option linter.unusedSimpArgs false
set_option linter.unusedVariables false
set_option maxRecDepth 100000
namespace Go.Proofs.YtghpaegglbbocaaGreat
open Go.Sx Go.ChangeShapes Go.WideShapes
def Xt:List Kd:=za++(za++(za++ []))
def Uq:List Kd:= [.i .i64]++([.s]++(Xt++ []))
def Sg (m:bm):Prop:=bY .i64 m.code/\aw m.data/\(m.k0.wf/\m.k1.wf/\m.k2.wf/\True)/\True
theorem EH:Ia Uq Sg jS:=
 Gv (ED (ji (RL .i64) (ji WC (ji (ED (ji wx (ji wx (ji wx yJ)))) yJ))))
  (fun x=>(⟨x.1,x.2.1,x.2.2.1.1,x.2.2.1.2.1,x.2.2.1.2.2.1⟩:bm)) (fun y:bm=>(y.code,y.data,(y.k0,y.k1,y.k2,()),())) (fun _=>rfl) (fun _=>rfl)
def JS:List Kd:=za++(Uq++([.i .i64]++ []))
def Wq (x:uq):Prop:=x.key.wf/\Sg x.msg/\bY .i64 x.now/\True
theorem uP:Ia JS Wq rM:=
 Gv (ED (ji wx (ji EH (ji (RL .i64) yJ))))
  (fun x=>(⟨x.1,x.2.1,x.2.2.1⟩:uq)) (fun y:uq=>(y.key,y.msg,y.now,())) (fun _=>rfl) (fun _=>rfl)
end Go.Proofs.YtghpaegglbbocaaGreat
