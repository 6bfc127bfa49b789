import Derived.Test.YtghpaegglbbocaaGreatGlA
import Derived.Test.YtghpaegglbbocaaGreatSRl
set_option linter.unusedSimpArgs false
set_option linter.unusedVariables false
set_option maxRecDepth 100000
namespace Go.Proofs.YtghpaegglbbocaaGreat
open Go.Sx Go.ChangeShapes Go.WideShapes
def Ss:List Kd:=wu++(wu++(wu++ []))
def Rd:List Kd:= [.i .i64]++([.s]++(Ss++ []))
def Nh (m:aZ):Prop:=cy .i64 m.code/\az m.data/\(m.k0.wf/\m.k1.wf/\m.k2.wf/\True)/\True
theorem Pz:E9 Rd Nh tH:=
 Dn (Bt (hS (MV .i64) (hS QM (hS (Bt (hS uc (hS uc (hS uc vt)))) vt))))
  (fun x=>(⟨x.1,x.2.1,x.2.2.1.1,x.2.2.1.2.1,x.2.2.1.2.2.1⟩:aZ)) (fun y:aZ=>(y.code,y.data,(y.k0,y.k1,y.k2,()),())) (fun _=>rfl) (fun _=>rfl)
def Rs:List Kd:=wu++(Rd++([.i .i64]++ []))
def P4 (x:Av):Prop:=x.key.wf/\Nh x.msg/\cy .i64 x.now/\True
theorem Iw:E9 Rs P4 LN:=
 Dn (Bt (hS uc (hS Pz (hS (MV .i64) vt))))
  (fun x=>(⟨x.1,x.2.1,x.2.2.1⟩:Av)) (fun y:Av=>(y.key,y.msg,y.now,())) (fun _=>rfl) (fun _=>rfl)
end Go.Proofs.YtghpaegglbbocaaGreat
