import Derived.Test.YtghpaegglbbocaaGreatSRl
set_option linter.unusedSimpArgs false
set_option linter.unusedVariables false
namespace Go.Sx
def gL (l:List Obj) (p:Int) (r:Key):List Obj:=cx l p.toNat ⟨(ah l p.toNat free).kind,(ah l p.toNat free).count,(ah l p.toNat free).calls,(ah l p.toNat free).slots.put 0 r,(ah l p.toNat free).bytes⟩
def Df (l:List Obj) (p:Int) (r:Key):Key:=⟨5,p,(ah (gL l p r) p.toNat free).count,0,0,0⟩
def Ni (l:List Obj) (p:Int) (r:Key) (s:ByteArray) (x:List Int) (i c:Int):SM:=⟨Df l p r,⟨c,s,void,void,⟨1,0,0,0,0,ah x i.toNat 0⟩⟩,0⟩
def og (n:Nat) (g:Int×List Obj):Prop:=0<=g.1/\g.1<=(n:Int)/\aq g.2
def uq (n:Nat) (g:Int×List Obj):Nat:=n-g.1.toNat
def oa (g:Int×List Obj):Prop:=6<=g.1/\g.1<=8/\aq g.2
def rC (g:Int×List Obj):Nat:=(8-g.1).toNat
end Go.Sx
