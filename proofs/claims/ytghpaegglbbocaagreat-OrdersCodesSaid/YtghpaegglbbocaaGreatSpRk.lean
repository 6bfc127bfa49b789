import Derived.Test.YtghpaegglbbocaaGreatSRl
set_option linter.unusedSimpArgs false
set_option linter.unusedVariables false
namespace Go.Sx
abbrev Yj:Nat:=30
def x9 (c g:Int):Int:=if g<0 then c else g-1
def Yg (a:uq) (c:Int):V:= .ag [.key a.key,.ag [.it .i64 c,.st a.msg.data,.ag [.key a.msg.k0,.key a.msg.k1,.key a.msg.k2]],.it .i64 a.now]
def ug (g:Int):Prop:= -1<=g/\g<=10
def sw (g:Int):Nat:=(10-g).toNat
def XO (m:bm) (c:Int):V:= .ag [.it .i64 c,.st m.data,.ag [.key m.k0,.key m.k1,.key m.k2]]
def mP (g:Int×Int):Int:=if g.1=0 then g.2 else g.1-1
def iH (n:Int) (g:Int×Int):Prop:=0<=g.1/\g.1<=n
def gK (n:Int) (g:Int×Int):Nat:=(n-g.1).toNat
def UQ (a:uq) (c:Int):uq:=⟨a.key,⟨c,a.msg.data,a.msg.k0,a.msg.k1,a.msg.k2⟩,a.now⟩
def GJ (l:List Obj) (o:Int) (m:bm) (k c:Int):uq:=⟨⟨k,o,(ah l o.toNat free).count,void.call,void.rights,void.value⟩,⟨c,m.data,m.k0,m.k1,m.k2⟩,7⟩
def GU (m:bm) (k c:Int):uq:=⟨⟨k,void.oid,void.count,void.call,void.rights,void.value⟩,⟨c,m.data,m.k0,m.k1,m.k2⟩,7⟩
end Go.Sx
