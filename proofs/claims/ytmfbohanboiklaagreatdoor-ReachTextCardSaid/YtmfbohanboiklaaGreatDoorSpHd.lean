import Derived.Test.YtmfbohanboiklaaGreatDoorSpHc
set_option linter.unusedSimpArgs false
set_option linter.unusedVariables false
set_option maxRecDepth 100000
namespace Go.Sx
def ia(a b:Key):Bool:=(aP a&&aP b)&&(decide (a.kind=0)||CM a b||(dL a.kind&&decide (a.kind=b.kind)&&decide (a.oid=b.oid)&&decide (a.count=b.count)&&decide (cG .andNot .i64 b.rights a.rights=0)))
def G1:Ct:=HA rK rK fun a b=> .bo (ia a b)
def fS(k:Key)(l:List Cp):Bool:=l.any fun x=>ia (cT (b6 k)) (cT x)
def Ce:Ct:=FA (dH Br (dH L5 mj)) (fun x=>some (mN x.2.1)) fun x=> .bo (fS (nf x.1) x.2.1)
def iN(k:Key)(l:List Cp)(g:Int):Prop:=0<=g/\g<=(aN l:Int)/\∀j:Nat,(j:Int)<g->ia (cT (b6 k)) (cT (gI l j))=false
end Go.Sx
