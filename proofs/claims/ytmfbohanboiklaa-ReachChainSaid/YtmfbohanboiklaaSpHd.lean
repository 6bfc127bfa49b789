import Derived.Test.YtmfbohanboiklaaSpHc
set_option linter.unusedSimpArgs false
set_option linter.unusedVariables false
set_option maxRecDepth 100000
namespace Go.Sx
def La (U:St) (t:Nat):Nat:=
 match aJ U.slots t with
 | .v x=>match x with
   | .sa j=>j
   |_=>1000000
 |_=>1000000
def Db (v:V):Int:=
 match v with
 | .it _ n=>n
 | .ci _ n=>n
 |_=>0
def CV (v:V):List V:=
 match v with
 | .ag l=>l
 |_=> []
def BQ:List V->Nat->V
 | [],_=> .ci .i64 0
 |x::_,0=>x
 |_::l,n+1=>BQ l n
def Jd (U:St) (t:Nat):Key:=
 match aJ U.slots t with
 | .v x=>match x with
   | .lp b _=>match ae U.res b with
     | .blk _ c=>⟨Db (BQ (CV c) 0),Db (BQ (CV c) 1),Db (BQ (CV c) 2),Db (BQ (CV c) 3),Db (BQ (CV c) 4),0⟩
     |_=>void
   |_=>void
 |_=>void
def Jn (gd:List Nat) (i t:Nat) (Lf:St->Int->List Cp) (inv:St->Int->Prop) (m:Int):bD:=
 {γ:=Int,head:=fun U g=> {U with slots:=DO gd [(t,.sa U.res.length),(i,.it .i64 g)] 0 U.slots,res:=aI U.res (La U t) .gone++ [.arr none 5 (.qs 5 (Lf U g))]},
  inv:=fun _=>True,pin:=some inv,μ:=fun g=>gm (nD m g),pre:= [.al t],prs:=fun _=> [.al t],ext:=HY t}
def lg (L:List Obj) (oid:Int) (g:Int):List Cp:=ou L [] oid false g
def bp (L:List Obj) (oid:Int) (g:Int):List Cp:=eV L oid g.toNat
def fm (L:List Obj) (F:List Cp) (k:Key) (g:Int):List Cp:=td F (fun i=>cZ L k (i:Int)) g.toNat
def gp (L:List Obj) (F:List Cp) (k:Key) (g:Int):List Cp:=td F (jj L k.oid false) g.toNat
def L3 (gd:List Nat) (t:Nat) (Lf:St->List Cp):bD:=
 {γ:=Unit,head:=fun U _=> {U with slots:=DO gd [(t,.sa U.res.length)] 0 U.slots,res:=aI U.res (La U t) .gone++ [.arr none 5 (.qs 5 (Lf U))]},
  inv:=fun _=>True,μ:=fun _=>0,pre:= [.al t],ext:=HY t}
def eu (L:List Obj) (F:List Cp) (k:Key):List Cp:=if k.kind=2 then Ii L F k else F
def Em (L:List Obj) (F:List Cp) (k:Key):List Cp:=if k.kind=5 then JW L F k else F
def kZ (L:List Obj) (oid:Int) (g:Int):Prop:=0<=g/\g<=((eV L oid g.toNat).length:Int)/\g<=8192
def uQ (L:List Obj) (oid:Int):Prop:=fC L/\aC L oid=0
def Kt:Ct:=CG (cD H7 (cD iA ku)) (fun x=>some (uQ x.1 x.2.1)) (fun _ n=> .sa n) fun x _=> [.arr (some u7) 5 (.qs 5 (dt x.1 x.2.1))]
def lN (L:List Obj) (g:Int):Prop:= -1<=g/\g<=(aa L:Int)+1/\(aa L:Int)<=20
def mo (g:Int):Prop:=0<=g/\g<=9000
def uj (x:List Int) (i:Int):Key:=if decide ((au x i.toNat 0).tmod 9=8)=true then⟨5,(i+1).tmod (aa x:Int),1,0,0,0⟩else⟨2,(i+1).tmod (aa x:Int),1,0,(au x i.toNat 0).tmod 8,0⟩
def uh (x:List Int) (e:Key) (i:Int):bZ:=if decide (i=(aa x:Int)-1)=true then(eX.put i.toNat (uj x i)).put 15 e else eX.put i.toNat (uj x i)
def C2 (x:List Int) (e:Key) (i:Int):Obj:=⟨1,1,0,uh x e i,gF⟩
def eR (x:List Int) (e:Key) (g:Int):List Obj:=(List.range g.toNat).map fun(i:Nat)=>C2 x e (i:Int)
def iM (x:List Int) (g:Int):Prop:=0<=g/\g<=(aa x:Int)/\(aa x:Int)<=10
def IQ:Ct:=HK (cD H7 ku) (fun _=>none) fun _=> .bo true
end Go.Sx
