import Derived.Test.YtmfbohanboiklaaSpHc
set_option linter.unusedSimpArgs false
set_option linter.unusedVariables false
set_option maxRecDepth 100000
namespace Go.Sx
def JU (U:St) (t:Nat):Nat:=
 match aJ U.slots t with
 | .v x=>match x with
   | .sa j=>j
   |_=>1000000
 |_=>1000000
def DQ (v:V):Int:=
 match v with
 | .it _ n=>n
 | .ci _ n=>n
 |_=>0
def Cy (v:V):List V:=
 match v with
 | .ag l=>l
 |_=> []
def Bi:List V->Nat->V
 | [],_=> .ci .i64 0
 |x::_,0=>x
 |_::l,n+1=>Bi l n
def HD (U:St) (t:Nat):Key:=
 match aJ U.slots t with
 | .v x=>match x with
   | .lp b _=>match aa U.res b with
     | .blk _ c=>⟨DQ (Bi (Cy c) 0),DQ (Bi (Cy c) 1),DQ (Bi (Cy c) 2),DQ (Bi (Cy c) 3),DQ (Bi (Cy c) 4),0⟩
     |_=>void
   |_=>void
 |_=>void
def Hq (fY:List Nat) (i t:Nat) (Lf:St->Int->List Cp) (inv:St->Int->Prop) (m:Int):bC:=
 {γ:=Int,head:=fun U g=> {U with slots:=CO fY [(t,.sa U.res.length),(i,.it .i64 g)] 0 U.slots,res:=aI U.res (JU U t) .gone++ [.arr none 5 (.qs 5 (Lf U g))]},
  inv:=fun _=>True,pin:=some inv,μ:=fun g=>gg (n9 m g),pre:= [.al t],prs:=fun _=> [.al t],ext:=IG t}
def lb (L:List Obj) (oid:Int) (g:Int):List Cp:=pd L [] oid false g
def bm (L:List Obj) (oid:Int) (g:Int):List Cp:=fF L oid g.toNat
def fl (L:List Obj) (F:List Cp) (k:Key) (g:Int):List Cp:=sI F (fun i=>cU L k (i:Int)) g.toNat
def gh (L:List Obj) (F:List Cp) (k:Key) (g:Int):List Cp:=sI F (ke L k.oid false) g.toNat
def Lv (fY:List Nat) (t:Nat) (Lf:St->List Cp):bC:=
 {γ:=Unit,head:=fun U _=> {U with slots:=CO fY [(t,.sa U.res.length)] 0 U.slots,res:=aI U.res (JU U t) .gone++ [.arr none 5 (.qs 5 (Lf U))]},
  inv:=fun _=>True,μ:=fun _=>0,pre:= [.al t],ext:=IG t}
def ep (L:List Obj) (F:List Cp) (k:Key):List Cp:=if k.kind=2 then Iq L F k else F
def Er (L:List Obj) (F:List Cp) (k:Key):List Cp:=if k.kind=5 then Jp L F k else F
def kH (L:List Obj) (oid:Int) (g:Int):Prop:=0<=g/\g<=((fF L oid g.toNat).length:Int)/\g<=8192
def u5 (L:List Obj) (oid:Int):Prop:=j5 L/\aE L oid=0
def KC:Ct:=CU (cH Jm (cH iA kB)) (fun x=>some (u5 x.1 x.2.1)) (fun _ n=> .sa n) fun x _=> [.arr (some vm) 5 (.qs 5 (dq x.1 x.2.1))]
def lF (L:List Obj) (g:Int):Prop:= -1<=g/\g<=(ae L:Int)+1/\(ae L:Int)<=20
end Go.Sx
