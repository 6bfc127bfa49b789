import Derived.Test.YtmfbohanboiklaaSpHc
set_option linter.unusedSimpArgs false
set_option linter.unusedVariables false
set_option maxRecDepth 100000
namespace Go.Sx
def LJ (U:St) (t:Nat):Nat:=
 match aN U.slots t with
 | .v x=>match x with
   | .sa j=>j
   |_=>1000000
 |_=>1000000
def DV (v:V):Int:=
 match v with
 | .it _ n=>n
 | .ci _ n=>n
 |_=>0
def Da (v:V):List V:=
 match v with
 | .ag l=>l
 |_=> []
def Bj:List V->Nat->V
 | [],_=> .ci .i64 0
 |x::_,0=>x
 |_::l,n+1=>Bj l n
def JU (U:St) (t:Nat):Key:=
 match aN U.slots t with
 | .v x=>match x with
   | .lp b _=>match ae U.res b with
     | .blk _ c=>⟨DV (Bj (Da c) 0),DV (Bj (Da c) 1),DV (Bj (Da c) 2),DV (Bj (Da c) 3),DV (Bj (Da c) 4),0⟩
     |_=>void
   |_=>void
 |_=>void
def JO (fF:List Nat) (i t:Nat) (Lf:St->Int->List Cp) (inv:St->Int->Prop) (m:Int):bC:=
 {γ:=Int,head:=fun U g=> {U with slots:=Cs fF [(t,.sa U.res.length),(i,.it .i64 g)] 0 U.slots,res:=aL U.res (LJ U t) .gone++ [.arr none 5 (.qs 5 (Lf U g))]},
  inv:=fun _=>True,pin:=some inv,μ:=fun g=>gz (nZ m g),pre:= [.al t],prs:=fun _=> [.al t],ext:=JJ t}
def lD (L:List Obj) (oid:Int) (g:Int):List Cp:=oi L [] oid false g
def bq (L:List Obj) (oid:Int) (g:Int):List Cp:=fc L oid g.toNat
def fD (L:List Obj) (F:List Cp) (k:Key) (g:Int):List Cp:=tx F (fun i=>dc L k (i:Int)) g.toNat
def gu (L:List Obj) (F:List Cp) (k:Key) (g:Int):List Cp:=tx F (iH L k.oid false) g.toNat
def MY (fF:List Nat) (t:Nat) (Lf:St->List Cp):bC:=
 {γ:=Unit,head:=fun U _=> {U with slots:=Cs fF [(t,.sa U.res.length)] 0 U.slots,res:=aL U.res (LJ U t) .gone++ [.arr none 5 (.qs 5 (Lf U))]},
  inv:=fun _=>True,μ:=fun _=>0,pre:= [.al t],ext:=JJ t}
def eu (L:List Obj) (F:List Cp) (k:Key):List Cp:=if k.kind=2 then J6 L F k else F
def C9 (L:List Obj) (F:List Cp) (k:Key):List Cp:=if k.kind=5 then Kx L F k else F
def lN (L:List Obj) (oid:Int) (g:Int):Prop:=0<=g/\g<=((fc L oid g.toNat).length:Int)/\g<=8192
def wc (L:List Obj) (oid:Int):Prop:=dW L/\az L oid=0
def KW:Ct:=EU (cy Jn (cy iA j8)) (fun x=>some (wc x.1 x.2.1)) (fun _ n=> .sa n) fun x _=> [.arr (some vq) 5 (.qs 5 (aI x.1 x.2.1))]
def mM (L:List Obj) (g:Int):Prop:= -1<=g/\g<=(aa L:Int)+1/\(aa L:Int)<=20
def dB (g:Int):Prop:=0<=g/\g<=9000
def uW (x:List Int) (i:Int):Key:=if decide ((aq x i.toNat 0).tmod 9=8)=true then⟨5,(i+1).tmod (aa x:Int),1,0,0,0⟩else⟨2,(i+1).tmod (aa x:Int),1,0,(aq x i.toNat 0).tmod 8,0⟩
def uG (x:List Int) (e:Key) (i:Int):b6:=if decide (i=(aa x:Int)-1)=true then(eZ.put i.toNat (uW x i)).put 15 e else eZ.put i.toNat (uW x i)
def CV (x:List Int) (e:Key) (i:Int):Obj:=⟨1,1,0,uG x e i,gI⟩
def eT (x:List Int) (e:Key) (g:Int):List Obj:=(List.range g.toNat).map fun(i:Nat)=>CV x e (i:Int)
def iN (x:List Int) (g:Int):Prop:=0<=g/\g<=(aa x:Int)/\(aa x:Int)<=10
def Jt:Ct:=FT (cy Jn j8) (fun _=>none) fun _=> .bo true
def je (a b:Key):Bool:=(aw a&&aw b)&&(decide (a.kind=0)||tX a b||(lE a.kind&&decide (a.kind=b.kind)&&decide (a.oid=b.oid)&&decide (a.count=b.count)&&decide (b7 .andNot .i64 b.rights a.rights=0)))
def Js:Ct:=Iy rK rK fun a b=> .bo (je a b)
def il (k:Key) (l:List Cp):Bool:=l.any fun x=>je (bP (bc k)) (bP x)
def J4:Ct:=FT (cy Bc (cy Kw j8)) (fun x=>some (c9 x.2.1)) fun x=> .bo (il (rX x.1) x.2.1)
def qX (k:Key) (l:List Cp) (g:Int):Prop:=0<=g/\g<=(aa l:Int)/\∀j:Nat,(j:Int)<g->je (bP (bc k)) (bP (cJ l j))=false
def dE (L:List Obj) (oid:Int) (k:Key) (j:Int):Obj:=if decide (j<16)=true then⟨(aq L oid.toNat free).kind,(aq L oid.toNat free).count,(aq L oid.toNat free).calls,(aq L oid.toNat free).slots.put j.toNat k,(aq L oid.toNat free).bytes⟩else aq L oid.toNat free
def jK (L:List Obj) (oid:Int) (g:Int):Prop:=4<=g/\g<=16
def iV (L:List Obj) (oid:Int) (g:Int):Prop:=4<=g/\(g<16->(aq L oid.toNat free).slots.at g.toNat=void)
abbrev NA:Nat:=33
end Go.Sx
