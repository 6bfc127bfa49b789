import Derived.Test.YtmfbohanboiklaaSpHd
set_option linter.unusedSimpArgs false
set_option linter.unusedVariables false
set_option maxRecDepth 100000
namespace Go.Sx
def kG (L:List Obj) (oid:Int) (ps:List Int):Bool:=(bX oid ps).all fun n=>decide (aC L n=0)
def iK (L M:List Obj) (oid:Int) (ps:List Int):Bool:=decide (aa L=aa M)&&kG L oid ps
def gH (L M:List Obj) (oid:Int) (ps:List Int):Int:=if aa L=aa M then(if kG L oid ps=true then 0 else 4)else 2
def dV (L:List Obj) (oid:Int) (ps:List Int) (g:Int):List Cp:=b8 L oid ps (g+1)
def gI (L M:List Obj) (oid:Int) (ps:List Int):List Cp:=(ah M oid).filter (uJ L M oid ps)
def qv (ps:List Int):Prop:=ps.length<=100
abbrev NG:Type:=Option (List Obj)×Option (List Obj)×Int×List Int×Unit
def NY:kS NG:=bR (JF tS eS) (bR (JF tS eS) (bR iA (bR Mp ji)))
def Ik (x:NG):Prop:=Jg x.1/\Jg x.2.1/\qv x.2.2.2.1
def D3:pd:=LM NY Ik (fun x=>iK (FK x.1) (FK x.2.1) x.2.2.1 x.2.2.2.1) (fun x=> .tp [Ny,.it .i64 (gH (FK x.1) (FK x.2.1) x.2.2.1 x.2.2.2.1)]) (fun _ n=> .tp [.sa n,.ci .i64 0]) fun x=> .arr (some qH) 5 (.qs 5 (gI (FK x.1) (FK x.2.1) x.2.2.1 x.2.2.2.1))
def zJ (L M:List Obj) (oid:Int) (ps:List Int):Prop:=dg L/\dg M/\aa L=aa M/\kG L oid ps=true/\qv ps
def JH:Ct:=B2 (bR Iv (bR Iv (bR iA (bR Mp ji)))) (fun x=>some (zJ x.1 x.2.1 x.2.2.1 x.2.2.2.1)) (fun _ n=> .sa n) fun x _=> [.arr (some qH) 5 (.qs 5 (gI x.1 x.2.1 x.2.2.1 x.2.2.2.1))]
def jJ (L M:List Obj) (oid:Int) (ps:List Int) (k:Key) (g:Int):Bool:=(!cZ k (b8 L oid ps ((bX oid ps).length:Int))&& !(bk k.kind&&decide ((ay L k.oid.toNat free).count<(ay M k.oid.toNat free).count)))&& !(decide (5<=k.kind)&&decide (k.kind<=7)&&(ps.take g.toNat).any fun p=>decide (p=k.oid))
def gU (ps:List Int) (g:Int):Prop:=0<=g/\g<=(aa ps:Int)
def oq (M:List Obj) (oid:Int) (g:Int):Prop:=0<=g/\g<=(aa (ah M oid):Int)
def dF (L:List Obj) (ps:List Int) (g:Int):Bool:=(ps.take g.toNat).all fun n=>decide (0<=n)&&decide (n<(aa L:Int))
def qU (ps:List Int) (g:Int):Prop:=0<=g/\g<=(aa ps:Int)/\aa ps<=4
def ko (L M:List Obj) (ps:List Int) (g:Int):Prop:=0<=g/\g<=(aa L:Int)
def ME (eZ:List Nat) (set:Int->List (Nat×V)) (t e esz:Nat) (Lf:Int->TL) (inv:Int->Prop) (m:Int):bx:=
 {γ:=Int,head:=fun U g=> {U with slots:=z7 eZ ((t,.sa U.res.length)::set g) 0 U.slots,res:=aM U.res (JU U t) .gone++ [.arr (some e) esz (Lf g)]},
  inv:=inv,μ:=fun g=>gm (lu m g),pre:= [.al t],ext:=G5 t}
def M9 (eZ:List Nat) (L M:List Obj) (oid:Int) (ps:List Int):bx:=
 {γ:=Int,head:=fun U g=> {U with slots:=z7 eZ [(17,.bo (jJ L M oid ps (Hp U 14) g)),(18,.it .i64 g)] 0 U.slots},inv:=gU ps,μ:=fun g=>gm (lu (aG (aa ps)) g)}
end Go.Sx
