import Derived.Test.YtmfbohanboiklaaSpHc
set_option linter.unusedSimpArgs false
set_option linter.unusedVariables false
set_option maxRecDepth 100000
namespace Go.Sx
def JU (U:St) (t:Nat):Nat:=
 match aO U.slots t with
 | .v x=>match x with
   | .sa j=>j
   |_=>1000000
 |_=>1000000
def Ff (v:V):Int:=
 match v with
 | .it _ n=>n
 | .ci _ n=>n
 |_=>0
def Dj (v:V):List V:=
 match v with
 | .ag l=>l
 |_=> []
def A9:List V->Nat->V
 | [],_=> .ci .i64 0
 |x::_,0=>x
 |_::l,n+1=>A9 l n
def Hp (U:St) (t:Nat):Key:=
 match aO U.slots t with
 | .v x=>match x with
   | .lp b _=>match ae U.res b with
     | .blk _ c=>⟨Ff (A9 (Dj c) 0),Ff (A9 (Dj c) 1),Ff (A9 (Dj c) 2),Ff (A9 (Dj c) 3),Ff (A9 (Dj c) 4),0⟩
     |_=>void
   |_=>void
 |_=>void
def I6 (eZ:List Nat) (i t:Nat) (Lf:St->Int->List Cp) (inv:St->Int->Prop) (m:Int):bx:=
 {γ:=Int,head:=fun U g=> {U with slots:=z7 eZ [(t,.sa U.res.length),(i,.it .i64 g)] 0 U.slots,res:=aM U.res (JU U t) .gone++ [.arr none 5 (.qs 5 (Lf U g))]},
  inv:=fun _=>True,pin:=some inv,μ:=fun g=>gm (lu m g),pre:= [.al t],prs:=fun _=> [.al t],ext:=G5 t}
def lH (L:List Obj) (oid:Int) (g:Int):List Cp:=oC L [] oid false g
def bu (L:List Obj) (oid:Int) (g:Int):List Cp:=fc L oid g.toNat
def fH (L:List Obj) (F:List Cp) (k:Key) (g:Int):List Cp:=tx F (fun i=>df L k (i:Int)) g.toNat
def gG (L:List Obj) (F:List Cp) (k:Key) (g:Int):List Cp:=tx F (kM L k.oid false) g.toNat
def MG (eZ:List Nat) (t:Nat) (Lf:St->List Cp):bx:=
 {γ:=Unit,head:=fun U _=> {U with slots:=z7 eZ [(t,.sa U.res.length)] 0 U.slots,res:=aM U.res (JU U t) .gone++ [.arr none 5 (.qs 5 (Lf U))]},
  inv:=fun _=>True,μ:=fun _=>0,pre:= [.al t],ext:=G5 t}
def ez (L:List Obj) (F:List Cp) (k:Key):List Cp:=if k.kind=2 then I3 L F k else F
def EE (L:List Obj) (F:List Cp) (k:Key):List Cp:=if k.kind=5 then KV L F k else F
def lW (L:List Obj) (oid:Int) (g:Int):Prop:=0<=g/\g<=((fc L oid g.toNat).length:Int)/\g<=8192
def rJ (L:List Obj) (oid:Int):Prop:=dg L/\aC L oid=0
def LH:Ct:=B2 (bR Iv (bR iA ji)) (fun x=>some (rJ x.1 x.2.1)) (fun _ n=> .sa n) fun x _=> [.arr (some qH) 5 (.qs 5 (ah x.1 x.2.1))]
def iT (g:Int):Prop:=0<=g/\g<=9000
def fm (a b:Key):Bool:=(au a&&au b)&&(decide (a.kind=0)||yX a b||(lz a.kind&&decide (a.kind=b.kind)&&decide (a.oid=b.oid)&&decide (a.count=b.count)&&decide (cG .andNot .i64 b.rights a.rights=0)))
def CN:Ct:=Jr rK rK fun a b=> .bo (fm a b)
def cZ (k:Key) (l:List Cp):Bool:=l.any fun x=>fm (bc (bd k)) (bc x)
def Eo:Ct:=H6 (bR Ba (bR KJ ji)) (fun x=>some (cm x.2.1)) fun x=> .bo (cZ (qG x.1) x.2.1)
def iV (k:Key) (l:List Cp) (g:Int):Prop:=0<=g/\g<=(aa l:Int)/\∀j:Nat,(j:Int)<g->fm (bc (bd k)) (bc (cw l j))=false
def Nk (l:TL):Option (List Int):=
 match l with
 | .it k x=>match k with
   | .i64=>some x
   |_=>none
 |_=>none
theorem Jj:∀l x,Nk l=some x->l=TL.it .i64 x:=fun l x h=>by
 unfold Nk at h;split at h
 ·split at h
  ·simp only[N1]at h;subst h;rfl
  ·simp at h
 ·simp at h
def Mp:Arg (List Int):=Lm 1 Nk (TL.it .i64)
theorem zC:kR Mp:=CQ Jj
def jk (l:List Int) (n:Int):Bool:=decide (n∈l)
def AP (l:List Int):Prop:=l.length<=1000
def JA:Ct:=H6 (bR Mp (bR iA ji)) (fun x=>some (AP x.1)) fun x=> .bo (jk x.1 x.2.1)
def qT (l:List Int) (n:Int) (g:Int):Prop:=0<=g/\g<=(aa l:Int)/\∀j:Nat,(j:Int)<g->ay l j 0≠n
def bX (oid:Int) (ps:List Int):List Int:=oid::ps
def b8 (L:List Obj) (oid:Int) (ps:List Int) (g:Int):List Cp:=((bX oid ps).take g.toNat).flatMap (ah L)
def uJ (L M:List Obj) (oid:Int) (ps:List Int) (c:Cp):Bool:= !cZ (bc c) (b8 L oid ps ((bX oid ps).length:Int))&&(!aN (bc c)||(decide ((bm M (bc c).oid).count<=(bm L (bc c).oid).count)&& !((decide ((bc c).kind=6)||decide ((bc c).kind=7)||decide ((bc c).kind=5))&&jk ps (bc c).oid)))
def ck (L M:List Obj) (oid:Int) (ps:List Int) (g:Int):List Cp:=((ah M oid).take g.toNat).filter (uJ L M oid ps)
def rr (ps:List Int) (L:List Obj) (oid:Int) (g:Int):Prop:=0<=g/\g<=(aa ps:Int)+1/\∀j:Nat,(j:Int)<g->aC L (ay (bX oid ps) j 0)=0
end Go.Sx
