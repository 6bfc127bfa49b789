import Derived.Test.YtghpaegglbbocaaGreatSpR
set_option linter.unusedSimpArgs false
set_option linter.unusedVariables false
namespace Go.Sx
def Tr:lA (Key×Int×Key×Unit):=bk kA (bk iA (bk kA iv))
theorem OO:iy Tr:=aJ gR (aJ ft (aJ gR cF))
def A7:lA (Key×bm×Int×Unit):=bk kA (bk mA (bk iA iv))
theorem wH:iy A7:=aJ gR (aJ Ff (aJ ft cF))
def gA (L:List Obj) (k:Key) (i:Int) (v:Key):Bool:=decide (bc L k i v=0)
def la (L:List Obj) (k:Key):Bool:=decide (ay L k 2 true=0)
def jM (L:List Obj) (t f:Key):Bool:=decide (bG L t f=0)
def k8 (L:List Obj) (k:Key):Bool:=decide (aS L k true=0)
def lC (L:List Obj) (t f:Key):Bool:=decide (cx L t f=0)
def QS:Ct:=sF (bk Bq (bk kA (bk iA iv))) (fun _=>none) fun x=> .tp [.key (aF x.1 x.2.1 x.2.2.1),.it .i64 (bJ x.1 x.2.1 x.2.2.1)]
def N9:kJ:=Ar (wv Tr) (fun L _=>aq L) (fun L x=>gA L x.1 x.2.1 x.2.2.1) (fun L x=>b7 L x.1 x.2.1 x.2.2.1) fun L x=> [.key (cA L x.1 x.2.1 x.2.2.1),.it .i64 (bc L x.1 x.2.1 x.2.2.1)]
def Oz:kJ:=Ar (wv kB) (fun L _=>aq L) (fun L x=>la L x.1) (fun L x=>eT L x.1) fun L x=> [.it .i64 (ay L x.1 2 true)]
def Qj:kJ:=Ar (wv NP) (fun L _=>aq L) (fun L x=>jM L x.1 x.2.1) (fun L x=>dZ L x.1 x.2.1) fun L x=> [.it .i64 (bG L x.1 x.2.1)]
def LK:Ct:=sF (bk Bq (bk kA (bk iA (bk iA iv)))) (fun x=>some (aq x.1)) fun x=> .tp [.st (dR x.1 x.2.1 x.2.2.1 x.2.2.2.1),.it .i64 (b6 x.1 x.2.1 x.2.2.1 x.2.2.2.1)]
def RG:kJ:=Ar (wv kB) (fun L _=>aq L) (fun L x=>k8 L x.1) (fun L x=>eD L x.1) fun L x=> [.it .i64 (aS L x.1 true)]
def SF:kJ:=Ar (wv NP) (fun L _=>aq L) (fun L x=>lC L x.1 x.2.1) (fun L x=>eX L x.1 x.2.1) fun L x=> [.it .i64 (cx L x.1 x.2.1)]
def jq (L:List Obj) (k:Key) (m:bm):Bool:=
 if m.code=1 then false else if m.code=2 then gA L k (aO m) m.k0 else if m.code=3 then la L k else if m.code=4 then jM L k m.k0 else false
def jY (L:List Obj) (k:Key) (m:bm):Bool:=
 if m.code=1 then false else if m.code=2 then jx L k (aO m) m.data else if m.code=3 then k8 L k else if m.code=4 then lC L k m.k0 else false
def fT (L:List Obj) (k:Key) (m:bm):Bool:=
 if m.code=1 then fN L k 1 else if m.code=2 then fN L k 2 else if m.code=3 then iU L k m.k0 else if m.code=4 then jX L k (aO m)else if m.code=5 then false else jR L k
def gq (L:List Obj) (k:Key) (m:bm):Bool:=
 if m.code=1 then false else if m.code=2 then(if aO m<0\/11<aO m then false else gA L (ey k) (aO m+4) m.k0)else if m.code=3 then false else if m.code=4 then false
 else if m.code=5 then my L k.oid (aO m)else if m.code=6 then false else k7 L (eZ L k) m.k2.value (bW m.data) true
def rU (L:List Obj) (k:Key) (m:bm):Bool:=
 if k.kind=1 then false else if k.kind=2 then jq L k m else if k.kind=3 then jY L k m else if k.kind=4 then fT L k m else if k.kind=5 then gq L k m else false
def th (L:List Obj) (k:Key) (m:bm):Bool:=
 if k.kind=0 then false else if m.code=0 then false else if m.code<1\/cH k.kind<m.code\/(cD k.kind m.code=true/\m.k2.kind≠1)then false else rU L k m
def eC (L:List Obj) (n:Int) (k:Key) (m:bm):Bool:=decide (bI L n k m=0)&&th L (ae L k) (aL L m)
def lj (L:List Obj) (k:Key) (m:bm) (i:Int):Prop:=aq L/\aw m.data/\aT k=true/\i=aO m
def wi (d:Int):Prop:=0<=d/\d<=10
def OW:Ct:=sF (bk iA iv) (fun x=>some (wi x.1)) fun x=> .it .i64 (cH x.1)
def Pz:Ct:=Q6 (rI .i64) (rI .i64) fun a b=> .bo (cD a b)
def bS (L:List Obj) (k:Key) (m:bm):bm:=if(m.code=1\/m.code=2\/m.code=3\/m.code=4)\/(dQ L k m).1=0 then(dQ L k m).2.1 else dg
def cB (L:List Obj) (k:Key) (m:bm):bm:=if(m.code=1\/m.code=2\/m.code=3\/m.code=4)\/(dP L k m).1=0 then(dP L k m).2.1 else dg
def ba (L:List Obj) (k:Key) (m:bm):bm:=(cY L k m).2.1
def bx (L:List Obj) (k:Key) (m:bm):bm:=if(m.code=1\/m.code=2)/\(aO m<0\/11<aO m)then dg else(cU L k m).2.1
theorem Nq {L:List Obj} {k:Key} {m:bm} (h:(dQ L k m).1=0):bS L k m=(dQ L k m).2.1:=by unfold bS;rw[Yv (.inr h)]
theorem Mu {L:List Obj} {k:Key} {m:bm} (h:(dP L k m).1=0):cB L k m=(dP L k m).2.1:=by unfold cB;rw[Yv (.inr h)]
theorem LN {L:List Obj} {k:Key} {m:bm} (h:(cU L k m).1=0):bx L k m=(cU L k m).2.1:=by
 unfold bx;split
 ·rename_i hh;unfold cU at h;obtain⟨h1|h1,h2⟩:=hh
  ·rw[Yv h1,Yv h2]at h;simp at h
  ·rw[Yu (by omega),Yv h1,Yv h2]at h;simp at h
 ·rfl
theorem AW {m:bm}: -1<=aO m/\aO m<=2147483647:=by unfold aO;split<;>omega
theorem Nr {m:bm}:(0<=aO m/\aO m<=7/\aO m=m.k2.value/\0<=m.k2.value/\m.k2.value<=7)\/((aO m<0\/7<aO m)/\¬(0<=m.k2.value/\m.k2.value<=7)):=by unfold aO;split<;>omega
def Pb:kJ:=Ar (wv A7) (fun L x=>lj L x.1 x.2.1 x.2.2.1) (fun L x=>jq L x.1 x.2.1) (fun L x=>(dQ L x.1 x.2.1).2.2) fun L x=> [jS (bS L x.1 x.2.1),.it .i64 (dQ L x.1 x.2.1).1]
def Rw:kJ:=Ar (wv A7) (fun L x=>lj L x.1 x.2.1 x.2.2.1) (fun L x=>jY L x.1 x.2.1) (fun L x=>(dP L x.1 x.2.1).2.2) fun L x=> [jS (cB L x.1 x.2.1),.it .i64 (dP L x.1 x.2.1).1]
def KI:kJ:=Ar (wv A7) (fun L x=>lj L x.1 x.2.1 x.2.2.1) (fun L x=>fT L x.1 x.2.1) (fun L x=>(cY L x.1 x.2.1).2.2) fun L x=> [jS (ba L x.1 x.2.1),.it .i64 (cY L x.1 x.2.1).1]
def O5:kJ:=Ar (wv A7) (fun L x=>lj L x.1 x.2.1 x.2.2.1) (fun L x=>gq L x.1 x.2.1) (fun L x=>(cU L x.1 x.2.1).2.2) fun L x=> [jS (bx L x.1 x.2.1),.it .i64 (cU L x.1 x.2.1).1]
def Vs:kJ:=Ar (wv Mp) (fun L x=>aq L/\aw x.2.2.1.data) (fun L x=>eC L x.1 x.2.1 x.2.2.1) (fun L x=>fo L x.1 x.2.1 x.2.2.1) fun L x=> [jS (aB L x.1 x.2.1 x.2.2.1),.bo (cz L x.1 x.2.1 x.2.2.1),.it .i64 (bI L x.1 x.2.1 x.2.2.1)]
def vA (L:List Obj) (n:Int) (k:Key) (m:bm):Prop:=
 (aq L/\aw m.data)/\bI L n k m=0/\¬(ae L k).kind=0/\¬m.code=0/\¬(m.code<1\/cH (ae L k).kind<m.code\/(cD (ae L k).kind m.code=true/\(aL L m).k2.kind≠1))
theorem Io {L:List Obj} {n:Int} {k:Key} {m:bm} {e:Int} (h:bI L n k m=e) (h0:e≠0):eC L n k m=false/\aB L n k m=dg/\cz L n k m=false/\e=bI L n k m:=by
 refine⟨?_,?_,?_,h.symm⟩
 ·unfold eC;rw[h];simp[h0]
 ·unfold aB;rw[h,Yu h0]
 ·unfold cz;rw[h];simp[h0]
theorem BP {L:List Obj} {n:Int} {k:Key} {m:bm} {c:Bool} {r:LH} (h:bI L n k m=0) (hr:dq L n (ae L k) (aL L m)=r) (hc:th L (ae L k) (aL L m)=c):
  eC L n k m=c/\aB L n k m=(if r.1=0 then r.2.1 else fx r.1)/\fo L n k m=r.2.2/\cz L n k m=(decide ((ae L k).kind=10)&&decide (m.code=1))/\0=bI L n k m:=by
 refine⟨?_,?_,?_,?_,h.symm⟩
 ·unfold eC;rw[h,hc];rfl
 ·unfold aB dH;rw[Yv h,hr]
 ·unfold fo dM;rw[Yv h,hr]
 ·unfold cz;rw[h];rfl
theorem PV {L:List Obj} {n:Int} {k:Key} {m:bm} (h:vA L n k m):dq L n (ae L k) (aL L m)=ee L n (ae L k) (aL L m)/\th L (ae L k) (aL L m)=rU L (ae L k) (aL L m):=by
 obtain⟨_,h0,h1,h2,h3⟩:=h;have h2':¬(aL L m).code=0:=h2;have h3':¬((aL L m).code<1\/cH (ae L k).kind<(aL L m).code\/(cD (ae L k).kind (aL L m).code=true/\(aL L m).k2.kind≠1)):=h3;unfold dq th;rw[Yu h1,Yu h2',Yu h3',Yu h1,Yu h2',Yu h3'];exact⟨rfl,rfl⟩
theorem Vv {L:List Obj} {n:Int} {k:Key} {m:bm} (h:vA L n k m):(decide ((ae L k).kind=10)&&decide (m.code=1))=decide ((ae L k).kind=10):=by
 obtain⟨_,h0,h1,h2,h3⟩:=h;by_cases hk:(ae L k).kind=10
 ·have:cH (ae L k).kind=1:=by rw[hk];rfl
  have:m.code=1:=by omega
  simp[this]
 ·simp[hk]
theorem QG {L:List Obj} {n:Int} {k:Key} {m:bm} {c:Bool} {r:LH} (h:vA L n k m) (hr:ee L n (ae L k) (aL L m)=r) (hc:rU L (ae L k) (aL L m)=c):
  eC L n k m=c/\aB L n k m=(if r.1=0 then r.2.1 else fx r.1)/\fo L n k m=r.2.2/\cz L n k m=decide ((ae L k).kind=10)/\0=bI L n k m:=by
 obtain⟨e1,e2⟩:=PV h;obtain⟨a1,a2,a3,a4,a5⟩:=BP h.2.1 (e1.trans hr) (e2.trans hc);exact⟨a1,a2,a3,a4.trans (Vv h),a5⟩
theorem Pq {L:List Obj} {n:Int} {k:Key} {m:bm} (h:(decide (n<0)|| !cZ L k|| !rH L m)=true):ph L n k m=false:=by
 unfold ph;cases hm:cZ L k<;>cases hm2:rH L m<;>simp_all<;>omega
theorem K2 {L:List Obj} {n:Int} {k:Key} {m:bm} (h:(decide (n<0)|| !cZ L k|| !rH L m)=false):¬ph L n k m=false:=by
 unfold ph;cases hm:cZ L k<;>cases hm2:rH L m<;>simp_all<;>omega
end Go.Sx
