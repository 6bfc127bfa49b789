import Derived.Test.YtghpaegglbbocaaGreatSpR
set_option linter.unusedSimpArgs false
set_option linter.unusedVariables false
namespace Go.Sx
def Sq:ly (Key×Int×Key×Unit):=bk kA (bk iA (bk kA iv))
theorem On:iB Sq:=aJ gQ (aJ ft (aJ gQ cF))
def Ba:ly (Key×bm×Int×Unit):=bk kA (bk mA (bk iA iv))
theorem wK:iB Ba:=aJ gQ (aJ Gg (aJ ft cF))
def gA (L:List Obj) (k:Key) (i:Int) (v:Key):Bool:=decide (ba L k i v=0)
def lb (L:List Obj) (k:Key):Bool:=decide (ay L k 2 true=0)
def jM (L:List Obj) (t f:Key):Bool:=decide (bG L t f=0)
def k9 (L:List Obj) (k:Key):Bool:=decide (aS L k true=0)
def lG (L:List Obj) (t f:Key):Bool:=decide (cy L t f=0)
def Oo:Ct:=sE (bk AR (bk kA (bk iA iv))) (fun _=>none) fun x=> .tp [.key (aF x.1 x.2.1 x.2.2.1),.it .i64 (bJ x.1 x.2.1 x.2.2.1)]
def Qf:kI:=zm (wO Sq) (fun L _=>aq L) (fun L x=>gA L x.1 x.2.1 x.2.2.1) (fun L x=>b6 L x.1 x.2.1 x.2.2.1) fun L x=> [.key (cz L x.1 x.2.1 x.2.2.1),.it .i64 (ba L x.1 x.2.1 x.2.2.1)]
def OS:kI:=zm (wO kB) (fun L _=>aq L) (fun L x=>lb L x.1) (fun L x=>eQ L x.1) fun L x=> [.it .i64 (ay L x.1 2 true)]
def Oj:kI:=zm (wO Lv) (fun L _=>aq L) (fun L x=>jM L x.1 x.2.1) (fun L x=>dV L x.1 x.2.1) fun L x=> [.it .i64 (bG L x.1 x.2.1)]
def MJ:Ct:=sE (bk AR (bk kA (bk iA (bk iA iv)))) (fun x=>some (aq x.1)) fun x=> .tp [.st (dQ x.1 x.2.1 x.2.2.1 x.2.2.2.1),.it .i64 (b7 x.1 x.2.1 x.2.2.1 x.2.2.2.1)]
def OA:kI:=zm (wO kB) (fun L _=>aq L) (fun L x=>k9 L x.1) (fun L x=>eD L x.1) fun L x=> [.it .i64 (aS L x.1 true)]
def SX:kI:=zm (wO Lv) (fun L _=>aq L) (fun L x=>lG L x.1 x.2.1) (fun L x=>eT L x.1 x.2.1) fun L x=> [.it .i64 (cy L x.1 x.2.1)]
def jr (L:List Obj) (k:Key) (m:bm):Bool:=
 if m.code=1 then false else if m.code=2 then gA L k (aO m) m.k0 else if m.code=3 then lb L k else if m.code=4 then jM L k m.k0 else false
def j6 (L:List Obj) (k:Key) (m:bm):Bool:=
 if m.code=1 then false else if m.code=2 then jt L k (aO m) m.data else if m.code=3 then k9 L k else if m.code=4 then lG L k m.k0 else false
def fU (L:List Obj) (k:Key) (m:bm):Bool:=
 if m.code=1 then fN L k 1 else if m.code=2 then fN L k 2 else if m.code=3 then iY L k m.k0 else if m.code=4 then j5 L k (aO m)else if m.code=5 then false else jP L k
def gq (L:List Obj) (k:Key) (m:bm):Bool:=
 if m.code=1 then false else if m.code=2 then(if aO m<0\/11<aO m then false else gA L (eA k) (aO m+4) m.k0)else if m.code=3 then false else if m.code=4 then false
 else if m.code=5 then mj L k.oid (aO m)else if m.code=6 then false else kQ L (eZ L k) m.k2.value (bW m.data) true
def si (L:List Obj) (k:Key) (m:bm):Bool:=
 if k.kind=1 then false else if k.kind=2 then jr L k m else if k.kind=3 then j6 L k m else if k.kind=4 then fU L k m else if k.kind=5 then gq L k m else false
def ti (L:List Obj) (k:Key) (m:bm):Bool:=
 if k.kind=0 then false else if m.code=0 then false else if m.code<1\/cI k.kind<m.code\/(cD k.kind m.code=true/\m.k2.kind≠1)then false else si L k m
def ey (L:List Obj) (n:Int) (k:Key) (m:bm):Bool:=decide (bI L n k m=0)&&ti L (ae L k) (aL L m)
def lk (L:List Obj) (k:Key) (m:bm) (i:Int):Prop:=aq L/\aw m.data/\aT k=true/\i=aO m
def wI (d:Int):Prop:=0<=d/\d<=10
def Pa:Ct:=sE (bk iA iv) (fun x=>some (wI x.1)) fun x=> .it .i64 (cI x.1)
def Oi:Ct:=P6 (rI .i64) (rI .i64) fun a b=> .bo (cD a b)
def bS (L:List Obj) (k:Key) (m:bm):bm:=if(m.code=1\/m.code=2\/m.code=3\/m.code=4)\/(dO L k m).1=0 then(dO L k m).2.1 else dg
def cx (L:List Obj) (k:Key) (m:bm):bm:=if(m.code=1\/m.code=2\/m.code=3\/m.code=4)\/(dM L k m).1=0 then(dM L k m).2.1 else dg
def aZ (L:List Obj) (k:Key) (m:bm):bm:=(cY L k m).2.1
def bw (L:List Obj) (k:Key) (m:bm):bm:=if(m.code=1\/m.code=2)/\(aO m<0\/11<aO m)then dg else(cT L k m).2.1
theorem Ip {L:List Obj} {k:Key} {m:bm} (h:(dO L k m).1=0):bS L k m=(dO L k m).2.1:=by unfold bS;rw[Yq (.inr h)]
theorem LM {L:List Obj} {k:Key} {m:bm} (h:(dM L k m).1=0):cx L k m=(dM L k m).2.1:=by unfold cx;rw[Yq (.inr h)]
theorem K4 {L:List Obj} {k:Key} {m:bm} (h:(cT L k m).1=0):bw L k m=(cT L k m).2.1:=by
 unfold bw;split
 ·rename_i hh;unfold cT at h;obtain⟨h1|h1,h2⟩:=hh
  ·rw[Yq h1,Yq h2]at h;simp at h
  ·rw[Yp (by omega),Yq h1,Yq h2]at h;simp at h
 ·rfl
theorem BH {m:bm}: -1<=aO m/\aO m<=2147483647:=by unfold aO;split<;>omega
theorem H7 {m:bm}:(0<=aO m/\aO m<=7/\aO m=m.k2.value/\0<=m.k2.value/\m.k2.value<=7)\/((aO m<0\/7<aO m)/\¬(0<=m.k2.value/\m.k2.value<=7)):=by unfold aO;split<;>omega
def PO:kI:=zm (wO Ba) (fun L x=>lk L x.1 x.2.1 x.2.2.1) (fun L x=>jr L x.1 x.2.1) (fun L x=>(dO L x.1 x.2.1).2.2) fun L x=> [jR (bS L x.1 x.2.1),.it .i64 (dO L x.1 x.2.1).1]
def Qs:kI:=zm (wO Ba) (fun L x=>lk L x.1 x.2.1 x.2.2.1) (fun L x=>j6 L x.1 x.2.1) (fun L x=>(dM L x.1 x.2.1).2.2) fun L x=> [jR (cx L x.1 x.2.1),.it .i64 (dM L x.1 x.2.1).1]
def Mp:kI:=zm (wO Ba) (fun L x=>lk L x.1 x.2.1 x.2.2.1) (fun L x=>fU L x.1 x.2.1) (fun L x=>(cY L x.1 x.2.1).2.2) fun L x=> [jR (aZ L x.1 x.2.1),.it .i64 (cY L x.1 x.2.1).1]
def Rs:kI:=zm (wO Ba) (fun L x=>lk L x.1 x.2.1 x.2.2.1) (fun L x=>gq L x.1 x.2.1) (fun L x=>(cT L x.1 x.2.1).2.2) fun L x=> [jR (bw L x.1 x.2.1),.it .i64 (cT L x.1 x.2.1).1]
def V4:kI:=zm (wO Mr) (fun L x=>aq L/\aw x.2.2.1.data) (fun L x=>ey L x.1 x.2.1 x.2.2.1) (fun L x=>fm L x.1 x.2.1 x.2.2.1) fun L x=> [jR (aB L x.1 x.2.1 x.2.2.1),.bo (cA L x.1 x.2.1 x.2.2.1),.it .i64 (bI L x.1 x.2.1 x.2.2.1)]
def vy (L:List Obj) (n:Int) (k:Key) (m:bm):Prop:=
 (aq L/\aw m.data)/\bI L n k m=0/\¬(ae L k).kind=0/\¬m.code=0/\¬(m.code<1\/cI (ae L k).kind<m.code\/(cD (ae L k).kind m.code=true/\(aL L m).k2.kind≠1))
theorem MB {L:List Obj} {n:Int} {k:Key} {m:bm} {e:Int} (h:bI L n k m=e) (h0:e≠0):ey L n k m=false/\aB L n k m=dg/\cA L n k m=false/\e=bI L n k m:=by
 refine⟨?_,?_,?_,h.symm⟩
 ·unfold ey;rw[h];simp[h0]
 ·unfold aB;rw[h,Yp h0]
 ·unfold cA;rw[h];simp[h0]
theorem A6 {L:List Obj} {n:Int} {k:Key} {m:bm} {c:Bool} {r:JP} (h:bI L n k m=0) (hr:dn L n (ae L k) (aL L m)=r) (hc:ti L (ae L k) (aL L m)=c):
  ey L n k m=c/\aB L n k m=(if r.1=0 then r.2.1 else fx r.1)/\fm L n k m=r.2.2/\cA L n k m=(decide ((ae L k).kind=10)&&decide (m.code=1))/\0=bI L n k m:=by
 refine⟨?_,?_,?_,?_,h.symm⟩
 ·unfold ey;rw[h,hc];rfl
 ·unfold aB dH;rw[Yq h,hr]
 ·unfold fm dK;rw[Yq h,hr]
 ·unfold cA;rw[h];rfl
theorem P4 {L:List Obj} {n:Int} {k:Key} {m:bm} (h:vy L n k m):dn L n (ae L k) (aL L m)=ee L n (ae L k) (aL L m)/\ti L (ae L k) (aL L m)=si L (ae L k) (aL L m):=by
 obtain⟨_,h0,h1,h2,h3⟩:=h;have h2':¬(aL L m).code=0:=h2;have h3':¬((aL L m).code<1\/cI (ae L k).kind<(aL L m).code\/(cD (ae L k).kind (aL L m).code=true/\(aL L m).k2.kind≠1)):=h3;unfold dn ti;rw[Yp h1,Yp h2',Yp h3',Yp h1,Yp h2',Yp h3'];exact⟨rfl,rfl⟩
theorem VL {L:List Obj} {n:Int} {k:Key} {m:bm} (h:vy L n k m):(decide ((ae L k).kind=10)&&decide (m.code=1))=decide ((ae L k).kind=10):=by
 obtain⟨_,h0,h1,h2,h3⟩:=h;by_cases hk:(ae L k).kind=10
 ·have:cI (ae L k).kind=1:=by rw[hk];rfl
  have:m.code=1:=by omega
  simp[this]
 ·simp[hk]
theorem QK {L:List Obj} {n:Int} {k:Key} {m:bm} {c:Bool} {r:JP} (h:vy L n k m) (hr:ee L n (ae L k) (aL L m)=r) (hc:si L (ae L k) (aL L m)=c):
  ey L n k m=c/\aB L n k m=(if r.1=0 then r.2.1 else fx r.1)/\fm L n k m=r.2.2/\cA L n k m=decide ((ae L k).kind=10)/\0=bI L n k m:=by
 obtain⟨e1,e2⟩:=P4 h;obtain⟨a1,a2,a3,a4,a5⟩:=A6 h.2.1 (e1.trans hr) (e2.trans hc);exact⟨a1,a2,a3,a4.trans (VL h),a5⟩
theorem PR {L:List Obj} {n:Int} {k:Key} {m:bm} (h:(decide (n<0)|| !cZ L k|| !rv L m)=true):ph L n k m=false:=by
 unfold ph;cases hm:cZ L k<;>cases hm2:rv L m<;>simp_all<;>omega
theorem Ni {L:List Obj} {n:Int} {k:Key} {m:bm} (h:(decide (n<0)|| !cZ L k|| !rv L m)=false):¬ph L n k m=false:=by
 unfold ph;cases hm:cZ L k<;>cases hm2:rv L m<;>simp_all<;>omega
end Go.Sx
