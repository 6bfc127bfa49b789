import Derived.Test.YtghpaegglbbocaaGreatSpR
namespace Go.Sx
def Uq:lz (Key×Int×Key×Unit):=bk kA (bk iA (bk kA iw))
theorem Qh:iu Uq:=aJ gQ (aJ fm (aJ gQ cF))
def AE:lz (Key×bm×Int×Unit):=bk kA (bk mA (bk iA iw))
theorem wS:iu AE:=aJ gQ (aJ E5 (aJ fm cF))
def gy (L:List Obj) (k:Key) (i:Int) (v:Key):Bool:=decide (ba L k i v=0)
def k9 (L:List Obj) (k:Key):Bool:=decide (ay L k 2 true=0)
def jM (L:List Obj) (t f:Key):Bool:=decide (bG L t f=0)
def la (L:List Obj) (k:Key):Bool:=decide (aS L k true=0)
def lC (L:List Obj) (t f:Key):Bool:=decide (cz L t f=0)
def QU:Ct:=sF (bk BI (bk kA (bk iA iw))) (fun _=>none) fun x=> .tp [.key (aF x.1 x.2.1 x.2.2.1),.it .i64 (bI x.1 x.2.1 x.2.2.1)]
def QM:kH:=An (wc Uq) (fun L _=>aq L) (fun L x=>gy L x.1 x.2.1 x.2.2.1) (fun L x=>b6 L x.1 x.2.1 x.2.2.1) fun L x=> [.key (cy L x.1 x.2.1 x.2.2.1),.it .i64 (ba L x.1 x.2.1 x.2.2.1)]
def RA:kH:=An (wc kB) (fun L _=>aq L) (fun L x=>k9 L x.1) (fun L x=>eT L x.1) fun L x=> [.it .i64 (ay L x.1 2 true)]
def PU:kH:=An (wc LY) (fun L _=>aq L) (fun L x=>jM L x.1 x.2.1) (fun L x=>dZ L x.1 x.2.1) fun L x=> [.it .i64 (bG L x.1 x.2.1)]
def LU:Ct:=sF (bk BI (bk kA (bk iA (bk iA iw)))) (fun x=>some (aq x.1)) fun x=> .tp [.st (dP x.1 x.2.1 x.2.2.1 x.2.2.2.1),.it .i64 (b7 x.1 x.2.1 x.2.2.1 x.2.2.2.1)]
def N7:kH:=An (wc kB) (fun L _=>aq L) (fun L x=>la L x.1) (fun L x=>eD L x.1) fun L x=> [.it .i64 (aS L x.1 true)]
def Tr:kH:=An (wc LY) (fun L _=>aq L) (fun L x=>lC L x.1 x.2.1) (fun L x=>eV L x.1 x.2.1) fun L x=> [.it .i64 (cz L x.1 x.2.1)]
def jo (L:List Obj) (k:Key) (m:bm):Bool:=
 if m.code=1 then false else if m.code=2 then gy L k (aO m) m.k0 else if m.code=3 then k9 L k else if m.code=4 then jM L k m.k0 else false
def jW (L:List Obj) (k:Key) (m:bm):Bool:=
 if m.code=1 then false else if m.code=2 then jt L k (aO m) m.data else if m.code=3 then la L k else if m.code=4 then lC L k m.k0 else false
def fT (L:List Obj) (k:Key) (m:bm):Bool:=
 if m.code=1 then fN L k 1 else if m.code=2 then fN L k 2 else if m.code=3 then iR L k m.k0 else if m.code=4 then jV L k (aO m)else if m.code=5 then false else jN L k
def gu (L:List Obj) (k:Key) (m:bm):Bool:=
 if m.code=1 then false else if m.code=2 then(if aO m<0\/11<aO m then false else gy L (eA k) (aO m+4) m.k0)else if m.code=3 then false else if m.code=4 then false
 else if m.code=5 then mn L k.oid (aO m)else if m.code=6 then false else kW L (e9 L k) m.k2.value (bW m.data) true
def sf (L:List Obj) (k:Key) (m:bm):Bool:=
 if k.kind=1 then false else if k.kind=2 then jo L k m else if k.kind=3 then jW L k m else if k.kind=4 then fT L k m else if k.kind=5 then gu L k m else false
def tF (L:List Obj) (k:Key) (m:bm):Bool:=
 if k.kind=0 then false else if m.code=0 then false else if m.code<1\/cI k.kind<m.code\/(cD k.kind m.code=true/\m.k2.kind≠1)then false else sf L k m
def ey (L:List Obj) (n:Int) (k:Key) (m:bm):Bool:=decide (bJ L n k m=0)&&tF L (ae L k) (aL L m)
def lk (L:List Obj) (k:Key) (m:bm) (i:Int):Prop:=aq L/\aw m.data/\aT k=true/\i=aO m
def wO (d:Int):Prop:=0<=d/\d<=10
def O0:Ct:=sF (bk iA iw) (fun x=>some (wO x.1)) fun x=> .it .i64 (cI x.1)
def Ql:Ct:=PF (rI .i64) (rI .i64) fun a b=> .bo (cD a b)
def bS (L:List Obj) (k:Key) (m:bm):bm:=if(m.code=1\/m.code=2\/m.code=3\/m.code=4)\/(dL L k m).1=0 then(dL L k m).2.1 else dg
def cx (L:List Obj) (k:Key) (m:bm):bm:=if(m.code=1\/m.code=2\/m.code=3\/m.code=4)\/(dN L k m).1=0 then(dN L k m).2.1 else dg
def aZ (L:List Obj) (k:Key) (m:bm):bm:=(cY L k m).2.1
def bw (L:List Obj) (k:Key) (m:bm):bm:=if(m.code=1\/m.code=2)/\(aO m<0\/11<aO m)then dg else(cT L k m).2.1
theorem Ja {L:List Obj} {k:Key} {m:bm} (h:(dL L k m).1=0):bS L k m=(dL L k m).2.1:=by unfold bS;rw[Yq (.inr h)]
theorem K7 {L:List Obj} {k:Key} {m:bm} (h:(dN L k m).1=0):cx L k m=(dN L k m).2.1:=by unfold cx;rw[Yq (.inr h)]
theorem Lq {L:List Obj} {k:Key} {m:bm} (h:(cT L k m).1=0):bw L k m=(cT L k m).2.1:=by
 unfold bw;split
 ·rename_i hh;unfold cT at h;obtain⟨h1|h1,h2⟩:=hh
  ·rw[Yq h1,Yq h2]at h;simp at h
  ·rw[Yp (by omega),Yq h1,Yq h2]at h;simp at h
 ·rfl
theorem AP {m:bm}: -1<=aO m/\aO m<=2147483647:=by unfold aO;split<;>omega
theorem Ms {m:bm}:(0<=aO m/\aO m<=7/\aO m=m.k2.value/\0<=m.k2.value/\m.k2.value<=7)\/((aO m<0\/7<aO m)/\¬(0<=m.k2.value/\m.k2.value<=7)):=by unfold aO;split<;>omega
def Ou:kH:=An (wc AE) (fun L x=>lk L x.1 x.2.1 x.2.2.1) (fun L x=>jo L x.1 x.2.1) (fun L x=>(dL L x.1 x.2.1).2.2) fun L x=> [jP (bS L x.1 x.2.1),.it .i64 (dL L x.1 x.2.1).1]
def QI:kH:=An (wc AE) (fun L x=>lk L x.1 x.2.1 x.2.2.1) (fun L x=>jW L x.1 x.2.1) (fun L x=>(dN L x.1 x.2.1).2.2) fun L x=> [jP (cx L x.1 x.2.1),.it .i64 (dN L x.1 x.2.1).1]
def Mi:kH:=An (wc AE) (fun L x=>lk L x.1 x.2.1 x.2.2.1) (fun L x=>fT L x.1 x.2.1) (fun L x=>(cY L x.1 x.2.1).2.2) fun L x=> [jP (aZ L x.1 x.2.1),.it .i64 (cY L x.1 x.2.1).1]
def OB:kH:=An (wc AE) (fun L x=>lk L x.1 x.2.1 x.2.2.1) (fun L x=>gu L x.1 x.2.1) (fun L x=>(cT L x.1 x.2.1).2.2) fun L x=> [jP (bw L x.1 x.2.1),.it .i64 (cT L x.1 x.2.1).1]
def Vh:kH:=An (wc KM) (fun L x=>aq L/\aw x.2.2.1.data) (fun L x=>ey L x.1 x.2.1 x.2.2.1) (fun L x=>fo L x.1 x.2.1 x.2.2.1) fun L x=> [jP (aB L x.1 x.2.1 x.2.2.1),.bo (cA L x.1 x.2.1 x.2.2.1),.it .i64 (bJ L x.1 x.2.1 x.2.2.1)]
def vD (L:List Obj) (n:Int) (k:Key) (m:bm):Prop:=
 (aq L/\aw m.data)/\bJ L n k m=0/\¬(ae L k).kind=0/\¬m.code=0/\¬(m.code<1\/cI (ae L k).kind<m.code\/(cD (ae L k).kind m.code=true/\(aL L m).k2.kind≠1))
theorem JA {L:List Obj} {n:Int} {k:Key} {m:bm} {e:Int} (h:bJ L n k m=e) (h0:e≠0):ey L n k m=false/\aB L n k m=dg/\cA L n k m=false/\e=bJ L n k m:=by
 refine⟨?_,?_,?_,h.symm⟩
 ·unfold ey;rw[h];simp[h0]
 ·unfold aB;rw[h,Yp h0]
 ·unfold cA;rw[h];simp[h0]
theorem Av {L:List Obj} {n:Int} {k:Key} {m:bm} {c:Bool} {r:Le} (h:bJ L n k m=0) (hr:di L n (ae L k) (aL L m)=r) (hc:tF L (ae L k) (aL L m)=c):
  ey L n k m=c/\aB L n k m=(if r.1=0 then r.2.1 else fx r.1)/\fo L n k m=r.2.2/\cA L n k m=(decide ((ae L k).kind=10)&&decide (m.code=1))/\0=bJ L n k m:=by
 refine⟨?_,?_,?_,?_,h.symm⟩
 ·unfold ey;rw[h,hc];rfl
 ·unfold aB dE;rw[Yq h,hr]
 ·unfold fo dK;rw[Yq h,hr]
 ·unfold cA;rw[h];rfl
theorem O9 {L:List Obj} {n:Int} {k:Key} {m:bm} (h:vD L n k m):di L n (ae L k) (aL L m)=ec L n (ae L k) (aL L m)/\tF L (ae L k) (aL L m)=sf L (ae L k) (aL L m):=by
 obtain⟨_,h0,h1,h2,h3⟩:=h;have h2':¬(aL L m).code=0:=h2;have h3':¬((aL L m).code<1\/cI (ae L k).kind<(aL L m).code\/(cD (ae L k).kind (aL L m).code=true/\(aL L m).k2.kind≠1)):=h3;unfold di tF;rw[Yp h1,Yp h2',Yp h3',Yp h1,Yp h2',Yp h3'];exact⟨rfl,rfl⟩
theorem V0 {L:List Obj} {n:Int} {k:Key} {m:bm} (h:vD L n k m):(decide ((ae L k).kind=10)&&decide (m.code=1))=decide ((ae L k).kind=10):=by
 obtain⟨_,h0,h1,h2,h3⟩:=h;by_cases hk:(ae L k).kind=10
 ·have:cI (ae L k).kind=1:=by rw[hk];rfl
  have:m.code=1:=by omega
  simp[this]
 ·simp[hk]
theorem Rj {L:List Obj} {n:Int} {k:Key} {m:bm} {c:Bool} {r:Le} (h:vD L n k m) (hr:ec L n (ae L k) (aL L m)=r) (hc:sf L (ae L k) (aL L m)=c):
  ey L n k m=c/\aB L n k m=(if r.1=0 then r.2.1 else fx r.1)/\fo L n k m=r.2.2/\cA L n k m=decide ((ae L k).kind=10)/\0=bJ L n k m:=by
 obtain⟨e1,e2⟩:=O9 h;obtain⟨a1,a2,a3,a4,a5⟩:=Av h.2.1 (e1.trans hr) (e2.trans hc);exact⟨a1,a2,a3,a4.trans (V0 h),a5⟩
theorem Rw {L:List Obj} {n:Int} {k:Key} {m:bm} (h:(decide (n<0)|| !cZ L k|| !rE L m)=true):pq L n k m=false:=by
 unfold pq;cases hm:cZ L k<;>cases hm2:rE L m<;>simp_all<;>omega
theorem Iy {L:List Obj} {n:Int} {k:Key} {m:bm} (h:(decide (n<0)|| !cZ L k|| !rE L m)=false):¬pq L n k m=false:=by
 unfold pq;cases hm:cZ L k<;>cases hm2:rE L m<;>simp_all<;>omega
end Go.Sx
