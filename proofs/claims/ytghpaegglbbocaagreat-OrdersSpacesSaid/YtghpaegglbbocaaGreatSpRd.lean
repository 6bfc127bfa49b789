import Derived.Test.YtghpaegglbbocaaGreatSpR
set_option linter.unusedSimpArgs false
set_option linter.unusedVariables false
namespace Go.Sx
def SC:lj (Key×Int×Key×Unit):=bk kA (bk iA (bk kA iI))
theorem Pz:iu SC:=aJ gM (aJ fl (aJ gM cK))
def Bn:lj (Key×bm×Int×Unit):=bk kA (bk mA (bk iA iI))
theorem wg:iu Bn:=aJ gM (aJ FT (aJ fl cK))
def gx (L:List Obj) (k:Key) (i:Int) (v:Key):Bool:=decide (bc L k i v=0)
def k7 (L:List Obj) (k:Key):Bool:=decide (aw L k 2 true=0)
def jF (L:List Obj) (t f:Key):Bool:=decide (bG L t f=0)
def kW (L:List Obj) (k:Key):Bool:=decide (aS L k true=0)
def lk (L:List Obj) (t f:Key):Bool:=decide (cy L t f=0)
def Pr:Ct:=tB (bk A6 (bk kA (bk iA iI))) (fun _=>none) fun x=> .tp [.key (aE x.1 x.2.1 x.2.2.1),.it .i64 (bI x.1 x.2.1 x.2.2.1)]
def Pg:kz:=yW (vJ SC) (fun L _=>aq L) (fun L x=>gx L x.1 x.2.1 x.2.2.1) (fun L x=>bZ L x.1 x.2.1 x.2.2.1) fun L x=> [.key (cA L x.1 x.2.1 x.2.2.1),.it .i64 (bc L x.1 x.2.1 x.2.2.1)]
def Pd:kz:=yW (vJ kB) (fun L _=>aq L) (fun L x=>k7 L x.1) (fun L x=>eM L x.1) fun L x=> [.it .i64 (aw L x.1 2 true)]
def QF:kz:=yW (vJ J4) (fun L _=>aq L) (fun L x=>jF L x.1 x.2.1) (fun L x=>dZ L x.1 x.2.1) fun L x=> [.it .i64 (bG L x.1 x.2.1)]
def HX:Ct:=tB (bk A6 (bk kA (bk iA (bk iA iI)))) (fun x=>some (aq x.1)) fun x=> .tp [.st (dO x.1 x.2.1 x.2.2.1 x.2.2.2.1),.it .i64 (bX x.1 x.2.1 x.2.2.1 x.2.2.2.1)]
def Qc:kz:=yW (vJ kB) (fun L _=>aq L) (fun L x=>kW L x.1) (fun L x=>eC L x.1) fun L x=> [.it .i64 (aS L x.1 true)]
def RI:kz:=yW (vJ J4) (fun L _=>aq L) (fun L x=>lk L x.1 x.2.1) (fun L x=>eQ L x.1 x.2.1) fun L x=> [.it .i64 (cy L x.1 x.2.1)]
def jk (L:List Obj) (k:Key) (m:bm):Bool:=
 if m.code=1 then false else if m.code=2 then gx L k (aO m) m.k0 else if m.code=3 then k7 L k else if m.code=4 then jF L k m.k0 else false
def jT (L:List Obj) (k:Key) (m:bm):Bool:=
 if m.code=1 then false else if m.code=2 then jl L k (aO m) m.data else if m.code=3 then kW L k else if m.code=4 then lk L k m.k0 else false
def fR (L:List Obj) (k:Key) (m:bm):Bool:=
 if m.code=1 then fL L k 1 else if m.code=2 then fL L k 2 else if m.code=3 then iP L k m.k0 else if m.code=4 then jU L k (aO m)else if m.code=5 then false else jI L k
def gm (L:List Obj) (k:Key) (m:bm):Bool:=
 if m.code=1 then false else if m.code=2 then(if aO m<0\/11<aO m then false else gx L (ew k) (aO m+4) m.k0)else if m.code=3 then false else if m.code=4 then false
 else if m.code=5 then mE L k.oid (aO m)else if m.code=6 then false else kH L (eX L k) m.k2.value (cc m.data) true
def rF (L:List Obj) (k:Key) (m:bm):Bool:=
 if k.kind=1 then false else if k.kind=2 then jk L k m else if k.kind=3 then jT L k m else if k.kind=4 then fR L k m else if k.kind=5 then gm L k m else false
def tc (L:List Obj) (k:Key) (m:bm):Bool:=
 if k.kind=0 then false else if m.code=0 then false else if m.code<1\/cF k.kind<m.code\/(cC k.kind m.code=true/\m.k2.kind≠1)then false else rF L k m
def ey (L:List Obj) (n:Int) (k:Key) (m:bm):Bool:=decide (bP L n k m=0)&&tc L (ab L k) (aL L m)
def la (L:List Obj) (k:Key) (m:bm) (i:Int):Prop:=aq L/\aA m.data/\aT k=true/\i=aO m
def wc (d:Int):Prop:=0<=d/\d<=10
def PE:Ct:=tB (bk iA iI) (fun x=>some (wc x.1)) fun x=> .it .i64 (cF x.1)
def N9:Ct:=Qn (rI .i64) (rI .i64) fun a b=> .bo (cC a b)
def bS (L:List Obj) (k:Key) (m:bm):bm:=if(m.code=1\/m.code=2\/m.code=3\/m.code=4)\/(dP L k m).1=0 then(dP L k m).2.1 else dz
def cB (L:List Obj) (k:Key) (m:bm):bm:=if(m.code=1\/m.code=2\/m.code=3\/m.code=4)\/(dQ L k m).1=0 then(dQ L k m).2.1 else dz
def ba (L:List Obj) (k:Key) (m:bm):bm:=(c8 L k m).2.1
def bx (L:List Obj) (k:Key) (m:bm):bm:=if(m.code=1\/m.code=2)/\(aO m<0\/11<aO m)then dz else(cT L k m).2.1
theorem Nb {L:List Obj} {k:Key} {m:bm} (h:(dP L k m).1=0):bS L k m=(dP L k m).2.1:=by unfold bS;rw[XR (.inr h)]
theorem HD {L:List Obj} {k:Key} {m:bm} (h:(dQ L k m).1=0):cB L k m=(dQ L k m).2.1:=by unfold cB;rw[XR (.inr h)]
theorem MS {L:List Obj} {k:Key} {m:bm} (h:(cT L k m).1=0):bx L k m=(cT L k m).2.1:=by
 unfold bx;split
 ·rename_i hh;unfold cT at h;obtain⟨h1|h1,h2⟩:=hh
  ·rw[XR h1,XR h2]at h;simp at h
  ·rw[XQ (by omega),XR h1,XR h2]at h;simp at h
 ·rfl
theorem Bb {m:bm}: -1<=aO m/\aO m<=2147483647:=by unfold aO;split<;>omega
theorem Ms {m:bm}:(0<=aO m/\aO m<=7/\aO m=m.k2.value/\0<=m.k2.value/\m.k2.value<=7)\/((aO m<0\/7<aO m)/\¬(0<=m.k2.value/\m.k2.value<=7)):=by unfold aO;split<;>omega
def QP:kz:=yW (vJ Bn) (fun L x=>la L x.1 x.2.1 x.2.2.1) (fun L x=>jk L x.1 x.2.1) (fun L x=>(dP L x.1 x.2.1).2.2) fun L x=> [kJ (bS L x.1 x.2.1),.it .i64 (dP L x.1 x.2.1).1]
def NY:kz:=yW (vJ Bn) (fun L x=>la L x.1 x.2.1 x.2.2.1) (fun L x=>jT L x.1 x.2.1) (fun L x=>(dQ L x.1 x.2.1).2.2) fun L x=> [kJ (cB L x.1 x.2.1),.it .i64 (dQ L x.1 x.2.1).1]
def HL:kz:=yW (vJ Bn) (fun L x=>la L x.1 x.2.1 x.2.2.1) (fun L x=>fR L x.1 x.2.1) (fun L x=>(c8 L x.1 x.2.1).2.2) fun L x=> [kJ (ba L x.1 x.2.1),.it .i64 (c8 L x.1 x.2.1).1]
def OS:kz:=yW (vJ Bn) (fun L x=>la L x.1 x.2.1 x.2.2.1) (fun L x=>gm L x.1 x.2.1) (fun L x=>(cT L x.1 x.2.1).2.2) fun L x=> [kJ (bx L x.1 x.2.1),.it .i64 (cT L x.1 x.2.1).1]
def VL:kz:=yW (vJ Ji) (fun L x=>aq L/\aA x.2.2.1.data) (fun L x=>ey L x.1 x.2.1 x.2.2.1) (fun L x=>fq L x.1 x.2.1 x.2.2.1) fun L x=> [kJ (aB L x.1 x.2.1 x.2.2.1),.bo (cM L x.1 x.2.1 x.2.2.1),.it .i64 (bP L x.1 x.2.1 x.2.2.1)]
def vt (L:List Obj) (n:Int) (k:Key) (m:bm):Prop:=
 (aq L/\aA m.data)/\bP L n k m=0/\¬(ab L k).kind=0/\¬m.code=0/\¬(m.code<1\/cF (ab L k).kind<m.code\/(cC (ab L k).kind m.code=true/\(aL L m).k2.kind≠1))
theorem HT {L:List Obj} {n:Int} {k:Key} {m:bm} {e:Int} (h:bP L n k m=e) (h0:e≠0):ey L n k m=false/\aB L n k m=dz/\cM L n k m=false/\e=bP L n k m:=by
 refine⟨?_,?_,?_,h.symm⟩
 ·unfold ey;rw[h];simp[h0]
 ·unfold aB;rw[h,XQ h0]
 ·unfold cM;rw[h];simp[h0]
theorem Ao {L:List Obj} {n:Int} {k:Key} {m:bm} {c:Bool} {r:Kz} (h:bP L n k m=0) (hr:dq L n (ab L k) (aL L m)=r) (hc:tc L (ab L k) (aL L m)=c):
  ey L n k m=c/\aB L n k m=(if r.1=0 then r.2.1 else fu r.1)/\fq L n k m=r.2.2/\cM L n k m=(decide ((ab L k).kind=10)&&decide (m.code=1))/\0=bP L n k m:=by
 refine⟨?_,?_,?_,?_,h.symm⟩
 ·unfold ey;rw[h,hc];rfl
 ·unfold aB dJ;rw[XR h,hr]
 ·unfold fq dL;rw[XR h,hr]
 ·unfold cM;rw[h];rfl
theorem QL {L:List Obj} {n:Int} {k:Key} {m:bm} (h:vt L n k m):dq L n (ab L k) (aL L m)=ef L n (ab L k) (aL L m)/\tc L (ab L k) (aL L m)=rF L (ab L k) (aL L m):=by
 obtain⟨_,h0,h1,h2,h3⟩:=h;have h2':¬(aL L m).code=0:=h2;have h3':¬((aL L m).code<1\/cF (ab L k).kind<(aL L m).code\/(cC (ab L k).kind (aL L m).code=true/\(aL L m).k2.kind≠1)):=h3;unfold dq tc;rw[XQ h1,XQ h2',XQ h3',XQ h1,XQ h2',XQ h3'];exact⟨rfl,rfl⟩
theorem VE {L:List Obj} {n:Int} {k:Key} {m:bm} (h:vt L n k m):(decide ((ab L k).kind=10)&&decide (m.code=1))=decide ((ab L k).kind=10):=by
 obtain⟨_,h0,h1,h2,h3⟩:=h;by_cases hk:(ab L k).kind=10
 ·have:cF (ab L k).kind=1:=by rw[hk];rfl
  have:m.code=1:=by omega
  simp[this]
 ·simp[hk]
theorem Oy {L:List Obj} {n:Int} {k:Key} {m:bm} {c:Bool} {r:Kz} (h:vt L n k m) (hr:ef L n (ab L k) (aL L m)=r) (hc:rF L (ab L k) (aL L m)=c):
  ey L n k m=c/\aB L n k m=(if r.1=0 then r.2.1 else fu r.1)/\fq L n k m=r.2.2/\cM L n k m=decide ((ab L k).kind=10)/\0=bP L n k m:=by
 obtain⟨e1,e2⟩:=QL h;obtain⟨a1,a2,a3,a4,a5⟩:=Ao h.2.1 (e1.trans hr) (e2.trans hc);exact⟨a1,a2,a3,a4.trans (VE h),a5⟩
theorem OA {L:List Obj} {n:Int} {k:Key} {m:bm} (h:(decide (n<0)|| !cZ L k|| !qZ L m)=true):pc L n k m=false:=by
 unfold pc;cases hm:cZ L k<;>cases hm2:qZ L m<;>simp_all<;>omega
theorem HK {L:List Obj} {n:Int} {k:Key} {m:bm} (h:(decide (n<0)|| !cZ L k|| !qZ L m)=false):¬pc L n k m=false:=by
 unfold pc;cases hm:cZ L k<;>cases hm2:qZ L m<;>simp_all<;>omega
end Go.Sx
