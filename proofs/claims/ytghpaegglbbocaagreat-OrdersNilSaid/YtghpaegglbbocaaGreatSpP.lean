import Derived.Test.YtghpaegglbbocaaGreatKS
set_option linter.unusedSimpArgs false
set_option linter.unusedVariables false
namespace Go.Sx
def aS (L:List Obj) (k:Key) (c:Bool):Int:=if ay L k 3 false=0 then(if(c&& !decide (k.rights=0))=true then 191 else 0)else ay L k 3 false
def bZ (i n:Int):Bool:=decide (0<=i)&&decide (0<=n)&&decide (i<=64)&&decide (n<=64-i)
def b7 (L:List Obj) (k:Key) (i n:Int):Int:=if aS L k false=0 then(if bZ i n then 0 else 4)else aS L k false
def dQ (L:List Obj) (k:Key) (i n:Int):ByteArray:=if b7 L k i n=0 then BL (ah L k.oid.toNat free).bytes i.toNat (i+n).toNat else⟨#[]⟩
def jV (o:Obj) (b:Bytes):Obj:= {o with bytes:=b}
def sq (L:List Obj) (k:Key) (b:Bytes):List Obj:=cC L k.oid.toNat (jV (ah L k.oid.toNat free) b)
def cq (L:List Obj) (k:Key) (i:Int) (s:ByteArray):Int:=if aS L k true=0 then(if bZ i (bW s)then 0 else 4)else aS L k true
def ec (L:List Obj) (k:Key) (i:Int) (s:ByteArray):List Obj:=if cq L k i s=0 then sq L k (uV (ah L k.oid.toNat free).bytes i.toNat s.size s)else L
def eD (L:List Obj) (k:Key):List Obj:=if aS L k true=0 then sq L k fX else L
def cy (L:List Obj) (t f:Key):Int:=if aS L t true=0 then aS L f false else aS L t true
def eT (L:List Obj) (t f:Key):List Obj:=if cy L t f=0 then sq L t (ah L f.oid.toNat free).bytes else L
def aw (s:ByteArray):Prop:=(s.size:Int)<=9223372036854775807
def H2 (v:V):Option ByteArray:=match v with
 | .st s=>some s
 |_=>none
theorem Bi:py H2 V.st:=fun v x h=>by
 cases v<;>simp only[H2,Yh,reduceCtorEq]at h
 subst h;exact⟨fun _=>rfl,fun _=>id⟩
def z8 (l:List V):Option (Key×Int×ByteArray):=match l with
 | [a,b,c]=>match rK a with
   |some k=>match rI .i64 b with
    |some i=>match H2 c with
     |some s=>some (k,i,s)
     |none=>none
    |none=>none
   |none=>none
 |_=>none
theorem tQ:∀l x,z8 l=some x->eh l [.key x.1,.it .i64 x.2.1,.st x.2.2]:=fun l x h=>by
 unfold z8 at h;split at h
 ·split at h
  ·rename_i h1;split at h
   ·rename_i h2;split at h<;>simp only[Yh,reduceCtorEq]at h
    rename_i h3;subst h;exact eh.rd fz h1 (eh.rd (fy .i64) h2 (eh.rd Bi h3 eh.nil))
   ·simp at h
  ·simp at h
 ·simp at h
def BV:Ct:=P6 (rI .i64) (rI .i64) fun i n=> .bo (bZ i n)
def SE:Ct:=sE (bk AR (bk kA (bk bA iv))) (fun _=>none) fun x=> .it .i64 (aS x.1 x.2.1 x.2.2.1)
def Pb:Ct:=sE (bk sA (bk kA (bk iA (bk iA iv)))) (fun _=>none) fun x=> .tp [.st (dQ (DV x.1) x.2.1 x.2.2.1 x.2.2.2.1),.it .i64 (b7 (DV x.1) x.2.1 x.2.2.1 x.2.2.2.1)]
def Vh:kI:=GW z8 (fun L x=>aq L/\aw x.2.2) (fun L x=> .it .i64 (cq L x.1 x.2.1 x.2.2)) fun L x=>ec L x.1 x.2.1 x.2.2
def SN:kI:=GW W0 (fun L _=>aq L) (fun L x=> .it .i64 (aS L x true)) fun L x=>eD L x
def Vn:kI:=GW QE (fun L _=>aq L) (fun L x=> .it .i64 (cy L x.1 x.2)) fun L x=>eT L x.1 x.2
theorem TR {o:Obj} {n:Int} {b:Bytes} (h:bT o n=true) (hk:o.kind=1\/o.kind=2):bT (jV o b) n=true:=by
 rw[fj]at h⊢;simp only[jV];obtain⟨a1,a2,a3,a4,a5,a6,a7,a8,a9,a10,a11⟩:=h;exact⟨a1,a2,a3,a4,a5,a6,a7,a8,a9,a10,fun i hi=> .inl hk⟩
theorem Hq {L:List Obj} {k:Key} (h:aU L k=true) (h2:k.kind=3):(ah L k.oid.toNat free).kind=2:=by
 rw[(dz h).2.2.2.2];unfold fP;rw[Yp (by have:=(xu h).1;omega),Yq h2]
theorem p9 {L:List Obj} {k:Key} {b:Bytes} (hL:aq L) (h:aU L k=true) (h2:k.kind=3):eJ L k.oid (jV (aa L k) b)=0/\cV L k.oid (jV (aa L k) b)=sq L k b/\aq (sq L k b):=by
 obtain⟨b1,b2,b3,b4,_⟩:=dz h;have hr:=ff.1 hL;have ho:=TR (b:=b) (hr.2.2 k.oid.toNat (by omega)) (.inr (Hq h h2))
 obtain⟨p1,p2⟩:=tj (L:=L) (o:=jV (ah L k.oid.toNat free) b) (ky.2 ⟨b2,b3⟩) (pQ ho).symm;rw[b4];refine⟨p1,p2,?_⟩;refine ff.2 ?_;unfold sq;have hl:(cC L k.oid.toNat (jV (ah L k.oid.toNat free) b)).length=L.length:=by simp[cC]
 rw[hl];refine⟨hr.1,hr.2.1,fun i hi=>?_⟩
 by_cases e:i=k.oid.toNat
 ·subst e;rw[show ah (cC L k.oid.toNat (jV (ah L k.oid.toNat free) b)) k.oid.toNat free=jV (ah L k.oid.toNat free) b by simp[ah,cC,Yo,hi]]
  exact ho
 ·rw[show ah (cC L k.oid.toNat (jV (ah L k.oid.toNat free) b)) i free=ah L i free by simp[ah,cC,Yo,List.getElem?_set,Ne.symm e]]
  exact hr.2.2 i hi
theorem AG {L:List Obj} {k:Key} (h:aU L k=true) (h2:k.kind=3):0<=k.rights/\k.rights<=1:=by
 have:=gS (dz h).1;rw[h2]at this;exact this
theorem T3 {r:Int} (h0:0<=r) (h1:r<=1):bc .and .i64 r 1=r:=by
 have:r=0\/r=1:=by omega
 rcases this with rfl|rfl<;>decide
theorem mM {i n:Int}:bZ i n=true↔0<=i/\0<=n/\i<=64/\n<=64-i:=by
 simp only[bZ,Yj,Yk,and_assoc]
theorem KE (b:Bytes) (i:Int) (s:ByteArray) (h:bZ i (bW s)=true):R9 b i.toNat 64 s=uV b i.toNat s.size s:=by
 unfold R9 HJ
 have hle:s.size<=64-i.toNat:=by
  obtain⟨h0,h1,h2,h3⟩:=mM.1 h;have h3:(s.size:Int)<=64-i:=h3;omega
 rw[show Nat.min s.size (64-i.toNat)=s.size from Nat.min_eq_left hle]
theorem ML (b:Bytes):CS b 0 64=fX:=by
 unfold CS uV fX;ext i hi
 simp[sat_empty,hi]
theorem HN (b:Bytes) (i:Nat) (s:ByteArray):uV b i 0 s=b:=by
 apply Vector.ext
 intro j hj;have:=v7 b i 0 s j hj;rw[Yp (by omega)]at this
 simpa[Bytes.at,Array.getD_eq_getD_getElem?,hj]using this
theorem UD {a b:Bytes} (h:∀j,j<64->a.at j=b.at j):a=b:=by
 apply Vector.ext
 intro j hj;have:=h j hj;simpa[Bytes.at,Array.getD_eq_getD_getElem?,hj]using this
theorem HE (b:Bytes) (i g:Nat) (s:ByteArray) (h:i+g<64):(uV b i g s).put (i+g) (sat s g)=uV b i (g+1) s:=by
 apply UD
 intro j hj;rw[Bytes.gI _ _ _ _ h,v7 _ _ _ _ _ hj,v7 _ _ _ _ _ hj];by_cases e:j=i+g
 ·subst e;rw[Yq rfl,Yq (by omega),show i+g-i=g by omega]
 ·rw[Yp e];by_cases e2:i<=j/\j<i+g
  ·rw[Yq e2,Yq (by omega)]
  ·rw[Yp e2,Yp (by omega)]
theorem nV {L:List Obj} {k:Key} (hL:aq L) (h:aU L k=true):dL L k.oid/\0<=k.oid/\k.oid<(aj L:Int)/\k.oid.toNat<aj L:=tJ hL h
theorem lP {L:List Obj} {k:Key} {c:Bool} (h:aS L k c=0):aU L k=true/\k.kind=3/\(c=true->k.rights=0):=by
 unfold aS at h;split at h
 ·rename_i h1;obtain⟨a1,a2,_⟩:=fG h1;split at h
  ·omega
  ·rename_i h2;exact⟨a1,a2,fun hc=>by simpa[hc]using h2⟩
 ·rename_i h1;exact absurd h h1
theorem S2 {L:List Obj} {k:Key}:aS L k false=ay L k 3 false:=by
 unfold aS;split
 ·rename_i h;rw[h];rfl
 ·rfl
theorem LB {L:List Obj} {k:Key} {c:Bool} (h:decide (an L=0)=true):aS L k c=1:=by
 have:ay L k 3 false=1:=H9 (by rw[Yk]at h;simp[h])
 unfold aS;rw[this,Yp (by omega)]
theorem UU {L:List Obj} {k:Key} {c:Bool} (h:decide (an L=0)=false) (h2:(!aU L k|| !decide (k.kind=3))=true):aS L k c=190:=by
 have h0:(!decide (0<an L))=false:=by
  rw[decide_eq_false_iff_not]at h;unfold an at h⊢;simp;omega
 have:ay L k 3 false=190:=GK h0 (by simpa using h2)
 unfold aS;rw[this,Yp (by omega)]
theorem qi {L:List Obj} {k:Key} (h2:(!aU L k|| !decide (k.kind=3))=false):aU L k=true/\k.kind=3:=by simpa using h2
theorem Xs {L:List Obj} {k:Key} (h:decide (an L=0)=false) (h2:(!aU L k|| !decide (k.kind=3))=false):ay L k 3 false=0:=by
 refine E0 ?_ (by simpa using h2)
 rw[decide_eq_false_iff_not]at h;unfold an at h⊢;simp;omega
theorem VB {L:List Obj} {k:Key} (h:decide (an L=0)=false) (h2:(!aU L k|| !decide (k.kind=3))=false):aS L k false=0:=by rw[S2];exact Xs h h2
theorem Xu {L:List Obj} {k:Key} (h:decide (an L=0)=false) (h2:(!aU L k|| !decide (k.kind=3))=false) (h3:(!decide (bc BinOp.and IntKind.i64 k.rights 1=0))=true):aS L k true=191:=by
 obtain⟨a1,a2⟩:=qi h2;have hr:=AG a1 a2;rw[T3 hr.1 hr.2]at h3;unfold aS;rw[Yq (Xs h h2),Yq (by simpa using h3)]
theorem VQ {L:List Obj} {k:Key} (h:decide (an L=0)=false) (h2:(!aU L k|| !decide (k.kind=3))=false) (h3:(!decide (bc BinOp.and IntKind.i64 k.rights 1=0))=false):aS L k true=0:=by
 obtain⟨a1,a2⟩:=qi h2;have hr:=AG a1 a2;rw[T3 hr.1 hr.2]at h3;unfold aS;rw[Yq (Xs h h2),Yp (by simpa using h3)]
theorem pD {L:List Obj} {k:Key} {i n e:Int} (h:aS L k false=e) (he:e≠0):(⟨#[]⟩:ByteArray)=dQ L k i n/\e=b7 L k i n:=by
 have:b7 L k i n=e:=by unfold b7;rw[h,Yp he]
 unfold dQ;rw[this,Yp he];exact⟨rfl,rfl⟩
theorem yn {L:List Obj} {k:Key} {i n:Int} (h:aS L k false=0) (hi:(!bZ i n)=true):(⟨#[]⟩:ByteArray)=dQ L k i n/\4=b7 L k i n:=by
 rw[Bool.not_eq_true']at hi;have:b7 L k i n=4:=by unfold b7;rw[Yq h,hi];rfl
 unfold dQ;rw[this];exact⟨rfl,rfl⟩
theorem wz {L:List Obj} {k:Key} {i n:Int} (h:aS L k false=0) (hi:(!bZ i n)=false):aG IntKind.i64 (i+n)/\CB i (i+n) 64/\BL (ah L k.oid.toNat free).bytes i.toNat (i+n).toNat=dQ L k i n/\0=b7 L k i n:=by
 rw[Bool.not_eq_false']at hi;obtain⟨a,b,c,d⟩:=mM.1 hi;have:b7 L k i n=0:=by unfold b7;rw[Yq h,hi];rfl
 unfold dQ;rw[this];exact⟨by simp only[aG,bY];omega,⟨by omega,by omega,by omega⟩,rfl,rfl⟩
theorem u6 {L:List Obj} {k:Key} {i e:Int} {z:ByteArray} (h:aS L k true=e) (he:e≠0):e=cq L k i z/\L=ec L k i z:=by
 have:cq L k i z=e:=by unfold cq;rw[h,Yp he]
 unfold ec;rw[this,Yp he];exact⟨rfl,rfl⟩
theorem I9 {L:List Obj} {k:Key} {i:Int} {z:ByteArray} (h:aS L k true=0) (hi:(!bZ i (bW z))=true):4=cq L k i z/\L=ec L k i z:=by
 rw[Bool.not_eq_true']at hi;have:cq L k i z=4:=by unfold cq;rw[Yq h,hi];rfl
 unfold ec;rw[this];exact⟨rfl,rfl⟩
theorem Wi {L:List Obj} {k:Key} {i:Int} {z:ByteArray} (hL:aq L) (h1:aU L k=true) (h2:k.kind=3) (h:aS L k true=0) (hi:(!bZ i (bW z))=false):CB i 64 64/\
  eJ L k.oid (jV (aa L k) (R9 (aa L k).bytes i.toNat (Int.toNat 64) z))=cq L k i z/\cV L k.oid (jV (aa L k) (R9 (aa L k).bytes i.toNat (Int.toNat 64) z))=ec L k i z:=by
 rw[Bool.not_eq_false']at hi;obtain⟨a,b,c,d⟩:=mM.1 hi;have hE:cq L k i z=0:=by unfold cq;rw[Yq h,hi];rfl
 have hb:=KE (aa L k).bytes i z hi;obtain⟨p1,p2,_⟩:=p9 (b:=uV (aa L k).bytes i.toNat z.size z) hL h1 h2;have h64:Int.toNat 64=64:=rfl;rw[h64,hb,p1,p2,hE];refine⟨⟨by omega,by omega,by omega⟩,rfl,?_⟩
 unfold ec;rw[hE,Yq rfl,(dz h1).2.2.2.1]
theorem yE {L:List Obj} {k:Key} {e:Int} (h:aS L k true=e) (he:e≠0):e=aS L k true/\L=eD L k:=by
 refine⟨h.symm,?_⟩;unfold eD;rw[h,Yp he]
theorem VF {L:List Obj} {k:Key} (hL:aq L) (h1:aU L k=true) (h2:k.kind=3) (h:aS L k true=0):CB 0 64 64/\
  eJ L k.oid (jV (aa L k) (CS (aa L k).bytes (Int.toNat 0) (Int.toNat 64)))=aS L k true/\cV L k.oid (jV (aa L k) (CS (aa L k).bytes (Int.toNat 0) (Int.toNat 64)))=eD L k:=by
 have h64:Int.toNat 64=64:=rfl;have h0:Int.toNat 0=0:=rfl;obtain⟨p1,p2,_⟩:=p9 (b:=fX) hL h1 h2;rw[h64,h0,ML,p1,p2,h];refine⟨⟨by omega,by omega,by omega⟩,rfl,?_⟩
 unfold eD;rw[Yq h]
theorem uN {L:List Obj} {t f:Key} {e:Int} (h:aS L t true=e) (he:e≠0):e=cy L t f/\L=eT L t f:=by
 have:cy L t f=e:=by unfold cy;rw[h,Yp he]
 unfold eT;rw[this,Yp he];exact⟨rfl,rfl⟩
theorem Gv {L:List Obj} {t f:Key} {e:Int} (h:aS L t true=0) (h2:aS L f false=e) (he:e≠0):e=cy L t f/\L=eT L t f:=by
 have:cy L t f=e:=by unfold cy;rw[Yq h,h2]
 unfold eT;rw[this,Yp he];exact⟨rfl,rfl⟩
theorem Wh {L:List Obj} {t f:Key} (hL:aq L) (h1:aU L t=true) (h2:t.kind=3) (h:aS L t true=0) (g1:aU L f=true) (g:aS L f false=0):
  eJ L t.oid (jV (aa L t) (aa L f).bytes)=cy L t f/\cV L t.oid (jV (aa L t) (aa L f).bytes)=eT L t f:=by
 have hE:cy L t f=0:=by unfold cy;rw[Yq h,g]
 obtain⟨p1,p2,_⟩:=p9 (b:=(aa L f).bytes) hL h1 h2;rw[p1,p2,hE];refine⟨rfl,?_⟩;unfold eT;rw[hE,Yq rfl,(dz g1).2.2.2.1]
structure Vc where
 kind:Int
 pos:Int
 num:Int
 key:Key
 other:Key
 bytes:ByteArray
def Vc.wf (x:Vc):Prop:=bY .i64 x.kind/\bY .i64 x.pos/\bY .i64 x.num/\x.key.wf/\x.other.wf/\aw x.bytes
def BI (L:List Obj) (a:Vc):Bool:=
 if a.kind=1 then false else if a.kind=2 then decide (cq L a.key a.pos a.bytes=0)else if a.kind=3 then decide (aS L a.key true=0)else decide (cy L a.key a.other=0)
def L5 (L:List Obj) (a:Vc):List Obj:=
 if a.kind=1 then L else if a.kind=2 then ec L a.key a.pos a.bytes else if a.kind=3 then eD L a.key else eT L a.key a.other
def rN (L:List Obj) (k:Key) (i:Int) (s:ByteArray) (g:Int):Obj:=jV (ah L k.oid.toNat free) (uV (ah L k.oid.toNat free).bytes i.toNat g.toNat s)
def Bn (s:ByteArray) (g:Int):Prop:=0<=g/\g<=(s.size:Int)
def Gb (s:ByteArray) (g:Int):Nat:=s.size-g.toNat
theorem OM {L:List Obj} {k:Key} {i:Int} {s:ByteArray}:ah L k.oid.toNat free=rN L k i s 0:=by
 unfold rN jV;rw[show(0:Int).toNat=0 from rfl,HN]
theorem Ov {L:List Obj} {k:Key} {i:Int} {s:ByteArray} {g:Int} (h0:0<=i) (h1:0<=g) (h:i+g<64):jV (rN L k i s g) ((rN L k i s g).bytes.put (i+g).toNat (sat s g.toNat))=rN L k i s (g+1):=by
 unfold rN jV;simp only;rw[show(i+g).toNat=i.toNat+g.toNat by omega,show(g+1).toNat=g.toNat+1 by omega,HE _ _ _ _ (by omega)]
theorem Hc (s:ByteArray):vP s s=true:=by simp[vP]
end Go.Sx
