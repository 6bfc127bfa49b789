import Derived.Test.YtghpaegglbbocaaGreatKS
namespace Go.Sx
def aS (L:List Obj) (k:Key) (c:Bool):Int:=if ay L k 3 false=0 then(if(c&& !decide (k.rights=0))=true then 191 else 0)else ay L k 3 false
def bZ (i n:Int):Bool:=decide (0<=i)&&decide (0<=n)&&decide (i<=64)&&decide (n<=64-i)
def b7 (L:List Obj) (k:Key) (i n:Int):Int:=if aS L k false=0 then(if bZ i n then 0 else 4)else aS L k false
def dP (L:List Obj) (k:Key) (i n:Int):ByteArray:=if b7 L k i n=0 then BH (ah L k.oid.toNat free).bytes i.toNat (i+n).toNat else⟨#[]⟩
def j5 (o:Obj) (b:Bytes):Obj:= {o with bytes:=b}
def sm (L:List Obj) (k:Key) (b:Bytes):List Obj:=cB L k.oid.toNat (j5 (ah L k.oid.toNat free) b)
def cq (L:List Obj) (k:Key) (i:Int) (s:ByteArray):Int:=if aS L k true=0 then(if bZ i (bW s)then 0 else 4)else aS L k true
def eh (L:List Obj) (k:Key) (i:Int) (s:ByteArray):List Obj:=if cq L k i s=0 then sm L k (ve (ah L k.oid.toNat free).bytes i.toNat s.size s)else L
def eD (L:List Obj) (k:Key):List Obj:=if aS L k true=0 then sm L k fX else L
def cz (L:List Obj) (t f:Key):Int:=if aS L t true=0 then aS L f false else aS L t true
def eV (L:List Obj) (t f:Key):List Obj:=if cz L t f=0 then sm L t (ah L f.oid.toNat free).bytes else L
def aw (s:ByteArray):Prop:=(s.size:Int)<=9223372036854775807
def HM (v:V):Option ByteArray:=match v with
 | .st s=>some s
 |_=>none
theorem BB:pz HM V.st:=fun v x h=>by
 cases v<;>simp only[HM,Yh,reduceCtorEq]at h
 subst h;exact⟨fun _=>rfl,fun _=>id⟩
def zp (l:List V):Option (Key×Int×ByteArray):=match l with
 | [a,b,c]=>match rK a with
   |some k=>match rI .i64 b with
    |some i=>match HM c with
     |some s=>some (k,i,s)
     |none=>none
    |none=>none
   |none=>none
 |_=>none
theorem tX:∀l x,zp l=some x->ee l [.key x.1,.it .i64 x.2.1,.st x.2.2]:=fun l x h=>by
 unfold zp at h;split at h
 ·split at h
  ·rename_i h1;split at h
   ·rename_i h2;split at h<;>simp only[Yh,reduceCtorEq]at h
    rename_i h3;subst h;exact ee.rd fz h1 (ee.rd (fy .i64) h2 (ee.rd BB h3 ee.nil))
   ·simp at h
  ·simp at h
 ·simp at h
def C4:Ct:=PF (rI .i64) (rI .i64) fun i n=> .bo (bZ i n)
def Ta:Ct:=sF (bk BI (bk kA (bk bA iw))) (fun _=>none) fun x=> .it .i64 (aS x.1 x.2.1 x.2.2.1)
def PH:Ct:=sF (bk sA (bk kA (bk iA (bk iA iw)))) (fun _=>none) fun x=> .tp [.st (dP (DJ x.1) x.2.1 x.2.2.1 x.2.2.2.1),.it .i64 (b7 (DJ x.1) x.2.1 x.2.2.1 x.2.2.2.1)]
def VJ:kH:=HN zp (fun L x=>aq L/\aw x.2.2) (fun L x=> .it .i64 (cq L x.1 x.2.1 x.2.2)) fun L x=>eh L x.1 x.2.1 x.2.2
def Sf:kH:=HN WO (fun L _=>aq L) (fun L x=> .it .i64 (aS L x true)) fun L x=>eD L x
def Wn:kH:=HN OY (fun L _=>aq L) (fun L x=> .it .i64 (cz L x.1 x.2)) fun L x=>eV L x.1 x.2
theorem S1 {o:Obj} {n:Int} {b:Bytes} (h:bT o n=true) (hk:o.kind=1\/o.kind=2):bT (j5 o b) n=true:=by
 rw[fg]at h⊢;simp only[j5];obtain⟨a1,a2,a3,a4,a5,a6,a7,a8,a9,a10,a11⟩:=h;exact⟨a1,a2,a3,a4,a5,a6,a7,a8,a9,a10,fun i hi=> .inl hk⟩
theorem Ht {L:List Obj} {k:Key} (h:aU L k=true) (h2:k.kind=3):(ah L k.oid.toNat free).kind=2:=by
 rw[(dz h).2.2.2.2];unfold fM;rw[Yp (by have:=(yj h).1;omega),Yq h2]
theorem p9 {L:List Obj} {k:Key} {b:Bytes} (hL:aq L) (h:aU L k=true) (h2:k.kind=3):eU L k.oid (j5 (aa L k) b)=0/\cW L k.oid (j5 (aa L k) b)=sm L k b/\aq (sm L k b):=by
 obtain⟨b1,b2,b3,b4,_⟩:=dz h;have hr:=fj.1 hL;have ho:=S1 (b:=b) (hr.2.2 k.oid.toNat (by omega)) (.inr (Ht h h2))
 obtain⟨p1,p2⟩:=sO (L:=L) (o:=j5 (ah L k.oid.toNat free) b) (ki.2 ⟨b2,b3⟩) (pC ho).symm;rw[b4];refine⟨p1,p2,?_⟩;refine fj.2 ?_;unfold sm;have hl:(cB L k.oid.toNat (j5 (ah L k.oid.toNat free) b)).length=L.length:=by simp[cB]
 rw[hl];refine⟨hr.1,hr.2.1,fun i hi=>?_⟩
 by_cases e:i=k.oid.toNat
 ·subst e;rw[show ah (cB L k.oid.toNat (j5 (ah L k.oid.toNat free) b)) k.oid.toNat free=j5 (ah L k.oid.toNat free) b by simp[ah,cB,Yo,hi]]
  exact ho
 ·rw[show ah (cB L k.oid.toNat (j5 (ah L k.oid.toNat free) b)) i free=ah L i free by simp[ah,cB,Yo,List.getElem?_set,Ne.symm e]]
  exact hr.2.2 i hi
theorem A8 {L:List Obj} {k:Key} (h:aU L k=true) (h2:k.kind=3):0<=k.rights/\k.rights<=1:=by
 have:=gT (dz h).1;rw[h2]at this;exact this
theorem Tv {r:Int} (h0:0<=r) (h1:r<=1):bc .and .i64 r 1=r:=by
 have:r=0\/r=1:=by omega
 rcases this with rfl|rfl<;>decide
theorem mN {i n:Int}:bZ i n=true↔0<=i/\0<=n/\i<=64/\n<=64-i:=by
 simp only[bZ,Yj,Yk,and_assoc]
theorem NH (b:Bytes) (i:Int) (s:ByteArray) (h:bZ i (bW s)=true):R8 b i.toNat 64 s=ve b i.toNat s.size s:=by
 unfold R8 GA
 have hle:s.size<=64-i.toNat:=by
  obtain⟨h0,h1,h2,h3⟩:=mN.1 h;have h3:(s.size:Int)<=64-i:=h3;omega
 rw[show Nat.min s.size (64-i.toNat)=s.size from Nat.min_eq_left hle]
theorem Jm (b:Bytes):DB b 0 64=fX:=by
 unfold DB ve fX;ext i hi
 simp[sat_empty,hi]
theorem HI (b:Bytes) (i:Nat) (s:ByteArray):ve b i 0 s=b:=by
 apply Vector.ext
 intro j hj;have:=wU b i 0 s j hj;rw[Yp (by omega)]at this
 simpa[Bytes.at,Array.getD_eq_getD_getElem?,hj]using this
theorem Tn {a b:Bytes} (h:∀j,j<64->a.at j=b.at j):a=b:=by
 apply Vector.ext
 intro j hj;have:=h j hj;simpa[Bytes.at,Array.getD_eq_getD_getElem?,hj]using this
theorem GQ (b:Bytes) (i g:Nat) (s:ByteArray) (h:i+g<64):(ve b i g s).put (i+g) (sat s g)=ve b i (g+1) s:=by
 apply Tn
 intro j hj;rw[Bytes.gL _ _ _ _ h,wU _ _ _ _ _ hj,wU _ _ _ _ _ hj];by_cases e:j=i+g
 ·subst e;rw[Yq rfl,Yq (by omega),show i+g-i=g by omega]
 ·rw[Yp e];by_cases e2:i<=j/\j<i+g
  ·rw[Yq e2,Yq (by omega)]
  ·rw[Yp e2,Yp (by omega)]
theorem nS {L:List Obj} {k:Key} (hL:aq L) (h:aU L k=true):dR L k.oid/\0<=k.oid/\k.oid<(ai L:Int)/\k.oid.toNat<ai L:=tJ hL h
theorem lK {L:List Obj} {k:Key} {c:Bool} (h:aS L k c=0):aU L k=true/\k.kind=3/\(c=true->k.rights=0):=by
 unfold aS at h;split at h
 ·rename_i h1;obtain⟨a1,a2,_⟩:=fH h1;split at h
  ·omega
  ·rename_i h2;exact⟨a1,a2,fun hc=>by simpa[hc]using h2⟩
 ·rename_i h1;exact absurd h h1
theorem Tb {L:List Obj} {k:Key}:aS L k false=ay L k 3 false:=by
 unfold aS;split
 ·rename_i h;rw[h];rfl
 ·rfl
theorem Ku {L:List Obj} {k:Key} {c:Bool} (h:decide (an L=0)=true):aS L k c=1:=by
 have:ay L k 3 false=1:=IU (by rw[Yk]at h;simp[h])
 unfold aS;rw[this,Yp (by omega)]
theorem UQ {L:List Obj} {k:Key} {c:Bool} (h:decide (an L=0)=false) (h2:(!aU L k|| !decide (k.kind=3))=true):aS L k c=190:=by
 have h0:(!decide (0<an L))=false:=by
  rw[decide_eq_false_iff_not]at h;unfold an at h⊢;simp;omega
 have:ay L k 3 false=190:=He h0 (by simpa using h2)
 unfold aS;rw[this,Yp (by omega)]
theorem pT {L:List Obj} {k:Key} (h2:(!aU L k|| !decide (k.kind=3))=false):aU L k=true/\k.kind=3:=by simpa using h2
theorem W9 {L:List Obj} {k:Key} (h:decide (an L=0)=false) (h2:(!aU L k|| !decide (k.kind=3))=false):ay L k 3 false=0:=by
 refine F3 ?_ (by simpa using h2)
 rw[decide_eq_false_iff_not]at h;unfold an at h⊢;simp;omega
theorem Wt {L:List Obj} {k:Key} (h:decide (an L=0)=false) (h2:(!aU L k|| !decide (k.kind=3))=false):aS L k false=0:=by rw[Tb];exact W9 h h2
theorem Xh {L:List Obj} {k:Key} (h:decide (an L=0)=false) (h2:(!aU L k|| !decide (k.kind=3))=false) (h3:(!decide (bc BinOp.and IntKind.i64 k.rights 1=0))=true):aS L k true=191:=by
 obtain⟨a1,a2⟩:=pT h2;have hr:=A8 a1 a2;rw[Tv hr.1 hr.2]at h3;unfold aS;rw[Yq (W9 h h2),Yq (by simpa using h3)]
theorem VY {L:List Obj} {k:Key} (h:decide (an L=0)=false) (h2:(!aU L k|| !decide (k.kind=3))=false) (h3:(!decide (bc BinOp.and IntKind.i64 k.rights 1=0))=false):aS L k true=0:=by
 obtain⟨a1,a2⟩:=pT h2;have hr:=A8 a1 a2;rw[Tv hr.1 hr.2]at h3;unfold aS;rw[Yq (W9 h h2),Yp (by simpa using h3)]
theorem p6 {L:List Obj} {k:Key} {i n e:Int} (h:aS L k false=e) (he:e≠0):(⟨#[]⟩:ByteArray)=dP L k i n/\e=b7 L k i n:=by
 have:b7 L k i n=e:=by unfold b7;rw[h,Yp he]
 unfold dP;rw[this,Yp he];exact⟨rfl,rfl⟩
theorem xY {L:List Obj} {k:Key} {i n:Int} (h:aS L k false=0) (hi:(!bZ i n)=true):(⟨#[]⟩:ByteArray)=dP L k i n/\4=b7 L k i n:=by
 rw[Bool.not_eq_true']at hi;have:b7 L k i n=4:=by unfold b7;rw[Yq h,hi];rfl
 unfold dP;rw[this];exact⟨rfl,rfl⟩
theorem wj {L:List Obj} {k:Key} {i n:Int} (h:aS L k false=0) (hi:(!bZ i n)=false):aG IntKind.i64 (i+n)/\C5 i (i+n) 64/\BH (ah L k.oid.toNat free).bytes i.toNat (i+n).toNat=dP L k i n/\0=b7 L k i n:=by
 rw[Bool.not_eq_false']at hi;obtain⟨a,b,c,d⟩:=mN.1 hi;have:b7 L k i n=0:=by unfold b7;rw[Yq h,hi];rfl
 unfold dP;rw[this];exact⟨by simp only[aG,bY];omega,⟨by omega,by omega,by omega⟩,rfl,rfl⟩
theorem uS {L:List Obj} {k:Key} {i e:Int} {z:ByteArray} (h:aS L k true=e) (he:e≠0):e=cq L k i z/\L=eh L k i z:=by
 have:cq L k i z=e:=by unfold cq;rw[h,Yp he]
 unfold eh;rw[this,Yp he];exact⟨rfl,rfl⟩
theorem LZ {L:List Obj} {k:Key} {i:Int} {z:ByteArray} (h:aS L k true=0) (hi:(!bZ i (bW z))=true):4=cq L k i z/\L=eh L k i z:=by
 rw[Bool.not_eq_true']at hi;have:cq L k i z=4:=by unfold cq;rw[Yq h,hi];rfl
 unfold eh;rw[this];exact⟨rfl,rfl⟩
theorem Ve {L:List Obj} {k:Key} {i:Int} {z:ByteArray} (hL:aq L) (h1:aU L k=true) (h2:k.kind=3) (h:aS L k true=0) (hi:(!bZ i (bW z))=false):C5 i 64 64/\
  eU L k.oid (j5 (aa L k) (R8 (aa L k).bytes i.toNat (Int.toNat 64) z))=cq L k i z/\cW L k.oid (j5 (aa L k) (R8 (aa L k).bytes i.toNat (Int.toNat 64) z))=eh L k i z:=by
 rw[Bool.not_eq_false']at hi;obtain⟨a,b,c,d⟩:=mN.1 hi;have hE:cq L k i z=0:=by unfold cq;rw[Yq h,hi];rfl
 have hb:=NH (aa L k).bytes i z hi;obtain⟨p1,p2,_⟩:=p9 (b:=ve (aa L k).bytes i.toNat z.size z) hL h1 h2;have h64:Int.toNat 64=64:=rfl;rw[h64,hb,p1,p2,hE];refine⟨⟨by omega,by omega,by omega⟩,rfl,?_⟩
 unfold eh;rw[hE,Yq rfl,(dz h1).2.2.2.1]
theorem xw {L:List Obj} {k:Key} {e:Int} (h:aS L k true=e) (he:e≠0):e=aS L k true/\L=eD L k:=by
 refine⟨h.symm,?_⟩;unfold eD;rw[h,Yp he]
theorem Vz {L:List Obj} {k:Key} (hL:aq L) (h1:aU L k=true) (h2:k.kind=3) (h:aS L k true=0):C5 0 64 64/\
  eU L k.oid (j5 (aa L k) (DB (aa L k).bytes (Int.toNat 0) (Int.toNat 64)))=aS L k true/\cW L k.oid (j5 (aa L k) (DB (aa L k).bytes (Int.toNat 0) (Int.toNat 64)))=eD L k:=by
 have h64:Int.toNat 64=64:=rfl;have h0:Int.toNat 0=0:=rfl;obtain⟨p1,p2,_⟩:=p9 (b:=fX) hL h1 h2;rw[h64,h0,Jm,p1,p2,h];refine⟨⟨by omega,by omega,by omega⟩,rfl,?_⟩
 unfold eD;rw[Yq h]
theorem uz {L:List Obj} {t f:Key} {e:Int} (h:aS L t true=e) (he:e≠0):e=cz L t f/\L=eV L t f:=by
 have:cz L t f=e:=by unfold cz;rw[h,Yp he]
 unfold eV;rw[this,Yp he];exact⟨rfl,rfl⟩
theorem Ge {L:List Obj} {t f:Key} {e:Int} (h:aS L t true=0) (h2:aS L f false=e) (he:e≠0):e=cz L t f/\L=eV L t f:=by
 have:cz L t f=e:=by unfold cz;rw[Yq h,h2]
 unfold eV;rw[this,Yp he];exact⟨rfl,rfl⟩
theorem U8 {L:List Obj} {t f:Key} (hL:aq L) (h1:aU L t=true) (h2:t.kind=3) (h:aS L t true=0) (g1:aU L f=true) (g:aS L f false=0):
  eU L t.oid (j5 (aa L t) (aa L f).bytes)=cz L t f/\cW L t.oid (j5 (aa L t) (aa L f).bytes)=eV L t f:=by
 have hE:cz L t f=0:=by unfold cz;rw[Yq h,g]
 obtain⟨p1,p2,_⟩:=p9 (b:=(aa L f).bytes) hL h1 h2;rw[p1,p2,hE];refine⟨rfl,?_⟩;unfold eV;rw[hE,Yq rfl,(dz g1).2.2.2.1]
structure VC where
 kind:Int
 pos:Int
 num:Int
 key:Key
 other:Key
 bytes:ByteArray
def VC.wf (x:VC):Prop:=bY .i64 x.kind/\bY .i64 x.pos/\bY .i64 x.num/\x.key.wf/\x.other.wf/\aw x.bytes
def AX (L:List Obj) (a:VC):Bool:=
 if a.kind=1 then false else if a.kind=2 then decide (cq L a.key a.pos a.bytes=0)else if a.kind=3 then decide (aS L a.key true=0)else decide (cz L a.key a.other=0)
def Ni (L:List Obj) (a:VC):List Obj:=
 if a.kind=1 then L else if a.kind=2 then eh L a.key a.pos a.bytes else if a.kind=3 then eD L a.key else eV L a.key a.other
def sr (L:List Obj) (k:Key) (i:Int) (s:ByteArray) (g:Int):Obj:=j5 (ah L k.oid.toNat free) (ve (ah L k.oid.toNat free).bytes i.toNat g.toNat s)
def A7 (s:ByteArray) (g:Int):Prop:=0<=g/\g<=(s.size:Int)
def Gv (s:ByteArray) (g:Int):Nat:=s.size-g.toNat
theorem Rn {L:List Obj} {k:Key} {i:Int} {s:ByteArray}:ah L k.oid.toNat free=sr L k i s 0:=by
 unfold sr j5;rw[show(0:Int).toNat=0 from rfl,HI]
theorem Qb {L:List Obj} {k:Key} {i:Int} {s:ByteArray} {g:Int} (h0:0<=i) (h1:0<=g) (h:i+g<64):j5 (sr L k i s g) ((sr L k i s g).bytes.put (i+g).toNat (sat s g.toNat))=sr L k i s (g+1):=by
 unfold sr j5;simp only;rw[show(i+g).toNat=i.toNat+g.toNat by omega,show(g+1).toNat=g.toNat+1 by omega,GQ _ _ _ _ (by omega)]
theorem HJ (s:ByteArray):vP s s=true:=by simp[vP]
end Go.Sx
