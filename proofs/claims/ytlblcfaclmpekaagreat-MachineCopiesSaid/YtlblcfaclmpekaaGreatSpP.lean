import Derived.Test.YtlblcfaclmpekaaGreatKS
set_option linter.unusedSimpArgs false
set_option linter.unusedVariables false
namespace Go.Sx
def bC (L:List Obj) (k:Key) (c:Bool):Int:=if aS L k 3 false=0 then(if(c&& !decide (k.rights=0))=true then 191 else 0)else aS L k 3 false
def dA (i n:Int):Bool:=decide (0<=i)&&decide (0<=n)&&decide (i<=64)&&decide (n<=64-i)
def b6 (L:List Obj) (k:Key) (i n:Int):Int:=if bC L k false=0 then(if dA i n then 0 else 4)else bC L k false
def dV (L:List Obj) (k:Key) (i n:Int):ByteArray:=if b6 L k i n=0 then xz (aq L k.oid.toNat free).bytes i.toNat (i+n).toNat else⟨#[]⟩
def jR (o:Obj) (b:Bytes):Obj:= {o with bytes:=b}
def rk (L:List Obj) (k:Key) (b:Bytes):List Obj:=dh L k.oid.toNat (jR (aq L k.oid.toNat free) b)
def cZ (L:List Obj) (k:Key) (i:Int) (s:ByteArray):Int:=if bC L k true=0 then(if dA i (cC s)then 0 else 4)else bC L k true
def fb (L:List Obj) (k:Key) (i:Int) (s:ByteArray):List Obj:=if cZ L k i s=0 then rk L k (uP (aq L k.oid.toNat free).bytes i.toNat s.size s)else L
def fM (L:List Obj) (k:Key):List Obj:=if bC L k true=0 then rk L k ev else L
def cV (L:List Obj) (t f:Key):Int:=if bC L t true=0 then bC L f false else bC L t true
def fS (L:List Obj) (t f:Key):List Obj:=if cV L t f=0 then rk L t (aq L f.oid.toNat free).bytes else L
def az (s:ByteArray):Prop:=(s.size:Int)<=9223372036854775807
def BL (v:V):Option ByteArray:=match v with
 | .st s=>some s
 |_=>none
theorem u7:ra BL V.st:=fun v x h=>by
 cases v<;>simp only[BL,VI,reduceCtorEq]at h
 subst h;exact⟨fun _=>rfl,fun _=>id⟩
def zA:Arg ByteArray:=AJ BL V.st
theorem Tm:lY zA:=qp u7 (fun _=>rfl) fun v x h=>by cases v<;>simp[BL]at h;rfl
def EB (l:List V):Option (Key×Int×ByteArray):=match l with
 | [a,b,c]=>match rK a with
   |some k=>match rI .i64 b with
    |some i=>match BL c with
     |some s=>some (k,i,s)
     |none=>none
    |none=>none
   |none=>none
 |_=>none
theorem BU:∀l x,EB l=some x->ep l [.key x.1,.it .i64 x.2.1,.st x.2.2]:=fun l x h=>by
 unfold EB at h;split at h
 ·split at h
  ·rename_i h1;split at h
   ·rename_i h2;split at h<;>simp only[VI,reduceCtorEq]at h
    rename_i h3;subst h;exact ep.rd iw h1 (ep.rd (gJ .i64) h2 (ep.rd u7 h3 ep.nil))
   ·simp at h
  ·simp at h
 ·simp at h
def IA:Ct:=RG (rI .i64) (rI .i64) fun i n=> .bo (dA i n)
def Oy:Ct:=Ci (bI sA (bI kA (bI iA (bI iA kK)))) (fun _=>none) fun x=> .tp [.st (dV (An x.1) x.2.1 x.2.2.1 x.2.2.2.1),.it .i64 (b6 (An x.1) x.2.1 x.2.2.1 x.2.2.2.1)]
def Td:nz:=Gs EB (fun L x=>aw L/\az x.2.2) (fun L x=> .it .i64 (cZ L x.1 x.2.1 x.2.2)) fun L x=>fb L x.1 x.2.1 x.2.2
def PM:nz:=Gs TR (fun L _=>aw L) (fun L x=> .it .i64 (bC L x true)) fun L x=>fM L x
def SO:nz:=Gs Nc (fun L _=>aw L) (fun L x=> .it .i64 (cV L x.1 x.2)) fun L x=>fS L x.1 x.2
theorem Ki {o:Obj} {n:Int} {b:Bytes} (h:bu o n=true) (hk:o.kind=1\/o.kind=2):bu (jR o b) n=true:=by
 rw[eo]at h⊢;simp only[jR];obtain⟨a1,a2,a3,a4,a5,a6,a7,a8,a9,a10,a11⟩:=h;exact⟨a1,a2,a3,a4,a5,a6,a7,a8,a9,a10,fun i hi=> .inl hk⟩
theorem Fj {L:List Obj} {k:Key} (h:aT L k=true) (h2:k.kind=3):(aq L k.oid.toNat free).kind=2:=by
 rw[(eF h).2.2.2.2];unfold iJ;rw[VQ (by have:=(xh h).1;omega),VR h2]
theorem pC {L:List Obj} {k:Key} {b:Bytes} (hL:aw L) (h:aT L k=true) (h2:k.kind=3):eP L k.oid (jR (aa L k) b)=0/\bP L k.oid (jR (aa L k) b)=rk L k b/\aw (rk L k b):=by
 obtain⟨b1,b2,b3,b4,_⟩:=eF h;have hr:=fH.1 hL;have ho:=Ki (b:=b) (hr.2.2 k.oid.toNat (by omega)) (.inr (Fj h h2))
 obtain⟨p1,p2⟩:=rX (L:=L) (o:=jR (aq L k.oid.toNat free) b) (mZ.2 ⟨b2,b3⟩) (rN ho).symm;rw[b4];refine⟨p1,p2,?_⟩;refine fH.2 ?_;unfold rk;have hl:(dh L k.oid.toNat (jR (aq L k.oid.toNat free) b)).length=L.length:=by simp[dh]
 rw[hl];refine⟨hr.1,hr.2.1,fun i hi=>?_⟩
 by_cases e:i=k.oid.toNat
 ·subst e;rw[show aq (dh L k.oid.toNat (jR (aq L k.oid.toNat free) b)) k.oid.toNat free=jR (aq L k.oid.toNat free) b by simp[aq,dh,VP,hi]]
  exact ho
 ·rw[show aq (dh L k.oid.toNat (jR (aq L k.oid.toNat free) b)) i free=aq L i free by simp[aq,dh,VP,List.getElem?_set,Ne.symm e]]
  exact hr.2.2 i hi
theorem Af {L:List Obj} {k:Key} (h:aT L k=true) (h2:k.kind=3):0<=k.rights/\k.rights<=1:=by
 have:=gC (eF h).1;rw[h2]at this;exact this
theorem Px {r:Int} (h0:0<=r) (h1:r<=1):aY .and .i64 r 1=r:=by
 have:r=0\/r=1:=by omega
 rcases this with rfl|rfl<;>decide
theorem qQ {i n:Int}:dA i n=true↔0<=i/\0<=n/\i<=64/\n<=64-i:=by
 simp only[dA,VK,VL,and_assoc]
theorem Hj (b:Bytes) (i:Int) (s:ByteArray) (h:dA i (cC s)=true):GM b i.toNat 64 s=uP b i.toNat s.size s:=by
 unfold GM FI
 have hle:s.size<=64-i.toNat:=by
  obtain⟨h0,h1,h2,h3⟩:=qQ.1 h;have h3:(s.size:Int)<=64-i:=h3;omega
 rw[show Nat.min s.size (64-i.toNat)=s.size from Nat.min_eq_left hle]
theorem JX (b:Bytes):Ap b 0 64=ev:=by
 unfold Ap uP ev;ext i hi
 simp[sat_empty,hi]
theorem vj {L:List Obj} {k:Key} {c:Bool} (h:bC L k c=0):aT L k=true/\k.kind=3/\(c=true->k.rights=0):=by
 unfold bC at h;split at h
 ·rename_i h1;obtain⟨a1,a2,_⟩:=kE h1;split at h
  ·omega
  ·rename_i h2;exact⟨a1,a2,fun hc=>by simpa[hc]using h2⟩
 ·rename_i h1;exact absurd h h1
theorem PI {L:List Obj} {k:Key}:bC L k false=aS L k 3 false:=by
 unfold bC;split
 ·rename_i h;rw[h];rfl
 ·rfl
theorem Iw {L:List Obj} {k:Key} {c:Bool} (h:decide (aj L=0)=true):bC L k c=1:=by
 have:aS L k 3 false=1:=HY (by rw[VL]at h;simp[h])
 unfold bC;rw[this,VQ (by omega)]
theorem RW {L:List Obj} {k:Key} {c:Bool} (h:decide (aj L=0)=false) (h2:(!aT L k|| !decide (k.kind=3))=true):bC L k c=190:=by
 have h0:(!decide (0<aj L))=false:=by
  rw[decide_eq_false_iff_not]at h;unfold aj at h⊢;simp;omega
 have:aS L k 3 false=190:=FN h0 (by simpa using h2)
 unfold bC;rw[this,VQ (by omega)]
theorem pS {L:List Obj} {k:Key} (h2:(!aT L k|| !decide (k.kind=3))=false):aT L k=true/\k.kind=3:=by simpa using h2
theorem UD {L:List Obj} {k:Key} (h:decide (aj L=0)=false) (h2:(!aT L k|| !decide (k.kind=3))=false):aS L k 3 false=0:=by
 refine E0 ?_ (by simpa using h2)
 rw[decide_eq_false_iff_not]at h;unfold aj at h⊢;simp;omega
theorem SQ {L:List Obj} {k:Key} (h:decide (aj L=0)=false) (h2:(!aT L k|| !decide (k.kind=3))=false):bC L k false=0:=by rw[PI];exact UD h h2
theorem U5 {L:List Obj} {k:Key} (h:decide (aj L=0)=false) (h2:(!aT L k|| !decide (k.kind=3))=false) (h3:(!decide (aY BinOp.and IntKind.i64 k.rights 1=0))=true):bC L k true=191:=by
 obtain⟨a1,a2⟩:=pS h2;have hr:=Af a1 a2;rw[Px hr.1 hr.2]at h3;unfold bC;rw[VR (UD h h2),VR (by simpa using h3)]
theorem Sm {L:List Obj} {k:Key} (h:decide (aj L=0)=false) (h2:(!aT L k|| !decide (k.kind=3))=false) (h3:(!decide (aY BinOp.and IntKind.i64 k.rights 1=0))=false):bC L k true=0:=by
 obtain⟨a1,a2⟩:=pS h2;have hr:=Af a1 a2;rw[Px hr.1 hr.2]at h3;unfold bC;rw[VR (UD h h2),VQ (by simpa using h3)]
theorem sI {L:List Obj} {k:Key} {i n e:Int} (h:bC L k false=e) (he:e≠0):(⟨#[]⟩:ByteArray)=dV L k i n/\e=b6 L k i n:=by
 have:b6 L k i n=e:=by unfold b6;rw[h,VQ he]
 unfold dV;rw[this,VQ he];exact⟨rfl,rfl⟩
theorem AL {L:List Obj} {k:Key} {i n:Int} (h:bC L k false=0) (hi:(!dA i n)=true):(⟨#[]⟩:ByteArray)=dV L k i n/\4=b6 L k i n:=by
 rw[Bool.not_eq_true']at hi;have:b6 L k i n=4:=by unfold b6;rw[VR h,hi];rfl
 unfold dV;rw[this];exact⟨rfl,rfl⟩
theorem DS {L:List Obj} {k:Key} {i n:Int} (h:bC L k false=0) (hi:(!dA i n)=false):aP IntKind.i64 (i+n)/\As i (i+n) 64/\xz (aq L k.oid.toNat free).bytes i.toNat (i+n).toNat=dV L k i n/\0=b6 L k i n:=by
 rw[Bool.not_eq_false']at hi;obtain⟨a,b,c,d⟩:=qQ.1 hi;have:b6 L k i n=0:=by unfold b6;rw[VR h,hi];rfl
 unfold dV;rw[this];exact⟨by simp only[aP,cj];omega,⟨by omega,by omega,by omega⟩,rfl,rfl⟩
theorem wz {L:List Obj} {k:Key} {i e:Int} {z:ByteArray} (h:bC L k true=e) (he:e≠0):e=cZ L k i z/\L=fb L k i z:=by
 have:cZ L k i z=e:=by unfold cZ;rw[h,VQ he]
 unfold fb;rw[this,VQ he];exact⟨rfl,rfl⟩
theorem PQ {L:List Obj} {k:Key} {i:Int} {z:ByteArray} (h:bC L k true=0) (hi:(!dA i (cC z))=true):4=cZ L k i z/\L=fb L k i z:=by
 rw[Bool.not_eq_true']at hi;have:cZ L k i z=4:=by unfold cZ;rw[VR h,hi];rfl
 unfold fb;rw[this];exact⟨rfl,rfl⟩
theorem R9 {L:List Obj} {k:Key} {i:Int} {z:ByteArray} (hL:aw L) (h1:aT L k=true) (h2:k.kind=3) (h:bC L k true=0) (hi:(!dA i (cC z))=false):As i 64 64/\
  eP L k.oid (jR (aa L k) (GM (aa L k).bytes i.toNat (Int.toNat 64) z))=cZ L k i z/\bP L k.oid (jR (aa L k) (GM (aa L k).bytes i.toNat (Int.toNat 64) z))=fb L k i z:=by
 rw[Bool.not_eq_false']at hi;obtain⟨a,b,c,d⟩:=qQ.1 hi;have hE:cZ L k i z=0:=by unfold cZ;rw[VR h,hi];rfl
 have hb:=Hj (aa L k).bytes i z hi;obtain⟨p1,p2,_⟩:=pC (b:=uP (aa L k).bytes i.toNat z.size z) hL h1 h2;have h64:Int.toNat 64=64:=rfl;rw[h64,hb,p1,p2,hE];refine⟨⟨by omega,by omega,by omega⟩,rfl,?_⟩
 unfold fb;rw[hE,VR rfl,(eF h1).2.2.2.1]
theorem vS {L:List Obj} {k:Key} {e:Int} (h:bC L k true=e) (he:e≠0):e=bC L k true/\L=fM L k:=by
 refine⟨h.symm,?_⟩;unfold fM;rw[h,VQ he]
theorem S4 {L:List Obj} {k:Key} (hL:aw L) (h1:aT L k=true) (h2:k.kind=3) (h:bC L k true=0):As 0 64 64/\
  eP L k.oid (jR (aa L k) (Ap (aa L k).bytes (Int.toNat 0) (Int.toNat 64)))=bC L k true/\bP L k.oid (jR (aa L k) (Ap (aa L k).bytes (Int.toNat 0) (Int.toNat 64)))=fM L k:=by
 have h64:Int.toNat 64=64:=rfl;have h0:Int.toNat 0=0:=rfl;obtain⟨p1,p2,_⟩:=pC (b:=ev) hL h1 h2;rw[h64,h0,JX,p1,p2,h];refine⟨⟨by omega,by omega,by omega⟩,rfl,?_⟩
 unfold fM;rw[VR h]
theorem vH {L:List Obj} {t f:Key} {e:Int} (h:bC L t true=e) (he:e≠0):e=cV L t f/\L=fS L t f:=by
 have:cV L t f=e:=by unfold cV;rw[h,VQ he]
 unfold fS;rw[this,VQ he];exact⟨rfl,rfl⟩
theorem MA {L:List Obj} {t f:Key} {e:Int} (h:bC L t true=0) (h2:bC L f false=e) (he:e≠0):e=cV L t f/\L=fS L t f:=by
 have:cV L t f=e:=by unfold cV;rw[VR h,h2]
 unfold fS;rw[this,VQ he];exact⟨rfl,rfl⟩
theorem S2 {L:List Obj} {t f:Key} (hL:aw L) (h1:aT L t=true) (h2:t.kind=3) (h:bC L t true=0) (g1:aT L f=true) (g:bC L f false=0):
  eP L t.oid (jR (aa L t) (aa L f).bytes)=cV L t f/\bP L t.oid (jR (aa L t) (aa L f).bytes)=fS L t f:=by
 have hE:cV L t f=0:=by unfold cV;rw[VR h,g]
 obtain⟨p1,p2,_⟩:=pC (b:=(aa L f).bytes) hL h1 h2;rw[p1,p2,hE];refine⟨rfl,?_⟩;unfold fS;rw[hE,VR rfl,(eF g1).2.2.2.1]
structure S3 where
 kind:Int
 pos:Int
 num:Int
 key:Key
 other:Key
 bytes:ByteArray
def S3.wf (x:S3):Prop:=cj .i64 x.kind/\cj .i64 x.pos/\cj .i64 x.num/\x.key.wf/\x.other.wf/\az x.bytes
def zE (L:List Obj) (a:S3):Bool:=
 if a.kind=1 then false else if a.kind=2 then decide (cZ L a.key a.pos a.bytes=0)else if a.kind=3 then decide (bC L a.key true=0)else decide (cV L a.key a.other=0)
def Ln (L:List Obj) (a:S3):List Obj:=
 if a.kind=1 then L else if a.kind=2 then fb L a.key a.pos a.bytes else if a.kind=3 then fM L a.key else fS L a.key a.other
theorem pW (s:ByteArray):Ce s s=true:=by simp[Ce]
end Go.Sx
