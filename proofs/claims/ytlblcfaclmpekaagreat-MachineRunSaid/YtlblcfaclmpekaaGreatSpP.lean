import Derived.Test.YtlblcfaclmpekaaGreatKS
set_option linter.unusedSimpArgs false
set_option linter.unusedVariables false
namespace Go.Sx
def bz (L:List Obj) (k:Key) (c:Bool):Int:=if aO L k 3 false=0 then(if(c&& !decide (k.rights=0))=true then 191 else 0)else aO L k 3 false
def dz (i n:Int):Bool:=decide (0<=i)&&decide (0<=n)&&decide (i<=64)&&decide (n<=64-i)
def bZ (L:List Obj) (k:Key) (i n:Int):Int:=if bz L k false=0 then(if dz i n then 0 else 4)else bz L k false
def dV (L:List Obj) (k:Key) (i n:Int):ByteArray:=if bZ L k i n=0 then xw (ak L k.oid.toNat free).bytes i.toNat (i+n).toNat else⟨#[]⟩
def jV (o:Obj) (b:Bytes):Obj:= {o with bytes:=b}
def qX (L:List Obj) (k:Key) (b:Bytes):List Obj:=di L k.oid.toNat (jV (ak L k.oid.toNat free) b)
def cY (L:List Obj) (k:Key) (i:Int) (s:ByteArray):Int:=if bz L k true=0 then(if dz i (cC s)then 0 else 4)else bz L k true
def ff (L:List Obj) (k:Key) (i:Int) (s:ByteArray):List Obj:=if cY L k i s=0 then qX L k (uI (ak L k.oid.toNat free).bytes i.toNat s.size s)else L
def fP (L:List Obj) (k:Key):List Obj:=if bz L k true=0 then qX L k ey else L
def cW (L:List Obj) (t f:Key):Int:=if bz L t true=0 then bz L f false else bz L t true
def fW (L:List Obj) (t f:Key):List Obj:=if cW L t f=0 then qX L t (ak L f.oid.toNat free).bytes else L
def aw (s:ByteArray):Prop:=(s.size:Int)<=9223372036854775807
def AL (v:V):Option ByteArray:=match v with
 | .st s=>some s
 |_=>none
theorem uR:qV AL V.st:=fun v x h=>by
 cases v<;>simp only[AL,VE,reduceCtorEq]at h
 subst h;exact⟨fun _=>rfl,fun _=>id⟩
def zA:Arg ByteArray:=AX AL V.st
theorem Ti:mn zA:=p5 uR (fun _=>rfl) fun v x h=>by cases v<;>simp[AL]at h;rfl
def D1 (l:List V):Option (Key×Int×ByteArray):=match l with
 | [a,b,c]=>match rK a with
   |some k=>match rI .i64 b with
    |some i=>match AL c with
     |some s=>some (k,i,s)
     |none=>none
    |none=>none
   |none=>none
 |_=>none
theorem BF:∀l x,D1 l=some x->er l [.key x.1,.it .i64 x.2.1,.st x.2.2]:=fun l x h=>by
 unfold D1 at h;split at h
 ·split at h
  ·rename_i h1;split at h
   ·rename_i h2;split at h<;>simp only[VE,reduceCtorEq]at h
    rename_i h3;subst h;exact er.rd ir h1 (er.rd (gR .i64) h2 (er.rd uR h3 er.nil))
   ·simp at h
  ·simp at h
 ·simp at h
def KS:Ct:=Qs (rI .i64) (rI .i64) fun i n=> .bo (dz i n)
def NU:Ct:=Cj (bG sA (bG kA (bG iA (bG iA kD)))) (fun _=>none) fun x=> .tp [.st (dV (As x.1) x.2.1 x.2.2.1 x.2.2.2.1),.it .i64 (bZ (As x.1) x.2.1 x.2.2.1 x.2.2.2.1)]
def Su:np:=Fx D1 (fun L x=>ar L/\aw x.2.2) (fun L x=> .it .i64 (cY L x.1 x.2.1 x.2.2)) fun L x=>ff L x.1 x.2.1 x.2.2
def Qc:np:=Fx TM (fun L _=>ar L) (fun L x=> .it .i64 (bz L x true)) fun L x=>fP L x
def Sz:np:=Fx Mb (fun L _=>ar L) (fun L x=> .it .i64 (cW L x.1 x.2)) fun L x=>fW L x.1 x.2
theorem Jx {o:Obj} {n:Int} {b:Bytes} (h:bq o n=true) (hk:o.kind=1\/o.kind=2):bq (jV o b) n=true:=by
 rw[ep]at h⊢;simp only[jV];obtain⟨a1,a2,a3,a4,a5,a6,a7,a8,a9,a10,a11⟩:=h;exact⟨a1,a2,a3,a4,a5,a6,a7,a8,a9,a10,fun i hi=> .inl hk⟩
theorem Fl {L:List Obj} {k:Key} (h:aQ L k=true) (h2:k.kind=3):(ak L k.oid.toNat free).kind=2:=by
 rw[(eH h).2.2.2.2];unfold iK;rw[VM (by have:=(wS h).1;omega),VN h2]
theorem pU {L:List Obj} {k:Key} {b:Bytes} (hL:ar L) (h:aQ L k=true) (h2:k.kind=3):eU L k.oid (jV (aa L k) b)=0/\bO L k.oid (jV (aa L k) b)=qX L k b/\ar (qX L k b):=by
 obtain⟨b1,b2,b3,b4,_⟩:=eH h;have hr:=fL.1 hL;have ho:=Jx (b:=b) (hr.2.2 k.oid.toNat (by omega)) (.inr (Fl h h2))
 obtain⟨p1,p2⟩:=rY (L:=L) (o:=jV (ak L k.oid.toNat free) b) (mX.2 ⟨b2,b3⟩) (sm ho).symm;rw[b4];refine⟨p1,p2,?_⟩;refine fL.2 ?_;unfold qX;have hl:(di L k.oid.toNat (jV (ak L k.oid.toNat free) b)).length=L.length:=by simp[di]
 rw[hl];refine⟨hr.1,hr.2.1,fun i hi=>?_⟩
 by_cases e:i=k.oid.toNat
 ·subst e;rw[show ak (di L k.oid.toNat (jV (ak L k.oid.toNat free) b)) k.oid.toNat free=jV (ak L k.oid.toNat free) b by simp[ak,di,VL,hi]]
  exact ho
 ·rw[show ak (di L k.oid.toNat (jV (ak L k.oid.toNat free) b)) i free=ak L i free by simp[ak,di,VL,List.getElem?_set,Ne.symm e]]
  exact hr.2.2 i hi
theorem y9 {L:List Obj} {k:Key} (h:aQ L k=true) (h2:k.kind=3):0<=k.rights/\k.rights<=1:=by
 have:=gM (eH h).1;rw[h2]at this;exact this
theorem Pd {r:Int} (h0:0<=r) (h1:r<=1):aV .and .i64 r 1=r:=by
 have:r=0\/r=1:=by omega
 rcases this with rfl|rfl<;>decide
theorem qN {i n:Int}:dz i n=true↔0<=i/\0<=n/\i<=64/\n<=64-i:=by
 simp only[dz,VG,VH,and_assoc]
theorem Ik (b:Bytes) (i:Int) (s:ByteArray) (h:dz i (cC s)=true):GM b i.toNat 64 s=uI b i.toNat s.size s:=by
 unfold GM FJ
 have hle:s.size<=64-i.toNat:=by
  obtain⟨h0,h1,h2,h3⟩:=qN.1 h;have h3:(s.size:Int)<=64-i:=h3;omega
 rw[show Nat.min s.size (64-i.toNat)=s.size from Nat.min_eq_left hle]
theorem J2 (b:Bytes):BO b 0 64=ey:=by
 unfold BO uI ey;ext i hi
 simp[sat_empty,hi]
theorem vj {L:List Obj} {k:Key} {c:Bool} (h:bz L k c=0):aQ L k=true/\k.kind=3/\(c=true->k.rights=0):=by
 unfold bz at h;split at h
 ·rename_i h1;obtain⟨a1,a2,_⟩:=kM h1;split at h
  ·omega
  ·rename_i h2;exact⟨a1,a2,fun hc=>by simpa[hc]using h2⟩
 ·rename_i h1;exact absurd h h1
theorem PN {L:List Obj} {k:Key}:bz L k false=aO L k 3 false:=by
 unfold bz;split
 ·rename_i h;rw[h];rfl
 ·rfl
theorem IJ {L:List Obj} {k:Key} {c:Bool} (h:decide (ah L=0)=true):bz L k c=1:=by
 have:aO L k 3 false=1:=Jc (by rw[VH]at h;simp[h])
 unfold bz;rw[this,VM (by omega)]
theorem R0 {L:List Obj} {k:Key} {c:Bool} (h:decide (ah L=0)=false) (h2:(!aQ L k|| !decide (k.kind=3))=true):bz L k c=190:=by
 have h0:(!decide (0<ah L))=false:=by
  rw[decide_eq_false_iff_not]at h;unfold ah at h⊢;simp;omega
 have:aO L k 3 false=190:=Gl h0 (by simpa using h2)
 unfold bz;rw[this,VM (by omega)]
theorem pN {L:List Obj} {k:Key} (h2:(!aQ L k|| !decide (k.kind=3))=false):aQ L k=true/\k.kind=3:=by simpa using h2
theorem Up {L:List Obj} {k:Key} (h:decide (ah L=0)=false) (h2:(!aQ L k|| !decide (k.kind=3))=false):aO L k 3 false=0:=by
 refine E1 ?_ (by simpa using h2)
 rw[decide_eq_false_iff_not]at h;unfold ah at h⊢;simp;omega
theorem Tt {L:List Obj} {k:Key} (h:decide (ah L=0)=false) (h2:(!aQ L k|| !decide (k.kind=3))=false):bz L k false=0:=by rw[PN];exact Up h h2
theorem UI {L:List Obj} {k:Key} (h:decide (ah L=0)=false) (h2:(!aQ L k|| !decide (k.kind=3))=false) (h3:(!decide (aV BinOp.and IntKind.i64 k.rights 1=0))=true):bz L k true=191:=by
 obtain⟨a1,a2⟩:=pN h2;have hr:=y9 a1 a2;rw[Pd hr.1 hr.2]at h3;unfold bz;rw[VN (Up h h2),VN (by simpa using h3)]
theorem Sy {L:List Obj} {k:Key} (h:decide (ah L=0)=false) (h2:(!aQ L k|| !decide (k.kind=3))=false) (h3:(!decide (aV BinOp.and IntKind.i64 k.rights 1=0))=false):bz L k true=0:=by
 obtain⟨a1,a2⟩:=pN h2;have hr:=y9 a1 a2;rw[Pd hr.1 hr.2]at h3;unfold bz;rw[VN (Up h h2),VM (by simpa using h3)]
theorem rX {L:List Obj} {k:Key} {i n e:Int} (h:bz L k false=e) (he:e≠0):(⟨#[]⟩:ByteArray)=dV L k i n/\e=bZ L k i n:=by
 have:bZ L k i n=e:=by unfold bZ;rw[h,VM he]
 unfold dV;rw[this,VM he];exact⟨rfl,rfl⟩
theorem Ci {L:List Obj} {k:Key} {i n:Int} (h:bz L k false=0) (hi:(!dz i n)=true):(⟨#[]⟩:ByteArray)=dV L k i n/\4=bZ L k i n:=by
 rw[Bool.not_eq_true']at hi;have:bZ L k i n=4:=by unfold bZ;rw[VN h,hi];rfl
 unfold dV;rw[this];exact⟨rfl,rfl⟩
theorem DX {L:List Obj} {k:Key} {i n:Int} (h:bz L k false=0) (hi:(!dz i n)=false):aM IntKind.i64 (i+n)/\Bg i (i+n) 64/\xw (ak L k.oid.toNat free).bytes i.toNat (i+n).toNat=dV L k i n/\0=bZ L k i n:=by
 rw[Bool.not_eq_false']at hi;obtain⟨a,b,c,d⟩:=qN.1 hi;have:bZ L k i n=0:=by unfold bZ;rw[VN h,hi];rfl
 unfold dV;rw[this];exact⟨by simp only[aM,cj];omega,⟨by omega,by omega,by omega⟩,rfl,rfl⟩
theorem wK {L:List Obj} {k:Key} {i e:Int} {z:ByteArray} (h:bz L k true=e) (he:e≠0):e=cY L k i z/\L=ff L k i z:=by
 have:cY L k i z=e:=by unfold cY;rw[h,VM he]
 unfold ff;rw[this,VM he];exact⟨rfl,rfl⟩
theorem Rg {L:List Obj} {k:Key} {i:Int} {z:ByteArray} (h:bz L k true=0) (hi:(!dz i (cC z))=true):4=cY L k i z/\L=ff L k i z:=by
 rw[Bool.not_eq_true']at hi;have:cY L k i z=4:=by unfold cY;rw[VN h,hi];rfl
 unfold ff;rw[this];exact⟨rfl,rfl⟩
theorem Sw {L:List Obj} {k:Key} {i:Int} {z:ByteArray} (hL:ar L) (h1:aQ L k=true) (h2:k.kind=3) (h:bz L k true=0) (hi:(!dz i (cC z))=false):Bg i 64 64/\
  eU L k.oid (jV (aa L k) (GM (aa L k).bytes i.toNat (Int.toNat 64) z))=cY L k i z/\bO L k.oid (jV (aa L k) (GM (aa L k).bytes i.toNat (Int.toNat 64) z))=ff L k i z:=by
 rw[Bool.not_eq_false']at hi;obtain⟨a,b,c,d⟩:=qN.1 hi;have hE:cY L k i z=0:=by unfold cY;rw[VN h,hi];rfl
 have hb:=Ik (aa L k).bytes i z hi;obtain⟨p1,p2,_⟩:=pU (b:=uI (aa L k).bytes i.toNat z.size z) hL h1 h2;have h64:Int.toNat 64=64:=rfl;rw[h64,hb,p1,p2,hE];refine⟨⟨by omega,by omega,by omega⟩,rfl,?_⟩
 unfold ff;rw[hE,VN rfl,(eH h1).2.2.2.1]
theorem vZ {L:List Obj} {k:Key} {e:Int} (h:bz L k true=e) (he:e≠0):e=bz L k true/\L=fP L k:=by
 refine⟨h.symm,?_⟩;unfold fP;rw[h,VM he]
theorem SS {L:List Obj} {k:Key} (hL:ar L) (h1:aQ L k=true) (h2:k.kind=3) (h:bz L k true=0):Bg 0 64 64/\
  eU L k.oid (jV (aa L k) (BO (aa L k).bytes (Int.toNat 0) (Int.toNat 64)))=bz L k true/\bO L k.oid (jV (aa L k) (BO (aa L k).bytes (Int.toNat 0) (Int.toNat 64)))=fP L k:=by
 have h64:Int.toNat 64=64:=rfl;have h0:Int.toNat 0=0:=rfl;obtain⟨p1,p2,_⟩:=pU (b:=ey) hL h1 h2;rw[h64,h0,J2,p1,p2,h];refine⟨⟨by omega,by omega,by omega⟩,rfl,?_⟩
 unfold fP;rw[VN h]
theorem wE {L:List Obj} {t f:Key} {e:Int} (h:bz L t true=e) (he:e≠0):e=cW L t f/\L=fW L t f:=by
 have:cW L t f=e:=by unfold cW;rw[h,VM he]
 unfold fW;rw[this,VM he];exact⟨rfl,rfl⟩
theorem Nk {L:List Obj} {t f:Key} {e:Int} (h:bz L t true=0) (h2:bz L f false=e) (he:e≠0):e=cW L t f/\L=fW L t f:=by
 have:cW L t f=e:=by unfold cW;rw[VN h,h2]
 unfold fW;rw[this,VM he];exact⟨rfl,rfl⟩
theorem Tn {L:List Obj} {t f:Key} (hL:ar L) (h1:aQ L t=true) (h2:t.kind=3) (h:bz L t true=0) (g1:aQ L f=true) (g:bz L f false=0):
  eU L t.oid (jV (aa L t) (aa L f).bytes)=cW L t f/\bO L t.oid (jV (aa L t) (aa L f).bytes)=fW L t f:=by
 have hE:cW L t f=0:=by unfold cW;rw[VN h,g]
 obtain⟨p1,p2,_⟩:=pU (b:=(aa L f).bytes) hL h1 h2;rw[p1,p2,hE];refine⟨rfl,?_⟩;unfold fW;rw[hE,VN rfl,(eH g1).2.2.2.1]
structure SP where
 kind:Int
 pos:Int
 num:Int
 key:Key
 other:Key
 bytes:ByteArray
def SP.wf (x:SP):Prop:=cj .i64 x.kind/\cj .i64 x.pos/\cj .i64 x.num/\x.key.wf/\x.other.wf/\aw x.bytes
def zo (L:List Obj) (a:SP):Bool:=
 if a.kind=1 then false else if a.kind=2 then decide (cY L a.key a.pos a.bytes=0)else if a.kind=3 then decide (bz L a.key true=0)else decide (cW L a.key a.other=0)
def HY (L:List Obj) (a:SP):List Obj:=
 if a.kind=1 then L else if a.kind=2 then ff L a.key a.pos a.bytes else if a.kind=3 then fP L a.key else fW L a.key a.other
theorem ni (s:ByteArray):xB s s=true:=by simp[xB]
end Go.Sx
