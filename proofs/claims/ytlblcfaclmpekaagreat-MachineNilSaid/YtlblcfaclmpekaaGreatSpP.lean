import Derived.Test.YtlblcfaclmpekaaGreatKS
set_option linter.unusedSimpArgs false
set_option linter.unusedVariables false
namespace Go.Sx
def bn (L:List Obj) (k:Key) (c:Bool):Int:=if aM L k 3 false=0 then(if(c&& !decide (k.rights=0))=true then 191 else 0)else aM L k 3 false
def de (i n:Int):Bool:=decide (0<=i)&&decide (0<=n)&&decide (i<=64)&&decide (n<=64-i)
def bR (L:List Obj) (k:Key) (i n:Int):Int:=if bn L k false=0 then(if de i n then 0 else 4)else bn L k false
def dN (L:List Obj) (k:Key) (i n:Int):ByteArray:=if bR L k i n=0 then xd (ai L k.oid.toNat free).bytes i.toNat (i+n).toNat else⟨#[]⟩
def jr (o:Obj) (b:Bytes):Obj:= {o with bytes:=b}
def qO (L:List Obj) (k:Key) (b:Bytes):List Obj:=cS L k.oid.toNat (jr (ai L k.oid.toNat free) b)
def cM (L:List Obj) (k:Key) (i:Int) (s:ByteArray):Int:=if bn L k true=0 then(if de i (ca s)then 0 else 4)else bn L k true
def eW (L:List Obj) (k:Key) (i:Int) (s:ByteArray):List Obj:=if cM L k i s=0 then qO L k (um (ai L k.oid.toNat free).bytes i.toNat s.size s)else L
def fK (L:List Obj) (k:Key):List Obj:=if bn L k true=0 then qO L k ej else L
def cL (L:List Obj) (t f:Key):Int:=if bn L t true=0 then bn L f false else bn L t true
def fN (L:List Obj) (t f:Key):List Obj:=if cL L t f=0 then qO L t (ai L f.oid.toNat free).bytes else L
def au (s:ByteArray):Prop:=(s.size:Int)<=9223372036854775807
def Ae (v:V):Option ByteArray:=match v with
 | .st s=>some s
 |_=>none
theorem uT:qF Ae V.st:=fun v x h=>by
 cases v<;>simp only[Ae,UQ,reduceCtorEq]at h
 subst h;exact⟨fun _=>rfl,fun _=>id⟩
def zA:Arg ByteArray:=BR Ae V.st
theorem SL:lB zA:=py uT (fun _=>rfl) fun v x h=>by cases v<;>simp[Ae]at h;rfl
def EF (l:List V):Option (Key×Int×ByteArray):=match l with
 | [a,b,c]=>match rK a with
   |some k=>match rI .i64 b with
    |some i=>match Ae c with
     |some s=>some (k,i,s)
     |none=>none
    |none=>none
   |none=>none
 |_=>none
theorem An:∀l x,EF l=some x->ee l [.key x.1,.it .i64 x.2.1,.st x.2.2]:=fun l x h=>by
 unfold EF at h;split at h
 ·split at h
  ·rename_i h1;split at h
   ·rename_i h2;split at h<;>simp only[UQ,reduceCtorEq]at h
    rename_i h3;subst h;exact ee.rd h9 h1 (ee.rd (gF .i64) h2 (ee.rd uT h3 ee.nil))
   ·simp at h
  ·simp at h
 ·simp at h
def H9:Ct:=Qa (rI .i64) (rI .i64) fun i n=> .bo (de i n)
def M7:Ct:=BW (bD sA (bD kA (bD iA (bD iA kc)))) (fun _=>none) fun x=> .tp [.st (dN (zY x.1) x.2.1 x.2.2.1 x.2.2.2.1),.it .i64 (bR (zY x.1) x.2.1 x.2.2.1 x.2.2.2.1)]
def Sp:nf:=Ft EF (fun L x=>an L/\au x.2.2) (fun L x=> .it .i64 (cM L x.1 x.2.1 x.2.2)) fun L x=>eW L x.1 x.2.1 x.2.2
def Pp:nf:=Ft S9 (fun L _=>an L) (fun L x=> .it .i64 (bn L x true)) fun L x=>fK L x
def SA:nf:=Ft NR (fun L _=>an L) (fun L x=> .it .i64 (cL L x.1 x.2)) fun L x=>fN L x.1 x.2
theorem KN {o:Obj} {n:Int} {b:Bytes} (h:bu o n=true) (hk:o.kind=1\/o.kind=2):bu (jr o b) n=true:=by
 rw[ec]at h⊢;simp only[jr];obtain⟨a1,a2,a3,a4,a5,a6,a7,a8,a9,a10,a11⟩:=h;exact⟨a1,a2,a3,a4,a5,a6,a7,a8,a9,a10,fun i hi=> .inl hk⟩
theorem F8 {L:List Obj} {k:Key} (h:aO L k=true) (h2:k.kind=3):(ai L k.oid.toNat free).kind=2:=by
 rw[(er h).2.2.2.2];unfold iE;rw[UZ (by have:=(vY h).1;omega),U0 h2]
theorem om {L:List Obj} {k:Key} {b:Bytes} (hL:an L) (h:aO L k=true) (h2:k.kind=3):eH L k.oid (jr (aa L k) b)=0/\bO L k.oid (jr (aa L k) b)=qO L k b/\an (qO L k b):=by
 obtain⟨b1,b2,b3,b4,_⟩:=er h;have hr:=gg.1 hL;have ho:=KN (b:=b) (hr.2.2 k.oid.toNat (by omega)) (.inr (F8 h h2))
 obtain⟨p1,p2⟩:=rL (L:=L) (o:=jr (ai L k.oid.toNat free) b) (mN.2 ⟨b2,b3⟩) (sr ho).symm;rw[b4];refine⟨p1,p2,?_⟩;refine gg.2 ?_;unfold qO;have hl:(cS L k.oid.toNat (jr (ai L k.oid.toNat free) b)).length=L.length:=by simp[cS]
 rw[hl];refine⟨hr.1,hr.2.1,fun i hi=>?_⟩
 by_cases e:i=k.oid.toNat
 ·subst e;rw[show ai (cS L k.oid.toNat (jr (ai L k.oid.toNat free) b)) k.oid.toNat free=jr (ai L k.oid.toNat free) b by simp[ai,cS,UY,hi]]
  exact ho
 ·rw[show ai (cS L k.oid.toNat (jr (ai L k.oid.toNat free) b)) i free=ai L i free by simp[ai,cS,UY,List.getElem?_set,Ne.symm e]]
  exact hr.2.2 i hi
theorem yL {L:List Obj} {k:Key} (h:aO L k=true) (h2:k.kind=3):0<=k.rights/\k.rights<=1:=by
 have:=gD (er h).1;rw[h2]at this;exact this
theorem Qs {r:Int} (h0:0<=r) (h1:r<=1):aS .and .i64 r 1=r:=by
 have:r=0\/r=1:=by omega
 rcases this with rfl|rfl<;>decide
theorem qG {i n:Int}:de i n=true↔0<=i/\0<=n/\i<=64/\n<=64-i:=by
 simp only[de,US,UT,and_assoc]
theorem Kw (b:Bytes) (i:Int) (s:ByteArray) (h:de i (ca s)=true):Ge b i.toNat 64 s=um b i.toNat s.size s:=by
 unfold Ge F7
 have hle:s.size<=64-i.toNat:=by
  obtain⟨h0,h1,h2,h3⟩:=qG.1 h;have h3:(s.size:Int)<=64-i:=h3;omega
 rw[show Nat.min s.size (64-i.toNat)=s.size from Nat.min_eq_left hle]
theorem Gm (b:Bytes):AX b 0 64=ej:=by
 unfold AX um ej;ext i hi
 simp[sat_empty,hi]
theorem u0 {L:List Obj} {k:Key} {c:Bool} (h:bn L k c=0):aO L k=true/\k.kind=3/\(c=true->k.rights=0):=by
 unfold bn at h;split at h
 ·rename_i h1;obtain⟨a1,a2,_⟩:=j9 h1;split at h
  ·omega
  ·rename_i h2;exact⟨a1,a2,fun hc=>by simpa[hc]using h2⟩
 ·rename_i h1;exact absurd h h1
theorem QT {L:List Obj} {k:Key}:bn L k false=aM L k 3 false:=by
 unfold bn;split
 ·rename_i h;rw[h];rfl
 ·rfl
theorem I8 {L:List Obj} {k:Key} {c:Bool} (h:decide (ah L=0)=true):bn L k c=1:=by
 have:aM L k 3 false=1:=J0 (by rw[UT]at h;simp[h])
 unfold bn;rw[this,UZ (by omega)]
theorem Ra {L:List Obj} {k:Key} {c:Bool} (h:decide (ah L=0)=false) (h2:(!aO L k|| !decide (k.kind=3))=true):bn L k c=190:=by
 have h0:(!decide (0<ah L))=false:=by
  rw[decide_eq_false_iff_not]at h;unfold ah at h⊢;simp;omega
 have:aM L k 3 false=190:=FT h0 (by simpa using h2)
 unfold bn;rw[this,UZ (by omega)]
theorem oV {L:List Obj} {k:Key} (h2:(!aO L k|| !decide (k.kind=3))=false):aO L k=true/\k.kind=3:=by simpa using h2
theorem TH {L:List Obj} {k:Key} (h:decide (ah L=0)=false) (h2:(!aO L k|| !decide (k.kind=3))=false):aM L k 3 false=0:=by
 refine Ee ?_ (by simpa using h2)
 rw[decide_eq_false_iff_not]at h;unfold ah at h⊢;simp;omega
theorem Ro {L:List Obj} {k:Key} (h:decide (ah L=0)=false) (h2:(!aO L k|| !decide (k.kind=3))=false):bn L k false=0:=by rw[QT];exact TH h h2
theorem TE {L:List Obj} {k:Key} (h:decide (ah L=0)=false) (h2:(!aO L k|| !decide (k.kind=3))=false) (h3:(!decide (aS BinOp.and IntKind.i64 k.rights 1=0))=true):bn L k true=191:=by
 obtain⟨a1,a2⟩:=oV h2;have hr:=yL a1 a2;rw[Qs hr.1 hr.2]at h3;unfold bn;rw[U0 (TH h h2),U0 (by simpa using h3)]
theorem RD {L:List Obj} {k:Key} (h:decide (ah L=0)=false) (h2:(!aO L k|| !decide (k.kind=3))=false) (h3:(!decide (aS BinOp.and IntKind.i64 k.rights 1=0))=false):bn L k true=0:=by
 obtain⟨a1,a2⟩:=oV h2;have hr:=yL a1 a2;rw[Qs hr.1 hr.2]at h3;unfold bn;rw[U0 (TH h h2),UZ (by simpa using h3)]
theorem sJ {L:List Obj} {k:Key} {i n e:Int} (h:bn L k false=e) (he:e≠0):(⟨#[]⟩:ByteArray)=dN L k i n/\e=bR L k i n:=by
 have:bR L k i n=e:=by unfold bR;rw[h,UZ he]
 unfold dN;rw[this,UZ he];exact⟨rfl,rfl⟩
theorem Be {L:List Obj} {k:Key} {i n:Int} (h:bn L k false=0) (hi:(!de i n)=true):(⟨#[]⟩:ByteArray)=dN L k i n/\4=bR L k i n:=by
 rw[Bool.not_eq_true']at hi;have:bR L k i n=4:=by unfold bR;rw[U0 h,hi];rfl
 unfold dN;rw[this];exact⟨rfl,rfl⟩
theorem DR {L:List Obj} {k:Key} {i n:Int} (h:bn L k false=0) (hi:(!de i n)=false):aL IntKind.i64 (i+n)/\Ax i (i+n) 64/\xd (ai L k.oid.toNat free).bytes i.toNat (i+n).toNat=dN L k i n/\0=bR L k i n:=by
 rw[Bool.not_eq_false']at hi;obtain⟨a,b,c,d⟩:=qG.1 hi;have:bR L k i n=0:=by unfold bR;rw[U0 h,hi];rfl
 unfold dN;rw[this];exact⟨by simp only[aL,b7];omega,⟨by omega,by omega,by omega⟩,rfl,rfl⟩
theorem wE {L:List Obj} {k:Key} {i e:Int} {z:ByteArray} (h:bn L k true=e) (he:e≠0):e=cM L k i z/\L=eW L k i z:=by
 have:cM L k i z=e:=by unfold cM;rw[h,UZ he]
 unfold eW;rw[this,UZ he];exact⟨rfl,rfl⟩
theorem Pr {L:List Obj} {k:Key} {i:Int} {z:ByteArray} (h:bn L k true=0) (hi:(!de i (ca z))=true):4=cM L k i z/\L=eW L k i z:=by
 rw[Bool.not_eq_true']at hi;have:cM L k i z=4:=by unfold cM;rw[U0 h,hi];rfl
 unfold eW;rw[this];exact⟨rfl,rfl⟩
theorem Su {L:List Obj} {k:Key} {i:Int} {z:ByteArray} (hL:an L) (h1:aO L k=true) (h2:k.kind=3) (h:bn L k true=0) (hi:(!de i (ca z))=false):Ax i 64 64/\
  eH L k.oid (jr (aa L k) (Ge (aa L k).bytes i.toNat (Int.toNat 64) z))=cM L k i z/\bO L k.oid (jr (aa L k) (Ge (aa L k).bytes i.toNat (Int.toNat 64) z))=eW L k i z:=by
 rw[Bool.not_eq_false']at hi;obtain⟨a,b,c,d⟩:=qG.1 hi;have hE:cM L k i z=0:=by unfold cM;rw[U0 h,hi];rfl
 have hb:=Kw (aa L k).bytes i z hi;obtain⟨p1,p2,_⟩:=om (b:=um (aa L k).bytes i.toNat z.size z) hL h1 h2;have h64:Int.toNat 64=64:=rfl;rw[h64,hb,p1,p2,hE];refine⟨⟨by omega,by omega,by omega⟩,rfl,?_⟩
 unfold eW;rw[hE,U0 rfl,(er h1).2.2.2.1]
theorem v9 {L:List Obj} {k:Key} {e:Int} (h:bn L k true=e) (he:e≠0):e=bn L k true/\L=fK L k:=by
 refine⟨h.symm,?_⟩;unfold fK;rw[h,UZ he]
theorem RT {L:List Obj} {k:Key} (hL:an L) (h1:aO L k=true) (h2:k.kind=3) (h:bn L k true=0):Ax 0 64 64/\
  eH L k.oid (jr (aa L k) (AX (aa L k).bytes (Int.toNat 0) (Int.toNat 64)))=bn L k true/\bO L k.oid (jr (aa L k) (AX (aa L k).bytes (Int.toNat 0) (Int.toNat 64)))=fK L k:=by
 have h64:Int.toNat 64=64:=rfl;have h0:Int.toNat 0=0:=rfl;obtain⟨p1,p2,_⟩:=om (b:=ej) hL h1 h2;rw[h64,h0,Gm,p1,p2,h];refine⟨⟨by omega,by omega,by omega⟩,rfl,?_⟩
 unfold fK;rw[U0 h]
theorem wq {L:List Obj} {t f:Key} {e:Int} (h:bn L t true=e) (he:e≠0):e=cL L t f/\L=fN L t f:=by
 have:cL L t f=e:=by unfold cL;rw[h,UZ he]
 unfold fN;rw[this,UZ he];exact⟨rfl,rfl⟩
theorem Lr {L:List Obj} {t f:Key} {e:Int} (h:bn L t true=0) (h2:bn L f false=e) (he:e≠0):e=cL L t f/\L=fN L t f:=by
 have:cL L t f=e:=by unfold cL;rw[U0 h,h2]
 unfold fN;rw[this,UZ he];exact⟨rfl,rfl⟩
theorem R1 {L:List Obj} {t f:Key} (hL:an L) (h1:aO L t=true) (h2:t.kind=3) (h:bn L t true=0) (g1:aO L f=true) (g:bn L f false=0):
  eH L t.oid (jr (aa L t) (aa L f).bytes)=cL L t f/\bO L t.oid (jr (aa L t) (aa L f).bytes)=fN L t f:=by
 have hE:cL L t f=0:=by unfold cL;rw[U0 h,g]
 obtain⟨p1,p2,_⟩:=om (b:=(aa L f).bytes) hL h1 h2;rw[p1,p2,hE];refine⟨rfl,?_⟩;unfold fN;rw[hE,U0 rfl,(er g1).2.2.2.1]
structure RN where
 kind:Int
 pos:Int
 num:Int
 key:Key
 other:Key
 bytes:ByteArray
def RN.wf (x:RN):Prop:=b7 .i64 x.kind/\b7 .i64 x.pos/\b7 .i64 x.num/\x.key.wf/\x.other.wf/\au x.bytes
def yR (L:List Obj) (a:RN):Bool:=
 if a.kind=1 then false else if a.kind=2 then decide (cM L a.key a.pos a.bytes=0)else if a.kind=3 then decide (bn L a.key true=0)else decide (cL L a.key a.other=0)
def G1 (L:List Obj) (a:RN):List Obj:=
 if a.kind=1 then L else if a.kind=2 then eW L a.key a.pos a.bytes else if a.kind=3 then fK L a.key else fN L a.key a.other
theorem pR (s:ByteArray):BL s s=true:=by simp[BL]
end Go.Sx
