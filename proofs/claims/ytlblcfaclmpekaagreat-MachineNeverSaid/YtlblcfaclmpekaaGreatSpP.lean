import Derived.Test.YtlblcfaclmpekaaGreatKS
set_option linter.unusedSimpArgs false
set_option linter.unusedVariables false
namespace Go.Sx
def br (L:List Obj) (k:Key) (c:Bool):Int:=if aQ L k 3 false=0 then(if(c&& !decide (k.rights=0))=true then 191 else 0)else aQ L k 3 false
def dC (i n:Int):Bool:=decide (0<=i)&&decide (0<=n)&&decide (i<=64)&&decide (n<=64-i)
def bY (L:List Obj) (k:Key) (i n:Int):Int:=if br L k false=0 then(if dC i n then 0 else 4)else br L k false
def dW (L:List Obj) (k:Key) (i n:Int):ByteArray:=if bY L k i n=0 then xQ (ai L k.oid.toNat free).bytes i.toNat (i+n).toNat else⟨#[]⟩
def jY (o:Obj) (b:Bytes):Obj:= {o with bytes:=b}
def pL (L:List Obj) (k:Key) (b:Bytes):List Obj:=bX L k.oid.toNat (jY (ai L k.oid.toNat free) b)
def cX (L:List Obj) (k:Key) (i:Int) (s:ByteArray):Int:=if br L k true=0 then(if dC i (cE s)then 0 else 4)else br L k true
def eR (L:List Obj) (k:Key) (i:Int) (s:ByteArray):List Obj:=if cX L k i s=0 then pL L k (vb (ai L k.oid.toNat free).bytes i.toNat s.size s)else L
def fg (L:List Obj) (k:Key):List Obj:=if br L k true=0 then pL L k dV else L
def cY (L:List Obj) (t f:Key):Int:=if br L t true=0 then br L f false else br L t true
def fz (L:List Obj) (t f:Key):List Obj:=if cY L t f=0 then pL L t (ai L f.oid.toNat free).bytes else L
def aw (s:ByteArray):Prop:=(s.size:Int)<=9223372036854775807
def Br (v:V):Option ByteArray:=match v with
 | .st s=>some s
 |_=>none
theorem vA:rH Br V.st:=fun v x h=>by
 cases v<;>simp only[Br,Xm,reduceCtorEq]at h
 subst h;exact⟨fun _=>rfl,fun _=>id⟩
def zA:Arg ByteArray:=BW Br V.st
theorem Tw:lg zA:=qm vA (fun _=>rfl) fun v x h=>by cases v<;>simp[Br]at h;rfl
def Fl (l:List V):Option (Key×Int×ByteArray):=match l with
 | [a,b,c]=>match rK a with
   |some k=>match rI .i64 b with
    |some i=>match Br c with
     |some s=>some (k,i,s)
     |none=>none
    |none=>none
   |none=>none
 |_=>none
theorem Bm:∀l x,Fl l=some x->ev l [.key x.1,.it .i64 x.2.1,.st x.2.2]:=fun l x h=>by
 unfold Fl at h;split at h
 ·split at h
  ·rename_i h1;split at h
   ·rename_i h2;split at h<;>simp only[Xm,reduceCtorEq]at h
    rename_i h3;subst h;exact ev.rd gW h1 (ev.rd (gi .i64) h2 (ev.rd vA h3 ev.nil))
   ·simp at h
  ·simp at h
 ·simp at h
def Ld:Ct:=Q8 (rI .i64) (rI .i64) fun i n=> .bo (dC i n)
def N3:Ct:=CP (bE sA (bE kA (bE iA (bE iA kz)))) (fun _=>none) fun x=> .tp [.st (dW (AX x.1) x.2.1 x.2.2.1 x.2.2.2.1),.it .i64 (bY (AX x.1) x.2.1 x.2.2.1 x.2.2.2.1)]
def Up:ng:=Gu Fl (fun L x=>aq L/\aw x.2.2) (fun L x=> .it .i64 (cX L x.1 x.2.1 x.2.2)) fun L x=>eR L x.1 x.2.1 x.2.2
def Rp:ng:=Gu Va (fun L _=>aq L) (fun L x=> .it .i64 (br L x true)) fun L x=>fg L x
def TE:ng:=Gu Pj (fun L _=>aq L) (fun L x=> .it .i64 (cY L x.1 x.2)) fun L x=>fz L x.1 x.2
theorem LY {o:Obj} {n:Int} {b:Bytes} (h:bf o n=true) (hk:o.kind=1\/o.kind=2):bf (jY o b) n=true:=by
 rw[cO]at h⊢;simp only[jY];obtain⟨a1,a2,a3,a4,a5,a6,a7,a8,a9,a10,a11⟩:=h;exact⟨a1,a2,a3,a4,a5,a6,a7,a8,a9,a10,fun i hi=> .inl hk⟩
theorem FP {L:List Obj} {k:Key} (h:aI L k=true) (h2:k.kind=3):(ai L k.oid.toNat free).kind=2:=by
 rw[(ej h).2.2.2.2];unfold gK;rw[Xu (by have:=(wU h).1;omega),Xv h2]
theorem pP {L:List Obj} {k:Key} {b:Bytes} (hL:aq L) (h:aI L k=true) (h2:k.kind=3):ei L k.oid (jY (aa L k) b)=0/\bN L k.oid (jY (aa L k) b)=pL L k b/\aq (pL L k b):=by
 obtain⟨b1,b2,b3,b4,_⟩:=ej h;have hr:=eV.1 hL;have ho:=LY (b:=b) (hr.2.2 k.oid.toNat (by omega)) (.inr (FP h h2))
 obtain⟨p1,p2⟩:=sQ (L:=L) (o:=jY (ai L k.oid.toNat free) b) (k9.2 ⟨b2,b3⟩) (pI ho).symm;rw[b4];refine⟨p1,p2,?_⟩;refine eV.2 ?_;unfold pL;have hl:(bX L k.oid.toNat (jY (ai L k.oid.toNat free) b)).length=L.length:=by simp[bX]
 rw[hl];refine⟨hr.1,hr.2.1,fun i hi=>?_⟩
 by_cases e:i=k.oid.toNat
 ·subst e;rw[show ai (bX L k.oid.toNat (jY (ai L k.oid.toNat free) b)) k.oid.toNat free=jY (ai L k.oid.toNat free) b by simp[ai,bX,Xt,hi]]
  exact ho
 ·rw[show ai (bX L k.oid.toNat (jY (ai L k.oid.toNat free) b)) i free=ai L i free by simp[ai,bX,Xt,List.getElem?_set,Ne.symm e]]
  exact hr.2.2 i hi
theorem AN {L:List Obj} {k:Key} (h:aI L k=true) (h2:k.kind=3):0<=k.rights/\k.rights<=1:=by
 have:=gL (ej h).1;rw[h2]at this;exact this
theorem Rg {r:Int} (h0:0<=r) (h1:r<=1):aT .and .i64 r 1=r:=by
 have:r=0\/r=1:=by omega
 rcases this with rfl|rfl<;>decide
theorem rp {i n:Int}:dC i n=true↔0<=i/\0<=n/\i<=64/\n<=64-i:=by
 simp only[dC,Xo,Xp,and_assoc]
theorem LW (b:Bytes) (i:Int) (s:ByteArray) (h:dC i (cE s)=true):Hy b i.toNat 64 s=vb b i.toNat s.size s:=by
 unfold Hy G8
 have hle:s.size<=64-i.toNat:=by
  obtain⟨h0,h1,h2,h3⟩:=rp.1 h;have h3:(s.size:Int)<=64-i:=h3;omega
 rw[show Nat.min s.size (64-i.toNat)=s.size from Nat.min_eq_left hle]
theorem IF (b:Bytes):Bx b 0 64=dV:=by
 unfold Bx vb dV;ext i hi
 simp[sat_empty,hi]
theorem vQ {L:List Obj} {k:Key} {c:Bool} (h:br L k c=0):aI L k=true/\k.kind=3/\(c=true->k.rights=0):=by
 unfold br at h;split at h
 ·rename_i h1;obtain⟨a1,a2,_⟩:=kR h1;split at h
  ·omega
  ·rename_i h2;exact⟨a1,a2,fun hc=>by simpa[hc]using h2⟩
 ·rename_i h1;exact absurd h h1
theorem Rs {L:List Obj} {k:Key}:br L k false=aQ L k 3 false:=by
 unfold br;split
 ·rename_i h;rw[h];rfl
 ·rfl
theorem I5 {L:List Obj} {k:Key} {c:Bool} (h:decide (ah L=0)=true):br L k c=1:=by
 have:aQ L k 3 false=1:=KF (by rw[Xp]at h;simp[h])
 unfold br;rw[this,Xu (by omega)]
theorem Ti {L:List Obj} {k:Key} {c:Bool} (h:decide (ah L=0)=false) (h2:(!aI L k|| !decide (k.kind=3))=true):br L k c=190:=by
 have h0:(!decide (0<ah L))=false:=by
  rw[decide_eq_false_iff_not]at h;unfold ah at h⊢;simp;omega
 have:aQ L k 3 false=190:=G7 h0 (by simpa using h2)
 unfold br;rw[this,Xu (by omega)]
theorem pE {L:List Obj} {k:Key} (h2:(!aI L k|| !decide (k.kind=3))=false):aI L k=true/\k.kind=3:=by simpa using h2
theorem Wy {L:List Obj} {k:Key} (h:decide (ah L=0)=false) (h2:(!aI L k|| !decide (k.kind=3))=false):aQ L k 3 false=0:=by
 refine FA ?_ (by simpa using h2)
 rw[decide_eq_false_iff_not]at h;unfold ah at h⊢;simp;omega
theorem TZ {L:List Obj} {k:Key} (h:decide (ah L=0)=false) (h2:(!aI L k|| !decide (k.kind=3))=false):br L k false=0:=by rw[Rs];exact Wy h h2
theorem V6 {L:List Obj} {k:Key} (h:decide (ah L=0)=false) (h2:(!aI L k|| !decide (k.kind=3))=false) (h3:(!decide (aT BinOp.and IntKind.i64 k.rights 1=0))=true):br L k true=191:=by
 obtain⟨a1,a2⟩:=pE h2;have hr:=AN a1 a2;rw[Rg hr.1 hr.2]at h3;unfold br;rw[Xv (Wy h h2),Xv (by simpa using h3)]
theorem Tt {L:List Obj} {k:Key} (h:decide (ah L=0)=false) (h2:(!aI L k|| !decide (k.kind=3))=false) (h3:(!decide (aT BinOp.and IntKind.i64 k.rights 1=0))=false):br L k true=0:=by
 obtain⟨a1,a2⟩:=pE h2;have hr:=AN a1 a2;rw[Rg hr.1 hr.2]at h3;unfold br;rw[Xv (Wy h h2),Xu (by simpa using h3)]
theorem sN {L:List Obj} {k:Key} {i n e:Int} (h:br L k false=e) (he:e≠0):(⟨#[]⟩:ByteArray)=dW L k i n/\e=bY L k i n:=by
 have:bY L k i n=e:=by unfold bY;rw[h,Xu he]
 unfold dW;rw[this,Xu he];exact⟨rfl,rfl⟩
theorem B8 {L:List Obj} {k:Key} {i n:Int} (h:br L k false=0) (hi:(!dC i n)=true):(⟨#[]⟩:ByteArray)=dW L k i n/\4=bY L k i n:=by
 rw[Bool.not_eq_true']at hi;have:bY L k i n=4:=by unfold bY;rw[Xv h,hi];rfl
 unfold dW;rw[this];exact⟨rfl,rfl⟩
theorem Ev {L:List Obj} {k:Key} {i n:Int} (h:br L k false=0) (hi:(!dC i n)=false):aL IntKind.i64 (i+n)/\Bf i (i+n) 64/\xQ (ai L k.oid.toNat free).bytes i.toNat (i+n).toNat=dW L k i n/\0=bY L k i n:=by
 rw[Bool.not_eq_false']at hi;obtain⟨a,b,c,d⟩:=rp.1 hi;have:bY L k i n=0:=by unfold bY;rw[Xv h,hi];rfl
 unfold dW;rw[this];exact⟨by simp only[aL,cg];omega,⟨by omega,by omega,by omega⟩,rfl,rfl⟩
theorem wm {L:List Obj} {k:Key} {i e:Int} {z:ByteArray} (h:br L k true=e) (he:e≠0):e=cX L k i z/\L=eR L k i z:=by
 have:cX L k i z=e:=by unfold cX;rw[h,Xu he]
 unfold eR;rw[this,Xu he];exact⟨rfl,rfl⟩
theorem Rm {L:List Obj} {k:Key} {i:Int} {z:ByteArray} (h:br L k true=0) (hi:(!dC i (cE z))=true):4=cX L k i z/\L=eR L k i z:=by
 rw[Bool.not_eq_true']at hi;have:cX L k i z=4:=by unfold cX;rw[Xv h,hi];rfl
 unfold eR;rw[this];exact⟨rfl,rfl⟩
theorem Ul {L:List Obj} {k:Key} {i:Int} {z:ByteArray} (hL:aq L) (h1:aI L k=true) (h2:k.kind=3) (h:br L k true=0) (hi:(!dC i (cE z))=false):Bf i 64 64/\
  ei L k.oid (jY (aa L k) (Hy (aa L k).bytes i.toNat (Int.toNat 64) z))=cX L k i z/\bN L k.oid (jY (aa L k) (Hy (aa L k).bytes i.toNat (Int.toNat 64) z))=eR L k i z:=by
 rw[Bool.not_eq_false']at hi;obtain⟨a,b,c,d⟩:=rp.1 hi;have hE:cX L k i z=0:=by unfold cX;rw[Xv h,hi];rfl
 have hb:=LW (aa L k).bytes i z hi;obtain⟨p1,p2,_⟩:=pP (b:=vb (aa L k).bytes i.toNat z.size z) hL h1 h2;have h64:Int.toNat 64=64:=rfl;rw[h64,hb,p1,p2,hE];refine⟨⟨by omega,by omega,by omega⟩,rfl,?_⟩
 unfold eR;rw[hE,Xv rfl,(ej h1).2.2.2.1]
theorem xI {L:List Obj} {k:Key} {e:Int} (h:br L k true=e) (he:e≠0):e=br L k true/\L=fg L k:=by
 refine⟨h.symm,?_⟩;unfold fg;rw[h,Xu he]
theorem Uc {L:List Obj} {k:Key} (hL:aq L) (h1:aI L k=true) (h2:k.kind=3) (h:br L k true=0):Bf 0 64 64/\
  ei L k.oid (jY (aa L k) (Bx (aa L k).bytes (Int.toNat 0) (Int.toNat 64)))=br L k true/\bN L k.oid (jY (aa L k) (Bx (aa L k).bytes (Int.toNat 0) (Int.toNat 64)))=fg L k:=by
 have h64:Int.toNat 64=64:=rfl;have h0:Int.toNat 0=0:=rfl;obtain⟨p1,p2,_⟩:=pP (b:=dV) hL h1 h2;rw[h64,h0,IF,p1,p2,h];refine⟨⟨by omega,by omega,by omega⟩,rfl,?_⟩
 unfold fg;rw[Xv h]
theorem wy {L:List Obj} {t f:Key} {e:Int} (h:br L t true=e) (he:e≠0):e=cY L t f/\L=fz L t f:=by
 have:cY L t f=e:=by unfold cY;rw[h,Xu he]
 unfold fz;rw[this,Xu he];exact⟨rfl,rfl⟩
theorem Pz {L:List Obj} {t f:Key} {e:Int} (h:br L t true=0) (h2:br L f false=e) (he:e≠0):e=cY L t f/\L=fz L t f:=by
 have:cY L t f=e:=by unfold cY;rw[Xv h,h2]
 unfold fz;rw[this,Xu he];exact⟨rfl,rfl⟩
theorem TB {L:List Obj} {t f:Key} (hL:aq L) (h1:aI L t=true) (h2:t.kind=3) (h:br L t true=0) (g1:aI L f=true) (g:br L f false=0):
  ei L t.oid (jY (aa L t) (aa L f).bytes)=cY L t f/\bN L t.oid (jY (aa L t) (aa L f).bytes)=fz L t f:=by
 have hE:cY L t f=0:=by unfold cY;rw[Xv h,g]
 obtain⟨p1,p2,_⟩:=pP (b:=(aa L f).bytes) hL h1 h2;rw[p1,p2,hE];refine⟨rfl,?_⟩;unfold fz;rw[hE,Xv rfl,(ej g1).2.2.2.1]
structure Ui where
 kind:Int
 pos:Int
 num:Int
 key:Key
 other:Key
 bytes:ByteArray
def Ui.wf (x:Ui):Prop:=cg .i64 x.kind/\cg .i64 x.pos/\cg .i64 x.num/\x.key.wf/\x.other.wf/\aw x.bytes
def z6 (L:List Obj) (a:Ui):Bool:=
 if a.kind=1 then false else if a.kind=2 then decide (cX L a.key a.pos a.bytes=0)else if a.kind=3 then decide (br L a.key true=0)else decide (cY L a.key a.other=0)
def Ma (L:List Obj) (a:Ui):List Obj:=
 if a.kind=1 then L else if a.kind=2 then eR L a.key a.pos a.bytes else if a.kind=3 then fg L a.key else fz L a.key a.other
theorem qi (s:ByteArray):BK s s=true:=by simp[BK]
end Go.Sx
