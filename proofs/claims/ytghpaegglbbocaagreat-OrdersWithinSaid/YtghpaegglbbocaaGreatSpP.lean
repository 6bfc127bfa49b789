import Derived.Test.YtghpaegglbbocaaGreatKS
set_option linter.unusedSimpArgs false
set_option linter.unusedVariables false
namespace Go.Sx
def bq (L:List Obj) (k:Key) (c:Bool):Int:=if aJ L k 3 false=0 then(if(c&& !decide (k.rights=0))=true then 191 else 0)else aJ L k 3 false
def dh (i n:Int):Bool:=decide (0<=i)&&decide (0<=n)&&decide (i<=64)&&decide (n<=64-i)
def bQ (L:List Obj) (k:Key) (i n:Int):Int:=if bq L k false=0 then(if dh i n then 0 else 4)else bq L k false
def ec (L:List Obj) (k:Key) (i n:Int):ByteArray:=if bQ L k i n=0 then B2 (aq L k.oid.toNat free).bytes i.toNat (i+n).toNat else⟨#[]⟩
def j7 (o:Obj) (b:Bytes):Obj:= {o with bytes:=b}
def pW (L:List Obj) (k:Key) (b:Bytes):List Obj:=cX L k.oid.toNat (j7 (aq L k.oid.toNat free) b)
def cJ (L:List Obj) (k:Key) (i:Int) (s:ByteArray):Int:=if bq L k true=0 then(if dh i (dK s)then 0 else 4)else bq L k true
def ew (L:List Obj) (k:Key) (i:Int) (s:ByteArray):List Obj:=if cJ L k i s=0 then pW L k (yx (aq L k.oid.toNat free).bytes i.toNat s.size s)else L
def eL (L:List Obj) (k:Key):List Obj:=if bq L k true=0 then pW L k fx else L
def cL (L:List Obj) (t f:Key):Int:=if bq L t true=0 then bq L f false else bq L t true
def e9 (L:List Obj) (t f:Key):List Obj:=if cL L t f=0 then pW L t (aq L f.oid.toNat free).bytes else L
def az (s:ByteArray):Prop:=(s.size:Int)<=9223372036854775807
def ER (v:V):Option ByteArray:=match v with
 | .st s=>some s
 |_=>none
theorem y9:p7 ER V.st:=fun v x h=>by
 cases v<;>simp only[ER,Tf,reduceCtorEq]at h
 subst h;exact⟨fun _=>rfl,fun _=>id⟩
def C9 (l:List V):Option (Key×Int×ByteArray):=match l with
 | [a,b,c]=>match rK a with
   |some k=>match rI .i64 b with
    |some i=>match ER c with
     |some s=>some (k,i,s)
     |none=>none
    |none=>none
   |none=>none
 |_=>none
theorem Ag:∀l x,C9 l=some x->eh l [.key x.1,.it .i64 x.2.1,.st x.2.2]:=fun l x h=>by
 unfold C9 at h;split at h
 ·split at h
  ·rename_i h1;split at h
   ·rename_i h2;split at h<;>simp only[Tf,reduceCtorEq]at h
    rename_i h3;subst h;exact eh.rd fO h1 (eh.rd (fF .i64) h2 (eh.rd y9 h3 eh.nil))
   ·simp at h
  ·simp at h
 ·simp at h
def HJ:Ct:=MX (rI .i64) (rI .i64) fun i n=> .bo (dh i n)
def Mb:Ct:=EY (cO sA (cO kA (cO iA (cO iA na)))) (fun _=>none) fun x=> .tp [.st (ec (BK x.1) x.2.1 x.2.2.1 x.2.2.2.1),.it .i64 (bQ (BK x.1) x.2.1 x.2.2.1 x.2.2.2.1)]
def Q8:nD:=ET C9 (fun L x=>an L/\az x.2.2) (fun L x=> .it .i64 (cJ L x.1 x.2.1 x.2.2)) fun L x=>ew L x.1 x.2.1 x.2.2
def Og:nD:=ET RM (fun L _=>an L) (fun L x=> .it .i64 (bq L x true)) fun L x=>eL L x
def QL:nD:=ET KJ (fun L _=>an L) (fun L x=> .it .i64 (cL L x.1 x.2)) fun L x=>e9 L x.1 x.2
theorem Oq {o:Obj} {n:Int} {b:Bytes} (h:bx o n=true) (hk:o.kind=1\/o.kind=2):bx (j7 o b) n=true:=by
 rw[dJ]at h⊢;simp only[j7];obtain⟨a1,a2,a3,a4,a5,a6,a7,a8,a9,a10,a11⟩:=h;exact⟨a1,a2,a3,a4,a5,a6,a7,a8,a9,a10,fun i hi=> .inl hk⟩
theorem El {L:List Obj} {k:Key} (h:aM L k=true) (h2:k.kind=3):(aq L k.oid.toNat free).kind=2:=by
 rw[(ea h).2.2.2.2];unfold gZ;rw[Tn (by have:=(u0 h).1;omega),To h2]
theorem oH {L:List Obj} {k:Key} {b:Bytes} (hL:an L) (h:aM L k=true) (h2:k.kind=3):dT L k.oid (j7 (aa L k) b)=0/\cc L k.oid (j7 (aa L k) b)=pW L k b/\an (pW L k b):=by
 obtain⟨b1,b2,b3,b4,_⟩:=ea h;have hr:=eD.1 hL;have ho:=Oq (b:=b) (hr.2.2 k.oid.toNat (by omega)) (.inr (El h h2))
 obtain⟨p1,p2⟩:=qo (L:=L) (o:=j7 (aq L k.oid.toNat free) b) (jZ.2 ⟨b2,b3⟩) (oM ho).symm;rw[b4];refine⟨p1,p2,?_⟩;refine eD.2 ?_;unfold pW;have hl:(cX L k.oid.toNat (j7 (aq L k.oid.toNat free) b)).length=L.length:=by simp[cX]
 rw[hl];refine⟨hr.1,hr.2.1,fun i hi=>?_⟩
 by_cases e:i=k.oid.toNat
 ·subst e;rw[show aq (cX L k.oid.toNat (j7 (aq L k.oid.toNat free) b)) k.oid.toNat free=j7 (aq L k.oid.toNat free) b by simp[aq,cX,Tm,hi]]
  exact ho
 ·rw[show aq (cX L k.oid.toNat (j7 (aq L k.oid.toNat free) b)) i free=aq L i free by simp[aq,cX,Tm,List.getElem?_set,Ne.symm e]]
  exact hr.2.2 i hi
theorem zg {L:List Obj} {k:Key} (h:aM L k=true) (h2:k.kind=3):0<=k.rights/\k.rights<=1:=by
 have:=eR (ea h).1;rw[h2]at this;exact this
theorem NJ {r:Int} (h0:0<=r) (h1:r<=1):aO .and .i64 r 1=r:=by
 have:r=0\/r=1:=by omega
 rcases this with rfl|rfl<;>decide
theorem pR {i n:Int}:dh i n=true↔0<=i/\0<=n/\i<=64/\n<=64-i:=by
 simp only[dh,Th,Ti,and_assoc]
theorem Jt (b:Bytes) (i:Int) (s:ByteArray) (h:dh i (dK s)=true):NB b i.toNat 64 s=yx b i.toNat s.size s:=by
 unfold NB EU
 have hle:s.size<=64-i.toNat:=by
  obtain⟨h0,h1,h2,h3⟩:=pR.1 h;have h3:(s.size:Int)<=64-i:=h3;omega
 rw[show Nat.min s.size (64-i.toNat)=s.size from Nat.min_eq_left hle]
theorem FN (b:Bytes):zL b 0 64=fx:=by
 unfold zL yx fx;ext i hi
 simp[sat_empty,hi]
theorem uC {L:List Obj} {k:Key} {c:Bool} (h:bq L k c=0):aM L k=true/\k.kind=3/\(c=true->k.rights=0):=by
 unfold bq at h;split at h
 ·rename_i h1;obtain⟨a1,a2,_⟩:=iz h1;split at h
  ·omega
  ·rename_i h2;exact⟨a1,a2,fun hc=>by simpa[hc]using h2⟩
 ·rename_i h1;exact absurd h h1
theorem Oi {L:List Obj} {k:Key}:bq L k false=aJ L k 3 false:=by
 unfold bq;split
 ·rename_i h;rw[h];rfl
 ·rfl
theorem FZ {L:List Obj} {k:Key} {c:Bool} (h:decide (ah L=0)=true):bq L k c=1:=by
 have:aJ L k 3 false=1:=Jl (by rw[Ti]at h;simp[h])
 unfold bq;rw[this,Tn (by omega)]
theorem PY {L:List Obj} {k:Key} {c:Bool} (h:decide (ah L=0)=false) (h2:(!aM L k|| !decide (k.kind=3))=true):bq L k c=190:=by
 have h0:(!decide (0<ah L))=false:=by
  rw[decide_eq_false_iff_not]at h;unfold ah at h⊢;simp;omega
 have:aJ L k 3 false=190:=ED h0 (by simpa using h2)
 unfold bq;rw[this,Tn (by omega)]
theorem nP {L:List Obj} {k:Key} (h2:(!aM L k|| !decide (k.kind=3))=false):aM L k=true/\k.kind=3:=by simpa using h2
theorem SO {L:List Obj} {k:Key} (h:decide (ah L=0)=false) (h2:(!aM L k|| !decide (k.kind=3))=false):aJ L k 3 false=0:=by
 refine DU ?_ (by simpa using h2)
 rw[decide_eq_false_iff_not]at h;unfold ah at h⊢;simp;omega
theorem Qj {L:List Obj} {k:Key} (h:decide (ah L=0)=false) (h2:(!aM L k|| !decide (k.kind=3))=false):bq L k false=0:=by rw[Oi];exact SO h h2
theorem R2 {L:List Obj} {k:Key} (h:decide (ah L=0)=false) (h2:(!aM L k|| !decide (k.kind=3))=false) (h3:(!decide (aO BinOp.and IntKind.i64 k.rights 1=0))=true):bq L k true=191:=by
 obtain⟨a1,a2⟩:=nP h2;have hr:=zg a1 a2;rw[NJ hr.1 hr.2]at h3;unfold bq;rw[To (SO h h2),To (by simpa using h3)]
theorem Q0 {L:List Obj} {k:Key} (h:decide (ah L=0)=false) (h2:(!aM L k|| !decide (k.kind=3))=false) (h3:(!decide (aO BinOp.and IntKind.i64 k.rights 1=0))=false):bq L k true=0:=by
 obtain⟨a1,a2⟩:=nP h2;have hr:=zg a1 a2;rw[NJ hr.1 hr.2]at h3;unfold bq;rw[To (SO h h2),Tn (by simpa using h3)]
theorem qD {L:List Obj} {k:Key} {i n e:Int} (h:bq L k false=e) (he:e≠0):(⟨#[]⟩:ByteArray)=ec L k i n/\e=bQ L k i n:=by
 have:bQ L k i n=e:=by unfold bQ;rw[h,Tn he]
 unfold ec;rw[this,Tn he];exact⟨rfl,rfl⟩
theorem Ba {L:List Obj} {k:Key} {i n:Int} (h:bq L k false=0) (hi:(!dh i n)=true):(⟨#[]⟩:ByteArray)=ec L k i n/\4=bQ L k i n:=by
 rw[Bool.not_eq_true']at hi;have:bQ L k i n=4:=by unfold bQ;rw[To h,hi];rfl
 unfold ec;rw[this];exact⟨rfl,rfl⟩
theorem C6 {L:List Obj} {k:Key} {i n:Int} (h:bq L k false=0) (hi:(!dh i n)=false):aQ IntKind.i64 (i+n)/\BM i (i+n) 64/\B2 (aq L k.oid.toNat free).bytes i.toNat (i+n).toNat=ec L k i n/\0=bQ L k i n:=by
 rw[Bool.not_eq_false']at hi;obtain⟨a,b,c,d⟩:=pR.1 hi;have:bQ L k i n=0:=by unfold bQ;rw[To h,hi];rfl
 unfold ec;rw[this];exact⟨by simp only[aQ,cy];omega,⟨by omega,by omega,by omega⟩,rfl,rfl⟩
theorem vH {L:List Obj} {k:Key} {i e:Int} {z:ByteArray} (h:bq L k true=e) (he:e≠0):e=cJ L k i z/\L=ew L k i z:=by
 have:cJ L k i z=e:=by unfold cJ;rw[h,Tn he]
 unfold ew;rw[this,Tn he];exact⟨rfl,rfl⟩
theorem Om {L:List Obj} {k:Key} {i:Int} {z:ByteArray} (h:bq L k true=0) (hi:(!dh i (dK z))=true):4=cJ L k i z/\L=ew L k i z:=by
 rw[Bool.not_eq_true']at hi;have:cJ L k i z=4:=by unfold cJ;rw[To h,hi];rfl
 unfold ew;rw[this];exact⟨rfl,rfl⟩
theorem QZ {L:List Obj} {k:Key} {i:Int} {z:ByteArray} (hL:an L) (h1:aM L k=true) (h2:k.kind=3) (h:bq L k true=0) (hi:(!dh i (dK z))=false):BM i 64 64/\
  dT L k.oid (j7 (aa L k) (NB (aa L k).bytes i.toNat (Int.toNat 64) z))=cJ L k i z/\cc L k.oid (j7 (aa L k) (NB (aa L k).bytes i.toNat (Int.toNat 64) z))=ew L k i z:=by
 rw[Bool.not_eq_false']at hi;obtain⟨a,b,c,d⟩:=pR.1 hi;have hE:cJ L k i z=0:=by unfold cJ;rw[To h,hi];rfl
 have hb:=Jt (aa L k).bytes i z hi;obtain⟨p1,p2,_⟩:=oH (b:=yx (aa L k).bytes i.toNat z.size z) hL h1 h2;have h64:Int.toNat 64=64:=rfl;rw[h64,hb,p1,p2,hE];refine⟨⟨by omega,by omega,by omega⟩,rfl,?_⟩
 unfold ew;rw[hE,To rfl,(ea h1).2.2.2.1]
theorem uR {L:List Obj} {k:Key} {e:Int} (h:bq L k true=e) (he:e≠0):e=bq L k true/\L=eL L k:=by
 refine⟨h.symm,?_⟩;unfold eL;rw[h,Tn he]
theorem Qy {L:List Obj} {k:Key} (hL:an L) (h1:aM L k=true) (h2:k.kind=3) (h:bq L k true=0):BM 0 64 64/\
  dT L k.oid (j7 (aa L k) (zL (aa L k).bytes (Int.toNat 0) (Int.toNat 64)))=bq L k true/\cc L k.oid (j7 (aa L k) (zL (aa L k).bytes (Int.toNat 0) (Int.toNat 64)))=eL L k:=by
 have h64:Int.toNat 64=64:=rfl;have h0:Int.toNat 0=0:=rfl;obtain⟨p1,p2,_⟩:=oH (b:=fx) hL h1 h2;rw[h64,h0,FN,p1,p2,h];refine⟨⟨by omega,by omega,by omega⟩,rfl,?_⟩
 unfold eL;rw[To h]
theorem vR {L:List Obj} {t f:Key} {e:Int} (h:bq L t true=e) (he:e≠0):e=cL L t f/\L=e9 L t f:=by
 have:cL L t f=e:=by unfold cL;rw[h,Tn he]
 unfold e9;rw[this,Tn he];exact⟨rfl,rfl⟩
theorem Lw {L:List Obj} {t f:Key} {e:Int} (h:bq L t true=0) (h2:bq L f false=e) (he:e≠0):e=cL L t f/\L=e9 L t f:=by
 have:cL L t f=e:=by unfold cL;rw[To h,h2]
 unfold e9;rw[this,Tn he];exact⟨rfl,rfl⟩
theorem Rb {L:List Obj} {t f:Key} (hL:an L) (h1:aM L t=true) (h2:t.kind=3) (h:bq L t true=0) (g1:aM L f=true) (g:bq L f false=0):
  dT L t.oid (j7 (aa L t) (aa L f).bytes)=cL L t f/\cc L t.oid (j7 (aa L t) (aa L f).bytes)=e9 L t f:=by
 have hE:cL L t f=0:=by unfold cL;rw[To h,g]
 obtain⟨p1,p2,_⟩:=oH (b:=(aa L f).bytes) hL h1 h2;rw[p1,p2,hE];refine⟨rfl,?_⟩;unfold e9;rw[hE,To rfl,(ea g1).2.2.2.1]
structure QY where
 kind:Int
 pos:Int
 num:Int
 key:Key
 other:Key
 bytes:ByteArray
def QY.wf (x:QY):Prop:=cy .i64 x.kind/\cy .i64 x.pos/\cy .i64 x.num/\x.key.wf/\x.other.wf/\az x.bytes
def yu (L:List Obj) (a:QY):Bool:=
 if a.kind=1 then false else if a.kind=2 then decide (cJ L a.key a.pos a.bytes=0)else if a.kind=3 then decide (bq L a.key true=0)else decide (cL L a.key a.other=0)
def Jb (L:List Obj) (a:QY):List Obj:=
 if a.kind=1 then L else if a.kind=2 then ew L a.key a.pos a.bytes else if a.kind=3 then eL L a.key else e9 L a.key a.other
theorem E5 (s:ByteArray):yo s s=true:=by simp[yo]
end Go.Sx
