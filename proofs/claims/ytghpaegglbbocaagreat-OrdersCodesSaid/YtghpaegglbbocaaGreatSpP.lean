import Derived.Test.YtghpaegglbbocaaGreatKS
set_option linter.unusedSimpArgs false
set_option linter.unusedVariables false
namespace Go.Sx
def aS (L:List Obj) (k:Key) (c:Bool):Int:=if ay L k 3 false=0 then(if(c&& !decide (k.rights=0))=true then 191 else 0)else ay L k 3 false
def bZ (i n:Int):Bool:=decide (0<=i)&&decide (0<=n)&&decide (i<=64)&&decide (n<=64-i)
def b6 (L:List Obj) (k:Key) (i n:Int):Int:=if aS L k false=0 then(if bZ i n then 0 else 4)else aS L k false
def dR (L:List Obj) (k:Key) (i n:Int):ByteArray:=if b6 L k i n=0 then Bn (ah L k.oid.toNat free).bytes i.toNat (i+n).toNat else⟨#[]⟩
def j5 (o:Obj) (b:Bytes):Obj:= {o with bytes:=b}
def rX (L:List Obj) (k:Key) (b:Bytes):List Obj:=cC L k.oid.toNat (j5 (ah L k.oid.toNat free) b)
def cq (L:List Obj) (k:Key) (i:Int) (s:ByteArray):Int:=if aS L k true=0 then(if bZ i (bW s)then 0 else 4)else aS L k true
def eg (L:List Obj) (k:Key) (i:Int) (s:ByteArray):List Obj:=if cq L k i s=0 then rX L k (uJ (ah L k.oid.toNat free).bytes i.toNat s.size s)else L
def eD (L:List Obj) (k:Key):List Obj:=if aS L k true=0 then rX L k fW else L
def cx (L:List Obj) (t f:Key):Int:=if aS L t true=0 then aS L f false else aS L t true
def eX (L:List Obj) (t f:Key):List Obj:=if cx L t f=0 then rX L t (ah L f.oid.toNat free).bytes else L
def aw (s:ByteArray):Prop:=(s.size:Int)<=9223372036854775807
def Hu (v:V):Option ByteArray:=match v with
 | .st s=>some s
 |_=>none
theorem AU:pB Hu V.st:=fun v x h=>by
 cases v<;>simp only[Hu,Ym,reduceCtorEq]at h
 subst h;exact⟨fun _=>rfl,fun _=>id⟩
def Af (l:List V):Option (Key×Int×ByteArray):=match l with
 | [a,b,c]=>match rK a with
   |some k=>match rI .i64 b with
    |some i=>match Hu c with
     |some s=>some (k,i,s)
     |none=>none
    |none=>none
   |none=>none
 |_=>none
theorem s5:∀l x,Af l=some x->eh l [.key x.1,.it .i64 x.2.1,.st x.2.2]:=fun l x h=>by
 unfold Af at h;split at h
 ·split at h
  ·rename_i h1;split at h
   ·rename_i h2;split at h<;>simp only[Ym,reduceCtorEq]at h
    rename_i h3;subst h;exact eh.rd fy h1 (eh.rd (fz .i64) h2 (eh.rd AU h3 eh.nil))
   ·simp at h
  ·simp at h
 ·simp at h
def CH:Ct:=Q6 (rI .i64) (rI .i64) fun i n=> .bo (bZ i n)
def Tp:Ct:=sF (bk Bq (bk kA (bk bA iv))) (fun _=>none) fun x=> .it .i64 (aS x.1 x.2.1 x.2.2.1)
def QB:Ct:=sF (bk sA (bk kA (bk iA (bk iA iv)))) (fun _=>none) fun x=> .tp [.st (dR (Ei x.1) x.2.1 x.2.2.1 x.2.2.2.1),.it .i64 (b6 (Ei x.1) x.2.1 x.2.2.1 x.2.2.2.1)]
def Wa:kJ:=G0 Af (fun L x=>aq L/\aw x.2.2) (fun L x=> .it .i64 (cq L x.1 x.2.1 x.2.2)) fun L x=>eg L x.1 x.2.1 x.2.2
def UM:kJ:=G0 WU (fun L _=>aq L) (fun L x=> .it .i64 (aS L x true)) fun L x=>eD L x
def VB:kJ:=G0 QY (fun L _=>aq L) (fun L x=> .it .i64 (cx L x.1 x.2)) fun L x=>eX L x.1 x.2
theorem Sr {o:Obj} {n:Int} {b:Bytes} (h:bT o n=true) (hk:o.kind=1\/o.kind=2):bT (j5 o b) n=true:=by
 rw[fg]at h⊢;simp only[j5];obtain⟨a1,a2,a3,a4,a5,a6,a7,a8,a9,a10,a11⟩:=h;exact⟨a1,a2,a3,a4,a5,a6,a7,a8,a9,a10,fun i hi=> .inl hk⟩
theorem Hb {L:List Obj} {k:Key} (h:aU L k=true) (h2:k.kind=3):(ah L k.oid.toNat free).kind=2:=by
 rw[(dC h).2.2.2.2];unfold fP;rw[Yu (by have:=(xm h).1;omega),Yv h2]
theorem qh {L:List Obj} {k:Key} {b:Bytes} (hL:aq L) (h:aU L k=true) (h2:k.kind=3):eU L k.oid (j5 (aa L k) b)=0/\cW L k.oid (j5 (aa L k) b)=rX L k b/\aq (rX L k b):=by
 obtain⟨b1,b2,b3,b4,_⟩:=dC h;have hr:=fj.1 hL;have ho:=Sr (b:=b) (hr.2.2 k.oid.toNat (by omega)) (.inr (Hb h h2))
 obtain⟨p1,p2⟩:=tt (L:=L) (o:=j5 (ah L k.oid.toNat free) b) (kx.2 ⟨b2,b3⟩) (qu ho).symm;rw[b4];refine⟨p1,p2,?_⟩;refine fj.2 ?_;unfold rX;have hl:(cC L k.oid.toNat (j5 (ah L k.oid.toNat free) b)).length=L.length:=by simp[cC]
 rw[hl];refine⟨hr.1,hr.2.1,fun i hi=>?_⟩
 by_cases e:i=k.oid.toNat
 ·subst e;rw[show ah (cC L k.oid.toNat (j5 (ah L k.oid.toNat free) b)) k.oid.toNat free=j5 (ah L k.oid.toNat free) b by simp[ah,cC,Yt,hi]]
  exact ho
 ·rw[show ah (cC L k.oid.toNat (j5 (ah L k.oid.toNat free) b)) i free=ah L i free by simp[ah,cC,Yt,List.getElem?_set,Ne.symm e]]
  exact hr.2.2 i hi
theorem A0 {L:List Obj} {k:Key} (h:aU L k=true) (h2:k.kind=3):0<=k.rights/\k.rights<=1:=by
 have:=g8 (dC h).1;rw[h2]at this;exact this
theorem S8 {r:Int} (h0:0<=r) (h1:r<=1):bd .and .i64 r 1=r:=by
 have:r=0\/r=1:=by omega
 rcases this with rfl|rfl<;>decide
theorem mL {i n:Int}:bZ i n=true↔0<=i/\0<=n/\i<=64/\n<=64-i:=by
 simp only[bZ,Yo,Yp,and_assoc]
theorem LM (b:Bytes) (i:Int) (s:ByteArray) (h:bZ i (bW s)=true):Sb b i.toNat 64 s=uJ b i.toNat s.size s:=by
 unfold Sb Hn
 have hle:s.size<=64-i.toNat:=by
  obtain⟨h0,h1,h2,h3⟩:=mL.1 h;have h3:(s.size:Int)<=64-i:=h3;omega
 rw[show Nat.min s.size (64-i.toNat)=s.size from Nat.min_eq_left hle]
theorem MB (b:Bytes):Cy b 0 64=fW:=by
 unfold Cy uJ fW;ext i hi
 simp[sat_empty,hi]
theorem GC (b:Bytes) (i:Nat) (s:ByteArray):uJ b i 0 s=b:=by
 apply Vector.ext
 intro j hj;have:=wh b i 0 s j hj;rw[Yu (by omega)]at this
 simpa[Bytes.at,Array.getD_eq_getD_getElem?,hj]using this
theorem TQ {a b:Bytes} (h:∀j,j<64->a.at j=b.at j):a=b:=by
 apply Vector.ext
 intro j hj;have:=h j hj;simpa[Bytes.at,Array.getD_eq_getD_getElem?,hj]using this
theorem Hg (b:Bytes) (i g:Nat) (s:ByteArray) (h:i+g<64):(uJ b i g s).put (i+g) (sat s g)=uJ b i (g+1) s:=by
 apply TQ
 intro j hj;rw[Bytes.gL _ _ _ _ h,wh _ _ _ _ _ hj,wh _ _ _ _ _ hj];by_cases e:j=i+g
 ·subst e;rw[Yv rfl,Yv (by omega),show i+g-i=g by omega]
 ·rw[Yu e];by_cases e2:i<=j/\j<i+g
  ·rw[Yv e2,Yv (by omega)]
  ·rw[Yu e2,Yu (by omega)]
theorem nL {L:List Obj} {k:Key} (hL:aq L) (h:aU L k=true):dS L k.oid/\0<=k.oid/\k.oid<(aj L:Int)/\k.oid.toNat<aj L:=uy hL h
theorem lQ {L:List Obj} {k:Key} {c:Bool} (h:aS L k c=0):aU L k=true/\k.kind=3/\(c=true->k.rights=0):=by
 unfold aS at h;split at h
 ·rename_i h1;obtain⟨a1,a2,_⟩:=fH h1;split at h
  ·omega
  ·rename_i h2;exact⟨a1,a2,fun hc=>by simpa[hc]using h2⟩
 ·rename_i h1;exact absurd h h1
theorem SD {L:List Obj} {k:Key}:aS L k false=ay L k 3 false:=by
 unfold aS;split
 ·rename_i h;rw[h];rfl
 ·rfl
theorem Jv {L:List Obj} {k:Key} {c:Bool} (h:decide (an L=0)=true):aS L k c=1:=by
 have:ay L k 3 false=1:=K6 (by rw[Yp]at h;simp[h])
 unfold aS;rw[this,Yu (by omega)]
theorem UZ {L:List Obj} {k:Key} {c:Bool} (h:decide (an L=0)=false) (h2:(!aU L k|| !decide (k.kind=3))=true):aS L k c=190:=by
 have h0:(!decide (0<an L))=false:=by
  rw[decide_eq_false_iff_not]at h;unfold an at h⊢;simp;omega
 have:ay L k 3 false=190:=HI h0 (by simpa using h2)
 unfold aS;rw[this,Yu (by omega)]
theorem p8 {L:List Obj} {k:Key} (h2:(!aU L k|| !decide (k.kind=3))=false):aU L k=true/\k.kind=3:=by simpa using h2
theorem XD {L:List Obj} {k:Key} (h:decide (an L=0)=false) (h2:(!aU L k|| !decide (k.kind=3))=false):ay L k 3 false=0:=by
 refine Fg ?_ (by simpa using h2)
 rw[decide_eq_false_iff_not]at h;unfold an at h⊢;simp;omega
theorem Wg {L:List Obj} {k:Key} (h:decide (an L=0)=false) (h2:(!aU L k|| !decide (k.kind=3))=false):aS L k false=0:=by rw[SD];exact XD h h2
theorem Xk {L:List Obj} {k:Key} (h:decide (an L=0)=false) (h2:(!aU L k|| !decide (k.kind=3))=false) (h3:(!decide (bd BinOp.and IntKind.i64 k.rights 1=0))=true):aS L k true=191:=by
 obtain⟨a1,a2⟩:=p8 h2;have hr:=A0 a1 a2;rw[S8 hr.1 hr.2]at h3;unfold aS;rw[Yv (XD h h2),Yv (by simpa using h3)]
theorem U4 {L:List Obj} {k:Key} (h:decide (an L=0)=false) (h2:(!aU L k|| !decide (k.kind=3))=false) (h3:(!decide (bd BinOp.and IntKind.i64 k.rights 1=0))=false):aS L k true=0:=by
 obtain⟨a1,a2⟩:=p8 h2;have hr:=A0 a1 a2;rw[S8 hr.1 hr.2]at h3;unfold aS;rw[Yv (XD h h2),Yu (by simpa using h3)]
theorem qe {L:List Obj} {k:Key} {i n e:Int} (h:aS L k false=e) (he:e≠0):(⟨#[]⟩:ByteArray)=dR L k i n/\e=b6 L k i n:=by
 have:b6 L k i n=e:=by unfold b6;rw[h,Yu he]
 unfold dR;rw[this,Yu he];exact⟨rfl,rfl⟩
theorem yx {L:List Obj} {k:Key} {i n:Int} (h:aS L k false=0) (hi:(!bZ i n)=true):(⟨#[]⟩:ByteArray)=dR L k i n/\4=b6 L k i n:=by
 rw[Bool.not_eq_true']at hi;have:b6 L k i n=4:=by unfold b6;rw[Yv h,hi];rfl
 unfold dR;rw[this];exact⟨rfl,rfl⟩
theorem wg {L:List Obj} {k:Key} {i n:Int} (h:aS L k false=0) (hi:(!bZ i n)=false):aG IntKind.i64 (i+n)/\B5 i (i+n) 64/\Bn (ah L k.oid.toNat free).bytes i.toNat (i+n).toNat=dR L k i n/\0=b6 L k i n:=by
 rw[Bool.not_eq_false']at hi;obtain⟨a,b,c,d⟩:=mL.1 hi;have:b6 L k i n=0:=by unfold b6;rw[Yv h,hi];rfl
 unfold dR;rw[this];exact⟨by simp only[aG,bY];omega,⟨by omega,by omega,by omega⟩,rfl,rfl⟩
theorem uY {L:List Obj} {k:Key} {i e:Int} {z:ByteArray} (h:aS L k true=e) (he:e≠0):e=cq L k i z/\L=eg L k i z:=by
 have:cq L k i z=e:=by unfold cq;rw[h,Yu he]
 unfold eg;rw[this,Yu he];exact⟨rfl,rfl⟩
theorem KX {L:List Obj} {k:Key} {i:Int} {z:ByteArray} (h:aS L k true=0) (hi:(!bZ i (bW z))=true):4=cq L k i z/\L=eg L k i z:=by
 rw[Bool.not_eq_true']at hi;have:cq L k i z=4:=by unfold cq;rw[Yv h,hi];rfl
 unfold eg;rw[this];exact⟨rfl,rfl⟩
theorem Wy {L:List Obj} {k:Key} {i:Int} {z:ByteArray} (hL:aq L) (h1:aU L k=true) (h2:k.kind=3) (h:aS L k true=0) (hi:(!bZ i (bW z))=false):B5 i 64 64/\
  eU L k.oid (j5 (aa L k) (Sb (aa L k).bytes i.toNat (Int.toNat 64) z))=cq L k i z/\cW L k.oid (j5 (aa L k) (Sb (aa L k).bytes i.toNat (Int.toNat 64) z))=eg L k i z:=by
 rw[Bool.not_eq_false']at hi;obtain⟨a,b,c,d⟩:=mL.1 hi;have hE:cq L k i z=0:=by unfold cq;rw[Yv h,hi];rfl
 have hb:=LM (aa L k).bytes i z hi;obtain⟨p1,p2,_⟩:=qh (b:=uJ (aa L k).bytes i.toNat z.size z) hL h1 h2;have h64:Int.toNat 64=64:=rfl;rw[h64,hb,p1,p2,hE];refine⟨⟨by omega,by omega,by omega⟩,rfl,?_⟩
 unfold eg;rw[hE,Yv rfl,(dC h1).2.2.2.1]
theorem yR {L:List Obj} {k:Key} {e:Int} (h:aS L k true=e) (he:e≠0):e=aS L k true/\L=eD L k:=by
 refine⟨h.symm,?_⟩;unfold eD;rw[h,Yu he]
theorem VY {L:List Obj} {k:Key} (hL:aq L) (h1:aU L k=true) (h2:k.kind=3) (h:aS L k true=0):B5 0 64 64/\
  eU L k.oid (j5 (aa L k) (Cy (aa L k).bytes (Int.toNat 0) (Int.toNat 64)))=aS L k true/\cW L k.oid (j5 (aa L k) (Cy (aa L k).bytes (Int.toNat 0) (Int.toNat 64)))=eD L k:=by
 have h64:Int.toNat 64=64:=rfl;have h0:Int.toNat 0=0:=rfl;obtain⟨p1,p2,_⟩:=qh (b:=fW) hL h1 h2;rw[h64,h0,MB,p1,p2,h];refine⟨⟨by omega,by omega,by omega⟩,rfl,?_⟩
 unfold eD;rw[Yv h]
theorem uI {L:List Obj} {t f:Key} {e:Int} (h:aS L t true=e) (he:e≠0):e=cx L t f/\L=eX L t f:=by
 have:cx L t f=e:=by unfold cx;rw[h,Yu he]
 unfold eX;rw[this,Yu he];exact⟨rfl,rfl⟩
theorem FB {L:List Obj} {t f:Key} {e:Int} (h:aS L t true=0) (h2:aS L f false=e) (he:e≠0):e=cx L t f/\L=eX L t f:=by
 have:cx L t f=e:=by unfold cx;rw[Yv h,h2]
 unfold eX;rw[this,Yu he];exact⟨rfl,rfl⟩
theorem Vl {L:List Obj} {t f:Key} (hL:aq L) (h1:aU L t=true) (h2:t.kind=3) (h:aS L t true=0) (g1:aU L f=true) (g:aS L f false=0):
  eU L t.oid (j5 (aa L t) (aa L f).bytes)=cx L t f/\cW L t.oid (j5 (aa L t) (aa L f).bytes)=eX L t f:=by
 have hE:cx L t f=0:=by unfold cx;rw[Yv h,g]
 obtain⟨p1,p2,_⟩:=qh (b:=(aa L f).bytes) hL h1 h2;rw[p1,p2,hE];refine⟨rfl,?_⟩;unfold eX;rw[hE,Yv rfl,(dC g1).2.2.2.1]
structure VI where
 kind:Int
 pos:Int
 num:Int
 key:Key
 other:Key
 bytes:ByteArray
def VI.wf (x:VI):Prop:=bY .i64 x.kind/\bY .i64 x.pos/\bY .i64 x.num/\x.key.wf/\x.other.wf/\aw x.bytes
def BB (L:List Obj) (a:VI):Bool:=
 if a.kind=1 then false else if a.kind=2 then decide (cq L a.key a.pos a.bytes=0)else if a.kind=3 then decide (aS L a.key true=0)else decide (cx L a.key a.other=0)
def IY (L:List Obj) (a:VI):List Obj:=
 if a.kind=1 then L else if a.kind=2 then eg L a.key a.pos a.bytes else if a.kind=3 then eD L a.key else eX L a.key a.other
def sb (L:List Obj) (k:Key) (i:Int) (s:ByteArray) (g:Int):Obj:=j5 (ah L k.oid.toNat free) (uJ (ah L k.oid.toNat free).bytes i.toNat g.toNat s)
def BK (s:ByteArray) (g:Int):Prop:=0<=g/\g<=(s.size:Int)
def Gr (s:ByteArray) (g:Int):Nat:=s.size-g.toNat
theorem Qk {L:List Obj} {k:Key} {i:Int} {s:ByteArray}:ah L k.oid.toNat free=sb L k i s 0:=by
 unfold sb j5;rw[show(0:Int).toNat=0 from rfl,GC]
theorem Og {L:List Obj} {k:Key} {i:Int} {s:ByteArray} {g:Int} (h0:0<=i) (h1:0<=g) (h:i+g<64):j5 (sb L k i s g) ((sb L k i s g).bytes.put (i+g).toNat (sat s g.toNat))=sb L k i s (g+1):=by
 unfold sb j5;simp only;rw[show(i+g).toNat=i.toNat+g.toNat by omega,show(g+1).toNat=g.toNat+1 by omega,Hg _ _ _ _ (by omega)]
theorem HR (s:ByteArray):vW s s=true:=by simp[vW]
end Go.Sx
