import Derived.Test.YtghpaegglbbocaaGreatKS
set_option linter.unusedSimpArgs false
set_option linter.unusedVariables false
namespace Go.Sx
def aS (L:List Obj) (k:Key) (c:Bool):Int:=if aw L k 3 false=0 then(if(c&& !decide (k.rights=0))=true then 191 else 0)else aw L k 3 false
def bY (i n:Int):Bool:=decide (0<=i)&&decide (0<=n)&&decide (i<=64)&&decide (n<=64-i)
def bX (L:List Obj) (k:Key) (i n:Int):Int:=if aS L k false=0 then(if bY i n then 0 else 4)else aS L k false
def dO (L:List Obj) (k:Key) (i n:Int):ByteArray:=if bX L k i n=0 then Ab (ah L k.oid.toNat free).bytes i.toNat (i+n).toNat else⟨#[]⟩
def jS (o:Obj) (b:Bytes):Obj:= {o with bytes:=b}
def rU (L:List Obj) (k:Key) (b:Bytes):List Obj:=cx L k.oid.toNat (jS (ah L k.oid.toNat free) b)
def cm (L:List Obj) (k:Key) (i:Int) (s:ByteArray):Int:=if aS L k true=0 then(if bY i (cc s)then 0 else 4)else aS L k true
def ea (L:List Obj) (k:Key) (i:Int) (s:ByteArray):List Obj:=if cm L k i s=0 then rU L k (uB (ah L k.oid.toNat free).bytes i.toNat s.size s)else L
def eC (L:List Obj) (k:Key):List Obj:=if aS L k true=0 then rU L k fT else L
def cy (L:List Obj) (t f:Key):Int:=if aS L t true=0 then aS L f false else aS L t true
def eQ (L:List Obj) (t f:Key):List Obj:=if cy L t f=0 then rU L t (ah L f.oid.toNat free).bytes else L
def aA (s:ByteArray):Prop:=(s.size:Int)<=9223372036854775807
def G9 (v:V):Option ByteArray:=match v with
 | .st s=>some s
 |_=>none
theorem Am:pg G9 V.st:=fun v x h=>by
 cases v<;>simp only[G9,XI,reduceCtorEq]at h
 subst h;exact⟨fun _=>rfl,fun _=>id⟩
def yL (l:List V):Option (Key×Int×ByteArray):=match l with
 | [a,b,c]=>match rK a with
   |some k=>match rI .i64 b with
    |some i=>match G9 c with
     |some s=>some (k,i,s)
     |none=>none
    |none=>none
   |none=>none
 |_=>none
theorem su:∀l x,yL l=some x->eg l [.key x.1,.it .i64 x.2.1,.st x.2.2]:=fun l x h=>by
 unfold yL at h;split at h
 ·split at h
  ·rename_i h1;split at h
   ·rename_i h2;split at h<;>simp only[XI,reduceCtorEq]at h
    rename_i h3;subst h;exact eg.rd fx h1 (eg.rd (fy .i64) h2 (eg.rd Am h3 eg.nil))
   ·simp at h
  ·simp at h
 ·simp at h
def BW:Ct:=Qn (rI .i64) (rI .i64) fun i n=> .bo (bY i n)
def SU:Ct:=tB (bk A6 (bk kA (bk bA iI))) (fun _=>none) fun x=> .it .i64 (aS x.1 x.2.1 x.2.2.1)
def Pa:Ct:=tB (bk sA (bk kA (bk iA (bk iA iI)))) (fun _=>none) fun x=> .tp [.st (dO (D9 x.1) x.2.1 x.2.2.1 x.2.2.2.1),.it .i64 (bX (D9 x.1) x.2.1 x.2.2.1 x.2.2.2.1)]
def UD:kz:=GM yL (fun L x=>aq L/\aA x.2.2) (fun L x=> .it .i64 (cm L x.1 x.2.1 x.2.2)) fun L x=>ea L x.1 x.2.1 x.2.2
def TX:kz:=GM Wh (fun L _=>aq L) (fun L x=> .it .i64 (aS L x true)) fun L x=>eC L x
def Vs:kz:=GM Pk (fun L _=>aq L) (fun L x=> .it .i64 (cy L x.1 x.2)) fun L x=>eQ L x.1 x.2
theorem Sl {o:Obj} {n:Int} {b:Bytes} (h:bT o n=true) (hk:o.kind=1\/o.kind=2):bT (jS o b) n=true:=by
 rw[fg]at h⊢;simp only[jS];obtain⟨a1,a2,a3,a4,a5,a6,a7,a8,a9,a10,a11⟩:=h;exact⟨a1,a2,a3,a4,a5,a6,a7,a8,a9,a10,fun i hi=> .inl hk⟩
theorem Gf {L:List Obj} {k:Key} (h:aU L k=true) (h2:k.kind=3):(ah L k.oid.toNat free).kind=2:=by
 rw[(dB h).2.2.2.2];unfold fN;rw[XQ (by have:=(yq h).1;omega),XR h2]
theorem pR {L:List Obj} {k:Key} {b:Bytes} (hL:aq L) (h:aU L k=true) (h2:k.kind=3):eK L k.oid (jS (aa L k) b)=0/\cW L k.oid (jS (aa L k) b)=rU L k b/\aq (rU L k b):=by
 obtain⟨b1,b2,b3,b4,_⟩:=dB h;have hr:=ff.1 hL;have ho:=Sl (b:=b) (hr.2.2 k.oid.toNat (by omega)) (.inr (Gf h h2))
 obtain⟨p1,p2⟩:=sM (L:=L) (o:=jS (ah L k.oid.toNat free) b) (kq.2 ⟨b2,b3⟩) (py ho).symm;rw[b4];refine⟨p1,p2,?_⟩;refine ff.2 ?_;unfold rU;have hl:(cx L k.oid.toNat (jS (ah L k.oid.toNat free) b)).length=L.length:=by simp[cx]
 rw[hl];refine⟨hr.1,hr.2.1,fun i hi=>?_⟩
 by_cases e:i=k.oid.toNat
 ·subst e;rw[show ah (cx L k.oid.toNat (jS (ah L k.oid.toNat free) b)) k.oid.toNat free=jS (ah L k.oid.toNat free) b by simp[ah,cx,XP,hi]]
  exact ho
 ·rw[show ah (cx L k.oid.toNat (jS (ah L k.oid.toNat free) b)) i free=ah L i free by simp[ah,cx,XP,List.getElem?_set,Ne.symm e]]
  exact hr.2.2 i hi
theorem AU {L:List Obj} {k:Key} (h:aU L k=true) (h2:k.kind=3):0<=k.rights/\k.rights<=1:=by
 have:=gS (dB h).1;rw[h2]at this;exact this
theorem Tm {r:Int} (h0:0<=r) (h1:r<=1):bd .and .i64 r 1=r:=by
 have:r=0\/r=1:=by omega
 rcases this with rfl|rfl<;>decide
theorem mi {i n:Int}:bY i n=true↔0<=i/\0<=n/\i<=64/\n<=64-i:=by
 simp only[bY,XK,XL,and_assoc]
theorem KO (b:Bytes) (i:Int) (s:ByteArray) (h:bY i (cc s)=true):Rz b i.toNat 64 s=uB b i.toNat s.size s:=by
 unfold Rz Gg
 have hle:s.size<=64-i.toNat:=by
  obtain⟨h0,h1,h2,h3⟩:=mi.1 h;have h3:(s.size:Int)<=64-i:=h3;omega
 rw[show Nat.min s.size (64-i.toNat)=s.size from Nat.min_eq_left hle]
theorem JZ (b:Bytes):BF b 0 64=fT:=by
 unfold BF uB fT;ext i hi
 simp[sat_empty,hi]
theorem F9 (b:Bytes) (i:Nat) (s:ByteArray):uB b i 0 s=b:=by
 apply Vector.ext
 intro j hj;have:=wo b i 0 s j hj;rw[XQ (by omega)]at this
 simpa[Bytes.at,Array.getD_eq_getD_getElem?,hj]using this
theorem T4 {a b:Bytes} (h:∀j,j<64->a.at j=b.at j):a=b:=by
 apply Vector.ext
 intro j hj;have:=h j hj;simpa[Bytes.at,Array.getD_eq_getD_getElem?,hj]using this
theorem GI (b:Bytes) (i g:Nat) (s:ByteArray) (h:i+g<64):(uB b i g s).put (i+g) (sat s g)=uB b i (g+1) s:=by
 apply T4
 intro j hj;rw[Bytes.gC _ _ _ _ h,wo _ _ _ _ _ hj,wo _ _ _ _ _ hj];by_cases e:j=i+g
 ·subst e;rw[XR rfl,XR (by omega),show i+g-i=g by omega]
 ·rw[XQ e];by_cases e2:i<=j/\j<i+g
  ·rw[XR e2,XR (by omega)]
  ·rw[XQ e2,XQ (by omega)]
theorem nR {L:List Obj} {k:Key} (hL:aq L) (h:aU L k=true):dN L k.oid/\0<=k.oid/\k.oid<(aj L:Int)/\k.oid.toNat<aj L:=sQ hL h
theorem lO {L:List Obj} {k:Key} {c:Bool} (h:aS L k c=0):aU L k=true/\k.kind=3/\(c=true->k.rights=0):=by
 unfold aS at h;split at h
 ·rename_i h1;obtain⟨a1,a2,_⟩:=fD h1;split at h
  ·omega
  ·rename_i h2;exact⟨a1,a2,fun hc=>by simpa[hc]using h2⟩
 ·rename_i h1;exact absurd h h1
theorem TD {L:List Obj} {k:Key}:aS L k false=aw L k 3 false:=by
 unfold aS;split
 ·rename_i h;rw[h];rfl
 ·rfl
theorem II {L:List Obj} {k:Key} {c:Bool} (h:decide (ak L=0)=true):aS L k c=1:=by
 have:aw L k 3 false=1:=HH (by rw[XL]at h;simp[h])
 unfold aS;rw[this,XQ (by omega)]
theorem Up {L:List Obj} {k:Key} {c:Bool} (h:decide (ak L=0)=false) (h2:(!aU L k|| !decide (k.kind=3))=true):aS L k c=190:=by
 have h0:(!decide (0<ak L))=false:=by
  rw[decide_eq_false_iff_not]at h;unfold ak at h⊢;simp;omega
 have:aw L k 3 false=190:=Gw h0 (by simpa using h2)
 unfold aS;rw[this,XQ (by omega)]
theorem p8 {L:List Obj} {k:Key} (h2:(!aU L k|| !decide (k.kind=3))=false):aU L k=true/\k.kind=3:=by simpa using h2
theorem WZ {L:List Obj} {k:Key} (h:decide (ak L=0)=false) (h2:(!aU L k|| !decide (k.kind=3))=false):aw L k 3 false=0:=by
 refine Fo ?_ (by simpa using h2)
 rw[decide_eq_false_iff_not]at h;unfold ak at h⊢;simp;omega
theorem Uq {L:List Obj} {k:Key} (h:decide (ak L=0)=false) (h2:(!aU L k|| !decide (k.kind=3))=false):aS L k false=0:=by rw[TD];exact WZ h h2
theorem WB {L:List Obj} {k:Key} (h:decide (ak L=0)=false) (h2:(!aU L k|| !decide (k.kind=3))=false) (h3:(!decide (bd BinOp.and IntKind.i64 k.rights 1=0))=true):aS L k true=191:=by
 obtain⟨a1,a2⟩:=p8 h2;have hr:=AU a1 a2;rw[Tm hr.1 hr.2]at h3;unfold aS;rw[XR (WZ h h2),XR (by simpa using h3)]
theorem UN {L:List Obj} {k:Key} (h:decide (ak L=0)=false) (h2:(!aU L k|| !decide (k.kind=3))=false) (h3:(!decide (bd BinOp.and IntKind.i64 k.rights 1=0))=false):aS L k true=0:=by
 obtain⟨a1,a2⟩:=p8 h2;have hr:=AU a1 a2;rw[Tm hr.1 hr.2]at h3;unfold aS;rw[XR (WZ h h2),XQ (by simpa using h3)]
theorem pB {L:List Obj} {k:Key} {i n e:Int} (h:aS L k false=e) (he:e≠0):(⟨#[]⟩:ByteArray)=dO L k i n/\e=bX L k i n:=by
 have:bX L k i n=e:=by unfold bX;rw[h,XQ he]
 unfold dO;rw[this,XQ he];exact⟨rfl,rfl⟩
theorem wB {L:List Obj} {k:Key} {i n:Int} (h:aS L k false=0) (hi:(!bY i n)=true):(⟨#[]⟩:ByteArray)=dO L k i n/\4=bX L k i n:=by
 rw[Bool.not_eq_true']at hi;have:bX L k i n=4:=by unfold bX;rw[XR h,hi];rfl
 unfold dO;rw[this];exact⟨rfl,rfl⟩
theorem vK {L:List Obj} {k:Key} {i n:Int} (h:aS L k false=0) (hi:(!bY i n)=false):aI IntKind.i64 (i+n)/\BL i (i+n) 64/\Ab (ah L k.oid.toNat free).bytes i.toNat (i+n).toNat=dO L k i n/\0=bX L k i n:=by
 rw[Bool.not_eq_false']at hi;obtain⟨a,b,c,d⟩:=mi.1 hi;have:bX L k i n=0:=by unfold bX;rw[XR h,hi];rfl
 unfold dO;rw[this];exact⟨by simp only[aI,cg];omega,⟨by omega,by omega,by omega⟩,rfl,rfl⟩
theorem uz {L:List Obj} {k:Key} {i e:Int} {z:ByteArray} (h:aS L k true=e) (he:e≠0):e=cm L k i z/\L=ea L k i z:=by
 have:cm L k i z=e:=by unfold cm;rw[h,XQ he]
 unfold ea;rw[this,XQ he];exact⟨rfl,rfl⟩
theorem HV {L:List Obj} {k:Key} {i:Int} {z:ByteArray} (h:aS L k true=0) (hi:(!bY i (cc z))=true):4=cm L k i z/\L=ea L k i z:=by
 rw[Bool.not_eq_true']at hi;have:cm L k i z=4:=by unfold cm;rw[XR h,hi];rfl
 unfold ea;rw[this];exact⟨rfl,rfl⟩
theorem UK {L:List Obj} {k:Key} {i:Int} {z:ByteArray} (hL:aq L) (h1:aU L k=true) (h2:k.kind=3) (h:aS L k true=0) (hi:(!bY i (cc z))=false):BL i 64 64/\
  eK L k.oid (jS (aa L k) (Rz (aa L k).bytes i.toNat (Int.toNat 64) z))=cm L k i z/\cW L k.oid (jS (aa L k) (Rz (aa L k).bytes i.toNat (Int.toNat 64) z))=ea L k i z:=by
 rw[Bool.not_eq_false']at hi;obtain⟨a,b,c,d⟩:=mi.1 hi;have hE:cm L k i z=0:=by unfold cm;rw[XR h,hi];rfl
 have hb:=KO (aa L k).bytes i z hi;obtain⟨p1,p2,_⟩:=pR (b:=uB (aa L k).bytes i.toNat z.size z) hL h1 h2;have h64:Int.toNat 64=64:=rfl;rw[h64,hb,p1,p2,hE];refine⟨⟨by omega,by omega,by omega⟩,rfl,?_⟩
 unfold ea;rw[hE,XR rfl,(dB h1).2.2.2.1]
theorem xk {L:List Obj} {k:Key} {e:Int} (h:aS L k true=e) (he:e≠0):e=aS L k true/\L=eC L k:=by
 refine⟨h.symm,?_⟩;unfold eC;rw[h,XQ he]
theorem U0 {L:List Obj} {k:Key} (hL:aq L) (h1:aU L k=true) (h2:k.kind=3) (h:aS L k true=0):BL 0 64 64/\
  eK L k.oid (jS (aa L k) (BF (aa L k).bytes (Int.toNat 0) (Int.toNat 64)))=aS L k true/\cW L k.oid (jS (aa L k) (BF (aa L k).bytes (Int.toNat 0) (Int.toNat 64)))=eC L k:=by
 have h64:Int.toNat 64=64:=rfl;have h0:Int.toNat 0=0:=rfl;obtain⟨p1,p2,_⟩:=pR (b:=fT) hL h1 h2;rw[h64,h0,JZ,p1,p2,h];refine⟨⟨by omega,by omega,by omega⟩,rfl,?_⟩
 unfold eC;rw[XR h]
theorem uR {L:List Obj} {t f:Key} {e:Int} (h:aS L t true=e) (he:e≠0):e=cy L t f/\L=eQ L t f:=by
 have:cy L t f=e:=by unfold cy;rw[h,XQ he]
 unfold eQ;rw[this,XQ he];exact⟨rfl,rfl⟩
theorem Fb {L:List Obj} {t f:Key} {e:Int} (h:aS L t true=0) (h2:aS L f false=e) (he:e≠0):e=cy L t f/\L=eQ L t f:=by
 have:cy L t f=e:=by unfold cy;rw[XR h,h2]
 unfold eQ;rw[this,XQ he];exact⟨rfl,rfl⟩
theorem VW {L:List Obj} {t f:Key} (hL:aq L) (h1:aU L t=true) (h2:t.kind=3) (h:aS L t true=0) (g1:aU L f=true) (g:aS L f false=0):
  eK L t.oid (jS (aa L t) (aa L f).bytes)=cy L t f/\cW L t.oid (jS (aa L t) (aa L f).bytes)=eQ L t f:=by
 have hE:cy L t f=0:=by unfold cy;rw[XR h,g]
 obtain⟨p1,p2,_⟩:=pR (b:=(aa L f).bytes) hL h1 h2;rw[p1,p2,hE];refine⟨rfl,?_⟩;unfold eQ;rw[hE,XR rfl,(dB g1).2.2.2.1]
structure Ut where
 kind:Int
 pos:Int
 num:Int
 key:Key
 other:Key
 bytes:ByteArray
def Ut.wf (x:Ut):Prop:=cg .i64 x.kind/\cg .i64 x.pos/\cg .i64 x.num/\x.key.wf/\x.other.wf/\aA x.bytes
def Bg (L:List Obj) (a:Ut):Bool:=
 if a.kind=1 then false else if a.kind=2 then decide (cm L a.key a.pos a.bytes=0)else if a.kind=3 then decide (aS L a.key true=0)else decide (cy L a.key a.other=0)
def JE (L:List Obj) (a:Ut):List Obj:=
 if a.kind=1 then L else if a.kind=2 then ea L a.key a.pos a.bytes else if a.kind=3 then eC L a.key else eQ L a.key a.other
def rv (L:List Obj) (k:Key) (i:Int) (s:ByteArray) (g:Int):Obj:=jS (ah L k.oid.toNat free) (uB (ah L k.oid.toNat free).bytes i.toNat g.toNat s)
def AO (s:ByteArray) (g:Int):Prop:=0<=g/\g<=(s.size:Int)
def FB (s:ByteArray) (g:Int):Nat:=s.size-g.toNat
theorem O0 {L:List Obj} {k:Key} {i:Int} {s:ByteArray}:ah L k.oid.toNat free=rv L k i s 0:=by
 unfold rv jS;rw[show(0:Int).toNat=0 from rfl,F9]
theorem Qe {L:List Obj} {k:Key} {i:Int} {s:ByteArray} {g:Int} (h0:0<=i) (h1:0<=g) (h:i+g<64):jS (rv L k i s g) ((rv L k i s g).bytes.put (i+g).toNat (sat s g.toNat))=rv L k i s (g+1):=by
 unfold rv jS;simp only;rw[show(i+g).toNat=i.toNat+g.toNat by omega,show(g+1).toNat=g.toNat+1 by omega,GI _ _ _ _ (by omega)]
theorem Hk (s:ByteArray):yB s s=true:=by simp[yB]
end Go.Sx
