import Derived.Test.YtlblcfaclmpekaaGreatSQ
import Derived.Test.YtlblcfaclmpekaaGreatSW
import Derived.Test.YtlblcfaclmpekaaGreatSpB
set_option linter.unusedSimpArgs false
set_option linter.unusedVariables false
namespace Go.Sx
def m6:Nat:=179
def nN (k:Key) (r:Int):Key:=if k.kind=2 then cA k (jr k.rights r)else if k.kind=3 then cA k (jr k.rights (r.tmod 2))else k
def u4 (k:Key) (r:Int):Prop:=aW k=true/\0<=r/\r<=7
def Py:Ct:=Ci (bI kA (bI iA kK)) (fun x=>some (u4 x.1 x.2.1)) fun x=> .tp [.key (nN x.1 x.2.1),.ci .i64 0]
def nF (a b:Key):Bool:=aW a&&aW b&&(decide (a.kind=0)||GR a b||(decide (a.kind=2)||decide (a.kind=3))&&decide (a.kind=b.kind)&&decide (a.oid=b.oid)&&decide (a.count=b.count)&&decide (jr a.rights b.rights=a.rights))
def Rz:Ct:=RG rK rK fun a b=> .bo (nF a b)
theorem C1 {a:Int} (h:0<=a/\a<=7):∃x:Fin 8,a=(x.val:Int):=⟨⟨a.toNat,by omega⟩,by simp;omega⟩
theorem Io {a r:Int} (h:0<=a/\a<=7) (h':0<=r/\r<=7):aY .or .i64 a (aY .and .i64 r 7)=jr a r:=by
 have key:∀x y:Fin 8,aY .or .i64 (x.val:Int) (aY .and .i64 (y.val:Int) 7)=jr (x.val:Int) (y.val:Int):=by decide+kernel
 obtain⟨x,rfl⟩:=C1 h;obtain⟨y,rfl⟩:=C1 h';exact key x y
theorem Ii {a r:Int} (h:0<=a/\a<=1) (h':0<=r/\r<=7):aY .or .i64 a (aY .and .i64 r 1)=jr a (r.tmod 2):=by
 have key:∀x y:Fin 8,x.val<=1->aY .or .i64 (x.val:Int) (aY .and .i64 (y.val:Int) 1)=jr (x.val:Int) ((y.val:Int).tmod 2):=by decide+kernel
 obtain⟨x,rfl⟩:=C1 (a:=a) (by omega)
 obtain⟨y,rfl⟩:=C1 h';exact key x y (by omega)
theorem G5 {r:Int} (h':0<=r/\r<=7):aY .or .i64 0 (aY .and .i64 r 0)=0:=by
 have key:∀y:Fin 8,aY .or .i64 0 (aY .and .i64 (y.val:Int) 0)=0:=by decide+kernel
 obtain⟨y,rfl⟩:=C1 h';exact key y
theorem xJ {a b:Int} (h:0<=a/\a<=7) (h':0<=b/\b<=7):decide (aY .andNot .i64 b a=0)=decide (jr a b=a):=by
 have key:∀x y:Fin 8,decide (aY .andNot .i64 (y.val:Int) (x.val:Int)=0)=decide (jr (x.val:Int) (y.val:Int)=(x.val:Int)):=by decide+kernel
 obtain⟨x,rfl⟩:=C1 h;obtain⟨y,rfl⟩:=C1 h';exact key x y
def fx (k:Key):bk:=⟨0,⟨#[]⟩,k,void,void⟩
def fR (n:Int):bk:=⟨0,⟨#[]⟩,void,void,c8 n⟩
def gU (s:ByteArray):bk:=⟨0,s,void,void,void⟩
def fl (e:Int):bk:=⟨e,⟨#[]⟩,void,void,void⟩
def eX (k:Key):Key:=⟨2,k.oid,k.count,0,0,0⟩
def bf (m:bk):Int:=if 0<=m.k2.value/\m.k2.value<=2147483647 then m.k2.value else -1
def eY (b:Bool):Int:=if b then 1 else 0
def uE (n:Int):Int:=imax 0 (qx 32 (64-n))
abbrev O2:=Int×bk×List Obj
def iz (L:List Obj) (k:Key) (m:bk):O2:=
 if m.code=1 then(cH L k (bf m),fx (aK L k (bf m)),L)
 else if m.code=2 then(bE L k (bf m) m.k0,fx (eu L k (bf m) m.k0),dN L k (bf m) m.k0)
 else if m.code=3 then(aS L k 2 true,ee,ga L k)
 else if m.code=4 then(cc L k m.k0,ee,fz L k m.k0)
 else if m.code=5 then(if 0<=m.k2.value/\m.k2.value<=7 then 0 else 2,fx (nN k m.k2.value),L)
 else(if k.rights=0 then 0 else 191,fx ⟨5,k.oid,k.count,0,0,0⟩,L)
def gV (L:List Obj) (k:Key) (m:bk):O2:=
 if m.code=1 then(b6 L k (bf m) (uE (bf m)),gU (dV L k (bf m) (uE (bf m))),L)
 else if m.code=2 then(cZ L k (bf m) m.data,ee,fb L k (bf m) m.data)
 else if m.code=3 then(bC L k true,ee,fM L k)
 else if m.code=4 then(cV L k m.k0,ee,fS L k m.k0)
 else(if 0<=m.k2.value/\m.k2.value<=7 then 0 else 2,fx (nN k m.k2.value),L)
def ib (L:List Obj) (k:Key) (m:bk):O2:=
 if m.code=1 then(du L k 1,fx (er L k 1),fC L k 1)
 else if m.code=2 then(du L k 2,fx (er L k 2),fC L k 2)
 else if m.code=3 then(dI L k m.k0,ee,iX L k m.k0)
 else if m.code=4 then(bY L k (bf m),fx (b8 L k (bf m)),bn L k (bf m))
 else if m.code=5 then(bc L k,fR (eY (lL L k m.k0)),L)
 else(bc L k,fR (iF L k),jW L k)
def eN (L:List Obj) (k:Key):Key:=aK L (eX k) 0
def fX (L:List Obj) (k:Key) (m:bk):O2:=
 if m.code=1 then(if bf m<0\/11<bf m then 4 else cH L (eX k) (bf m+4),fx (aK L (eX k) (bf m+4)),L)
 else if m.code=2 then(if bf m<0\/11<bf m then 4 else bE L (eX k) (bf m+4) m.k0,fx (eu L (eX k) (bf m+4) m.k0),if bf m<0\/11<bf m then L else dN L (eX k) (bf m+4) m.k0)
 else if m.code=3 then(0,fx ⟨6,k.oid,k.count,0,0,m.k2.value⟩,L)
 else if m.code=4 then(0,fR (bW L k.oid),L)
 else if m.code=5 then(ey L k.oid (bf m),ee,ie L k.oid (bf m))
 else if m.code=6 then(if cB L (eN L k) m.k2.value 32=0 then(if cq L (eN L k) m.k2.value 32 false=0 then 0 else 1000+cq L (eN L k) m.k2.value 32 false)else cB L (eN L k) m.k2.value 32,gU (mH L (eN L k) m.k2.value 32),L)
 else(if cB L (eN L k) m.k2.value (cC m.data)=0 then(if cq L (eN L k) m.k2.value (cC m.data) true=0 then 0 else 1000+cq L (eN L k) m.k2.value (cC m.data) true)else cB L (eN L k) m.k2.value (cC m.data),ee,np L (eN L k) m.k2.value m.data)
def cT (kind:Int):Int:=if kind=1 then 1 else if kind=2 then 6 else if kind=3 then 5 else if kind=4 then 6 else if kind=5 then 7 else if kind=8 then 3 else if kind=9\/kind=10 then 1 else 0
def dG (kind c:Int):Bool:=
 if kind=2\/kind=3 then decide (c=1)||decide (c=2)||decide (c=5)else if kind=4 then decide (c=4)
 else if kind=5 then decide (1<=c/\c<=3)||decide (5<=c/\c<=7)else false
def ej (L:List Obj) (now:Int) (k:Key) (m:bk):O2:=
 if k.kind=1 then(0,fR k.value,L)
 else if k.kind=2 then iz L k m
 else if k.kind=3 then gV L k m
 else if k.kind=4 then ib L k m
 else if k.kind=5 then fX L k m
 else if k.kind=8 then(0,if m.code=1 then fR m.k0.kind else if m.code=2 then fR (eY (nF m.k0 m.k1))else fR m.k0.rights,L)
 else if k.kind=9 then(0,fR now,L)
 else(0,ee,L)
def dt (L:List Obj) (now:Int) (k:Key) (m:bk):O2:=
 if k.kind=0 then(190,ee,L)
 else if m.code=0 then(0,fR k.kind,L)
 else if m.code<1\/cT k.kind<m.code\/(dG k.kind m.code=true/\m.k2.kind≠1)then(240,ee,L)
 else ej L now k m
def dn (L:List Obj) (now:Int) (k:Key) (m:bk):bk:=if(dt L now k m).1=0 then(dt L now k m).2.1 else fl (dt L now k m).1
def dE (L:List Obj) (now:Int) (k:Key) (m:bk):List Obj:=(dt L now k m).2.2
def aH (L:List Obj) (now:Int) (k:Key) (m:bk):bk×List Obj:=(dn L now k m,dE L now k m)
def kk (c:Int) (k:Key):Key:=⟨c,k.oid,k.count,k.call,k.rights,k.value⟩
def mm (c:Int) (m:bk):bk:=⟨c,m.data,m.k0,m.k1,m.k2⟩
def eB:ByteArray:=⟨#[]⟩
def gp (c:V) (m:bk) (n:Int) (kd:V) (k:Key):V:= .ag [.ag [c,.st m.data,.ag [.key m.k0,.key m.k1,.key m.k2]],.lp 1 0,.it .i64 n,.ag [kd,.it .i64 k.oid,.it .i64 k.count,.it .i64 k.call,.it .i64 k.rights,.it .i64 k.value]]
def kO (A:bk×List Obj) (v:V) (r:List aC):Prop:=
 match xw v with
 |some x=>match ar r 1 with
  | .store t e M=>if t==tS&&e==eS then(x,M)=A else False
  |_=>False
 |none=>False
theorem Rj {A:bk×List Obj} {v:V} {r:List aC} (h:kO A v r):wv (rp A.1) v r/\ar r 1= .store tS eS A.2:=by
 unfold kO at h;split at h
 case h_2=>exact h.elim
 rename_i x hx;split at h
 case h_2=>exact h.elim
 rename_i hr;split at h
 case isFalse=>exact h.elim
 rename_i hc;simp only[VK,VM]at hc;obtain⟨rfl,rfl⟩:=hc;subst h;obtain⟨a,b⟩:=zG v x hx;have ht:bO v=false:=by cases v<;>first|rfl|simp[xw]at hx
 exact⟨fun J K=>⟨a J,fun h=>eW (b K h),ht⟩,hr⟩
def rJ (r:O2):bk×List Obj:=(if r.1=0 then r.2.1 else fl r.1,r.2.2)
theorem EE {L:List Obj} {n:Int} {k:Key} {m:bk} {c:Int} (hc:1<=c/\c<=7):aH L n (kk 5 k) (mm c m)=if dG 5 c=true/\m.k2.kind≠1 then(fl 240,L)else rJ (fX L (kk 5 k) (mm c m)):=by
 have h0:¬c=0:=by omega
 have h1:¬(c<1\/cT 5<c):=by have:cT 5=7:=by decide
                            omega
 have e1:(kk 5 k).kind=5:=rfl;have e2:(mm c m).code=c:=rfl;have e3:(mm c m).k2=m.k2:=rfl;have hb:ej L n (kk 5 k) (mm c m)=fX L (kk 5 k) (mm c m):=by unfold ej;rw[e1];rfl
 have hr:dt L n (kk 5 k) (mm c m)=if dG 5 c=true/\m.k2.kind≠1 then(240,ee,L)else fX L (kk 5 k) (mm c m):=by
  unfold dt;rw[e1,e2,e3,VQ (by omega),VQ h0,hb]
  by_cases h:dG 5 c=true/\m.k2.kind≠1
  ·rw[VR (.inr (.inr h)),VR h]
  ·rw[VQ (fun hh=>by rcases hh with hh|hh|hh;exact h1 (.inl hh);exact h1 (.inr hh);exact h hh),VQ h]
 unfold aH dn dE;rw[hr];by_cases h:dG 5 c=true/\m.k2.kind≠1
 ·simp only[VR h];rfl
 ·simp only[VQ h];rfl
theorem Ht {L:List Obj}:∀(n:Nat) (w:Wk),0<=(Lw L n w).kd/\(Lw L n w).kd<=4
 |0,w=>by simp[Lw]
 |n+1,w=>by
  unfold Lw;split
  ·split<;>simp
  ·split
   ·split
    ·rename_i r heq;unfold kD at heq;split at heq
     ·simp at heq;rw[<-heq];simp
     ·split at heq
      ·split at heq
       ·simp at heq
       ·simp at heq;rw[<-heq];simp
      ·simp at heq;rw[<-heq];simp
    ·exact Ht n _
   ·simp
theorem Pd {L:List Obj} {k:Key} {a n:Int} {w:Bool}:0<=cq L k a n w/\cq L k a n w<=6:=by
 have h:0<=(aA L k a).kd/\(aA L k a).kd<=4:=by
  unfold aA;split
  ·exact Ht _ _
  ·simp[SN]
 unfold cq;grind
def xH (L:List Obj) (n:Int) (k:Key) (m:bk):Bool:=decide (0<=n)&&g8 L m&&bQ L k
def iT (L:List Obj) (n:Int) (k:Key) (m:bk):Int:=
 if an L=0 then 1 else if xH L n k m=false then 2 else if(ah L k).kind=6\/(ah L k).kind=7 then 241 else 0
def bG (L:List Obj) (n:Int) (k:Key) (m:bk):bk:=if iT L n k m=0 then dn L n (ah L k) (lS L m)else ee
def iE (L:List Obj) (n:Int) (k:Key) (m:bk):Bool:=decide (iT L n k m=0)&&decide ((ah L k).kind=10)&&decide (m.code=1)
def mO (L:List Obj) (n:Int) (k:Key) (m:bk):List Obj:=if iT L n k m=0 then dE L n (ah L k) (lS L m)else L
def HB:Ct:=Ci (bI sA (bI kA kK)) (fun _=>none) fun x=> .bo (bQ (An x.1) x.2.1)
def QJ:lH (Int×Key×bk×Unit):=bI iA (bI kA (bI mA kK))
theorem NV:iC QJ:=aQ fP (aQ mC (aQ IW dU))
def U3:nz:=RM (GP QJ) (fun x=>az x.2.2.1.data) (fun L x=>aw L/\az x.2.2.1.data) (fun L x=> .tp [rp (bG L x.1 x.2.1 x.2.2.1),.bo (iE L x.1 x.2.1 x.2.2.1),.it .i64 (iT L x.1 x.2.1 x.2.2.1)]) fun L x=>mO L x.1 x.2.1 x.2.2.1
def OV (L:List Obj) (k:Key) (m:bk):Prop:=aw L/\az m.data/\aW k=true
def OP:nz:=fun args res K=>
 match args with
 | [a]=>match a with
   | .lp j off=>if off==0 then match ar res j with
     | .blk t c=>if t==m6 then match c with
       | .ag cl=>match cl with
         | [mv,sv,nv,kv]=>match xw mv with
           |some m=>match sv with
            | .lp i o2=>if o2==0&& !(i==j)then match rI .i64 nv with
              |some n=>match rK kv with
               |some k=>match ar res i with
                | .store t2 e L=>if t2==tS&&e==eS then OV L k m/\K (rp (dn L n k m)) (bw res i (.store tS eS (dE L n k m)))else False
                |_=>False
               |none=>False
              |none=>False
              else False
            |_=>False
           |none=>False
         |_=>False
       |_=>False
       else False
     |_=>False
     else False
   |_=>False
 |_=>False
theorem CI {L:List Obj} {k:Key}:aW (ah L k)=true:=by
 unfold ah;split
 ·rfl
 ·rename_i h;simp only[Bool.or_eq_true,not_or,Bool.not_eq_true',Bool.not_eq_false]at h;exact h.1.2
theorem pM {k:IntKind} {v:V} {n:Int} (h:rI k v=some n):jJ v=true:=by
 cases v<;>first|rfl|simp[rI,toInt]at h
theorem K3 {v:V} {s:ByteArray} (h:BL v=some s):jJ v=true:=by
 cases v<;>first|rfl|simp[BL]at h
theorem zr {v:V} {k:Key} (h:rK v=some k):jJ v=true:=by
 unfold rK at h;split at h
 ·rfl
 ·split at h
  case h_2=>simp at h
  repeat' (split at h<;>try(simp at h;done))
  rename_i h1 _ _ h2 _ _ h3 _ _ h4 _ _ h5 _ _ h6;simp[jJ,la,pM h1,pM h2,pM h3,pM h4,pM h5,pM h6]
 ·simp at h
theorem Iq {v:V} {m:bk} (h:xw v=some m):jJ v=true:=by
 unfold xw at h;split at h
 case h_2=>simp at h
 split at h
 case h_2=>simp at h
 split at h
 case h_2=>simp at h
 rename_i hn;split at h
 case h_2=>simp at h
 rename_i hs;split at h
 case h_2=>simp at h
 split at h
 case h_2=>simp at h
 split at h
 case h_2=>simp at h
 rename_i hk;split at h
 case h_2=>simp at h
 rename_i hk';split at h<;>simp only[VI,reduceCtorEq]at h
 rename_i hk'';simp[jJ,la,pM hn,K3 hs,zr hk,zr hk',zr hk'']
theorem AS {P:Program} {f:Nat} {K KP:V->List aC->Prop} {t:Nat} {c c':V} {r:aC} (hr:r≠ .yet) (hc:∀J,cells J c=cells J c') (hc':∀K,ok K c->ok K c') (hct:bO c'=false)
  (h:ak P f [.lp 0 0] [.ro (.blk t c'),r] K KP):ak P f [.lp 0 0] [.ro (.blk t c),r] K KP:=by
 have hk:∀i (x:V),known [.ro (.blk t x),r] i↔i=0\/i=1:=fun i x=>by
  unfold known;rcases i with _|_|i<;>simp[ar,hr]
 have hkk:∀i (x y:V),known [.ro (.blk t x),r] i->known [.ro (.blk t y),r] i:=fun i x y h=>(hk i y).2 ((hk i x).1 h)
 refine h.tF fun J fps w0 F0 w hH=>⟨J,fps,hH.weaken fun i hi=>⟨hkk i _ _ hi,fun fp hh=>?_⟩,Env.bg.refl _ _,fun i hi=>hkk i _ _ hi⟩
 rcases(hk i _).1 hi with rfl|rfl
 ·obtain⟨fp',⟨h1,h2,h3,h4⟩,h5⟩:=hh;exact⟨fp',⟨hc' _ (cL (fun i hi=>hkk i _ _ hi) _ h1),hct,h3,by rw[<-hc];exact h4⟩,h5⟩
 ·exact aC.mD _ hh fun i hi=>hkk i _ _ hi
theorem vK {P:Program} {f:Nat} {K KP:V->List aC->Prop} {c c' d d':V} {m:bk} {n:Int} {k:Key} {r:aC} (hr:r≠ .yet) (hc:∀J,den J c=den J c') (hc':∀K,ok K c->ok K c') (hct:bO c'=false) (hd:∀J,den J d=den J d') (hd':∀K,ok K d->ok K d') (hdt:bO d'=false)
  (h:ak P f [.lp 0 0] [.ro (.blk m6 (gp c' m n d' k)),r] K KP):ak P f [.lp 0 0] [.ro (.blk m6 (gp c m n d k)),r] K KP:=by
 refine AS hr (fun J=>by simp only[cells,gp,den,aZ,hc,hd]) (fun K h1=>?_) rfl h
 obtain⟨⟨⟨⟨x1,x2⟩,_⟩,y,z,⟨⟨u1,u2⟩,_⟩,_⟩,v⟩:=h1;exact⟨⟨⟨⟨hc' _ x1,x2⟩,by cases c'<;>first| (simp[qB];done)|simp[bO]at hct⟩,y,z,⟨⟨hd' _ u1,u2⟩,by cases d'<;>first| (simp[qB];done)|simp[bO]at hdt⟩,trivial⟩,by simp[qB]⟩
theorem K8 {P:Program} {f:Nat} {K KP:V->List aC->Prop} {mv nv kv:V} {m:bk} {n:Int} {k:Key} {r:aC} (hr:r≠ .yet) (hm:xw mv=some m) (hn:rI .i64 nv=some n) (hk:rK kv=some k)
  (h:ak P f [.lp 0 0] [.ro (.blk m6 (gp (.it .i64 m.code) m n (.it .i64 k.kind) k)),r] K KP):ak P f [.lp 0 0] [.ro (.blk m6 (.ag [mv,.lp 1 0,nv,kv])),r] K KP:=by
 obtain⟨m1,m2⟩:=zG _ _ hm;obtain⟨n1,n2⟩:=gJ .i64 _ _ hn;obtain⟨k1,k2⟩:=iw _ _ hk;refine AS hr (fun J=>?_) (fun K h1=>?_) rfl h
 ·simp only[cells,gp,den,aZ,m1 J,n1 J,k1 J,rp,Value.cells,dw,i64];simp
 ·obtain⟨⟨x,y,z,u,_⟩,_⟩:=h1;obtain⟨a1,a2,a3,a4,a5,a6⟩:=(k2 K u:k.wf);exact⟨⟨eW (m2 K x),y,n2 K z,⟨⟨a1,a2,a3,a4,a5,a6,trivial⟩,by simp[qB]⟩,trivial⟩,by simp[qB,rp]⟩
def oc (a b:Int) (k:Key) (m:bk):Bool:=decide (k.kind=a)&&decide (m.code=b)
theorem va {c:Int} {k:Key} (h:k.kind=c):kk c k=k:=by subst h;rfl
theorem D1 {c:Int} {m:bk} (h:m.code=c):mm c m=m:=by subst h;rfl
def TM (nid:Nat):V:= .mp nid
def EG (nid:Nat):List aC:= [.mq [[1,1],[2,1],[2,2],[2,3],[2,4],[2,5],[2,6],[3,1],[3,2],[3,3],[3,4],[3,5],[4,1],[4,2],[4,3],[4,4],[4,5],[4,6],[5,1],[5,2],[5,3],[5,4],[5,5],[5,6],[5,7],[8,1],[8,2],[8,3],[9,1],[10,1]] [.fn 143 [],.fn 145 [],.fn 149 [],.fn 151 [],.fn 154 [],.fn 156 [],.fn 157 [],.fn 158 [],.fn 159 [],.fn 161 [],.fn 163 [],.fn 156 [],.fn 210 [.lp (nid+1) 0],.fn 210 [.lp (nid+1+1) 0],.fn 166 [],.fn 168 [],.fn 170 [],.fn 171 [],.fn 172 [],.fn 175 [],.fn 176 [],.fn 178 [],.fn 179 [],.fn 180 [],.fn 181 [],.fn 182 [],.fn 183 [],.fn 187 [],.fn 189 [],.fn 190 []],.blk 70 (.ci .i64 1),.blk 70 (.ci .i64 2)]
end Go.Sx
