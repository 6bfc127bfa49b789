import Derived.Test.YtghpaegglbbocaaGreatSQ
import Derived.Test.YtghpaegglbbocaaGreatSW
import Derived.Test.YtghpaegglbbocaaGreatSpB
set_option linter.unusedSimpArgs false
set_option linter.unusedVariables false
namespace Go.Sx
def nb:Nat:=71
def iv (k:Key) (r:Int):Key:=if k.kind=2 then cL k (gw k.rights r)else if k.kind=3 then cL k (gw k.rights (r.tmod 2))else k
def gz (k:Key) (r:Int):Prop:=aT k=true/\0<=r/\r<=7
def Tz:Ct:=tB (bk kA (bk iA iI)) (fun x=>some (gz x.1 x.2.1)) fun x=> .tp [.key (iv x.1 x.2.1),.ci .i64 0]
def PU:Ct:=tB (bk kA (bk iA iI)) (fun x=>some (gz x.1 x.2.1)) fun x=> .key (iv x.1 x.2.1)
def ky (a b:Key):Bool:=aT a&&aT b&&(decide (a.kind=0)||wC a b||(decide (a.kind=2)||decide (a.kind=3))&&decide (a.kind=b.kind)&&decide (a.oid=b.oid)&&decide (a.count=b.count)&&decide (gw a.rights b.rights=a.rights))
def Mm:Ct:=Qn rK rK fun a b=> .bo (ky a b)
theorem Em {a:Int} (h:0<=a/\a<=7):∃x:Fin 8,a=(x.val:Int):=⟨⟨a.toNat,by omega⟩,by simp;omega⟩
theorem H5 {a r:Int} (h:0<=a/\a<=7) (h':0<=r/\r<=7):bd .or .i64 a (bd .and .i64 r 7)=gw a r:=by
 have key:∀x y:Fin 8,bd .or .i64 (x.val:Int) (bd .and .i64 (y.val:Int) 7)=gw (x.val:Int) (y.val:Int):=by decide+kernel
 obtain⟨x,rfl⟩:=Em h;obtain⟨y,rfl⟩:=Em h';exact key x y
theorem H8 {a r:Int} (h:0<=a/\a<=1) (h':0<=r/\r<=7):bd .or .i64 a (bd .and .i64 r 1)=gw a (r.tmod 2):=by
 have key:∀x y:Fin 8,x.val<=1->bd .or .i64 (x.val:Int) (bd .and .i64 (y.val:Int) 1)=gw (x.val:Int) ((y.val:Int).tmod 2):=by decide+kernel
 obtain⟨x,rfl⟩:=Em (a:=a) (by omega)
 obtain⟨y,rfl⟩:=Em h';exact key x y (by omega)
theorem Jh {r:Int} (h':0<=r/\r<=7):bd .or .i64 0 (bd .and .i64 r 0)=0:=by
 have key:∀y:Fin 8,bd .or .i64 0 (bd .and .i64 (y.val:Int) 0)=0:=by decide+kernel
 obtain⟨y,rfl⟩:=Em h';exact key y
theorem yS {a b:Int} (h:0<=a/\a<=7) (h':0<=b/\b<=7):decide (bd .andNot .i64 b a=0)=decide (gw a b=a):=by
 have key:∀x y:Fin 8,decide (bd .andNot .i64 (y.val:Int) (x.val:Int)=0)=decide (gw (x.val:Int) (y.val:Int)=(x.val:Int)):=by decide+kernel
 obtain⟨x,rfl⟩:=Em h;obtain⟨y,rfl⟩:=Em h';exact key x y
def eh (k:Key):bm:=⟨0,⟨#[]⟩,k,void,void⟩
def eW (n:Int):bm:=⟨0,⟨#[]⟩,void,void,cG n⟩
def fB (s:ByteArray):bm:=⟨0,s,void,void,void⟩
def fu (e:Int):bm:=⟨e,⟨#[]⟩,void,void,void⟩
def ew (k:Key):Key:=⟨2,k.oid,k.count,0,0,0⟩
def aO (m:bm):Int:=if 0<=m.k2.value/\m.k2.value<=2147483647 then m.k2.value else -1
def dD (b:Bool):Int:=if b then 1 else 0
def o0 (n:Int):Int:=imax 0 (kD 32 (64-n))
abbrev Kz:=Int×bm×List Obj
def dP (L:List Obj) (k:Key) (m:bm):Kz:=
 if m.code=1 then(bI L k (aO m),eh (aE L k (aO m)),L)
 else if m.code=2 then(bc L k (aO m) m.k0,eh (cA L k (aO m) m.k0),bZ L k (aO m) m.k0)
 else if m.code=3 then(aw L k 2 true,dz,eM L k)
 else if m.code=4 then(bG L k m.k0,dz,dZ L k m.k0)
 else if m.code=5 then(if 0<=m.k2.value/\m.k2.value<=7 then 0 else 2,eh (iv k m.k2.value),L)
 else(if k.rights=0 then 0 else 191,eh ⟨5,k.oid,k.count,0,0,0⟩,L)
def dQ (L:List Obj) (k:Key) (m:bm):Kz:=
 if m.code=1 then(bX L k (aO m) (o0 (aO m)),fB (dO L k (aO m) (o0 (aO m))),L)
 else if m.code=2 then(cm L k (aO m) m.data,dz,ea L k (aO m) m.data)
 else if m.code=3 then(aS L k true,dz,eC L k)
 else if m.code=4 then(cy L k m.k0,dz,eQ L k m.k0)
 else(if 0<=m.k2.value/\m.k2.value<=7 then 0 else 2,eh (iv k m.k2.value),L)
def c8 (L:List Obj) (k:Key) (m:bm):Kz:=
 if m.code=1 then(bW L k 1,eh (cH L k 1),eF L k 1)
 else if m.code=2 then(bW L k 2,eh (cH L k 2),eF L k 2)
 else if m.code=3 then(b6 L k m.k0,dz,fK L k m.k0)
 else if m.code=4 then(bL L k (aO m),eh (bQ L k (aO m)),bq L k (aO m))
 else if m.code=5 then(aK L k,eW (dD (iD L k m.k0)),L)
 else(aK L k,eW (eO L k),ga L k)
def eX (L:List Obj) (k:Key):Key:=aE L (ew k) 0
def cT (L:List Obj) (k:Key) (m:bm):Kz:=
 if m.code=1 then(if aO m<0\/11<aO m then 4 else bI L (ew k) (aO m+4),eh (aE L (ew k) (aO m+4)),L)
 else if m.code=2 then(if aO m<0\/11<aO m then 4 else bc L (ew k) (aO m+4) m.k0,eh (cA L (ew k) (aO m+4) m.k0),if aO m<0\/11<aO m then L else bZ L (ew k) (aO m+4) m.k0)
 else if m.code=3 then(0,eh ⟨6,k.oid,k.count,0,0,m.k2.value⟩,L)
 else if m.code=4 then(0,eW (pV L k.oid),L)
 else if m.code=5 then(dU L k.oid (aO m),dz,iw L k.oid (aO m))
 else if m.code=6 then(if bR L (eX L k) m.k2.value 32=0 then(if bH L (eX L k) m.k2.value 32 false=0 then 0 else 1000+bH L (eX L k) m.k2.value 32 false)else bR L (eX L k) m.k2.value 32,fB (jz L (eX L k) m.k2.value 32),L)
 else(if bR L (eX L k) m.k2.value (cc m.data)=0 then(if bH L (eX L k) m.k2.value (cc m.data) true=0 then 0 else 1000+bH L (eX L k) m.k2.value (cc m.data) true)else bR L (eX L k) m.k2.value (cc m.data),dz,ju L (eX L k) m.k2.value m.data)
def cF (kind:Int):Int:=if kind=1 then 1 else if kind=2 then 6 else if kind=3 then 5 else if kind=4 then 6 else if kind=5 then 7 else if kind=8 then 3 else if kind=9\/kind=10 then 1 else 0
def cC (kind c:Int):Bool:=
 if kind=2\/kind=3 then decide (c=1)||decide (c=2)||decide (c=5)else if kind=4 then decide (c=4)
 else if kind=5 then decide (1<=c/\c<=3)||decide (5<=c/\c<=7)else false
def ef (L:List Obj) (now:Int) (k:Key) (m:bm):Kz:=
 if k.kind=1 then(0,eW k.value,L)
 else if k.kind=2 then dP L k m
 else if k.kind=3 then dQ L k m
 else if k.kind=4 then c8 L k m
 else if k.kind=5 then cT L k m
 else if k.kind=8 then(0,if m.code=1 then eW m.k0.kind else if m.code=2 then eW (dD (ky m.k0 m.k1))else eW m.k0.rights,L)
 else if k.kind=9 then(0,eW now,L)
 else(0,dz,L)
def dq (L:List Obj) (now:Int) (k:Key) (m:bm):Kz:=
 if k.kind=0 then(190,dz,L)
 else if m.code=0 then(0,eW k.kind,L)
 else if m.code<1\/cF k.kind<m.code\/(cC k.kind m.code=true/\m.k2.kind≠1)then(240,dz,L)
 else ef L now k m
def dJ (L:List Obj) (now:Int) (k:Key) (m:bm):bm:=if(dq L now k m).1=0 then(dq L now k m).2.1 else fu (dq L now k m).1
def dL (L:List Obj) (now:Int) (k:Key) (m:bm):List Obj:=(dq L now k m).2.2
def aM (L:List Obj) (now:Int) (k:Key) (m:bm):bm×List Obj:=(dJ L now k m,dL L now k m)
def kk (c:Int) (k:Key):Key:=⟨c,k.oid,k.count,k.call,k.rights,k.value⟩
def mm (c:Int) (m:bm):bm:=⟨c,m.data,m.k0,m.k1,m.k2⟩
def eB:ByteArray:=⟨#[]⟩
def gK (c:V) (m:bm) (n:Int) (kd:V) (k:Key):V:= .ag [.ag [c,.st m.data,.ag [.key m.k0,.key m.k1,.key m.k2]],.lp 1 0,.it .i64 n,.ag [kd,.it .i64 k.oid,.it .i64 k.count,.it .i64 k.call,.it .i64 k.rights,.it .i64 k.value]]
def kO (A:bm×List Obj) (v:V) (r:List aH):Prop:=
 match xL v with
 |some x=>match ay r 1 with
  | .store t e M=>if t==tS&&e==eS then(x,M)=A else False
  |_=>False
 |none=>False
theorem Tu {A:bm×List Obj} {v:V} {r:List aH} (h:kO A v r):yt (kJ A.1) v r/\ay r 1= .store tS eS A.2:=by
 unfold kO at h;split at h
 case h_2=>exact h.elim
 rename_i x hx;split at h
 case h_2=>exact h.elim
 rename_i hr;split at h
 case isFalse=>exact h.elim
 rename_i hc;simp only[XK,XM]at hc;obtain⟨rfl,rfl⟩:=hc;subst h;obtain⟨a,b⟩:=sG v x hx;have ht:cz v=false:=by cases v<;>first|rfl|simp[xL]at hx
 exact⟨fun J K=>⟨a J,fun h=>fm (b K h),ht⟩,hr⟩
def sr (r:Kz):bm×List Obj:=(if r.1=0 then r.2.1 else fu r.1,r.2.2)
theorem EP {L:List Obj} {n:Int} {k:Key} {m:bm} {c:Int} (hc:1<=c/\c<=7):aM L n (kk 5 k) (mm c m)=if cC 5 c=true/\m.k2.kind≠1 then(fu 240,L)else sr (cT L (kk 5 k) (mm c m)):=by
 have h0:¬c=0:=by omega
 have h1:¬(c<1\/cF 5<c):=by have:cF 5=7:=by decide
                            omega
 have e1:(kk 5 k).kind=5:=rfl;have e2:(mm c m).code=c:=rfl;have e3:(mm c m).k2=m.k2:=rfl;have hb:ef L n (kk 5 k) (mm c m)=cT L (kk 5 k) (mm c m):=by unfold ef;rw[e1];rfl
 have hr:dq L n (kk 5 k) (mm c m)=if cC 5 c=true/\m.k2.kind≠1 then(240,dz,L)else cT L (kk 5 k) (mm c m):=by
  unfold dq;rw[e1,e2,e3,XQ (by omega),XQ h0,hb]
  by_cases h:cC 5 c=true/\m.k2.kind≠1
  ·rw[XR (.inr (.inr h)),XR h]
  ·rw[XQ (fun hh=>by rcases hh with hh|hh|hh;exact h1 (.inl hh);exact h1 (.inr hh);exact h hh),XQ h]
 unfold aM dJ dL;rw[hr];by_cases h:cC 5 c=true/\m.k2.kind≠1
 ·simp only[XR h];rfl
 ·simp only[XQ h];rfl
theorem Mv {L:List Obj}:∀(n:Nat) (w:Wk),0<=(Nl L n w).kd/\(Nl L n w).kd<=4
 |0,w=>by simp[Nl]
 |n+1,w=>by
  unfold Nl;split
  ·split<;>simp
  ·split
   ·split
    ·rename_i r heq;unfold kY at heq;split at heq
     ·simp at heq;rw[<-heq];simp
     ·split at heq
      ·split at heq
       ·simp at heq
       ·simp at heq;rw[<-heq];simp
      ·simp at heq;rw[<-heq];simp
    ·exact Mv n _
   ·simp
theorem EU {L:List Obj} {k:Key} {a n:Int} {w:Bool}:0<=bH L k a n w/\bH L k a n w<=6:=by
 have h:0<=(ar L k a).kd/\(ar L k a).kd<=4:=by
  unfold ar;split
  ·exact Mv _ _
  ·simp[Un]
 unfold bH;grind
def pc (L:List Obj) (n:Int) (k:Key) (m:bm):Bool:=decide (0<=n)&&qZ L m&&cZ L k
def bP (L:List Obj) (n:Int) (k:Key) (m:bm):Int:=
 if aj L=0 then 1 else if pc L n k m=false then 2 else if(ab L k).kind=6\/(ab L k).kind=7 then 241 else 0
def aB (L:List Obj) (n:Int) (k:Key) (m:bm):bm:=if bP L n k m=0 then dJ L n (ab L k) (aL L m)else dz
def cM (L:List Obj) (n:Int) (k:Key) (m:bm):Bool:=decide (bP L n k m=0)&&decide ((ab L k).kind=10)&&decide (m.code=1)
def fq (L:List Obj) (n:Int) (k:Key) (m:bm):List Obj:=if bP L n k m=0 then dL L n (ab L k) (aL L m)else L
def KV:Ct:=tB (bk sA (bk kA iI)) (fun _=>none) fun x=> .bo (cZ (D9 x.1) x.2.1)
def Ji:lj (Int×Key×bm×Unit):=bk iA (bk kA (bk mA iI))
theorem Fi:iu Ji:=aJ fl (aJ gM (aJ FT cK))
def WO:kz:=Wl (vJ Ji) (fun x=>aA x.2.2.1.data) (fun L x=>aq L/\aA x.2.2.1.data) (fun L x=> .tp [kJ (aB L x.1 x.2.1 x.2.2.1),.bo (cM L x.1 x.2.1 x.2.2.1),.it .i64 (bP L x.1 x.2.1 x.2.2.1)]) fun L x=>fq L x.1 x.2.1 x.2.2.1
def Rd (L:List Obj) (k:Key) (m:bm):Prop:=aq L/\aA m.data/\aT k=true
def Rx:kz:=fun args res K=>
 match args with
 | [a]=>match a with
   | .lp j off=>if off==0 then match ay res j with
     | .blk t c=>if t==nb then match c with
       | .ag cl=>match cl with
         | [mv,sv,nv,kv]=>match xL mv with
           |some m=>match sv with
            | .lp i o2=>if o2==0&& !(i==j)then match rI .i64 nv with
              |some n=>match rK kv with
               |some k=>match ay res i with
                | .store t2 e L=>if t2==tS&&e==eS then Rd L k m/\K (kJ (dJ L n k m)) (b8 res i (.store tS eS (dL L n k m)))else False
                |_=>False
               |none=>False
              |none=>False
              else False
            |_=>False
           |none=>False
         |_=>False
       |_=>False
       else False
     |_=>False
     else False
   |_=>False
 |_=>False
theorem rV {L:List Obj} {k:Key}:aT (ab L k)=true:=by
 unfold ab;split
 ·rfl
 ·rename_i h;simp only[Bool.or_eq_true,not_or,Bool.not_eq_true',Bool.not_eq_false]at h;exact h.1.2
theorem qi {k:IntKind} {v:V} {n:Int} (h:rI k v=some n):j4 v=true:=by
 cases v<;>first|rfl|simp[rI,toInt]at h
theorem JB {v:V} {s:ByteArray} (h:G9 v=some s):j4 v=true:=by
 cases v<;>first|rfl|simp[G9]at h
theorem AM {v:V} {k:Key} (h:rK v=some k):j4 v=true:=by
 unfold rK at h;split at h
 ·rfl
 ·split at h
  case h_2=>simp at h
  repeat' (split at h<;>try(simp at h;done))
  rename_i h1 _ _ h2 _ _ h3 _ _ h4 _ _ h5 _ _ h6;simp[j4,kG,qi h1,qi h2,qi h3,qi h4,qi h5,qi h6]
 ·simp at h
theorem M5 {v:V} {m:bm} (h:xL v=some m):j4 v=true:=by
 unfold xL at h;split at h
 case h_2=>simp at h
 split at h
 case h_2=>simp at h
 split at h
 case h_2=>simp at h
 rename_i hn;split at h
 case h_2=>simp at h
 rename_i hs;split at h
 case h_2=>simp at h
 split at h
 case h_2=>simp at h
 split at h
 case h_2=>simp at h
 rename_i hk;split at h
 case h_2=>simp at h
 rename_i hk';split at h<;>simp only[XI,reduceCtorEq]at h
 rename_i hk'';simp[j4,kG,qi hn,JB hs,AM hk,AM hk',AM hk'']
theorem Cy {P:Program} {f:Nat} {K KP:V->List aH->Prop} {t:Nat} {c c':V} {r:aH} (hr:r≠ .yet) (hc:∀J,cells J c=cells J c') (hc':∀K,ok K c->ok K c') (hct:cz c'=false)
  (h:ai P f [.lp 0 0] [.ro (.blk t c'),r] K KP):ai P f [.lp 0 0] [.ro (.blk t c),r] K KP:=by
 have hk:∀i (x:V),known [.ro (.blk t x),r] i↔i=0\/i=1:=fun i x=>by
  unfold known;rcases i with _|_|i<;>simp[ay,hr]
 have hkk:∀i (x y:V),known [.ro (.blk t x),r] i->known [.ro (.blk t y),r] i:=fun i x y h=>(hk i y).2 ((hk i x).1 h)
 refine h.th fun J fps w0 F0 w hH=>⟨J,fps,hH.weaken fun i hi=>⟨hkk i _ _ hi,fun fp hh=>?_⟩,Env.bp.refl _ _,fun i hi=>hkk i _ _ hi⟩
 rcases(hk i _).1 hi with rfl|rfl
 ·obtain⟨fp',⟨h1,h2,h3,h4⟩,h5⟩:=hh;exact⟨fp',⟨hc' _ (du (fun i hi=>hkk i _ _ hi) _ h1),hct,h3,by rw[<-hc];exact h4⟩,h5⟩
 ·exact aH.mR _ hh fun i hi=>hkk i _ _ hi
theorem xr {P:Program} {f:Nat} {K KP:V->List aH->Prop} {c c' d d':V} {m:bm} {n:Int} {k:Key} {r:aH} (hr:r≠ .yet) (hc:∀J,den J c=den J c') (hc':∀K,ok K c->ok K c') (hct:cz c'=false) (hd:∀J,den J d=den J d') (hd':∀K,ok K d->ok K d') (hdt:cz d'=false)
  (h:ai P f [.lp 0 0] [.ro (.blk nb (gK c' m n d' k)),r] K KP):ai P f [.lp 0 0] [.ro (.blk nb (gK c m n d k)),r] K KP:=by
 refine Cy hr (fun J=>by simp only[cells,gK,den,bf,hc,hd]) (fun K h1=>?_) rfl h
 obtain⟨⟨⟨⟨x1,x2⟩,_⟩,y,z,⟨⟨u1,u2⟩,_⟩,_⟩,v⟩:=h1;exact⟨⟨⟨⟨hc' _ x1,x2⟩,by cases c'<;>first| (simp[qY];done)|simp[cz]at hct⟩,y,z,⟨⟨hd' _ u1,u2⟩,by cases d'<;>first| (simp[qY];done)|simp[cz]at hdt⟩,trivial⟩,by simp[qY]⟩
theorem Mx {P:Program} {f:Nat} {K KP:V->List aH->Prop} {mv nv kv:V} {m:bm} {n:Int} {k:Key} {r:aH} (hr:r≠ .yet) (hm:xL mv=some m) (hn:rI .i64 nv=some n) (hk:rK kv=some k)
  (h:ai P f [.lp 0 0] [.ro (.blk nb (gK (.it .i64 m.code) m n (.it .i64 k.kind) k)),r] K KP):ai P f [.lp 0 0] [.ro (.blk nb (.ag [mv,.lp 1 0,nv,kv])),r] K KP:=by
 obtain⟨m1,m2⟩:=sG _ _ hm;obtain⟨n1,n2⟩:=fy .i64 _ _ hn;obtain⟨k1,k2⟩:=fx _ _ hk;refine Cy hr (fun J=>?_) (fun K h1=>?_) rfl h
 ·simp only[cells,gK,den,bf,m1 J,n1 J,k1 J,kJ,Value.cells,di,i64];simp
 ·obtain⟨⟨x,y,z,u,_⟩,_⟩:=h1;obtain⟨a1,a2,a3,a4,a5,a6⟩:=(k2 K u:k.wf);exact⟨⟨fm (m2 K x),y,n2 K z,⟨⟨a1,a2,a3,a4,a5,a6,trivial⟩,by simp[qY]⟩,trivial⟩,by simp[qY,kJ]⟩
def oc (a b:Int) (k:Key) (m:bm):Bool:=decide (k.kind=a)&&decide (m.code=b)
theorem wm {c:Int} {k:Key} (h:k.kind=c):kk c k=k:=by subst h;rfl
theorem EC {c:Int} {m:bm} (h:m.code=c):mm c m=m:=by subst h;rfl
def Wo (nid:Nat):V:= .mp nid
def FJ (nid:Nat):List aH:= [.mq [[1,1],[2,1],[2,2],[2,3],[2,4],[2,5],[2,6],[3,1],[3,2],[3,3],[3,4],[3,5],[4,1],[4,2],[4,3],[4,4],[4,5],[4,6],[5,1],[5,2],[5,3],[5,4],[5,5],[5,6],[5,7],[8,1],[8,2],[8,3],[9,1],[10,1]] [.fn 59 [],.fn 61 [],.fn 65 [],.fn 67 [],.fn 70 [],.fn 72 [],.fn 73 [],.fn 74 [],.fn 75 [],.fn 77 [],.fn 79 [],.fn 72 [],.fn 149 [.lp (nid+1) 0],.fn 149 [.lp (nid+1+1) 0],.fn 82 [],.fn 84 [],.fn 86 [],.fn 87 [],.fn 88 [],.fn 91 [],.fn 92 [],.fn 94 [],.fn 95 [],.fn 97 [],.fn 98 [],.fn 99 [],.fn 100 [],.fn 104 [],.fn 106 [],.fn 107 []],.blk 44 (.ci .i64 1),.blk 44 (.ci .i64 2)]
end Go.Sx
