import Derived.Test.YtghpaegglbbocaaGreatSQ
import Derived.Test.YtghpaegglbbocaaGreatSW
import Derived.Test.YtghpaegglbbocaaGreatSpB
set_option linter.unusedSimpArgs false
set_option linter.unusedVariables false
namespace Go.Sx
def ny:Nat:=71
def iB (k:Key) (r:Int):Key:=if k.kind=2 then cM k (gx k.rights r)else if k.kind=3 then cM k (gx k.rights (r.tmod 2))else k
def gz (k:Key) (r:Int):Prop:=aT k=true/\0<=r/\r<=7
def TE:Ct:=sF (bk kA (bk iA iv)) (fun x=>some (gz x.1 x.2.1)) fun x=> .tp [.key (iB x.1 x.2.1),.ci .i64 0]
def Om:Ct:=sF (bk kA (bk iA iv)) (fun x=>some (gz x.1 x.2.1)) fun x=> .key (iB x.1 x.2.1)
def kq (a b:Key):Bool:=aT a&&aT b&&(decide (a.kind=0)||tL a b||(decide (a.kind=2)||decide (a.kind=3))&&decide (a.kind=b.kind)&&decide (a.oid=b.oid)&&decide (a.count=b.count)&&decide (gx a.rights b.rights=a.rights))
def MN:Ct:=Q6 rK rK fun a b=> .bo (kq a b)
theorem E1 {a:Int} (h:0<=a/\a<=7):∃x:Fin 8,a=(x.val:Int):=⟨⟨a.toNat,by omega⟩,by simp;omega⟩
theorem Nj {a r:Int} (h:0<=a/\a<=7) (h':0<=r/\r<=7):bd .or .i64 a (bd .and .i64 r 7)=gx a r:=by
 have key:∀x y:Fin 8,bd .or .i64 (x.val:Int) (bd .and .i64 (y.val:Int) 7)=gx (x.val:Int) (y.val:Int):=by decide+kernel
 obtain⟨x,rfl⟩:=E1 h;obtain⟨y,rfl⟩:=E1 h';exact key x y
theorem K4 {a r:Int} (h:0<=a/\a<=1) (h':0<=r/\r<=7):bd .or .i64 a (bd .and .i64 r 1)=gx a (r.tmod 2):=by
 have key:∀x y:Fin 8,x.val<=1->bd .or .i64 (x.val:Int) (bd .and .i64 (y.val:Int) 1)=gx (x.val:Int) ((y.val:Int).tmod 2):=by decide+kernel
 obtain⟨x,rfl⟩:=E1 (a:=a) (by omega)
 obtain⟨y,rfl⟩:=E1 h';exact key x y (by omega)
theorem Jw {r:Int} (h':0<=r/\r<=7):bd .or .i64 0 (bd .and .i64 r 0)=0:=by
 have key:∀y:Fin 8,bd .or .i64 0 (bd .and .i64 (y.val:Int) 0)=0:=by decide+kernel
 obtain⟨y,rfl⟩:=E1 h';exact key y
theorem Ai {a b:Int} (h:0<=a/\a<=7) (h':0<=b/\b<=7):decide (bd .andNot .i64 b a=0)=decide (gx a b=a):=by
 have key:∀x y:Fin 8,decide (bd .andNot .i64 (y.val:Int) (x.val:Int)=0)=decide (gx (x.val:Int) (y.val:Int)=(x.val:Int)):=by decide+kernel
 obtain⟨x,rfl⟩:=E1 h;obtain⟨y,rfl⟩:=E1 h';exact key x y
def ec (k:Key):bm:=⟨0,⟨#[]⟩,k,void,void⟩
def e9 (n:Int):bm:=⟨0,⟨#[]⟩,void,void,cI n⟩
def fA (s:ByteArray):bm:=⟨0,s,void,void,void⟩
def fx (e:Int):bm:=⟨e,⟨#[]⟩,void,void,void⟩
def ey (k:Key):Key:=⟨2,k.oid,k.count,0,0,0⟩
def aO (m:bm):Int:=if 0<=m.k2.value/\m.k2.value<=2147483647 then m.k2.value else -1
def dD (b:Bool):Int:=if b then 1 else 0
def pw (n:Int):Int:=imax 0 (kL 32 (64-n))
abbrev LH:=Int×bm×List Obj
def dQ (L:List Obj) (k:Key) (m:bm):LH:=
 if m.code=1 then(bJ L k (aO m),ec (aF L k (aO m)),L)
 else if m.code=2 then(bc L k (aO m) m.k0,ec (cA L k (aO m) m.k0),b7 L k (aO m) m.k0)
 else if m.code=3 then(ay L k 2 true,dg,eT L k)
 else if m.code=4 then(bG L k m.k0,dg,dZ L k m.k0)
 else if m.code=5 then(if 0<=m.k2.value/\m.k2.value<=7 then 0 else 2,ec (iB k m.k2.value),L)
 else(if k.rights=0 then 0 else 191,ec ⟨5,k.oid,k.count,0,0,0⟩,L)
def dP (L:List Obj) (k:Key) (m:bm):LH:=
 if m.code=1 then(b6 L k (aO m) (pw (aO m)),fA (dR L k (aO m) (pw (aO m))),L)
 else if m.code=2 then(cq L k (aO m) m.data,dg,eg L k (aO m) m.data)
 else if m.code=3 then(aS L k true,dg,eD L k)
 else if m.code=4 then(cx L k m.k0,dg,eX L k m.k0)
 else(if 0<=m.k2.value/\m.k2.value<=7 then 0 else 2,ec (iB k m.k2.value),L)
def cY (L:List Obj) (k:Key) (m:bm):LH:=
 if m.code=1 then(bX L k 1,ec (cN L k 1),eI L k 1)
 else if m.code=2 then(bX L k 2,ec (cN L k 2),eI L k 2)
 else if m.code=3 then(b8 L k m.k0,dg,fM L k m.k0)
 else if m.code=4 then(bM L k (aO m),ec (bO L k (aO m)),bu L k (aO m))
 else if m.code=5 then(aK L k,e9 (dD (iL L k m.k0)),L)
 else(aK L k,e9 (eJ L k),gf L k)
def eZ (L:List Obj) (k:Key):Key:=aF L (ey k) 0
def cU (L:List Obj) (k:Key) (m:bm):LH:=
 if m.code=1 then(if aO m<0\/11<aO m then 4 else bJ L (ey k) (aO m+4),ec (aF L (ey k) (aO m+4)),L)
 else if m.code=2 then(if aO m<0\/11<aO m then 4 else bc L (ey k) (aO m+4) m.k0,ec (cA L (ey k) (aO m+4) m.k0),if aO m<0\/11<aO m then L else b7 L (ey k) (aO m+4) m.k0)
 else if m.code=3 then(0,ec ⟨6,k.oid,k.count,0,0,m.k2.value⟩,L)
 else if m.code=4 then(0,e9 (qx L k.oid),L)
 else if m.code=5 then(ea L k.oid (aO m),dg,iK L k.oid (aO m))
 else if m.code=6 then(if bR L (eZ L k) m.k2.value 32=0 then(if bH L (eZ L k) m.k2.value 32 false=0 then 0 else 1000+bH L (eZ L k) m.k2.value 32 false)else bR L (eZ L k) m.k2.value 32,fA (jA L (eZ L k) m.k2.value 32),L)
 else(if bR L (eZ L k) m.k2.value (bW m.data)=0 then(if bH L (eZ L k) m.k2.value (bW m.data) true=0 then 0 else 1000+bH L (eZ L k) m.k2.value (bW m.data) true)else bR L (eZ L k) m.k2.value (bW m.data),dg,jy L (eZ L k) m.k2.value m.data)
def cH (kind:Int):Int:=if kind=1 then 1 else if kind=2 then 6 else if kind=3 then 5 else if kind=4 then 6 else if kind=5 then 7 else if kind=8 then 3 else if kind=9\/kind=10 then 1 else 0
def cD (kind c:Int):Bool:=
 if kind=2\/kind=3 then decide (c=1)||decide (c=2)||decide (c=5)else if kind=4 then decide (c=4)
 else if kind=5 then decide (1<=c/\c<=3)||decide (5<=c/\c<=7)else false
def ee (L:List Obj) (now:Int) (k:Key) (m:bm):LH:=
 if k.kind=1 then(0,e9 k.value,L)
 else if k.kind=2 then dQ L k m
 else if k.kind=3 then dP L k m
 else if k.kind=4 then cY L k m
 else if k.kind=5 then cU L k m
 else if k.kind=8 then(0,if m.code=1 then e9 m.k0.kind else if m.code=2 then e9 (dD (kq m.k0 m.k1))else e9 m.k0.rights,L)
 else if k.kind=9 then(0,e9 now,L)
 else(0,dg,L)
def dq (L:List Obj) (now:Int) (k:Key) (m:bm):LH:=
 if k.kind=0 then(190,dg,L)
 else if m.code=0 then(0,e9 k.kind,L)
 else if m.code<1\/cH k.kind<m.code\/(cD k.kind m.code=true/\m.k2.kind≠1)then(240,dg,L)
 else ee L now k m
def dH (L:List Obj) (now:Int) (k:Key) (m:bm):bm:=if(dq L now k m).1=0 then(dq L now k m).2.1 else fx (dq L now k m).1
def dM (L:List Obj) (now:Int) (k:Key) (m:bm):List Obj:=(dq L now k m).2.2
def aM (L:List Obj) (now:Int) (k:Key) (m:bm):bm×List Obj:=(dH L now k m,dM L now k m)
def kk (c:Int) (k:Key):Key:=⟨c,k.oid,k.count,k.call,k.rights,k.value⟩
def mm (c:Int) (m:bm):bm:=⟨c,m.data,m.k0,m.k1,m.k2⟩
def eB:ByteArray:=⟨#[]⟩
def gF (c:V) (m:bm) (n:Int) (kd:V) (k:Key):V:= .ag [.ag [c,.st m.data,.ag [.key m.k0,.key m.k1,.key m.k2]],.lp 1 0,.it .i64 n,.ag [kd,.it .i64 k.oid,.it .i64 k.count,.it .i64 k.call,.it .i64 k.rights,.it .i64 k.value]]
def kO (A:bm×List Obj) (v:V) (r:List aI):Prop:=
 match xU v with
 |some x=>match az r 1 with
  | .store t e M=>if t==tS&&e==eS then(x,M)=A else False
  |_=>False
 |none=>False
theorem T1 {A:bm×List Obj} {v:V} {r:List aI} (h:kO A v r):yW (jS A.1) v r/\az r 1= .store tS eS A.2:=by
 unfold kO at h;split at h
 case h_2=>exact h.elim
 rename_i x hx;split at h
 case h_2=>exact h.elim
 rename_i hr;split at h
 case isFalse=>exact h.elim
 rename_i hc;simp only[Yo,Yq]at hc;obtain⟨rfl,rfl⟩:=hc;subst h;obtain⟨a,b⟩:=tz v x hx;have ht:cy v=false:=by cases v<;>first|rfl|simp[xU]at hx
 exact⟨fun J K=>⟨a J,fun h=>eW (b K h),ht⟩,hr⟩
def s9 (r:LH):bm×List Obj:=(if r.1=0 then r.2.1 else fx r.1,r.2.2)
theorem GA {L:List Obj} {n:Int} {k:Key} {m:bm} {c:Int} (hc:1<=c/\c<=7):aM L n (kk 5 k) (mm c m)=if cD 5 c=true/\m.k2.kind≠1 then(fx 240,L)else s9 (cU L (kk 5 k) (mm c m)):=by
 have h0:¬c=0:=by omega
 have h1:¬(c<1\/cH 5<c):=by have:cH 5=7:=by decide
                            omega
 have e1:(kk 5 k).kind=5:=rfl;have e2:(mm c m).code=c:=rfl;have e3:(mm c m).k2=m.k2:=rfl;have hb:ee L n (kk 5 k) (mm c m)=cU L (kk 5 k) (mm c m):=by unfold ee;rw[e1];rfl
 have hr:dq L n (kk 5 k) (mm c m)=if cD 5 c=true/\m.k2.kind≠1 then(240,dg,L)else cU L (kk 5 k) (mm c m):=by
  unfold dq;rw[e1,e2,e3,Yu (by omega),Yu h0,hb]
  by_cases h:cD 5 c=true/\m.k2.kind≠1
  ·rw[Yv (.inr (.inr h)),Yv h]
  ·rw[Yu (fun hh=>by rcases hh with hh|hh|hh;exact h1 (.inl hh);exact h1 (.inr hh);exact h hh),Yu h]
 unfold aM dH dM;rw[hr];by_cases h:cD 5 c=true/\m.k2.kind≠1
 ·simp only[Yv h];rfl
 ·simp only[Yu h];rfl
theorem Kk {L:List Obj}:∀(n:Nat) (w:Wk),0<=(NW L n w).kd/\(NW L n w).kd<=4
 |0,w=>by simp[NW]
 |n+1,w=>by
  unfold NW;split
  ·split<;>simp
  ·split
   ·split
    ·rename_i r heq;unfold lb at heq;split at heq
     ·simp at heq;rw[<-heq];simp
     ·split at heq
      ·split at heq
       ·simp at heq
       ·simp at heq;rw[<-heq];simp
      ·simp at heq;rw[<-heq];simp
    ·exact Kk n _
   ·simp
theorem Gm {L:List Obj} {k:Key} {a n:Int} {w:Bool}:0<=bH L k a n w/\bH L k a n w<=6:=by
 have h:0<=(ar L k a).kd/\(ar L k a).kd<=4:=by
  unfold ar;split
  ·exact Kk _ _
  ·simp[UX]
 unfold bH;grind
def ph (L:List Obj) (n:Int) (k:Key) (m:bm):Bool:=decide (0<=n)&&rH L m&&cZ L k
def bI (L:List Obj) (n:Int) (k:Key) (m:bm):Int:=
 if aj L=0 then 1 else if ph L n k m=false then 2 else if(ae L k).kind=6\/(ae L k).kind=7 then 241 else 0
def aB (L:List Obj) (n:Int) (k:Key) (m:bm):bm:=if bI L n k m=0 then dH L n (ae L k) (aL L m)else dg
def cz (L:List Obj) (n:Int) (k:Key) (m:bm):Bool:=decide (bI L n k m=0)&&decide ((ae L k).kind=10)&&decide (m.code=1)
def fo (L:List Obj) (n:Int) (k:Key) (m:bm):List Obj:=if bI L n k m=0 then dM L n (ae L k) (aL L m)else L
def Jx:Ct:=sF (bk sA (bk kA iv)) (fun _=>none) fun x=> .bo (cZ (Ei x.1) x.2.1)
def Mp:lA (Int×Key×bm×Unit):=bk iA (bk kA (bk mA iv))
theorem GB:iy Mp:=aJ ft (aJ gR (aJ Ff cF))
def Xv:kJ:=WQ (wv Mp) (fun x=>aw x.2.2.1.data) (fun L x=>aq L/\aw x.2.2.1.data) (fun L x=> .tp [jS (aB L x.1 x.2.1 x.2.2.1),.bo (cz L x.1 x.2.1 x.2.2.1),.it .i64 (bI L x.1 x.2.1 x.2.2.1)]) fun L x=>fo L x.1 x.2.1 x.2.2.1
def R5 (L:List Obj) (k:Key) (m:bm):Prop:=aq L/\aw m.data/\aT k=true
def R4:kJ:=fun args res K=>
 match args with
 | [a]=>match a with
   | .lp j off=>if off==0 then match az res j with
     | .blk t c=>if t==ny then match c with
       | .ag cl=>match cl with
         | [mv,sv,nv,kv]=>match xU mv with
           |some m=>match sv with
            | .lp i o2=>if o2==0&& !(i==j)then match rI .i64 nv with
              |some n=>match rK kv with
               |some k=>match az res i with
                | .store t2 e L=>if t2==tS&&e==eS then R5 L k m/\K (jS (dH L n k m)) (cc res i (.store tS eS (dM L n k m)))else False
                |_=>False
               |none=>False
              |none=>False
              else False
            |_=>False
           |none=>False
         |_=>False
       |_=>False
       else False
     |_=>False
     else False
   |_=>False
 |_=>False
theorem rT {L:List Obj} {k:Key}:aT (ae L k)=true:=by
 unfold ae;split
 ·rfl
 ·rename_i h;simp only[Bool.or_eq_true,not_or,Bool.not_eq_true',Bool.not_eq_false]at h;exact h.1.2
theorem qk {k:IntKind} {v:V} {n:Int} (h:rI k v=some n):j6 v=true:=by
 cases v<;>first|rfl|simp[rI,toInt]at h
theorem Nd {v:V} {s:ByteArray} (h:Hu v=some s):j6 v=true:=by
 cases v<;>first|rfl|simp[Hu]at h
theorem BU {v:V} {k:Key} (h:rK v=some k):j6 v=true:=by
 unfold rK at h;split at h
 ·rfl
 ·split at h
  case h_2=>simp at h
  repeat' (split at h<;>try(simp at h;done))
  rename_i h1 _ _ h2 _ _ h3 _ _ h4 _ _ h5 _ _ h6;simp[j6,kK,qk h1,qk h2,qk h3,qk h4,qk h5,qk h6]
 ·simp at h
theorem LP {v:V} {m:bm} (h:xU v=some m):j6 v=true:=by
 unfold xU at h;split at h
 case h_2=>simp at h
 split at h
 case h_2=>simp at h
 split at h
 case h_2=>simp at h
 rename_i hn;split at h
 case h_2=>simp at h
 rename_i hs;split at h
 case h_2=>simp at h
 split at h
 case h_2=>simp at h
 split at h
 case h_2=>simp at h
 rename_i hk;split at h
 case h_2=>simp at h
 rename_i hk';split at h<;>simp only[Ym,reduceCtorEq]at h
 rename_i hk'';simp[j6,kK,qk hn,Nd hs,BU hk,BU hk',BU hk'']
theorem C9 {P:Program} {f:Nat} {K KP:V->List aI->Prop} {t:Nat} {c c':V} {r:aI} (hr:r≠ .yet) (hc:∀J,cells J c=cells J c') (hc':∀K,ok K c->ok K c') (hct:cy c'=false)
  (h:ai P f [.lp 0 0] [.ro (.blk t c'),r] K KP):ai P f [.lp 0 0] [.ro (.blk t c),r] K KP:=by
 have hk:∀i (x:V),known [.ro (.blk t x),r] i↔i=0\/i=1:=fun i x=>by
  unfold known;rcases i with _|_|i<;>simp[az,hr]
 have hkk:∀i (x y:V),known [.ro (.blk t x),r] i->known [.ro (.blk t y),r] i:=fun i x y h=>(hk i y).2 ((hk i x).1 h)
 refine h.tf fun J fps w0 F0 w hH=>⟨J,fps,hH.weaken fun i hi=>⟨hkk i _ _ hi,fun fp hh=>?_⟩,Env.br.refl _ _,fun i hi=>hkk i _ _ hi⟩
 rcases(hk i _).1 hi with rfl|rfl
 ·obtain⟨fp',⟨h1,h2,h3,h4⟩,h5⟩:=hh;exact⟨fp',⟨hc' _ (dt (fun i hi=>hkk i _ _ hi) _ h1),hct,h3,by rw[<-hc];exact h4⟩,h5⟩
 ·exact aI.nm _ hh fun i hi=>hkk i _ _ hi
theorem xi {P:Program} {f:Nat} {K KP:V->List aI->Prop} {c c' d d':V} {m:bm} {n:Int} {k:Key} {r:aI} (hr:r≠ .yet) (hc:∀J,den J c=den J c') (hc':∀K,ok K c->ok K c') (hct:cy c'=false) (hd:∀J,den J d=den J d') (hd':∀K,ok K d->ok K d') (hdt:cy d'=false)
  (h:ai P f [.lp 0 0] [.ro (.blk ny (gF c' m n d' k)),r] K KP):ai P f [.lp 0 0] [.ro (.blk ny (gF c m n d k)),r] K KP:=by
 refine C9 hr (fun J=>by simp only[cells,gF,den,bf,hc,hd]) (fun K h1=>?_) rfl h
 obtain⟨⟨⟨⟨x1,x2⟩,_⟩,y,z,⟨⟨u1,u2⟩,_⟩,_⟩,v⟩:=h1;exact⟨⟨⟨⟨hc' _ x1,x2⟩,by cases c'<;>first| (simp[rv];done)|simp[cy]at hct⟩,y,z,⟨⟨hd' _ u1,u2⟩,by cases d'<;>first| (simp[rv];done)|simp[cy]at hdt⟩,trivial⟩,by simp[rv]⟩
theorem Ma {P:Program} {f:Nat} {K KP:V->List aI->Prop} {mv nv kv:V} {m:bm} {n:Int} {k:Key} {r:aI} (hr:r≠ .yet) (hm:xU mv=some m) (hn:rI .i64 nv=some n) (hk:rK kv=some k)
  (h:ai P f [.lp 0 0] [.ro (.blk ny (gF (.it .i64 m.code) m n (.it .i64 k.kind) k)),r] K KP):ai P f [.lp 0 0] [.ro (.blk ny (.ag [mv,.lp 1 0,nv,kv])),r] K KP:=by
 obtain⟨m1,m2⟩:=tz _ _ hm;obtain⟨n1,n2⟩:=fz .i64 _ _ hn;obtain⟨k1,k2⟩:=fy _ _ hk;refine C9 hr (fun J=>?_) (fun K h1=>?_) rfl h
 ·simp only[cells,gF,den,bf,m1 J,n1 J,k1 J,jS,Value.cells,dn,i64];simp
 ·obtain⟨⟨x,y,z,u,_⟩,_⟩:=h1;obtain⟨a1,a2,a3,a4,a5,a6⟩:=(k2 K u:k.wf);exact⟨⟨eW (m2 K x),y,n2 K z,⟨⟨a1,a2,a3,a4,a5,a6,trivial⟩,by simp[rv]⟩,trivial⟩,by simp[rv,jS]⟩
def oc (a b:Int) (k:Key) (m:bm):Bool:=decide (k.kind=a)&&decide (m.code=b)
theorem v9 {c:Int} {k:Key} (h:k.kind=c):kk c k=k:=by subst h;rfl
theorem FO {c:Int} {m:bm} (h:m.code=c):mm c m=m:=by subst h;rfl
def WX (nid:Nat):V:= .mp nid
def FJ (nid:Nat):List aI:= [.mq [[1,1],[2,1],[2,2],[2,3],[2,4],[2,5],[2,6],[3,1],[3,2],[3,3],[3,4],[3,5],[4,1],[4,2],[4,3],[4,4],[4,5],[4,6],[5,1],[5,2],[5,3],[5,4],[5,5],[5,6],[5,7],[8,1],[8,2],[8,3],[9,1],[10,1]] [.fn 59 [],.fn 61 [],.fn 65 [],.fn 67 [],.fn 70 [],.fn 72 [],.fn 73 [],.fn 74 [],.fn 75 [],.fn 77 [],.fn 79 [],.fn 72 [],.fn 149 [.lp (nid+1) 0],.fn 149 [.lp (nid+1+1) 0],.fn 82 [],.fn 84 [],.fn 86 [],.fn 87 [],.fn 88 [],.fn 91 [],.fn 92 [],.fn 94 [],.fn 95 [],.fn 97 [],.fn 98 [],.fn 99 [],.fn 100 [],.fn 104 [],.fn 106 [],.fn 107 []],.blk 44 (.ci .i64 1),.blk 44 (.ci .i64 2)]
end Go.Sx
