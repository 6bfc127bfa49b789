import Derived.Test.YtghpaegglbbocaaGreatSQ
import Derived.Test.YtghpaegglbbocaaGreatSW
import Derived.Test.YtghpaegglbbocaaGreatSpB
namespace Go.Sx
def nC:Nat:=71
def iz (k:Key) (r:Int):Key:=if k.kind=2 then cM k (gw k.rights r)else if k.kind=3 then cM k (gw k.rights (r.tmod 2))else k
def gz (k:Key) (r:Int):Prop:=aT k=true/\0<=r/\r<=7
def UF:Ct:=sF (bk kA (bk iA iw)) (fun x=>some (gz x.1 x.2.1)) fun x=> .tp [.key (iz x.1 x.2.1),.ci .i64 0]
def QY:Ct:=sF (bk kA (bk iA iw)) (fun x=>some (gz x.1 x.2.1)) fun x=> .key (iz x.1 x.2.1)
def ku (a b:Key):Bool:=aT a&&aT b&&(decide (a.kind=0)||tR a b||(decide (a.kind=2)||decide (a.kind=3))&&decide (a.kind=b.kind)&&decide (a.oid=b.oid)&&decide (a.count=b.count)&&decide (gw a.rights b.rights=a.rights))
def IW:Ct:=PF rK rK fun a b=> .bo (ku a b)
theorem DO {a:Int} (h:0<=a/\a<=7):∃x:Fin 8,a=(x.val:Int):=⟨⟨a.toNat,by omega⟩,by simp;omega⟩
theorem MM {a r:Int} (h:0<=a/\a<=7) (h':0<=r/\r<=7):bc .or .i64 a (bc .and .i64 r 7)=gw a r:=by
 have key:∀x y:Fin 8,bc .or .i64 (x.val:Int) (bc .and .i64 (y.val:Int) 7)=gw (x.val:Int) (y.val:Int):=by decide+kernel
 obtain⟨x,rfl⟩:=DO h;obtain⟨y,rfl⟩:=DO h';exact key x y
theorem Np {a r:Int} (h:0<=a/\a<=1) (h':0<=r/\r<=7):bc .or .i64 a (bc .and .i64 r 1)=gw a (r.tmod 2):=by
 have key:∀x y:Fin 8,x.val<=1->bc .or .i64 (x.val:Int) (bc .and .i64 (y.val:Int) 1)=gw (x.val:Int) ((y.val:Int).tmod 2):=by decide+kernel
 obtain⟨x,rfl⟩:=DO (a:=a) (by omega)
 obtain⟨y,rfl⟩:=DO h';exact key x y (by omega)
theorem IX {r:Int} (h':0<=r/\r<=7):bc .or .i64 0 (bc .and .i64 r 0)=0:=by
 have key:∀y:Fin 8,bc .or .i64 0 (bc .and .i64 (y.val:Int) 0)=0:=by decide+kernel
 obtain⟨y,rfl⟩:=DO h';exact key y
theorem zK {a b:Int} (h:0<=a/\a<=7) (h':0<=b/\b<=7):decide (bc .andNot .i64 b a=0)=decide (gw a b=a):=by
 have key:∀x y:Fin 8,decide (bc .andNot .i64 (y.val:Int) (x.val:Int)=0)=decide (gw (x.val:Int) (y.val:Int)=(x.val:Int)):=by decide+kernel
 obtain⟨x,rfl⟩:=DO h;obtain⟨y,rfl⟩:=DO h';exact key x y
def ei (k:Key):bm:=⟨0,⟨#[]⟩,k,void,void⟩
def eZ (n:Int):bm:=⟨0,⟨#[]⟩,void,void,cH n⟩
def fC (s:ByteArray):bm:=⟨0,s,void,void,void⟩
def fx (e:Int):bm:=⟨e,⟨#[]⟩,void,void,void⟩
def eA (k:Key):Key:=⟨2,k.oid,k.count,0,0,0⟩
def aO (m:bm):Int:=if 0<=m.k2.value/\m.k2.value<=2147483647 then m.k2.value else -1
def dC (b:Bool):Int:=if b then 1 else 0
def ph (n:Int):Int:=imax 0 (kI 32 (64-n))
abbrev Le:=Int×bm×List Obj
def dL (L:List Obj) (k:Key) (m:bm):Le:=
 if m.code=1 then(bI L k (aO m),ei (aF L k (aO m)),L)
 else if m.code=2 then(ba L k (aO m) m.k0,ei (cy L k (aO m) m.k0),b6 L k (aO m) m.k0)
 else if m.code=3 then(ay L k 2 true,dg,eT L k)
 else if m.code=4 then(bG L k m.k0,dg,dZ L k m.k0)
 else if m.code=5 then(if 0<=m.k2.value/\m.k2.value<=7 then 0 else 2,ei (iz k m.k2.value),L)
 else(if k.rights=0 then 0 else 191,ei ⟨5,k.oid,k.count,0,0,0⟩,L)
def dN (L:List Obj) (k:Key) (m:bm):Le:=
 if m.code=1 then(b7 L k (aO m) (ph (aO m)),fC (dP L k (aO m) (ph (aO m))),L)
 else if m.code=2 then(cq L k (aO m) m.data,dg,eh L k (aO m) m.data)
 else if m.code=3 then(aS L k true,dg,eD L k)
 else if m.code=4 then(cz L k m.k0,dg,eV L k m.k0)
 else(if 0<=m.k2.value/\m.k2.value<=7 then 0 else 2,ei (iz k m.k2.value),L)
def cY (L:List Obj) (k:Key) (m:bm):Le:=
 if m.code=1 then(bX L k 1,ei (cJ L k 1),eH L k 1)
 else if m.code=2 then(bX L k 2,ei (cJ L k 2),eH L k 2)
 else if m.code=3 then(b8 L k m.k0,dg,fL L k m.k0)
 else if m.code=4 then(bM L k (aO m),ei (bP L k (aO m)),br L k (aO m))
 else if m.code=5 then(aK L k,eZ (dC (iG L k m.k0)),L)
 else(aK L k,eZ (eX L k),gi L k)
def e9 (L:List Obj) (k:Key):Key:=aF L (eA k) 0
def cT (L:List Obj) (k:Key) (m:bm):Le:=
 if m.code=1 then(if aO m<0\/11<aO m then 4 else bI L (eA k) (aO m+4),ei (aF L (eA k) (aO m+4)),L)
 else if m.code=2 then(if aO m<0\/11<aO m then 4 else ba L (eA k) (aO m+4) m.k0,ei (cy L (eA k) (aO m+4) m.k0),if aO m<0\/11<aO m then L else b6 L (eA k) (aO m+4) m.k0)
 else if m.code=3 then(0,ei ⟨6,k.oid,k.count,0,0,m.k2.value⟩,L)
 else if m.code=4 then(0,eZ (qh L k.oid),L)
 else if m.code=5 then(dW L k.oid (aO m),dg,iJ L k.oid (aO m))
 else if m.code=6 then(if bR L (e9 L k) m.k2.value 32=0 then(if bH L (e9 L k) m.k2.value 32 false=0 then 0 else 1000+bH L (e9 L k) m.k2.value 32 false)else bR L (e9 L k) m.k2.value 32,fC (jC L (e9 L k) m.k2.value 32),L)
 else(if bR L (e9 L k) m.k2.value (bW m.data)=0 then(if bH L (e9 L k) m.k2.value (bW m.data) true=0 then 0 else 1000+bH L (e9 L k) m.k2.value (bW m.data) true)else bR L (e9 L k) m.k2.value (bW m.data),dg,jD L (e9 L k) m.k2.value m.data)
def cI (kind:Int):Int:=if kind=1 then 1 else if kind=2 then 6 else if kind=3 then 5 else if kind=4 then 6 else if kind=5 then 7 else if kind=8 then 3 else if kind=9\/kind=10 then 1 else 0
def cD (kind c:Int):Bool:=
 if kind=2\/kind=3 then decide (c=1)||decide (c=2)||decide (c=5)else if kind=4 then decide (c=4)
 else if kind=5 then decide (1<=c/\c<=3)||decide (5<=c/\c<=7)else false
def ec (L:List Obj) (now:Int) (k:Key) (m:bm):Le:=
 if k.kind=1 then(0,eZ k.value,L)
 else if k.kind=2 then dL L k m
 else if k.kind=3 then dN L k m
 else if k.kind=4 then cY L k m
 else if k.kind=5 then cT L k m
 else if k.kind=8 then(0,if m.code=1 then eZ m.k0.kind else if m.code=2 then eZ (dC (ku m.k0 m.k1))else eZ m.k0.rights,L)
 else if k.kind=9 then(0,eZ now,L)
 else(0,dg,L)
def di (L:List Obj) (now:Int) (k:Key) (m:bm):Le:=
 if k.kind=0 then(190,dg,L)
 else if m.code=0 then(0,eZ k.kind,L)
 else if m.code<1\/cI k.kind<m.code\/(cD k.kind m.code=true/\m.k2.kind≠1)then(240,dg,L)
 else ec L now k m
def dE (L:List Obj) (now:Int) (k:Key) (m:bm):bm:=if(di L now k m).1=0 then(di L now k m).2.1 else fx (di L now k m).1
def dK (L:List Obj) (now:Int) (k:Key) (m:bm):List Obj:=(di L now k m).2.2
def aM (L:List Obj) (now:Int) (k:Key) (m:bm):bm×List Obj:=(dE L now k m,dK L now k m)
def kk (c:Int) (k:Key):Key:=⟨c,k.oid,k.count,k.call,k.rights,k.value⟩
def mm (c:Int) (m:bm):bm:=⟨c,m.data,m.k0,m.k1,m.k2⟩
def eB:ByteArray:=⟨#[]⟩
def gK (c:V) (m:bm) (n:Int) (kd:V) (k:Key):V:= .ag [.ag [c,.st m.data,.ag [.key m.k0,.key m.k1,.key m.k2]],.lp 1 0,.it .i64 n,.ag [kd,.it .i64 k.oid,.it .i64 k.count,.it .i64 k.call,.it .i64 k.rights,.it .i64 k.value]]
def kO (A:bm×List Obj) (v:V) (r:List aI):Prop:=
 match xE v with
 |some x=>match az r 1 with
  | .store t e M=>if t==tS&&e==eS then(x,M)=A else False
  |_=>False
 |none=>False
theorem Tk {A:bm×List Obj} {v:V} {r:List aI} (h:kO A v r):yU (jP A.1) v r/\az r 1= .store tS eS A.2:=by
 unfold kO at h;split at h
 case h_2=>exact h.elim
 rename_i x hx;split at h
 case h_2=>exact h.elim
 rename_i hr;split at h
 case isFalse=>exact h.elim
 rename_i hc;simp only[Yj,Yl]at hc;obtain⟨rfl,rfl⟩:=hc;subst h;obtain⟨a,b⟩:=tQ v x hx;have ht:cC v=false:=by cases v<;>first|rfl|simp[xE]at hx
 exact⟨fun J K=>⟨a J,fun h=>eJ (b K h),ht⟩,hr⟩
def th (r:Le):bm×List Obj:=(if r.1=0 then r.2.1 else fx r.1,r.2.2)
theorem FH {L:List Obj} {n:Int} {k:Key} {m:bm} {c:Int} (hc:1<=c/\c<=7):aM L n (kk 5 k) (mm c m)=if cD 5 c=true/\m.k2.kind≠1 then(fx 240,L)else th (cT L (kk 5 k) (mm c m)):=by
 have h0:¬c=0:=by omega
 have h1:¬(c<1\/cI 5<c):=by have:cI 5=7:=by decide
                            omega
 have e1:(kk 5 k).kind=5:=rfl;have e2:(mm c m).code=c:=rfl;have e3:(mm c m).k2=m.k2:=rfl;have hb:ec L n (kk 5 k) (mm c m)=cT L (kk 5 k) (mm c m):=by unfold ec;rw[e1];rfl
 have hr:di L n (kk 5 k) (mm c m)=if cD 5 c=true/\m.k2.kind≠1 then(240,dg,L)else cT L (kk 5 k) (mm c m):=by
  unfold di;rw[e1,e2,e3,Yp (by omega),Yp h0,hb]
  by_cases h:cD 5 c=true/\m.k2.kind≠1
  ·rw[Yq (.inr (.inr h)),Yq h]
  ·rw[Yp (fun hh=>by rcases hh with hh|hh|hh;exact h1 (.inl hh);exact h1 (.inr hh);exact h hh),Yp h]
 unfold aM dE dK;rw[hr];by_cases h:cD 5 c=true/\m.k2.kind≠1
 ·simp only[Yq h];rfl
 ·simp only[Yp h];rfl
theorem JT {L:List Obj}:∀(n:Nat) (w:Wk),0<=(NR L n w).kd/\(NR L n w).kd<=4
 |0,w=>by simp[NR]
 |n+1,w=>by
  unfold NR;split
  ·split<;>simp
  ·split
   ·split
    ·rename_i r heq;unfold lf at heq;split at heq
     ·simp at heq;rw[<-heq];simp
     ·split at heq
      ·split at heq
       ·simp at heq
       ·simp at heq;rw[<-heq];simp
      ·simp at heq;rw[<-heq];simp
    ·exact JT n _
   ·simp
theorem FI {L:List Obj} {k:Key} {a n:Int} {w:Bool}:0<=bH L k a n w/\bH L k a n w<=6:=by
 have h:0<=(ar L k a).kd/\(ar L k a).kd<=4:=by
  unfold ar;split
  ·exact JT _ _
  ·simp[UT]
 unfold bH;grind
def pq (L:List Obj) (n:Int) (k:Key) (m:bm):Bool:=decide (0<=n)&&rE L m&&cZ L k
def bJ (L:List Obj) (n:Int) (k:Key) (m:bm):Int:=
 if ai L=0 then 1 else if pq L n k m=false then 2 else if(ae L k).kind=6\/(ae L k).kind=7 then 241 else 0
def aB (L:List Obj) (n:Int) (k:Key) (m:bm):bm:=if bJ L n k m=0 then dE L n (ae L k) (aL L m)else dg
def cA (L:List Obj) (n:Int) (k:Key) (m:bm):Bool:=decide (bJ L n k m=0)&&decide ((ae L k).kind=10)&&decide (m.code=1)
def fo (L:List Obj) (n:Int) (k:Key) (m:bm):List Obj:=if bJ L n k m=0 then dK L n (ae L k) (aL L m)else L
def Mq:Ct:=sF (bk sA (bk kA iw)) (fun _=>none) fun x=> .bo (cZ (DJ x.1) x.2.1)
def KM:lz (Int×Key×bm×Unit):=bk iA (bk kA (bk mA iw))
theorem Fp:iu KM:=aJ fm (aJ gQ (aJ E5 cF))
def Xr:kH:=WT (wc KM) (fun x=>aw x.2.2.1.data) (fun L x=>aq L/\aw x.2.2.1.data) (fun L x=> .tp [jP (aB L x.1 x.2.1 x.2.2.1),.bo (cA L x.1 x.2.1 x.2.2.1),.it .i64 (bJ L x.1 x.2.1 x.2.2.1)]) fun L x=>fo L x.1 x.2.1 x.2.2.1
def RF (L:List Obj) (k:Key) (m:bm):Prop:=aq L/\aw m.data/\aT k=true
def Sa:kH:=fun args res K=>
 match args with
 | [a]=>match a with
   | .lp j off=>if off==0 then match az res j with
     | .blk t c=>if t==nC then match c with
       | .ag cl=>match cl with
         | [mv,sv,nv,kv]=>match xE mv with
           |some m=>match sv with
            | .lp i o2=>if o2==0&& !(i==j)then match rI .i64 nv with
              |some n=>match rK kv with
               |some k=>match az res i with
                | .store t2 e L=>if t2==tS&&e==eS then RF L k m/\K (jP (dE L n k m)) (cj res i (.store tS eS (dK L n k m)))else False
                |_=>False
               |none=>False
              |none=>False
              else False
            |_=>False
           |none=>False
         |_=>False
       |_=>False
       else False
     |_=>False
     else False
   |_=>False
 |_=>False
theorem r9 {L:List Obj} {k:Key}:aT (ae L k)=true:=by
 unfold ae;split
 ·rfl
 ·rename_i h;simp only[Bool.or_eq_true,not_or,Bool.not_eq_true',Bool.not_eq_false]at h;exact h.1.2
theorem qd {k:IntKind} {v:V} {n:Int} (h:rI k v=some n):j3 v=true:=by
 cases v<;>first|rfl|simp[rI,toInt]at h
theorem Kg {v:V} {s:ByteArray} (h:HM v=some s):j3 v=true:=by
 cases v<;>first|rfl|simp[HM]at h
theorem AD {v:V} {k:Key} (h:rK v=some k):j3 v=true:=by
 unfold rK at h;split at h
 ·rfl
 ·split at h
  case h_2=>simp at h
  repeat' (split at h<;>try(simp at h;done))
  rename_i h1 _ _ h2 _ _ h3 _ _ h4 _ _ h5 _ _ h6;simp[j3,kL,qd h1,qd h2,qd h3,qd h4,qd h5,qd h6]
 ·simp at h
theorem LG {v:V} {m:bm} (h:xE v=some m):j3 v=true:=by
 unfold xE at h;split at h
 case h_2=>simp at h
 split at h
 case h_2=>simp at h
 split at h
 case h_2=>simp at h
 rename_i hn;split at h
 case h_2=>simp at h
 rename_i hs;split at h
 case h_2=>simp at h
 split at h
 case h_2=>simp at h
 split at h
 case h_2=>simp at h
 rename_i hk;split at h
 case h_2=>simp at h
 rename_i hk';split at h<;>simp only[Yh,reduceCtorEq]at h
 rename_i hk'';simp[j3,kL,qd hn,Kg hs,AD hk,AD hk',AD hk'']
theorem C3 {P:Program} {f:Nat} {K KP:V->List aI->Prop} {t:Nat} {c c':V} {r:aI} (hr:r≠ .yet) (hc:∀J,cells J c=cells J c') (hc':∀K,ok K c->ok K c') (hct:cC c'=false)
  (h:aj P f [.lp 0 0] [.ro (.blk t c'),r] K KP):aj P f [.lp 0 0] [.ro (.blk t c),r] K KP:=by
 have hk:∀i (x:V),known [.ro (.blk t x),r] i↔i=0\/i=1:=fun i x=>by
  unfold known;rcases i with _|_|i<;>simp[az,hr]
 have hkk:∀i (x y:V),known [.ro (.blk t x),r] i->known [.ro (.blk t y),r] i:=fun i x y h=>(hk i y).2 ((hk i x).1 h)
 refine h.um fun J fps w0 F0 w hH=>⟨J,fps,hH.weaken fun i hi=>⟨hkk i _ _ hi,fun fp hh=>?_⟩,Env.bz.refl _ _,fun i hi=>hkk i _ _ hi⟩
 rcases(hk i _).1 hi with rfl|rfl
 ·obtain⟨fp',⟨h1,h2,h3,h4⟩,h5⟩:=hh;exact⟨fp',⟨hc' _ (dw (fun i hi=>hkk i _ _ hi) _ h1),hct,h3,by rw[<-hc];exact h4⟩,h5⟩
 ·exact aI.nh _ hh fun i hi=>hkk i _ _ hi
theorem xf {P:Program} {f:Nat} {K KP:V->List aI->Prop} {c c' d d':V} {m:bm} {n:Int} {k:Key} {r:aI} (hr:r≠ .yet) (hc:∀J,den J c=den J c') (hc':∀K,ok K c->ok K c') (hct:cC c'=false) (hd:∀J,den J d=den J d') (hd':∀K,ok K d->ok K d') (hdt:cC d'=false)
  (h:aj P f [.lp 0 0] [.ro (.blk nC (gK c' m n d' k)),r] K KP):aj P f [.lp 0 0] [.ro (.blk nC (gK c m n d k)),r] K KP:=by
 refine C3 hr (fun J=>by simp only[cells,gK,den,bd,hc,hd]) (fun K h1=>?_) rfl h
 obtain⟨⟨⟨⟨x1,x2⟩,_⟩,y,z,⟨⟨u1,u2⟩,_⟩,_⟩,v⟩:=h1;exact⟨⟨⟨⟨hc' _ x1,x2⟩,by cases c'<;>first| (simp[rr];done)|simp[cC]at hct⟩,y,z,⟨⟨hd' _ u1,u2⟩,by cases d'<;>first| (simp[rr];done)|simp[cC]at hdt⟩,trivial⟩,by simp[rr]⟩
theorem Kv {P:Program} {f:Nat} {K KP:V->List aI->Prop} {mv nv kv:V} {m:bm} {n:Int} {k:Key} {r:aI} (hr:r≠ .yet) (hm:xE mv=some m) (hn:rI .i64 nv=some n) (hk:rK kv=some k)
  (h:aj P f [.lp 0 0] [.ro (.blk nC (gK (.it .i64 m.code) m n (.it .i64 k.kind) k)),r] K KP):aj P f [.lp 0 0] [.ro (.blk nC (.ag [mv,.lp 1 0,nv,kv])),r] K KP:=by
 obtain⟨m1,m2⟩:=tQ _ _ hm;obtain⟨n1,n2⟩:=fy .i64 _ _ hn;obtain⟨k1,k2⟩:=fz _ _ hk;refine C3 hr (fun J=>?_) (fun K h1=>?_) rfl h
 ·simp only[cells,gK,den,bd,m1 J,n1 J,k1 J,jP,Value.cells,dn,i64];simp
 ·obtain⟨⟨x,y,z,u,_⟩,_⟩:=h1;obtain⟨a1,a2,a3,a4,a5,a6⟩:=(k2 K u:k.wf);exact⟨⟨eJ (m2 K x),y,n2 K z,⟨⟨a1,a2,a3,a4,a5,a6,trivial⟩,by simp[rr]⟩,trivial⟩,by simp[rr,jP]⟩
def oc (a b:Int) (k:Key) (m:bm):Bool:=decide (k.kind=a)&&decide (m.code=b)
theorem v7 {c:Int} {k:Key} (h:k.kind=c):kk c k=k:=by subst h;rfl
theorem E4 {c:Int} {m:bm} (h:m.code=c):mm c m=m:=by subst h;rfl
def WE (nid:Nat):V:= .mp nid
def EY (nid:Nat):List aI:= [.mq [[1,1],[2,1],[2,2],[2,3],[2,4],[2,5],[2,6],[3,1],[3,2],[3,3],[3,4],[3,5],[4,1],[4,2],[4,3],[4,4],[4,5],[4,6],[5,1],[5,2],[5,3],[5,4],[5,5],[5,6],[5,7],[8,1],[8,2],[8,3],[9,1],[10,1]] [.fn 59 [],.fn 61 [],.fn 65 [],.fn 67 [],.fn 70 [],.fn 72 [],.fn 73 [],.fn 74 [],.fn 75 [],.fn 77 [],.fn 79 [],.fn 72 [],.fn 149 [.lp (nid+1) 0],.fn 149 [.lp (nid+1+1) 0],.fn 82 [],.fn 84 [],.fn 86 [],.fn 87 [],.fn 88 [],.fn 91 [],.fn 92 [],.fn 94 [],.fn 95 [],.fn 97 [],.fn 98 [],.fn 99 [],.fn 100 [],.fn 104 [],.fn 106 [],.fn 107 []],.blk 44 (.ci .i64 1),.blk 44 (.ci .i64 2)]
end Go.Sx
