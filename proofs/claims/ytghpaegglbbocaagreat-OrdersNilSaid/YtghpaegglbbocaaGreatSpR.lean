import Derived.Test.YtghpaegglbbocaaGreatSQ
import Derived.Test.YtghpaegglbbocaaGreatSW
import Derived.Test.YtghpaegglbbocaaGreatSpB
set_option linter.unusedSimpArgs false
set_option linter.unusedVariables false
namespace Go.Sx
def nr:Nat:=71
def iu (k:Key) (r:Int):Key:=if k.kind=2 then cJ k (gw k.rights r)else if k.kind=3 then cJ k (gw k.rights (r.tmod 2))else k
def gy (k:Key) (r:Int):Prop:=aT k=true/\0<=r/\r<=7
def Tj:Ct:=sE (bk kA (bk iA iv)) (fun x=>some (gy x.1 x.2.1)) fun x=> .tp [.key (iu x.1 x.2.1),.ci .i64 0]
def Pk:Ct:=sE (bk kA (bk iA iv)) (fun x=>some (gy x.1 x.2.1)) fun x=> .key (iu x.1 x.2.1)
def kF (a b:Key):Bool:=aT a&&aT b&&(decide (a.kind=0)||tE a b||(decide (a.kind=2)||decide (a.kind=3))&&decide (a.kind=b.kind)&&decide (a.oid=b.oid)&&decide (a.count=b.count)&&decide (gw a.rights b.rights=a.rights))
def LY:Ct:=P6 rK rK fun a b=> .bo (kF a b)
theorem Eb {a:Int} (h:0<=a/\a<=7):∃x:Fin 8,a=(x.val:Int):=⟨⟨a.toNat,by omega⟩,by simp;omega⟩
theorem IZ {a r:Int} (h:0<=a/\a<=7) (h':0<=r/\r<=7):bc .or .i64 a (bc .and .i64 r 7)=gw a r:=by
 have key:∀x y:Fin 8,bc .or .i64 (x.val:Int) (bc .and .i64 (y.val:Int) 7)=gw (x.val:Int) (y.val:Int):=by decide+kernel
 obtain⟨x,rfl⟩:=Eb h;obtain⟨y,rfl⟩:=Eb h';exact key x y
theorem Le {a r:Int} (h:0<=a/\a<=1) (h':0<=r/\r<=7):bc .or .i64 a (bc .and .i64 r 1)=gw a (r.tmod 2):=by
 have key:∀x y:Fin 8,x.val<=1->bc .or .i64 (x.val:Int) (bc .and .i64 (y.val:Int) 1)=gw (x.val:Int) ((y.val:Int).tmod 2):=by decide+kernel
 obtain⟨x,rfl⟩:=Eb (a:=a) (by omega)
 obtain⟨y,rfl⟩:=Eb h';exact key x y (by omega)
theorem Nm {r:Int} (h':0<=r/\r<=7):bc .or .i64 0 (bc .and .i64 r 0)=0:=by
 have key:∀y:Fin 8,bc .or .i64 0 (bc .and .i64 (y.val:Int) 0)=0:=by decide+kernel
 obtain⟨y,rfl⟩:=Eb h';exact key y
theorem An {a b:Int} (h:0<=a/\a<=7) (h':0<=b/\b<=7):decide (bc .andNot .i64 b a=0)=decide (gw a b=a):=by
 have key:∀x y:Fin 8,decide (bc .andNot .i64 (y.val:Int) (x.val:Int)=0)=decide (gw (x.val:Int) (y.val:Int)=(x.val:Int)):=by decide+kernel
 obtain⟨x,rfl⟩:=Eb h;obtain⟨y,rfl⟩:=Eb h';exact key x y
def eg (k:Key):bm:=⟨0,⟨#[]⟩,k,void,void⟩
def e9 (n:Int):bm:=⟨0,⟨#[]⟩,void,void,cH n⟩
def fD (s:ByteArray):bm:=⟨0,s,void,void,void⟩
def fx (e:Int):bm:=⟨e,⟨#[]⟩,void,void,void⟩
def eA (k:Key):Key:=⟨2,k.oid,k.count,0,0,0⟩
def aO (m:bm):Int:=if 0<=m.k2.value/\m.k2.value<=2147483647 then m.k2.value else -1
def dB (b:Bool):Int:=if b then 1 else 0
def pn (n:Int):Int:=imax 0 (kJ 32 (64-n))
abbrev JP:=Int×bm×List Obj
def dO (L:List Obj) (k:Key) (m:bm):JP:=
 if m.code=1 then(bJ L k (aO m),eg (aF L k (aO m)),L)
 else if m.code=2 then(ba L k (aO m) m.k0,eg (cz L k (aO m) m.k0),b6 L k (aO m) m.k0)
 else if m.code=3 then(ay L k 2 true,dg,eQ L k)
 else if m.code=4 then(bG L k m.k0,dg,dV L k m.k0)
 else if m.code=5 then(if 0<=m.k2.value/\m.k2.value<=7 then 0 else 2,eg (iu k m.k2.value),L)
 else(if k.rights=0 then 0 else 191,eg ⟨5,k.oid,k.count,0,0,0⟩,L)
def dM (L:List Obj) (k:Key) (m:bm):JP:=
 if m.code=1 then(b7 L k (aO m) (pn (aO m)),fD (dQ L k (aO m) (pn (aO m))),L)
 else if m.code=2 then(cq L k (aO m) m.data,dg,ec L k (aO m) m.data)
 else if m.code=3 then(aS L k true,dg,eD L k)
 else if m.code=4 then(cy L k m.k0,dg,eT L k m.k0)
 else(if 0<=m.k2.value/\m.k2.value<=7 then 0 else 2,eg (iu k m.k2.value),L)
def cY (L:List Obj) (k:Key) (m:bm):JP:=
 if m.code=1 then(bX L k 1,eg (cL L k 1),eI L k 1)
 else if m.code=2 then(bX L k 2,eg (cL L k 2),eI L k 2)
 else if m.code=3 then(b8 L k m.k0,dg,fI L k m.k0)
 else if m.code=4 then(bM L k (aO m),eg (bP L k (aO m)),br L k (aO m))
 else if m.code=5 then(aK L k,e9 (dB (iF L k m.k0)),L)
 else(aK L k,e9 (eL L k),gi L k)
def eZ (L:List Obj) (k:Key):Key:=aF L (eA k) 0
def cT (L:List Obj) (k:Key) (m:bm):JP:=
 if m.code=1 then(if aO m<0\/11<aO m then 4 else bJ L (eA k) (aO m+4),eg (aF L (eA k) (aO m+4)),L)
 else if m.code=2 then(if aO m<0\/11<aO m then 4 else ba L (eA k) (aO m+4) m.k0,eg (cz L (eA k) (aO m+4) m.k0),if aO m<0\/11<aO m then L else b6 L (eA k) (aO m+4) m.k0)
 else if m.code=3 then(0,eg ⟨6,k.oid,k.count,0,0,m.k2.value⟩,L)
 else if m.code=4 then(0,e9 (qt L k.oid),L)
 else if m.code=5 then(ea L k.oid (aO m),dg,iK L k.oid (aO m))
 else if m.code=6 then(if bQ L (eZ L k) m.k2.value 32=0 then(if bH L (eZ L k) m.k2.value 32 false=0 then 0 else 1000+bH L (eZ L k) m.k2.value 32 false)else bQ L (eZ L k) m.k2.value 32,fD (jH L (eZ L k) m.k2.value 32),L)
 else(if bQ L (eZ L k) m.k2.value (bW m.data)=0 then(if bH L (eZ L k) m.k2.value (bW m.data) true=0 then 0 else 1000+bH L (eZ L k) m.k2.value (bW m.data) true)else bQ L (eZ L k) m.k2.value (bW m.data),dg,jz L (eZ L k) m.k2.value m.data)
def cI (kind:Int):Int:=if kind=1 then 1 else if kind=2 then 6 else if kind=3 then 5 else if kind=4 then 6 else if kind=5 then 7 else if kind=8 then 3 else if kind=9\/kind=10 then 1 else 0
def cD (kind c:Int):Bool:=
 if kind=2\/kind=3 then decide (c=1)||decide (c=2)||decide (c=5)else if kind=4 then decide (c=4)
 else if kind=5 then decide (1<=c/\c<=3)||decide (5<=c/\c<=7)else false
def ee (L:List Obj) (now:Int) (k:Key) (m:bm):JP:=
 if k.kind=1 then(0,e9 k.value,L)
 else if k.kind=2 then dO L k m
 else if k.kind=3 then dM L k m
 else if k.kind=4 then cY L k m
 else if k.kind=5 then cT L k m
 else if k.kind=8 then(0,if m.code=1 then e9 m.k0.kind else if m.code=2 then e9 (dB (kF m.k0 m.k1))else e9 m.k0.rights,L)
 else if k.kind=9 then(0,e9 now,L)
 else(0,dg,L)
def dn (L:List Obj) (now:Int) (k:Key) (m:bm):JP:=
 if k.kind=0 then(190,dg,L)
 else if m.code=0 then(0,e9 k.kind,L)
 else if m.code<1\/cI k.kind<m.code\/(cD k.kind m.code=true/\m.k2.kind≠1)then(240,dg,L)
 else ee L now k m
def dH (L:List Obj) (now:Int) (k:Key) (m:bm):bm:=if(dn L now k m).1=0 then(dn L now k m).2.1 else fx (dn L now k m).1
def dK (L:List Obj) (now:Int) (k:Key) (m:bm):List Obj:=(dn L now k m).2.2
def aM (L:List Obj) (now:Int) (k:Key) (m:bm):bm×List Obj:=(dH L now k m,dK L now k m)
def kk (c:Int) (k:Key):Key:=⟨c,k.oid,k.count,k.call,k.rights,k.value⟩
def mm (c:Int) (m:bm):bm:=⟨c,m.data,m.k0,m.k1,m.k2⟩
def eB:ByteArray:=⟨#[]⟩
def gK (c:V) (m:bm) (n:Int) (kd:V) (k:Key):V:= .ag [.ag [c,.st m.data,.ag [.key m.k0,.key m.k1,.key m.k2]],.lp 1 0,.it .i64 n,.ag [kd,.it .i64 k.oid,.it .i64 k.count,.it .i64 k.call,.it .i64 k.rights,.it .i64 k.value]]
def kO (A:bm×List Obj) (v:V) (r:List aI):Prop:=
 match yB v with
 |some x=>match az r 1 with
  | .store t e M=>if t==tS&&e==eS then(x,M)=A else False
  |_=>False
 |none=>False
theorem SP {A:bm×List Obj} {v:V} {r:List aI} (h:kO A v r):yU (jR A.1) v r/\az r 1= .store tS eS A.2:=by
 unfold kO at h;split at h
 case h_2=>exact h.elim
 rename_i x hx;split at h
 case h_2=>exact h.elim
 rename_i hr;split at h
 case isFalse=>exact h.elim
 rename_i hc;simp only[Yj,Yl]at hc;obtain⟨rfl,rfl⟩:=hc;subst h;obtain⟨a,b⟩:=tf v x hx;have ht:cB v=false:=by cases v<;>first|rfl|simp[yB]at hx
 exact⟨fun J K=>⟨a J,fun h=>eW (b K h),ht⟩,hr⟩
def sZ (r:JP):bm×List Obj:=(if r.1=0 then r.2.1 else fx r.1,r.2.2)
theorem FW {L:List Obj} {n:Int} {k:Key} {m:bm} {c:Int} (hc:1<=c/\c<=7):aM L n (kk 5 k) (mm c m)=if cD 5 c=true/\m.k2.kind≠1 then(fx 240,L)else sZ (cT L (kk 5 k) (mm c m)):=by
 have h0:¬c=0:=by omega
 have h1:¬(c<1\/cI 5<c):=by have:cI 5=7:=by decide
                            omega
 have e1:(kk 5 k).kind=5:=rfl;have e2:(mm c m).code=c:=rfl;have e3:(mm c m).k2=m.k2:=rfl;have hb:ee L n (kk 5 k) (mm c m)=cT L (kk 5 k) (mm c m):=by unfold ee;rw[e1];rfl
 have hr:dn L n (kk 5 k) (mm c m)=if cD 5 c=true/\m.k2.kind≠1 then(240,dg,L)else cT L (kk 5 k) (mm c m):=by
  unfold dn;rw[e1,e2,e3,Yp (by omega),Yp h0,hb]
  by_cases h:cD 5 c=true/\m.k2.kind≠1
  ·rw[Yq (.inr (.inr h)),Yq h]
  ·rw[Yp (fun hh=>by rcases hh with hh|hh|hh;exact h1 (.inl hh);exact h1 (.inr hh);exact h hh),Yp h]
 unfold aM dH dK;rw[hr];by_cases h:cD 5 c=true/\m.k2.kind≠1
 ·simp only[Yq h];rfl
 ·simp only[Yp h];rfl
theorem Lg {L:List Obj}:∀(n:Nat) (w:Wk),0<=(NP L n w).kd/\(NP L n w).kd<=4
 |0,w=>by simp[NP]
 |n+1,w=>by
  unfold NP;split
  ·split<;>simp
  ·split
   ·split
    ·rename_i r heq;unfold ld at heq;split at heq
     ·simp at heq;rw[<-heq];simp
     ·split at heq
      ·split at heq
       ·simp at heq
       ·simp at heq;rw[<-heq];simp
      ·simp at heq;rw[<-heq];simp
    ·exact Lg n _
   ·simp
theorem Gq {L:List Obj} {k:Key} {a n:Int} {w:Bool}:0<=bH L k a n w/\bH L k a n w<=6:=by
 have h:0<=(ar L k a).kd/\(ar L k a).kd<=4:=by
  unfold ar;split
  ·exact Lg _ _
  ·simp[UR]
 unfold bH;grind
def ph (L:List Obj) (n:Int) (k:Key) (m:bm):Bool:=decide (0<=n)&&rv L m&&cZ L k
def bI (L:List Obj) (n:Int) (k:Key) (m:bm):Int:=
 if aj L=0 then 1 else if ph L n k m=false then 2 else if(ae L k).kind=6\/(ae L k).kind=7 then 241 else 0
def aB (L:List Obj) (n:Int) (k:Key) (m:bm):bm:=if bI L n k m=0 then dH L n (ae L k) (aL L m)else dg
def cA (L:List Obj) (n:Int) (k:Key) (m:bm):Bool:=decide (bI L n k m=0)&&decide ((ae L k).kind=10)&&decide (m.code=1)
def fm (L:List Obj) (n:Int) (k:Key) (m:bm):List Obj:=if bI L n k m=0 then dK L n (ae L k) (aL L m)else L
def KH:Ct:=sE (bk sA (bk kA iv)) (fun _=>none) fun x=> .bo (cZ (DV x.1) x.2.1)
def Mr:ly (Int×Key×bm×Unit):=bk iA (bk kA (bk mA iv))
theorem F3:iB Mr:=aJ ft (aJ gQ (aJ Gg cF))
def Xl:kI:=WJ (wO Mr) (fun x=>aw x.2.2.1.data) (fun L x=>aq L/\aw x.2.2.1.data) (fun L x=> .tp [jR (aB L x.1 x.2.1 x.2.2.1),.bo (cA L x.1 x.2.1 x.2.2.1),.it .i64 (bI L x.1 x.2.1 x.2.2.1)]) fun L x=>fm L x.1 x.2.1 x.2.2.1
def RN (L:List Obj) (k:Key) (m:bm):Prop:=aq L/\aw m.data/\aT k=true
def RJ:kI:=fun args res K=>
 match args with
 | [a]=>match a with
   | .lp j off=>if off==0 then match az res j with
     | .blk t c=>if t==nr then match c with
       | .ag cl=>match cl with
         | [mv,sv,nv,kv]=>match yB mv with
           |some m=>match sv with
            | .lp i o2=>if o2==0&& !(i==j)then match rI .i64 nv with
              |some n=>match rK kv with
               |some k=>match az res i with
                | .store t2 e L=>if t2==tS&&e==eS then RN L k m/\K (jR (dH L n k m)) (cj res i (.store tS eS (dK L n k m)))else False
                |_=>False
               |none=>False
              |none=>False
              else False
            |_=>False
           |none=>False
         |_=>False
       |_=>False
       else False
     |_=>False
     else False
   |_=>False
 |_=>False
theorem rR {L:List Obj} {k:Key}:aT (ae L k)=true:=by
 unfold ae;split
 ·rfl
 ·rename_i h;simp only[Bool.or_eq_true,not_or,Bool.not_eq_true',Bool.not_eq_false]at h;exact h.1.2
theorem pL {k:IntKind} {v:V} {n:Int} (h:rI k v=some n):j3 v=true:=by
 cases v<;>first|rfl|simp[rI,toInt]at h
theorem IB {v:V} {s:ByteArray} (h:H2 v=some s):j3 v=true:=by
 cases v<;>first|rfl|simp[H2]at h
theorem Bc {v:V} {k:Key} (h:rK v=some k):j3 v=true:=by
 unfold rK at h;split at h
 ·rfl
 ·split at h
  case h_2=>simp at h
  repeat' (split at h<;>try(simp at h;done))
  rename_i h1 _ _ h2 _ _ h3 _ _ h4 _ _ h5 _ _ h6;simp[j3,kK,pL h1,pL h2,pL h3,pL h4,pL h5,pL h6]
 ·simp at h
theorem JZ {v:V} {m:bm} (h:yB v=some m):j3 v=true:=by
 unfold yB at h;split at h
 case h_2=>simp at h
 split at h
 case h_2=>simp at h
 split at h
 case h_2=>simp at h
 rename_i hn;split at h
 case h_2=>simp at h
 rename_i hs;split at h
 case h_2=>simp at h
 split at h
 case h_2=>simp at h
 split at h
 case h_2=>simp at h
 rename_i hk;split at h
 case h_2=>simp at h
 rename_i hk';split at h<;>simp only[Yh,reduceCtorEq]at h
 rename_i hk'';simp[j3,kK,pL hn,IB hs,Bc hk,Bc hk',Bc hk'']
theorem C2 {P:Program} {f:Nat} {K KP:V->List aI->Prop} {t:Nat} {c c':V} {r:aI} (hr:r≠ .yet) (hc:∀J,cells J c=cells J c') (hc':∀K,ok K c->ok K c') (hct:cB c'=false)
  (h:ai P f [.lp 0 0] [.ro (.blk t c'),r] K KP):ai P f [.lp 0 0] [.ro (.blk t c),r] K KP:=by
 have hk:∀i (x:V),known [.ro (.blk t x),r] i↔i=0\/i=1:=fun i x=>by
  unfold known;rcases i with _|_|i<;>simp[az,hr]
 have hkk:∀i (x y:V),known [.ro (.blk t x),r] i->known [.ro (.blk t y),r] i:=fun i x y h=>(hk i y).2 ((hk i x).1 h)
 refine h.sI fun J fps w0 F0 w hH=>⟨J,fps,hH.weaken fun i hi=>⟨hkk i _ _ hi,fun fp hh=>?_⟩,Env.bz.refl _ _,fun i hi=>hkk i _ _ hi⟩
 rcases(hk i _).1 hi with rfl|rfl
 ·obtain⟨fp',⟨h1,h2,h3,h4⟩,h5⟩:=hh;exact⟨fp',⟨hc' _ (dw (fun i hi=>hkk i _ _ hi) _ h1),hct,h3,by rw[<-hc];exact h4⟩,h5⟩
 ·exact aI.mZ _ hh fun i hi=>hkk i _ _ hi
theorem xU {P:Program} {f:Nat} {K KP:V->List aI->Prop} {c c' d d':V} {m:bm} {n:Int} {k:Key} {r:aI} (hr:r≠ .yet) (hc:∀J,den J c=den J c') (hc':∀K,ok K c->ok K c') (hct:cB c'=false) (hd:∀J,den J d=den J d') (hd':∀K,ok K d->ok K d') (hdt:cB d'=false)
  (h:ai P f [.lp 0 0] [.ro (.blk nr (gK c' m n d' k)),r] K KP):ai P f [.lp 0 0] [.ro (.blk nr (gK c m n d k)),r] K KP:=by
 refine C2 hr (fun J=>by simp only[cells,gK,den,bd,hc,hd]) (fun K h1=>?_) rfl h
 obtain⟨⟨⟨⟨x1,x2⟩,_⟩,y,z,⟨⟨u1,u2⟩,_⟩,_⟩,v⟩:=h1;exact⟨⟨⟨⟨hc' _ x1,x2⟩,by cases c'<;>first| (simp[rr];done)|simp[cB]at hct⟩,y,z,⟨⟨hd' _ u1,u2⟩,by cases d'<;>first| (simp[rr];done)|simp[cB]at hdt⟩,trivial⟩,by simp[rr]⟩
theorem Iu {P:Program} {f:Nat} {K KP:V->List aI->Prop} {mv nv kv:V} {m:bm} {n:Int} {k:Key} {r:aI} (hr:r≠ .yet) (hm:yB mv=some m) (hn:rI .i64 nv=some n) (hk:rK kv=some k)
  (h:ai P f [.lp 0 0] [.ro (.blk nr (gK (.it .i64 m.code) m n (.it .i64 k.kind) k)),r] K KP):ai P f [.lp 0 0] [.ro (.blk nr (.ag [mv,.lp 1 0,nv,kv])),r] K KP:=by
 obtain⟨m1,m2⟩:=tf _ _ hm;obtain⟨n1,n2⟩:=fy .i64 _ _ hn;obtain⟨k1,k2⟩:=fz _ _ hk;refine C2 hr (fun J=>?_) (fun K h1=>?_) rfl h
 ·simp only[cells,gK,den,bd,m1 J,n1 J,k1 J,jR,Value.cells,di,i64];simp
 ·obtain⟨⟨x,y,z,u,_⟩,_⟩:=h1;obtain⟨a1,a2,a3,a4,a5,a6⟩:=(k2 K u:k.wf);exact⟨⟨eW (m2 K x),y,n2 K z,⟨⟨a1,a2,a3,a4,a5,a6,trivial⟩,by simp[rr]⟩,trivial⟩,by simp[rr,jR]⟩
def oc (a b:Int) (k:Key) (m:bm):Bool:=decide (k.kind=a)&&decide (m.code=b)
theorem wR {c:Int} {k:Key} (h:k.kind=c):kk c k=k:=by subst h;rfl
theorem FH {c:Int} {m:bm} (h:m.code=c):mm c m=m:=by subst h;rfl
def WZ (nid:Nat):V:= .mp nid
def F4 (nid:Nat):List aI:= [.mq [[1,1],[2,1],[2,2],[2,3],[2,4],[2,5],[2,6],[3,1],[3,2],[3,3],[3,4],[3,5],[4,1],[4,2],[4,3],[4,4],[4,5],[4,6],[5,1],[5,2],[5,3],[5,4],[5,5],[5,6],[5,7],[8,1],[8,2],[8,3],[9,1],[10,1]] [.fn 59 [],.fn 61 [],.fn 65 [],.fn 67 [],.fn 70 [],.fn 72 [],.fn 73 [],.fn 74 [],.fn 75 [],.fn 77 [],.fn 79 [],.fn 72 [],.fn 149 [.lp (nid+1) 0],.fn 149 [.lp (nid+1+1) 0],.fn 82 [],.fn 84 [],.fn 86 [],.fn 87 [],.fn 88 [],.fn 91 [],.fn 92 [],.fn 94 [],.fn 95 [],.fn 97 [],.fn 98 [],.fn 99 [],.fn 100 [],.fn 104 [],.fn 106 [],.fn 107 []],.blk 44 (.ci .i64 1),.blk 44 (.ci .i64 2)]
end Go.Sx
