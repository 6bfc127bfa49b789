import Derived.Test.YtghpaegglbbocaaGreatSQ
import Derived.Test.YtghpaegglbbocaaGreatSW
import Derived.Test.YtghpaegglbbocaaGreatSpB
set_option linter.unusedSimpArgs false
set_option linter.unusedVariables false
namespace Go.Sx
def lX:Nat:=71
def jR (k:Key) (r:Int):Key:=if k.kind=2 then bR k (cx k.rights r)else if k.kind=3 then bR k (cx k.rights (r.tmod 2))else k
def tY (k:Key) (r:Int):Prop:=aB k=true/\0<=r/\r<=7
def OE:Ct:=EY (cO kA (cO iA na)) (fun x=>some (tY x.1 x.2.1)) fun x=> .tp [.key (jR x.1 x.2.1),.ci .i64 0]
def cT (a b:Key):Bool:=aB a&&aB b&&(decide (a.kind=0)||tF a b||(decide (a.kind=2)||decide (a.kind=3))&&decide (a.kind=b.kind)&&decide (a.oid=b.oid)&&decide (a.count=b.count)&&decide (cx a.rights b.rights=a.rights))
def Ih:Ct:=MX rK rK fun a b=> .bo (cT a b)
theorem sG {a:Int} (h:0<=a/\a<=7):∃x:Fin 8,a=(x.val:Int):=⟨⟨a.toNat,by omega⟩,by simp;omega⟩
theorem HN {a r:Int} (h:0<=a/\a<=7) (h':0<=r/\r<=7):aO .or .i64 a (aO .and .i64 r 7)=cx a r:=by
 have key:∀x y:Fin 8,aO .or .i64 (x.val:Int) (aO .and .i64 (y.val:Int) 7)=cx (x.val:Int) (y.val:Int):=by decide+kernel
 obtain⟨x,rfl⟩:=sG h;obtain⟨y,rfl⟩:=sG h';exact key x y
theorem IZ {a r:Int} (h:0<=a/\a<=1) (h':0<=r/\r<=7):aO .or .i64 a (aO .and .i64 r 1)=cx a (r.tmod 2):=by
 have key:∀x y:Fin 8,x.val<=1->aO .or .i64 (x.val:Int) (aO .and .i64 (y.val:Int) 1)=cx (x.val:Int) ((y.val:Int).tmod 2):=by decide+kernel
 obtain⟨x,rfl⟩:=sG (a:=a) (by omega)
 obtain⟨y,rfl⟩:=sG h';exact key x y (by omega)
theorem Gd {r:Int} (h':0<=r/\r<=7):aO .or .i64 0 (aO .and .i64 r 0)=0:=by
 have key:∀y:Fin 8,aO .or .i64 0 (aO .and .i64 (y.val:Int) 0)=0:=by decide+kernel
 obtain⟨y,rfl⟩:=sG h';exact key y
theorem wR {a b:Int} (h:0<=a/\a<=7) (h':0<=b/\b<=7):decide (aO .andNot .i64 b a=0)=decide (cx a b=a):=by
 have key:∀x y:Fin 8,decide (aO .andNot .i64 (y.val:Int) (x.val:Int)=0)=decide (cx (x.val:Int) (y.val:Int)=(x.val:Int)):=by decide+kernel
 obtain⟨x,rfl⟩:=sG h;obtain⟨y,rfl⟩:=sG h';exact key x y
def eW (k:Key):aZ:=⟨0,⟨#[]⟩,k,void,void⟩
def fG (n:Int):aZ:=⟨0,⟨#[]⟩,void,void,dv n⟩
def gq (s:ByteArray):aZ:=⟨0,s,void,void,void⟩
def eY (e:Int):aZ:=⟨e,⟨#[]⟩,void,void,void⟩
def er (k:Key):Key:=⟨2,k.oid,k.count,0,0,0⟩
def aP (m:aZ):Int:=if 0<=m.k2.value/\m.k2.value<=2147483647 then m.k2.value else -1
def eT (b:Bool):Int:=if b then 1 else 0
def sX (n:Int):Int:=imax 0 (lW 32 (64-n))
abbrev FH:=Int×aZ×List Obj
def gC (L:List Obj) (k:Key) (m:aZ):FH:=
 if m.code=1 then(bF L k (aP m),eW (aC L k (aP m)),L)
 else if m.code=2 then(bk L k (aP m) m.k0,eW (c8 L k (aP m) m.k0),cG L k (aP m) m.k0)
 else if m.code=3 then(aJ L k 2 true,ey,fe L k)
 else if m.code=4 then(bZ L k m.k0,ey,eA L k m.k0)
 else if m.code=5 then(if 0<=m.k2.value/\m.k2.value<=7 then 0 else 2,eW (jR k m.k2.value),L)
 else(if k.rights=0 then 0 else 191,eW ⟨5,k.oid,k.count,0,0,0⟩,L)
def gd (L:List Obj) (k:Key) (m:aZ):FH:=
 if m.code=1 then(bQ L k (aP m) (sX (aP m)),gq (ec L k (aP m) (sX (aP m))),L)
 else if m.code=2 then(cJ L k (aP m) m.data,ey,ew L k (aP m) m.data)
 else if m.code=3 then(bq L k true,ey,eL L k)
 else if m.code=4 then(cL L k m.k0,ey,e9 L k m.k0)
 else(if 0<=m.k2.value/\m.k2.value<=7 then 0 else 2,eW (jR k m.k2.value),L)
def gJ (L:List Obj) (k:Key) (m:aZ):FH:=
 if m.code=1 then(cw L k 1,eW (bS L k 1),eO L k 1)
 else if m.code=2 then(cw L k 2,eW (bS L k 2),eO L k 2)
 else if m.code=3 then(dA L k m.k0,ey,gA L k m.k0)
 else if m.code=4 then(bN L k (aP m),eW (bJ L k (aP m)),bc L k (aP m))
 else if m.code=5 then(aS L k,fG (eT (kV L k m.k0)),L)
 else(aS L k,fG (gX L k),iu L k)
def dS (L:List Obj) (k:Key):Key:=aC L (er k) 0
def fB (L:List Obj) (k:Key) (m:aZ):FH:=
 if m.code=1 then(if aP m<0\/11<aP m then 4 else bF L (er k) (aP m+4),eW (aC L (er k) (aP m+4)),L)
 else if m.code=2 then(if aP m<0\/11<aP m then 4 else bk L (er k) (aP m+4) m.k0,eW (c8 L (er k) (aP m+4) m.k0),if aP m<0\/11<aP m then L else cG L (er k) (aP m+4) m.k0)
 else if m.code=3 then(0,eW ⟨6,k.oid,k.count,0,0,m.k2.value⟩,L)
 else if m.code=4 then(0,fG (xX L k.oid),L)
 else if m.code=5 then(ev L k.oid (aP m),ey,jm L k.oid (aP m))
 else if m.code=6 then(if b9 L (dS L k) m.k2.value 32=0 then(if bU L (dS L k) m.k2.value 32 false=0 then 0 else 1000+bU L (dS L k) m.k2.value 32 false)else b9 L (dS L k) m.k2.value 32,gq (nz L (dS L k) m.k2.value 32),L)
 else(if b9 L (dS L k) m.k2.value (dK m.data)=0 then(if bU L (dS L k) m.k2.value (dK m.data) true=0 then 0 else 1000+bU L (dS L k) m.k2.value (dK m.data) true)else b9 L (dS L k) m.k2.value (dK m.data),ey,j3 L (dS L k) m.k2.value m.data)
def cI (kind:Int):Int:=if kind=1 then 1 else if kind=2 then 6 else if kind=3 then 5 else if kind=4 then 6 else if kind=5 then 7 else if kind=8 then 3 else if kind=9\/kind=10 then 1 else 0
def du (kind c:Int):Bool:=
 if kind=2\/kind=3 then decide (c=1)||decide (c=2)||decide (c=5)else if kind=4 then decide (c=4)
 else if kind=5 then decide (1<=c/\c<=3)||decide (5<=c/\c<=7)else false
def dR (L:List Obj) (now:Int) (k:Key) (m:aZ):FH:=
 if k.kind=1 then(0,fG k.value,L)
 else if k.kind=2 then gC L k m
 else if k.kind=3 then gd L k m
 else if k.kind=4 then gJ L k m
 else if k.kind=5 then fB L k m
 else if k.kind=8 then(0,if m.code=1 then fG m.k0.kind else if m.code=2 then fG (eT (cT m.k0 m.k1))else fG m.k0.rights,L)
 else if k.kind=9 then(0,fG now,L)
 else(0,ey,L)
def cr (L:List Obj) (now:Int) (k:Key) (m:aZ):FH:=
 if k.kind=0 then(190,ey,L)
 else if m.code=0 then(0,fG k.kind,L)
 else if m.code<1\/cI k.kind<m.code\/(du k.kind m.code=true/\m.k2.kind≠1)then(240,ey,L)
 else dR L now k m
def cF (L:List Obj) (now:Int) (k:Key) (m:aZ):aZ:=if(cr L now k m).1=0 then(cr L now k m).2.1 else eY (cr L now k m).1
def dg (L:List Obj) (now:Int) (k:Key) (m:aZ):List Obj:=(cr L now k m).2.2
def aD (L:List Obj) (now:Int) (k:Key) (m:aZ):aZ×List Obj:=(cF L now k m,dg L now k m)
def kk (c:Int) (k:Key):Key:=⟨c,k.oid,k.count,k.call,k.rights,k.value⟩
def mm (c:Int) (m:aZ):aZ:=⟨c,m.data,m.k0,m.k1,m.k2⟩
def eB:ByteArray:=⟨#[]⟩
def fU (c:V) (m:aZ) (n:Int) (kd:V) (k:Key):V:= .ag [.ag [c,.st m.data,.ag [.key m.k0,.key m.k1,.key m.k2]],.lp 1 0,.it .i64 n,.ag [kd,.it .i64 k.oid,.it .i64 k.count,.it .i64 k.call,.it .i64 k.rights,.it .i64 k.value]]
def kO (A:aZ×List Obj) (v:V) (r:List aw):Prop:=
 match wq v with
 |some x=>match aj r 1 with
  | .store t e M=>if t==tS&&e==eS then(x,M)=A else False
  |_=>False
 |none=>False
theorem Pv {A:aZ×List Obj} {v:V} {r:List aw} (h:kO A v r):wh (tH A.1) v r/\aj r 1= .store tS eS A.2:=by
 unfold kO at h;split at h
 case h_2=>exact h.elim
 rename_i x hx;split at h
 case h_2=>exact h.elim
 rename_i hr;split at h
 case isFalse=>exact h.elim
 rename_i hc;simp only[Th,Tj]at hc;obtain⟨rfl,rfl⟩:=hc;subst h;obtain⟨a,b⟩:=yY v x hx;have ht:bH v=false:=by cases v<;>first|rfl|simp[wq]at hx
 exact⟨fun J K=>⟨a J,fun h=>eJ (b K h),ht⟩,hr⟩
def qJ (r:FH):aZ×List Obj:=(if r.1=0 then r.2.1 else eY r.1,r.2.2)
theorem Dl {L:List Obj} {n:Int} {k:Key} {m:aZ} {c:Int} (hc:1<=c/\c<=7):aD L n (kk 5 k) (mm c m)=if du 5 c=true/\m.k2.kind≠1 then(eY 240,L)else qJ (fB L (kk 5 k) (mm c m)):=by
 have h0:¬c=0:=by omega
 have h1:¬(c<1\/cI 5<c):=by have:cI 5=7:=by decide
                            omega
 have e1:(kk 5 k).kind=5:=rfl;have e2:(mm c m).code=c:=rfl;have e3:(mm c m).k2=m.k2:=rfl;have hb:dR L n (kk 5 k) (mm c m)=fB L (kk 5 k) (mm c m):=by unfold dR;rw[e1];rfl
 have hr:cr L n (kk 5 k) (mm c m)=if du 5 c=true/\m.k2.kind≠1 then(240,ey,L)else fB L (kk 5 k) (mm c m):=by
  unfold cr;rw[e1,e2,e3,Tn (by omega),Tn h0,hb]
  by_cases h:du 5 c=true/\m.k2.kind≠1
  ·rw[To (.inr (.inr h)),To h]
  ·rw[Tn (fun hh=>by rcases hh with hh|hh|hh;exact h1 (.inl hh);exact h1 (.inr hh);exact h hh),Tn h]
 unfold aD cF dg;rw[hr];by_cases h:du 5 c=true/\m.k2.kind≠1
 ·simp only[To h];rfl
 ·simp only[Tn h];rfl
theorem FA {L:List Obj}:∀(n:Nat) (w:Wk),0<=(JX L n w).kd/\(JX L n w).kd<=4
 |0,w=>by simp[JX]
 |n+1,w=>by
  unfold JX;split
  ·split<;>simp
  ·split
   ·split
    ·rename_i r heq;unfold jG at heq;split at heq
     ·simp at heq;rw[<-heq];simp
     ·split at heq
      ·split at heq
       ·simp at heq
       ·simp at heq;rw[<-heq];simp
      ·simp at heq;rw[<-heq];simp
    ·exact FA n _
   ·simp
theorem Ns {L:List Obj} {k:Key} {a n:Int} {w:Bool}:0<=bU L k a n w/\bU L k a n w<=6:=by
 have h:0<=(ar L k a).kd/\(ar L k a).kd<=4:=by
  unfold ar;split
  ·exact FA _ _
  ·simp[Qh]
 unfold bU;grind
def xi (L:List Obj) (n:Int) (k:Key) (m:aZ):Bool:=decide (0<=n)&&NA L m&&eH L k
def fu (L:List Obj) (n:Int) (k:Key) (m:aZ):Int:=
 if aE L=0 then 1 else if xi L n k m=false then 2 else if(ae L k).kind=6\/(ae L k).kind=7 then 241 else 0
def bX (L:List Obj) (n:Int) (k:Key) (m:aZ):aZ:=if fu L n k m=0 then cF L n (ae L k) (qY L m)else ey
def gP (L:List Obj) (n:Int) (k:Key) (m:aZ):Bool:=decide (fu L n k m=0)&&decide ((ae L k).kind=10)&&decide (m.code=1)
def jl (L:List Obj) (n:Int) (k:Key) (m:aZ):List Obj:=if fu L n k m=0 then dg L n (ae L k) (qY L m)else L
def JE:Ct:=EY (cO sA (cO kA na)) (fun _=>none) fun x=> .bo (eH (BK x.1) x.2.1)
def NM:my (Int×Key×aZ×Unit):=cO iA (cO kA (cO mA na))
theorem LU:ji NM:=aY j6 (aY mF (aY QD fz))
def Se:nD:=RU (Np NM) (fun x=>az x.2.2.1.data) (fun L x=>an L/\az x.2.2.1.data) (fun L x=> .tp [tH (bX L x.1 x.2.1 x.2.2.1),.bo (gP L x.1 x.2.1 x.2.2.1),.it .i64 (fu L x.1 x.2.1 x.2.2.1)]) fun L x=>jl L x.1 x.2.1 x.2.2.1
def Ny (L:List Obj) (k:Key) (m:aZ):Prop:=an L/\az m.data/\aB k=true
def MU:nD:=fun args res K=>
 match args with
 | [a]=>match a with
   | .lp j off=>if off==0 then match aj res j with
     | .blk t c=>if t==lX then match c with
       | .ag cl=>match cl with
         | [mv,sv,nv,kv]=>match wq mv with
           |some m=>match sv with
            | .lp i o2=>if o2==0&& !(i==j)then match rI .i64 nv with
              |some n=>match rK kv with
               |some k=>match aj res i with
                | .store t2 e L=>if t2==tS&&e==eS then Ny L k m/\K (tH (cF L n k m)) (bG res i (.store tS eS (dg L n k m)))else False
                |_=>False
               |none=>False
              |none=>False
              else False
            |_=>False
           |none=>False
         |_=>False
       |_=>False
       else False
     |_=>False
     else False
   |_=>False
 |_=>False
theorem pP {L:List Obj} {k:Key}:aB (ae L k)=true:=by
 unfold ae;split
 ·rfl
 ·rename_i h;simp only[Bool.or_eq_true,not_or,Bool.not_eq_true',Bool.not_eq_false]at h;exact h.1.2
theorem nV {k:IntKind} {v:V} {n:Int} (h:rI k v=some n):jr v=true:=by
 cases v<;>first|rfl|simp[rI,toInt]at h
theorem JG {v:V} {s:ByteArray} (h:ER v=some s):jr v=true:=by
 cases v<;>first|rfl|simp[ER]at h
theorem yR {v:V} {k:Key} (h:rK v=some k):jr v=true:=by
 unfold rK at h;split at h
 ·rfl
 ·split at h
  case h_2=>simp at h
  repeat' (split at h<;>try(simp at h;done))
  rename_i h1 _ _ h2 _ _ h3 _ _ h4 _ _ h5 _ _ h6;simp[jr,km,nV h1,nV h2,nV h3,nV h4,nV h5,nV h6]
 ·simp at h
theorem G2 {v:V} {m:aZ} (h:wq v=some m):jr v=true:=by
 unfold wq at h;split at h
 case h_2=>simp at h
 split at h
 case h_2=>simp at h
 split at h
 case h_2=>simp at h
 rename_i hn;split at h
 case h_2=>simp at h
 rename_i hs;split at h
 case h_2=>simp at h
 split at h
 case h_2=>simp at h
 split at h
 case h_2=>simp at h
 rename_i hk;split at h
 case h_2=>simp at h
 rename_i hk';split at h<;>simp only[Tf,reduceCtorEq]at h
 rename_i hk'';simp[jr,km,nV hn,JG hs,yR hk,yR hk',yR hk'']
theorem Bb {P:Program} {f:Nat} {K KP:V->List aw->Prop} {t:Nat} {c c':V} {r:aw} (hr:r≠ .yet) (hc:∀J,cells J c=cells J c') (hc':∀K,ok K c->ok K c') (hct:bH c'=false)
  (h:ai P f [.lp 0 0] [.ro (.blk t c'),r] K KP):ai P f [.lp 0 0] [.ro (.blk t c),r] K KP:=by
 have hk:∀i (x:V),known [.ro (.blk t x),r] i↔i=0\/i=1:=fun i x=>by
  unfold known;rcases i with _|_|i<;>simp[aj,hr]
 have hkk:∀i (x y:V),known [.ro (.blk t x),r] i->known [.ro (.blk t y),r] i:=fun i x y h=>(hk i y).2 ((hk i x).1 h)
 refine h.tE fun J fps w0 F0 w hH=>⟨J,fps,hH.weaken fun i hi=>⟨hkk i _ _ hi,fun fp hh=>?_⟩,Env.aW.refl _ _,fun i hi=>hkk i _ _ hi⟩
 rcases(hk i _).1 hi with rfl|rfl
 ·obtain⟨fp',⟨h1,h2,h3,h4⟩,h5⟩:=hh;exact⟨fp',⟨hc' _ (cE (fun i hi=>hkk i _ _ hi) _ h1),hct,h3,by rw[<-hc];exact h4⟩,h5⟩
 ·exact aw.lG _ hh fun i hi=>hkk i _ _ hi
theorem vX {P:Program} {f:Nat} {K KP:V->List aw->Prop} {c c' d d':V} {m:aZ} {n:Int} {k:Key} {r:aw} (hr:r≠ .yet) (hc:∀J,den J c=den J c') (hc':∀K,ok K c->ok K c') (hct:bH c'=false) (hd:∀J,den J d=den J d') (hd':∀K,ok K d->ok K d') (hdt:bH d'=false)
  (h:ai P f [.lp 0 0] [.ro (.blk lX (fU c' m n d' k)),r] K KP):ai P f [.lp 0 0] [.ro (.blk lX (fU c m n d k)),r] K KP:=by
 refine Bb hr (fun J=>by simp only[cells,fU,den,aR,hc,hd]) (fun K h1=>?_) rfl h
 obtain⟨⟨⟨⟨x1,x2⟩,_⟩,y,z,⟨⟨u1,u2⟩,_⟩,_⟩,v⟩:=h1;exact⟨⟨⟨⟨hc' _ x1,x2⟩,by cases c'<;>first| (simp[pG];done)|simp[bH]at hct⟩,y,z,⟨⟨hd' _ u1,u2⟩,by cases d'<;>first| (simp[pG];done)|simp[bH]at hdt⟩,trivial⟩,by simp[pG]⟩
theorem Jr {P:Program} {f:Nat} {K KP:V->List aw->Prop} {mv nv kv:V} {m:aZ} {n:Int} {k:Key} {r:aw} (hr:r≠ .yet) (hm:wq mv=some m) (hn:rI .i64 nv=some n) (hk:rK kv=some k)
  (h:ai P f [.lp 0 0] [.ro (.blk lX (fU (.it .i64 m.code) m n (.it .i64 k.kind) k)),r] K KP):ai P f [.lp 0 0] [.ro (.blk lX (.ag [mv,.lp 1 0,nv,kv])),r] K KP:=by
 obtain⟨m1,m2⟩:=yY _ _ hm;obtain⟨n1,n2⟩:=fF .i64 _ _ hn;obtain⟨k1,k2⟩:=fO _ _ hk;refine Bb hr (fun J=>?_) (fun K h1=>?_) rfl h
 ·simp only[cells,fU,den,aR,m1 J,n1 J,k1 J,tH,Value.cells,cC,i64];simp
 ·obtain⟨⟨x,y,z,u,_⟩,_⟩:=h1;obtain⟨a1,a2,a3,a4,a5,a6⟩:=(k2 K u:k.wf);exact⟨⟨eJ (m2 K x),y,n2 K z,⟨⟨a1,a2,a3,a4,a5,a6,trivial⟩,by simp[pG]⟩,trivial⟩,by simp[pG,tH]⟩
def oc (a b:Int) (k:Key) (m:aZ):Bool:=decide (k.kind=a)&&decide (m.code=b)
theorem uy {c:Int} {k:Key} (h:k.kind=c):kk c k=k:=by subst h;rfl
theorem Dg {c:Int} {m:aZ} (h:m.code=c):mm c m=m:=by subst h;rfl
def RO (nid:Nat):V:= .mp nid
def Dk (nid:Nat):List aw:= [.mq [[1,1],[2,1],[2,2],[2,3],[2,4],[2,5],[2,6],[3,1],[3,2],[3,3],[3,4],[3,5],[4,1],[4,2],[4,3],[4,4],[4,5],[4,6],[5,1],[5,2],[5,3],[5,4],[5,5],[5,6],[5,7],[8,1],[8,2],[8,3],[9,1],[10,1]] [.fn 59 [],.fn 61 [],.fn 65 [],.fn 67 [],.fn 70 [],.fn 72 [],.fn 73 [],.fn 74 [],.fn 75 [],.fn 77 [],.fn 79 [],.fn 72 [],.fn 149 [.lp (nid+1) 0],.fn 149 [.lp (nid+1+1) 0],.fn 82 [],.fn 84 [],.fn 86 [],.fn 87 [],.fn 88 [],.fn 91 [],.fn 92 [],.fn 94 [],.fn 95 [],.fn 97 [],.fn 98 [],.fn 99 [],.fn 100 [],.fn 104 [],.fn 106 [],.fn 107 []],.blk 44 (.ci .i64 1),.blk 44 (.ci .i64 2)]
end Go.Sx
