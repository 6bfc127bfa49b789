import Derived.Test.YtlblcfaclmpekaaGreatSQ
import Derived.Test.YtlblcfaclmpekaaGreatSW
import Derived.Test.YtlblcfaclmpekaaGreatSpB
set_option linter.unusedSimpArgs false
set_option linter.unusedVariables false
namespace Go.Sx
def mw:Nat:=179
def nr (k:Key) (r:Int):Key:=if k.kind=2 then cg k (je k.rights r)else if k.kind=3 then cg k (je k.rights (r.tmod 2))else k
def uC (k:Key) (r:Int):Prop:=aP k=true/\0<=r/\r<=7
def Q4:Ct:=BW (bD kA (bD iA kc)) (fun x=>some (uC x.1 x.2.1)) fun x=> .tp [.key (nr x.1 x.2.1),.ci .i64 0]
def nM (a b:Key):Bool:=aP a&&aP b&&(decide (a.kind=0)||Gi a b||(decide (a.kind=2)||decide (a.kind=3))&&decide (a.kind=b.kind)&&decide (a.oid=b.oid)&&decide (a.count=b.count)&&decide (je a.rights b.rights=a.rights))
def PZ:Ct:=Qa rK rK fun a b=> .bo (nM a b)
theorem CR {a:Int} (h:0<=a/\a<=7):∃x:Fin 8,a=(x.val:Int):=⟨⟨a.toNat,by omega⟩,by simp;omega⟩
theorem JX {a r:Int} (h:0<=a/\a<=7) (h':0<=r/\r<=7):aS .or .i64 a (aS .and .i64 r 7)=je a r:=by
 have key:∀x y:Fin 8,aS .or .i64 (x.val:Int) (aS .and .i64 (y.val:Int) 7)=je (x.val:Int) (y.val:Int):=by decide+kernel
 obtain⟨x,rfl⟩:=CR h;obtain⟨y,rfl⟩:=CR h';exact key x y
theorem J2 {a r:Int} (h:0<=a/\a<=1) (h':0<=r/\r<=7):aS .or .i64 a (aS .and .i64 r 1)=je a (r.tmod 2):=by
 have key:∀x y:Fin 8,x.val<=1->aS .or .i64 (x.val:Int) (aS .and .i64 (y.val:Int) 1)=je (x.val:Int) ((y.val:Int).tmod 2):=by decide+kernel
 obtain⟨x,rfl⟩:=CR (a:=a) (by omega)
 obtain⟨y,rfl⟩:=CR h';exact key x y (by omega)
theorem Jb {r:Int} (h':0<=r/\r<=7):aS .or .i64 0 (aS .and .i64 r 0)=0:=by
 have key:∀y:Fin 8,aS .or .i64 0 (aS .and .i64 (y.val:Int) 0)=0:=by decide+kernel
 obtain⟨y,rfl⟩:=CR h';exact key y
theorem xE {a b:Int} (h:0<=a/\a<=7) (h':0<=b/\b<=7):decide (aS .andNot .i64 b a=0)=decide (je a b=a):=by
 have key:∀x y:Fin 8,decide (aS .andNot .i64 (y.val:Int) (x.val:Int)=0)=decide (je (x.val:Int) (y.val:Int)=(x.val:Int)):=by decide+kernel
 obtain⟨x,rfl⟩:=CR h;obtain⟨y,rfl⟩:=CR h';exact key x y
def fm (k:Key):bd:=⟨0,⟨#[]⟩,k,void,void⟩
def fL (n:Int):bd:=⟨0,⟨#[]⟩,void,void,cP n⟩
def gM (s:ByteArray):bd:=⟨0,s,void,void,void⟩
def fb (e:Int):bd:=⟨e,⟨#[]⟩,void,void,void⟩
def eR (k:Key):Key:=⟨2,k.oid,k.count,0,0,0⟩
def aX (m:bd):Int:=if 0<=m.k2.value/\m.k2.value<=2147483647 then m.k2.value else -1
def eP (b:Bool):Int:=if b then 1 else 0
def tQ (n:Int):Int:=imax 0 (qa 32 (64-n))
abbrev N2:=Int×bd×List Obj
def iq (L:List Obj) (k:Key) (m:bd):N2:=
 if m.code=1 then(cA L k (aX m),fm (aH L k (aX m)),L)
 else if m.code=2 then(bq L k (aX m) m.k0,fm (eh L k (aX m) m.k0),dC L k (aX m) m.k0)
 else if m.code=3 then(aM L k 2 true,dV,fS L k)
 else if m.code=4 then(b6 L k m.k0,dV,fq L k m.k0)
 else if m.code=5 then(if 0<=m.k2.value/\m.k2.value<=7 then 0 else 2,fm (nr k m.k2.value),L)
 else(if k.rights=0 then 0 else 191,fm ⟨5,k.oid,k.count,0,0,0⟩,L)
def gO (L:List Obj) (k:Key) (m:bd):N2:=
 if m.code=1 then(bR L k (aX m) (tQ (aX m)),gM (dN L k (aX m) (tQ (aX m))),L)
 else if m.code=2 then(cM L k (aX m) m.data,dV,eW L k (aX m) m.data)
 else if m.code=3 then(bn L k true,dV,fK L k)
 else if m.code=4 then(cL L k m.k0,dV,fN L k m.k0)
 else(if 0<=m.k2.value/\m.k2.value<=7 then 0 else 2,fm (nr k m.k2.value),L)
def g8 (L:List Obj) (k:Key) (m:bd):N2:=
 if m.code=1 then(cZ L k 1,fm (ei L k 1),fz L k 1)
 else if m.code=2 then(cZ L k 2,fm (ei L k 2),fz L k 2)
 else if m.code=3 then(du L k m.k0,dV,iJ L k m.k0)
 else if m.code=4 then(bS L k (aX m),fm (bW L k (aX m)),bg L k (aX m))
 else if m.code=5 then(aV L k,fL (eP (lH L k m.k0)),L)
 else(aV L k,fL (ir L k),jo L k)
def eG (L:List Obj) (k:Key):Key:=aH L (eR k) 0
def fQ (L:List Obj) (k:Key) (m:bd):N2:=
 if m.code=1 then(if aX m<0\/11<aX m then 4 else cA L (eR k) (aX m+4),fm (aH L (eR k) (aX m+4)),L)
 else if m.code=2 then(if aX m<0\/11<aX m then 4 else bq L (eR k) (aX m+4) m.k0,fm (eh L (eR k) (aX m+4) m.k0),if aX m<0\/11<aX m then L else dC L (eR k) (aX m+4) m.k0)
 else if m.code=3 then(0,fm ⟨6,k.oid,k.count,0,0,m.k2.value⟩,L)
 else if m.code=4 then(0,fL (bP L k.oid),L)
 else if m.code=5 then(eo L k.oid (aX m),dV,hU L k.oid (aX m))
 else if m.code=6 then(if ck L (eG L k) m.k2.value 32=0 then(if b8 L (eG L k) m.k2.value 32 false=0 then 0 else 1000+b8 L (eG L k) m.k2.value 32 false)else ck L (eG L k) m.k2.value 32,gM (me L (eG L k) m.k2.value 32),L)
 else(if ck L (eG L k) m.k2.value (ca m.data)=0 then(if b8 L (eG L k) m.k2.value (ca m.data) true=0 then 0 else 1000+b8 L (eG L k) m.k2.value (ca m.data) true)else ck L (eG L k) m.k2.value (ca m.data),dV,mS L (eG L k) m.k2.value m.data)
def cJ (kind:Int):Int:=if kind=1 then 1 else if kind=2 then 6 else if kind=3 then 5 else if kind=4 then 6 else if kind=5 then 7 else if kind=8 then 3 else if kind=9\/kind=10 then 1 else 0
def dr (kind c:Int):Bool:=
 if kind=2\/kind=3 then decide (c=1)||decide (c=2)||decide (c=5)else if kind=4 then decide (c=4)
 else if kind=5 then decide (1<=c/\c<=3)||decide (5<=c/\c<=7)else false
def dW (L:List Obj) (now:Int) (k:Key) (m:bd):N2:=
 if k.kind=1 then(0,fL k.value,L)
 else if k.kind=2 then iq L k m
 else if k.kind=3 then gO L k m
 else if k.kind=4 then g8 L k m
 else if k.kind=5 then fQ L k m
 else if k.kind=8 then(0,if m.code=1 then fL m.k0.kind else if m.code=2 then fL (eP (nM m.k0 m.k1))else fL m.k0.rights,L)
 else if k.kind=9 then(0,fL now,L)
 else(0,dV,L)
def cY (L:List Obj) (now:Int) (k:Key) (m:bd):N2:=
 if k.kind=0 then(190,dV,L)
 else if m.code=0 then(0,fL k.kind,L)
 else if m.code<1\/cJ k.kind<m.code\/(dr k.kind m.code=true/\m.k2.kind≠1)then(240,dV,L)
 else dW L now k m
def cU (L:List Obj) (now:Int) (k:Key) (m:bd):bd:=if(cY L now k m).1=0 then(cY L now k m).2.1 else fb (cY L now k m).1
def di (L:List Obj) (now:Int) (k:Key) (m:bd):List Obj:=(cY L now k m).2.2
def aD (L:List Obj) (now:Int) (k:Key) (m:bd):bd×List Obj:=(cU L now k m,di L now k m)
def kk (c:Int) (k:Key):Key:=⟨c,k.oid,k.count,k.call,k.rights,k.value⟩
def mm (c:Int) (m:bd):bd:=⟨c,m.data,m.k0,m.k1,m.k2⟩
def eB:ByteArray:=⟨#[]⟩
def fZ (c:V) (m:bd) (n:Int) (kd:V) (k:Key):V:= .ag [.ag [c,.st m.data,.ag [.key m.k0,.key m.k1,.key m.k2]],.lp 1 0,.it .i64 n,.ag [kd,.it .i64 k.oid,.it .i64 k.count,.it .i64 k.call,.it .i64 k.rights,.it .i64 k.value]]
def kO (A:bd×List Obj) (v:V) (r:List aA):Prop:=
 match wW v with
 |some x=>match ak r 1 with
  | .store t e M=>if t==tS&&e==eS then(x,M)=A else False
  |_=>False
 |none=>False
theorem OV {A:bd×List Obj} {v:V} {r:List aA} (h:kO A v r):vh (qv A.1) v r/\ak r 1= .store tS eS A.2:=by
 unfold kO at h;split at h
 case h_2=>exact h.elim
 rename_i x hx;split at h
 case h_2=>exact h.elim
 rename_i hr;split at h
 case isFalse=>exact h.elim
 rename_i hc;simp only[US,UU]at hc;obtain⟨rfl,rfl⟩:=hc;subst h;obtain⟨a,b⟩:=yQ v x hx;have ht:bK v=false:=by cases v<;>first|rfl|simp[wW]at hx
 exact⟨fun J K=>⟨a J,fun h=>ey (b K h),ht⟩,hr⟩
def re (r:N2):bd×List Obj:=(if r.1=0 then r.2.1 else fb r.1,r.2.2)
theorem Ep {L:List Obj} {n:Int} {k:Key} {m:bd} {c:Int} (hc:1<=c/\c<=7):aD L n (kk 5 k) (mm c m)=if dr 5 c=true/\m.k2.kind≠1 then(fb 240,L)else re (fQ L (kk 5 k) (mm c m)):=by
 have h0:¬c=0:=by omega
 have h1:¬(c<1\/cJ 5<c):=by have:cJ 5=7:=by decide
                            omega
 have e1:(kk 5 k).kind=5:=rfl;have e2:(mm c m).code=c:=rfl;have e3:(mm c m).k2=m.k2:=rfl;have hb:dW L n (kk 5 k) (mm c m)=fQ L (kk 5 k) (mm c m):=by unfold dW;rw[e1];rfl
 have hr:cY L n (kk 5 k) (mm c m)=if dr 5 c=true/\m.k2.kind≠1 then(240,dV,L)else fQ L (kk 5 k) (mm c m):=by
  unfold cY;rw[e1,e2,e3,UZ (by omega),UZ h0,hb]
  by_cases h:dr 5 c=true/\m.k2.kind≠1
  ·rw[U0 (.inr (.inr h)),U0 h]
  ·rw[UZ (fun hh=>by rcases hh with hh|hh|hh;exact h1 (.inl hh);exact h1 (.inr hh);exact h hh),UZ h]
 unfold aD cU di;rw[hr];by_cases h:dr 5 c=true/\m.k2.kind≠1
 ·simp only[U0 h];rfl
 ·simp only[UZ h];rfl
theorem HZ {L:List Obj}:∀(n:Nat) (w:Wk),0<=(KX L n w).kd/\(KX L n w).kd<=4
 |0,w=>by simp[KX]
 |n+1,w=>by
  unfold KX;split
  ·split<;>simp
  ·split
   ·split
    ·rename_i r heq;unfold j6 at heq;split at heq
     ·simp at heq;rw[<-heq];simp
     ·split at heq
      ·split at heq
       ·simp at heq
       ·simp at heq;rw[<-heq];simp
      ·simp at heq;rw[<-heq];simp
    ·exact HZ n _
   ·simp
theorem Oc {L:List Obj} {k:Key} {a n:Int} {w:Bool}:0<=b8 L k a n w/\b8 L k a n w<=6:=by
 have h:0<=(aw L k a).kd/\(aw L k a).kd<=4:=by
  unfold aw;split
  ·exact HZ _ _
  ·simp[RE]
 unfold b8;grind
def xn (L:List Obj) (n:Int) (k:Key) (m:bd):Bool:=decide (0<=n)&&gR L m&&bJ L k
def iH (L:List Obj) (n:Int) (k:Key) (m:bd):Int:=
 if ar L=0 then 1 else if xn L n k m=false then 2 else if(ae L k).kind=6\/(ae L k).kind=7 then 241 else 0
def bw (L:List Obj) (n:Int) (k:Key) (m:bd):bd:=if iH L n k m=0 then cU L n (ae L k) (lv L m)else dV
def iu (L:List Obj) (n:Int) (k:Key) (m:bd):Bool:=decide (iH L n k m=0)&&decide ((ae L k).kind=10)&&decide (m.code=1)
def lY (L:List Obj) (n:Int) (k:Key) (m:bd):List Obj:=if iH L n k m=0 then di L n (ae L k) (lv L m)else L
def GW:Ct:=BW (bD sA (bD kA kc)) (fun _=>none) fun x=> .bo (bJ (zY x.1) x.2.1)
def Pt:lQ (Int×Key×bd×Unit):=bD iA (bD kA (bD mA kc))
theorem Mk:ia Pt:=aK fE (aK lZ (aK J3 dP))
def Tk:nf:=Q6 (KC Pt) (fun x=>au x.2.2.1.data) (fun L x=>an L/\au x.2.2.1.data) (fun L x=> .tp [qv (bw L x.1 x.2.1 x.2.2.1),.bo (iu L x.1 x.2.1 x.2.2.1),.it .i64 (iH L x.1 x.2.1 x.2.2.1)]) fun L x=>lY L x.1 x.2.1 x.2.2.1
def Oj (L:List Obj) (k:Key) (m:bd):Prop:=an L/\au m.data/\aP k=true
def Od:nf:=fun args res K=>
 match args with
 | [a]=>match a with
   | .lp j off=>if off==0 then match ak res j with
     | .blk t c=>if t==mw then match c with
       | .ag cl=>match cl with
         | [mv,sv,nv,kv]=>match wW mv with
           |some m=>match sv with
            | .lp i o2=>if o2==0&& !(i==j)then match rI .i64 nv with
              |some n=>match rK kv with
               |some k=>match ak res i with
                | .store t2 e L=>if t2==tS&&e==eS then Oj L k m/\K (qv (cU L n k m)) (bC res i (.store tS eS (di L n k m)))else False
                |_=>False
               |none=>False
              |none=>False
              else False
            |_=>False
           |none=>False
         |_=>False
       |_=>False
       else False
     |_=>False
     else False
   |_=>False
 |_=>False
theorem C3 {L:List Obj} {k:Key}:aP (ae L k)=true:=by
 unfold ae;split
 ·rfl
 ·rename_i h;simp only[Bool.or_eq_true,not_or,Bool.not_eq_true',Bool.not_eq_false]at h;exact h.1.2
theorem pc {k:IntKind} {v:V} {n:Int} (h:rI k v=some n):jM v=true:=by
 cases v<;>first|rfl|simp[rI,toInt]at h
theorem GK {v:V} {s:ByteArray} (h:Ae v=some s):jM v=true:=by
 cases v<;>first|rfl|simp[Ae]at h
theorem zh {v:V} {k:Key} (h:rK v=some k):jM v=true:=by
 unfold rK at h;split at h
 ·rfl
 ·split at h
  case h_2=>simp at h
  repeat' (split at h<;>try(simp at h;done))
  rename_i h1 _ _ h2 _ _ h3 _ _ h4 _ _ h5 _ _ h6;simp[jM,lf,pc h1,pc h2,pc h3,pc h4,pc h5,pc h6]
 ·simp at h
theorem HB {v:V} {m:bd} (h:wW v=some m):jM v=true:=by
 unfold wW at h;split at h
 case h_2=>simp at h
 split at h
 case h_2=>simp at h
 split at h
 case h_2=>simp at h
 rename_i hn;split at h
 case h_2=>simp at h
 rename_i hs;split at h
 case h_2=>simp at h
 split at h
 case h_2=>simp at h
 split at h
 case h_2=>simp at h
 rename_i hk;split at h
 case h_2=>simp at h
 rename_i hk';split at h<;>simp only[UQ,reduceCtorEq]at h
 rename_i hk'';simp[jM,lf,pc hn,GK hs,zh hk,zh hk',zh hk'']
theorem BP {P:Program} {f:Nat} {K KP:V->List aA->Prop} {t:Nat} {c c':V} {r:aA} (hr:r≠ .yet) (hc:∀J,cells J c=cells J c') (hc':∀K,ok K c->ok K c') (hct:bK c'=false)
  (h:aj P f [.lp 0 0] [.ro (.blk t c'),r] K KP):aj P f [.lp 0 0] [.ro (.blk t c),r] K KP:=by
 have hk:∀i (x:V),known [.ro (.blk t x),r] i↔i=0\/i=1:=fun i x=>by
  unfold known;rcases i with _|_|i<;>simp[ak,hr]
 have hkk:∀i (x y:V),known [.ro (.blk t x),r] i->known [.ro (.blk t y),r] i:=fun i x y h=>(hk i y).2 ((hk i x).1 h)
 refine h.uu fun J fps w0 F0 w hH=>⟨J,fps,hH.weaken fun i hi=>⟨hkk i _ _ hi,fun fp hh=>?_⟩,Env.aZ.refl _ _,fun i hi=>hkk i _ _ hi⟩
 rcases(hk i _).1 hi with rfl|rfl
 ·obtain⟨fp',⟨h1,h2,h3,h4⟩,h5⟩:=hh;exact⟨fp',⟨hc' _ (cH (fun i hi=>hkk i _ _ hi) _ h1),hct,h3,by rw[<-hc];exact h4⟩,h5⟩
 ·exact aA.mr _ hh fun i hi=>hkk i _ _ hi
theorem wF {P:Program} {f:Nat} {K KP:V->List aA->Prop} {c c' d d':V} {m:bd} {n:Int} {k:Key} {r:aA} (hr:r≠ .yet) (hc:∀J,den J c=den J c') (hc':∀K,ok K c->ok K c') (hct:bK c'=false) (hd:∀J,den J d=den J d') (hd':∀K,ok K d->ok K d') (hdt:bK d'=false)
  (h:aj P f [.lp 0 0] [.ro (.blk mw (fZ c' m n d' k)),r] K KP):aj P f [.lp 0 0] [.ro (.blk mw (fZ c m n d k)),r] K KP:=by
 refine BP hr (fun J=>by simp only[cells,fZ,den,aT,hc,hd]) (fun K h1=>?_) rfl h
 obtain⟨⟨⟨⟨x1,x2⟩,_⟩,y,z,⟨⟨u1,u2⟩,_⟩,_⟩,v⟩:=h1;exact⟨⟨⟨⟨hc' _ x1,x2⟩,by cases c'<;>first| (simp[qu];done)|simp[bK]at hct⟩,y,z,⟨⟨hd' _ u1,u2⟩,by cases d'<;>first| (simp[qu];done)|simp[bK]at hdt⟩,trivial⟩,by simp[qu]⟩
theorem Ir {P:Program} {f:Nat} {K KP:V->List aA->Prop} {mv nv kv:V} {m:bd} {n:Int} {k:Key} {r:aA} (hr:r≠ .yet) (hm:wW mv=some m) (hn:rI .i64 nv=some n) (hk:rK kv=some k)
  (h:aj P f [.lp 0 0] [.ro (.blk mw (fZ (.it .i64 m.code) m n (.it .i64 k.kind) k)),r] K KP):aj P f [.lp 0 0] [.ro (.blk mw (.ag [mv,.lp 1 0,nv,kv])),r] K KP:=by
 obtain⟨m1,m2⟩:=yQ _ _ hm;obtain⟨n1,n2⟩:=gF .i64 _ _ hn;obtain⟨k1,k2⟩:=h9 _ _ hk;refine BP hr (fun J=>?_) (fun K h1=>?_) rfl h
 ·simp only[cells,fZ,den,aT,m1 J,n1 J,k1 J,qv,Value.cells,c9,i64];simp
 ·obtain⟨⟨x,y,z,u,_⟩,_⟩:=h1;obtain⟨a1,a2,a3,a4,a5,a6⟩:=(k2 K u:k.wf);exact⟨⟨ey (m2 K x),y,n2 K z,⟨⟨a1,a2,a3,a4,a5,a6,trivial⟩,by simp[qu]⟩,trivial⟩,by simp[qu,qv]⟩
def oc (a b:Int) (k:Key) (m:bd):Bool:=decide (k.kind=a)&&decide (m.code=b)
theorem uU {c:Int} {k:Key} (h:k.kind=c):kk c k=k:=by subst h;rfl
theorem Ed {c:Int} {m:bd} (h:m.code=c):mm c m=m:=by subst h;rfl
def Ta (nid:Nat):V:= .mp nid
def Ea (nid:Nat):List aA:= [.mq [[1,1],[2,1],[2,2],[2,3],[2,4],[2,5],[2,6],[3,1],[3,2],[3,3],[3,4],[3,5],[4,1],[4,2],[4,3],[4,4],[4,5],[4,6],[5,1],[5,2],[5,3],[5,4],[5,5],[5,6],[5,7],[8,1],[8,2],[8,3],[9,1],[10,1]] [.fn 143 [],.fn 145 [],.fn 149 [],.fn 151 [],.fn 154 [],.fn 156 [],.fn 157 [],.fn 158 [],.fn 159 [],.fn 161 [],.fn 163 [],.fn 156 [],.fn 210 [.lp (nid+1) 0],.fn 210 [.lp (nid+1+1) 0],.fn 166 [],.fn 168 [],.fn 170 [],.fn 171 [],.fn 172 [],.fn 175 [],.fn 176 [],.fn 178 [],.fn 179 [],.fn 180 [],.fn 181 [],.fn 182 [],.fn 183 [],.fn 187 [],.fn 189 [],.fn 190 []],.blk 70 (.ci .i64 1),.blk 70 (.ci .i64 2)]
end Go.Sx
