import Derived.Test.YtlblcfaclmpekaaGreatSQ
import Derived.Test.YtlblcfaclmpekaaGreatSW
import Derived.Test.YtlblcfaclmpekaaGreatSpB
set_option linter.unusedSimpArgs false
set_option linter.unusedVariables false
namespace Go.Sx
def nb:Nat:=179
def oE (k:Key) (r:Int):Key:=if k.kind=2 then cC k (jx k.rights r)else if k.kind=3 then cC k (jx k.rights (r.tmod 2))else k
def vH (k:Key) (r:Int):Prop:=aN k=true/\0<=r/\r<=7
def QP:Ct:=CP (bE kA (bE iA kz)) (fun x=>some (vH x.1 x.2.1)) fun x=> .tp [.key (oE x.1 x.2.1),.ci .i64 0]
def od (a b:Key):Bool:=aN a&&aN b&&(decide (a.kind=0)||BC a b||(decide (a.kind=2)||decide (a.kind=3))&&decide (a.kind=b.kind)&&decide (a.oid=b.oid)&&decide (a.count=b.count)&&decide (jx a.rights b.rights=a.rights))
def SJ:Ct:=Q8 rK rK fun a b=> .bo (od a b)
theorem Dd {a:Int} (h:0<=a/\a<=7):∃x:Fin 8,a=(x.val:Int):=⟨⟨a.toNat,by omega⟩,by simp;omega⟩
theorem JF {a r:Int} (h:0<=a/\a<=7) (h':0<=r/\r<=7):aT .or .i64 a (aT .and .i64 r 7)=jx a r:=by
 have key:∀x y:Fin 8,aT .or .i64 (x.val:Int) (aT .and .i64 (y.val:Int) 7)=jx (x.val:Int) (y.val:Int):=by decide+kernel
 obtain⟨x,rfl⟩:=Dd h;obtain⟨y,rfl⟩:=Dd h';exact key x y
theorem Mf {a r:Int} (h:0<=a/\a<=1) (h':0<=r/\r<=7):aT .or .i64 a (aT .and .i64 r 1)=jx a (r.tmod 2):=by
 have key:∀x y:Fin 8,x.val<=1->aT .or .i64 (x.val:Int) (aT .and .i64 (y.val:Int) 1)=jx (x.val:Int) ((y.val:Int).tmod 2):=by decide+kernel
 obtain⟨x,rfl⟩:=Dd (a:=a) (by omega)
 obtain⟨y,rfl⟩:=Dd h';exact key x y (by omega)
theorem HL {r:Int} (h':0<=r/\r<=7):aT .or .i64 0 (aT .and .i64 r 0)=0:=by
 have key:∀y:Fin 8,aT .or .i64 0 (aT .and .i64 (y.val:Int) 0)=0:=by decide+kernel
 obtain⟨y,rfl⟩:=Dd h';exact key y
theorem zi {a b:Int} (h:0<=a/\a<=7) (h':0<=b/\b<=7):decide (aT .andNot .i64 b a=0)=decide (jx a b=a):=by
 have key:∀x y:Fin 8,decide (aT .andNot .i64 (y.val:Int) (x.val:Int)=0)=decide (jx (x.val:Int) (y.val:Int)=(x.val:Int)):=by decide+kernel
 obtain⟨x,rfl⟩:=Dd h;obtain⟨y,rfl⟩:=Dd h';exact key x y
def fw (k:Key):bh:=⟨0,⟨#[]⟩,k,void,void⟩
def fU (n:Int):bh:=⟨0,⟨#[]⟩,void,void,c8 n⟩
def ia (s:ByteArray):bh:=⟨0,s,void,void,void⟩
def fq (e:Int):bh:=⟨e,⟨#[]⟩,void,void,void⟩
def eZ (k:Key):Key:=⟨2,k.oid,k.count,0,0,0⟩
def aX (m:bh):Int:=if 0<=m.k2.value/\m.k2.value<=2147483647 then m.k2.value else -1
def fe (b:Bool):Int:=if b then 1 else 0
def u0 (n:Int):Int:=imax 0 (qJ 32 (64-n))
abbrev Ql:=Int×bh×List Obj
def hS (L:List Obj) (k:Key) (m:bh):Ql:=
 if m.code=1 then(cG L k (aX m),fw (aH L k (aX m)),L)
 else if m.code=2 then(bx L k (aX m) m.k0,fw (eC L k (aX m) m.k0),dg L k (aX m) m.k0)
 else if m.code=3 then(aQ L k 2 true,dS,fF L k)
 else if m.code=4 then(cq L k m.k0,dS,eY L k m.k0)
 else if m.code=5 then(if 0<=m.k2.value/\m.k2.value<=7 then 0 else 2,fw (oE k m.k2.value),L)
 else(if k.rights=0 then 0 else 191,fw ⟨5,k.oid,k.count,0,0,0⟩,L)
def gM (L:List Obj) (k:Key) (m:bh):Ql:=
 if m.code=1 then(bY L k (aX m) (u0 (aX m)),ia (dW L k (aX m) (u0 (aX m))),L)
 else if m.code=2 then(cX L k (aX m) m.data,dS,eR L k (aX m) m.data)
 else if m.code=3 then(br L k true,dS,fg L k)
 else if m.code=4 then(cY L k m.k0,dS,fz L k m.k0)
 else(if 0<=m.k2.value/\m.k2.value<=7 then 0 else 2,fw (oE k m.k2.value),L)
def hJ (L:List Obj) (k:Key) (m:bh):Ql:=
 if m.code=1 then(dw L k 1,fw (ez L k 1),fi L k 1)
 else if m.code=2 then(dw L k 2,fw (ez L k 2),fi L k 2)
 else if m.code=3 then(dE L k m.k0,dS,h9 L k m.k0)
 else if m.code=4 then(b7 L k (aX m),fw (ca L k (aX m)),bj L k (aX m))
 else if m.code=5 then(aV L k,fU (fe (mD L k m.k0)),L)
 else(aV L k,fU (iJ L k),jc L k)
def eU (L:List Obj) (k:Key):Key:=aH L (eZ k) 0
def fS (L:List Obj) (k:Key) (m:bh):Ql:=
 if m.code=1 then(if aX m<0\/11<aX m then 4 else cG L (eZ k) (aX m+4),fw (aH L (eZ k) (aX m+4)),L)
 else if m.code=2 then(if aX m<0\/11<aX m then 4 else bx L (eZ k) (aX m+4) m.k0,fw (eC L (eZ k) (aX m+4) m.k0),if aX m<0\/11<aX m then L else dg L (eZ k) (aX m+4) m.k0)
 else if m.code=3 then(0,fw ⟨6,k.oid,k.count,0,0,m.k2.value⟩,L)
 else if m.code=4 then(0,fU (bV L k.oid),L)
 else if m.code=5 then(ey L k.oid (aX m),dS,gZ L k.oid (aX m))
 else if m.code=6 then(if cD L (eU L k) m.k2.value 32=0 then(if cx L (eU L k) m.k2.value 32 false=0 then 0 else 1000+cx L (eU L k) m.k2.value 32 false)else cD L (eU L k) m.k2.value 32,ia (mH L (eU L k) m.k2.value 32),L)
 else(if cD L (eU L k) m.k2.value (cE m.data)=0 then(if cx L (eU L k) m.k2.value (cE m.data) true=0 then 0 else 1000+cx L (eU L k) m.k2.value (cE m.data) true)else cD L (eU L k) m.k2.value (cE m.data),dS,mi L (eU L k) m.k2.value m.data)
def cT (kind:Int):Int:=if kind=1 then 1 else if kind=2 then 6 else if kind=3 then 5 else if kind=4 then 6 else if kind=5 then 7 else if kind=8 then 3 else if kind=9\/kind=10 then 1 else 0
def dI (kind c:Int):Bool:=
 if kind=2\/kind=3 then decide (c=1)||decide (c=2)||decide (c=5)else if kind=4 then decide (c=4)
 else if kind=5 then decide (1<=c/\c<=3)||decide (5<=c/\c<=7)else false
def dU (L:List Obj) (now:Int) (k:Key) (m:bh):Ql:=
 if k.kind=1 then(0,fU k.value,L)
 else if k.kind=2 then hS L k m
 else if k.kind=3 then gM L k m
 else if k.kind=4 then hJ L k m
 else if k.kind=5 then fS L k m
 else if k.kind=8 then(0,if m.code=1 then fU m.k0.kind else if m.code=2 then fU (fe (od m.k0 m.k1))else fU m.k0.rights,L)
 else if k.kind=9 then(0,fU now,L)
 else(0,dS,L)
def cZ (L:List Obj) (now:Int) (k:Key) (m:bh):Ql:=
 if k.kind=0 then(190,dS,L)
 else if m.code=0 then(0,fU k.kind,L)
 else if m.code<1\/cT k.kind<m.code\/(dI k.kind m.code=true/\m.k2.kind≠1)then(240,dS,L)
 else dU L now k m
def dq (L:List Obj) (now:Int) (k:Key) (m:bh):bh:=if(cZ L now k m).1=0 then(cZ L now k m).2.1 else fq (cZ L now k m).1
def dG (L:List Obj) (now:Int) (k:Key) (m:bh):List Obj:=(cZ L now k m).2.2
def aD (L:List Obj) (now:Int) (k:Key) (m:bh):bh×List Obj:=(dq L now k m,dG L now k m)
def kk (c:Int) (k:Key):Key:=⟨c,k.oid,k.count,k.call,k.rights,k.value⟩
def mm (c:Int) (m:bh):bh:=⟨c,m.data,m.k0,m.k1,m.k2⟩
def eB:ByteArray:=⟨#[]⟩
def gp (c:V) (m:bh) (n:Int) (kd:V) (k:Key):V:= .ag [.ag [c,.st m.data,.ag [.key m.k0,.key m.k1,.key m.k2]],.lp 1 0,.it .i64 n,.ag [kd,.it .i64 k.oid,.it .i64 k.count,.it .i64 k.call,.it .i64 k.rights,.it .i64 k.value]]
def kO (A:bh×List Obj) (v:V) (r:List aA):Prop:=
 match xR v with
 |some x=>match ar r 1 with
  | .store t e M=>if t==tS&&e==eS then(x,M)=A else False
  |_=>False
 |none=>False
theorem Rn {A:bh×List Obj} {v:V} {r:List aA} (h:kO A v r):vi (rk A.1) v r/\ar r 1= .store tS eS A.2:=by
 unfold kO at h;split at h
 case h_2=>exact h.elim
 rename_i x hx;split at h
 case h_2=>exact h.elim
 rename_i hr;split at h
 case isFalse=>exact h.elim
 rename_i hc;simp only[Xo,Xq]at hc;obtain⟨rfl,rfl⟩:=hc;subst h;obtain⟨a,b⟩:=zI v x hx;have ht:bR v=false:=by cases v<;>first|rfl|simp[xR]at hx
 exact⟨fun J K=>⟨a J,fun h=>ff (b K h),ht⟩,hr⟩
def rR (r:Ql):bh×List Obj:=(if r.1=0 then r.2.1 else fq r.1,r.2.2)
theorem EL {L:List Obj} {n:Int} {k:Key} {m:bh} {c:Int} (hc:1<=c/\c<=7):aD L n (kk 5 k) (mm c m)=if dI 5 c=true/\m.k2.kind≠1 then(fq 240,L)else rR (fS L (kk 5 k) (mm c m)):=by
 have h0:¬c=0:=by omega
 have h1:¬(c<1\/cT 5<c):=by have:cT 5=7:=by decide
                            omega
 have e1:(kk 5 k).kind=5:=rfl;have e2:(mm c m).code=c:=rfl;have e3:(mm c m).k2=m.k2:=rfl;have hb:dU L n (kk 5 k) (mm c m)=fS L (kk 5 k) (mm c m):=by unfold dU;rw[e1];rfl
 have hr:cZ L n (kk 5 k) (mm c m)=if dI 5 c=true/\m.k2.kind≠1 then(240,dS,L)else fS L (kk 5 k) (mm c m):=by
  unfold cZ;rw[e1,e2,e3,Xu (by omega),Xu h0,hb]
  by_cases h:dI 5 c=true/\m.k2.kind≠1
  ·rw[Xv (.inr (.inr h)),Xv h]
  ·rw[Xu (fun hh=>by rcases hh with hh|hh|hh;exact h1 (.inl hh);exact h1 (.inr hh);exact h hh),Xu h]
 unfold aD dq dG;rw[hr];by_cases h:dI 5 c=true/\m.k2.kind≠1
 ·simp only[Xv h];rfl
 ·simp only[Xu h];rfl
theorem JC {L:List Obj}:∀(n:Nat) (w:Wk),0<=(MB L n w).kd/\(MB L n w).kd<=4
 |0,w=>by simp[MB]
 |n+1,w=>by
  unfold MB;split
  ·split<;>simp
  ·split
   ·split
    ·rename_i r heq;unfold kJ at heq;split at heq
     ·simp at heq;rw[<-heq];simp
     ·split at heq
      ·split at heq
       ·simp at heq
       ·simp at heq;rw[<-heq];simp
      ·simp at heq;rw[<-heq];simp
    ·exact JC n _
   ·simp
theorem Qo {L:List Obj} {k:Key} {a n:Int} {w:Bool}:0<=cx L k a n w/\cx L k a n w<=6:=by
 have h:0<=(ay L k a).kd/\(ay L k a).kd<=4:=by
  unfold ay;split
  ·exact JC _ _
  ·simp[TM]
 unfold cx;grind
def yR (L:List Obj) (n:Int) (k:Key) (m:bh):Bool:=decide (0<=n)&&ie L m&&bQ L k
def iY (L:List Obj) (n:Int) (k:Key) (m:bh):Int:=
 if ak L=0 then 1 else if yR L n k m=false then 2 else if(ae L k).kind=6\/(ae L k).kind=7 then 241 else 0
def bu (L:List Obj) (n:Int) (k:Key) (m:bh):bh:=if iY L n k m=0 then dq L n (ae L k) (ld L m)else dS
def ij (L:List Obj) (n:Int) (k:Key) (m:bh):Bool:=decide (iY L n k m=0)&&decide ((ae L k).kind=10)&&decide (m.code=1)
def lb (L:List Obj) (n:Int) (k:Key) (m:bh):List Obj:=if iY L n k m=0 then dG L n (ae L k) (ld L m)else L
def JE:Ct:=CP (bE sA (bE kA kz)) (fun _=>none) fun x=> .bo (bQ (AX x.1) x.2.1)
def Ta:mh (Int×Key×bh×Unit):=bE iA (bE kA (bE mA kz))
theorem Ob:iO Ta:=aM fP (aM mL (aM KZ dM))
def V7:ng:=Tk (HN Ta) (fun x=>aw x.2.2.1.data) (fun L x=>aq L/\aw x.2.2.1.data) (fun L x=> .tp [rk (bu L x.1 x.2.1 x.2.2.1),.bo (ij L x.1 x.2.1 x.2.2.1),.it .i64 (iY L x.1 x.2.1 x.2.2.1)]) fun L x=>lb L x.1 x.2.1 x.2.2.1
def P4 (L:List Obj) (k:Key) (m:bh):Prop:=aq L/\aw m.data/\aN k=true
def QE:ng:=fun args res K=>
 match args with
 | [a]=>match a with
   | .lp j off=>if off==0 then match ar res j with
     | .blk t c=>if t==nb then match c with
       | .ag cl=>match cl with
         | [mv,sv,nv,kv]=>match xR mv with
           |some m=>match sv with
            | .lp i o2=>if o2==0&& !(i==j)then match rI .i64 nv with
              |some n=>match rK kv with
               |some k=>match ar res i with
                | .store t2 e L=>if t2==tS&&e==eS then P4 L k m/\K (rk (dq L n k m)) (bD res i (.store tS eS (dG L n k m)))else False
                |_=>False
               |none=>False
              |none=>False
              else False
            |_=>False
           |none=>False
         |_=>False
       |_=>False
       else False
     |_=>False
     else False
   |_=>False
 |_=>False
theorem DF {L:List Obj} {k:Key}:aN (ae L k)=true:=by
 unfold ae;split
 ·rfl
 ·rename_i h;simp only[Bool.or_eq_true,not_or,Bool.not_eq_true',Bool.not_eq_false]at h;exact h.1.2
theorem oY {k:IntKind} {v:V} {n:Int} (h:rI k v=some n):jJ v=true:=by
 cases v<;>first|rfl|simp[rI,toInt]at h
theorem HJ {v:V} {s:ByteArray} (h:Br v=some s):jJ v=true:=by
 cases v<;>first|rfl|simp[Br]at h
theorem At {v:V} {k:Key} (h:rK v=some k):jJ v=true:=by
 unfold rK at h;split at h
 ·rfl
 ·split at h
  case h_2=>simp at h
  repeat' (split at h<;>try(simp at h;done))
  rename_i h1 _ _ h2 _ _ h3 _ _ h4 _ _ h5 _ _ h6;simp[jJ,kY,oY h1,oY h2,oY h3,oY h4,oY h5,oY h6]
 ·simp at h
theorem H9 {v:V} {m:bh} (h:xR v=some m):jJ v=true:=by
 unfold xR at h;split at h
 case h_2=>simp at h
 split at h
 case h_2=>simp at h
 split at h
 case h_2=>simp at h
 rename_i hn;split at h
 case h_2=>simp at h
 rename_i hs;split at h
 case h_2=>simp at h
 split at h
 case h_2=>simp at h
 split at h
 case h_2=>simp at h
 rename_i hk;split at h
 case h_2=>simp at h
 rename_i hk';split at h<;>simp only[Xm,reduceCtorEq]at h
 rename_i hk'';simp[jJ,kY,oY hn,HJ hs,At hk,At hk',At hk'']
theorem A2 {P:Program} {f:Nat} {K KP:V->List aA->Prop} {t:Nat} {c c':V} {r:aA} (hr:r≠ .yet) (hc:∀J,cells J c=cells J c') (hc':∀K,ok K c->ok K c') (hct:bR c'=false)
  (h:aj P f [.lp 0 0] [.ro (.blk t c'),r] K KP):aj P f [.lp 0 0] [.ro (.blk t c),r] K KP:=by
 have hk:∀i (x:V),known [.ro (.blk t x),r] i↔i=0\/i=1:=fun i x=>by
  unfold known;rcases i with _|_|i<;>simp[ar,hr]
 have hkk:∀i (x y:V),known [.ro (.blk t x),r] i->known [.ro (.blk t y),r] i:=fun i x y h=>(hk i y).2 ((hk i x).1 h)
 refine h.tL fun J fps w0 F0 w hH=>⟨J,fps,hH.weaken fun i hi=>⟨hkk i _ _ hi,fun fp hh=>?_⟩,Env.aZ.refl _ _,fun i hi=>hkk i _ _ hi⟩
 rcases(hk i _).1 hi with rfl|rfl
 ·obtain⟨fp',⟨h1,h2,h3,h4⟩,h5⟩:=hh;exact⟨fp',⟨hc' _ (cN (fun i hi=>hkk i _ _ hi) _ h1),hct,h3,by rw[<-hc];exact h4⟩,h5⟩
 ·exact aA.mJ _ hh fun i hi=>hkk i _ _ hi
theorem wg {P:Program} {f:Nat} {K KP:V->List aA->Prop} {c c' d d':V} {m:bh} {n:Int} {k:Key} {r:aA} (hr:r≠ .yet) (hc:∀J,den J c=den J c') (hc':∀K,ok K c->ok K c') (hct:bR c'=false) (hd:∀J,den J d=den J d') (hd':∀K,ok K d->ok K d') (hdt:bR d'=false)
  (h:aj P f [.lp 0 0] [.ro (.blk nb (gp c' m n d' k)),r] K KP):aj P f [.lp 0 0] [.ro (.blk nb (gp c m n d k)),r] K KP:=by
 refine A2 hr (fun J=>by simp only[cells,gp,den,aU,hc,hd]) (fun K h1=>?_) rfl h
 obtain⟨⟨⟨⟨x1,x2⟩,_⟩,y,z,⟨⟨u1,u2⟩,_⟩,_⟩,v⟩:=h1;exact⟨⟨⟨⟨hc' _ x1,x2⟩,by cases c'<;>first| (simp[ra];done)|simp[bR]at hct⟩,y,z,⟨⟨hd' _ u1,u2⟩,by cases d'<;>first| (simp[ra];done)|simp[bR]at hdt⟩,trivial⟩,by simp[ra]⟩
theorem HI {P:Program} {f:Nat} {K KP:V->List aA->Prop} {mv nv kv:V} {m:bh} {n:Int} {k:Key} {r:aA} (hr:r≠ .yet) (hm:xR mv=some m) (hn:rI .i64 nv=some n) (hk:rK kv=some k)
  (h:aj P f [.lp 0 0] [.ro (.blk nb (gp (.it .i64 m.code) m n (.it .i64 k.kind) k)),r] K KP):aj P f [.lp 0 0] [.ro (.blk nb (.ag [mv,.lp 1 0,nv,kv])),r] K KP:=by
 obtain⟨m1,m2⟩:=zI _ _ hm;obtain⟨n1,n2⟩:=gi .i64 _ _ hn;obtain⟨k1,k2⟩:=gW _ _ hk;refine A2 hr (fun J=>?_) (fun K h1=>?_) rfl h
 ·simp only[cells,gp,den,aU,m1 J,n1 J,k1 J,rk,Value.cells,cI,i64];simp
 ·obtain⟨⟨x,y,z,u,_⟩,_⟩:=h1;obtain⟨a1,a2,a3,a4,a5,a6⟩:=(k2 K u:k.wf);exact⟨⟨ff (m2 K x),y,n2 K z,⟨⟨a1,a2,a3,a4,a5,a6,trivial⟩,by simp[ra]⟩,trivial⟩,by simp[ra,rk]⟩
def oc (a b:Int) (k:Key) (m:bh):Bool:=decide (k.kind=a)&&decide (m.code=b)
theorem vR {c:Int} {k:Key} (h:k.kind=c):kk c k=k:=by subst h;rfl
theorem Fa {c:Int} {m:bh} (h:m.code=c):mm c m=m:=by subst h;rfl
def Vr (nid:Nat):V:= .mp nid
def Fi (nid:Nat):List aA:= [.mq [[1,1],[2,1],[2,2],[2,3],[2,4],[2,5],[2,6],[3,1],[3,2],[3,3],[3,4],[3,5],[4,1],[4,2],[4,3],[4,4],[4,5],[4,6],[5,1],[5,2],[5,3],[5,4],[5,5],[5,6],[5,7],[8,1],[8,2],[8,3],[9,1],[10,1]] [.fn 143 [],.fn 145 [],.fn 149 [],.fn 151 [],.fn 154 [],.fn 156 [],.fn 157 [],.fn 158 [],.fn 159 [],.fn 161 [],.fn 163 [],.fn 156 [],.fn 210 [.lp (nid+1) 0],.fn 210 [.lp (nid+1+1) 0],.fn 166 [],.fn 168 [],.fn 170 [],.fn 171 [],.fn 172 [],.fn 175 [],.fn 176 [],.fn 178 [],.fn 179 [],.fn 180 [],.fn 181 [],.fn 182 [],.fn 183 [],.fn 187 [],.fn 189 [],.fn 190 []],.blk 70 (.ci .i64 1),.blk 70 (.ci .i64 2)]
end Go.Sx
