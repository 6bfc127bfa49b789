import Derived.Test.YtlblcfaclmpekaaGreatSQ
import Derived.Test.YtlblcfaclmpekaaGreatSW
import Derived.Test.YtlblcfaclmpekaaGreatSpB
set_option linter.unusedSimpArgs false
set_option linter.unusedVariables false
namespace Go.Sx
def m9:Nat:=179
def ou (k:Key) (r:Int):Key:=if k.kind=2 then cz k (jt k.rights r)else if k.kind=3 then cz k (jt k.rights (r.tmod 2))else k
def vq (k:Key) (r:Int):Prop:=aS k=true/\0<=r/\r<=7
def Rw:Ct:=Cj (bG kA (bG iA kD)) (fun x=>some (vq x.1 x.2.1)) fun x=> .tp [.key (ou x.1 x.2.1),.ci .i64 0]
def ow (a b:Key):Bool:=aS a&&aS b&&(decide (a.kind=0)||Ar a b||(decide (a.kind=2)||decide (a.kind=3))&&decide (a.kind=b.kind)&&decide (a.oid=b.oid)&&decide (a.count=b.count)&&decide (jt a.rights b.rights=a.rights))
def PJ:Ct:=Qs rK rK fun a b=> .bo (ow a b)
theorem CP {a:Int} (h:0<=a/\a<=7):∃x:Fin 8,a=(x.val:Int):=⟨⟨a.toNat,by omega⟩,by simp;omega⟩
theorem HQ {a r:Int} (h:0<=a/\a<=7) (h':0<=r/\r<=7):aV .or .i64 a (aV .and .i64 r 7)=jt a r:=by
 have key:∀x y:Fin 8,aV .or .i64 (x.val:Int) (aV .and .i64 (y.val:Int) 7)=jt (x.val:Int) (y.val:Int):=by decide+kernel
 obtain⟨x,rfl⟩:=CP h;obtain⟨y,rfl⟩:=CP h';exact key x y
theorem KV {a r:Int} (h:0<=a/\a<=1) (h':0<=r/\r<=7):aV .or .i64 a (aV .and .i64 r 1)=jt a (r.tmod 2):=by
 have key:∀x y:Fin 8,x.val<=1->aV .or .i64 (x.val:Int) (aV .and .i64 (y.val:Int) 1)=jt (x.val:Int) ((y.val:Int).tmod 2):=by decide+kernel
 obtain⟨x,rfl⟩:=CP (a:=a) (by omega)
 obtain⟨y,rfl⟩:=CP h';exact key x y (by omega)
theorem JH {r:Int} (h':0<=r/\r<=7):aV .or .i64 0 (aV .and .i64 r 0)=0:=by
 have key:∀y:Fin 8,aV .or .i64 0 (aV .and .i64 (y.val:Int) 0)=0:=by decide+kernel
 obtain⟨y,rfl⟩:=CP h';exact key y
theorem xW {a b:Int} (h:0<=a/\a<=7) (h':0<=b/\b<=7):decide (aV .andNot .i64 b a=0)=decide (jt a b=a):=by
 have key:∀x y:Fin 8,decide (aV .andNot .i64 (y.val:Int) (x.val:Int)=0)=decide (jt (x.val:Int) (y.val:Int)=(x.val:Int)):=by decide+kernel
 obtain⟨x,rfl⟩:=CP h;obtain⟨y,rfl⟩:=CP h';exact key x y
def fy (k:Key):bh:=⟨0,⟨#[]⟩,k,void,void⟩
def fT (n:Int):bh:=⟨0,⟨#[]⟩,void,void,c8 n⟩
def gV (s:ByteArray):bh:=⟨0,s,void,void,void⟩
def fo (e:Int):bh:=⟨e,⟨#[]⟩,void,void,void⟩
def fe (k:Key):Key:=⟨2,k.oid,k.count,0,0,0⟩
def aZ (m:bh):Int:=if 0<=m.k2.value/\m.k2.value<=2147483647 then m.k2.value else -1
def fc (b:Bool):Int:=if b then 1 else 0
def uo (n:Int):Int:=imax 0 (qw 32 (64-n))
abbrev OX:=Int×bh×List Obj
def iC (L:List Obj) (k:Key) (m:bh):OX:=
 if m.code=1 then(cG L k (aZ m),fy (aJ L k (aZ m)),L)
 else if m.code=2 then(bB L k (aZ m) m.k0,fy (ew L k (aZ m) m.k0),dN L k (aZ m) m.k0)
 else if m.code=3 then(aO L k 2 true,ee,gd L k)
 else if m.code=4 then(cg L k m.k0,ee,fA L k m.k0)
 else if m.code=5 then(if 0<=m.k2.value/\m.k2.value<=7 then 0 else 2,fy (ou k m.k2.value),L)
 else(if k.rights=0 then 0 else 191,fy ⟨5,k.oid,k.count,0,0,0⟩,L)
def gW (L:List Obj) (k:Key) (m:bh):OX:=
 if m.code=1 then(bZ L k (aZ m) (uo (aZ m)),gV (dV L k (aZ m) (uo (aZ m))),L)
 else if m.code=2 then(cY L k (aZ m) m.data,ee,ff L k (aZ m) m.data)
 else if m.code=3 then(bz L k true,ee,fP L k)
 else if m.code=4 then(cW L k m.k0,ee,fW L k m.k0)
 else(if 0<=m.k2.value/\m.k2.value<=7 then 0 else 2,fy (ou k m.k2.value),L)
def iI (L:List Obj) (k:Key) (m:bh):OX:=
 if m.code=1 then(dv L k 1,fy (ev L k 1),fG L k 1)
 else if m.code=2 then(dv L k 2,fy (ev L k 2),fG L k 2)
 else if m.code=3 then(dJ L k m.k0,ee,iW L k m.k0)
 else if m.code=4 then(bY L k (aZ m),fy (b9 L k (aZ m)),bk L k (aZ m))
 else if m.code=5 then(aY L k,fT (fc (mi L k m.k0)),L)
 else(aY L k,fT (iu L k),jH L k)
def eP (L:List Obj) (k:Key):Key:=aJ L (fe k) 0
def ga (L:List Obj) (k:Key) (m:bh):OX:=
 if m.code=1 then(if aZ m<0\/11<aZ m then 4 else cG L (fe k) (aZ m+4),fy (aJ L (fe k) (aZ m+4)),L)
 else if m.code=2 then(if aZ m<0\/11<aZ m then 4 else bB L (fe k) (aZ m+4) m.k0,fy (ew L (fe k) (aZ m+4) m.k0),if aZ m<0\/11<aZ m then L else dN L (fe k) (aZ m+4) m.k0)
 else if m.code=3 then(0,fy ⟨6,k.oid,k.count,0,0,m.k2.value⟩,L)
 else if m.code=4 then(0,fT (bV L k.oid),L)
 else if m.code=5 then(eC L k.oid (aZ m),ee,iw L k.oid (aZ m))
 else if m.code=6 then(if cB L (eP L k) m.k2.value 32=0 then(if cm L (eP L k) m.k2.value 32 false=0 then 0 else 1000+cm L (eP L k) m.k2.value 32 false)else cB L (eP L k) m.k2.value 32,gV (mI L (eP L k) m.k2.value 32),L)
 else(if cB L (eP L k) m.k2.value (cC m.data)=0 then(if cm L (eP L k) m.k2.value (cC m.data) true=0 then 0 else 1000+cm L (eP L k) m.k2.value (cC m.data) true)else cB L (eP L k) m.k2.value (cC m.data),ee,nz L (eP L k) m.k2.value m.data)
def cV (kind:Int):Int:=if kind=1 then 1 else if kind=2 then 6 else if kind=3 then 5 else if kind=4 then 6 else if kind=5 then 7 else if kind=8 then 3 else if kind=9\/kind=10 then 1 else 0
def dG (kind c:Int):Bool:=
 if kind=2\/kind=3 then decide (c=1)||decide (c=2)||decide (c=5)else if kind=4 then decide (c=4)
 else if kind=5 then decide (1<=c/\c<=3)||decide (5<=c/\c<=7)else false
def ef (L:List Obj) (now:Int) (k:Key) (m:bh):OX:=
 if k.kind=1 then(0,fT k.value,L)
 else if k.kind=2 then iC L k m
 else if k.kind=3 then gW L k m
 else if k.kind=4 then iI L k m
 else if k.kind=5 then ga L k m
 else if k.kind=8 then(0,if m.code=1 then fT m.k0.kind else if m.code=2 then fT (fc (ow m.k0 m.k1))else fT m.k0.rights,L)
 else if k.kind=9 then(0,fT now,L)
 else(0,ee,L)
def dt (L:List Obj) (now:Int) (k:Key) (m:bh):OX:=
 if k.kind=0 then(190,ee,L)
 else if m.code=0 then(0,fT k.kind,L)
 else if m.code<1\/cV k.kind<m.code\/(dG k.kind m.code=true/\m.k2.kind≠1)then(240,ee,L)
 else ef L now k m
def dg (L:List Obj) (now:Int) (k:Key) (m:bh):bh:=if(dt L now k m).1=0 then(dt L now k m).2.1 else fo (dt L now k m).1
def dF (L:List Obj) (now:Int) (k:Key) (m:bh):List Obj:=(dt L now k m).2.2
def aG (L:List Obj) (now:Int) (k:Key) (m:bh):bh×List Obj:=(dg L now k m,dF L now k m)
def kk (c:Int) (k:Key):Key:=⟨c,k.oid,k.count,k.call,k.rights,k.value⟩
def mm (c:Int) (m:bh):bh:=⟨c,m.data,m.k0,m.k1,m.k2⟩
def eB:ByteArray:=⟨#[]⟩
def gj (c:V) (m:bh) (n:Int) (kd:V) (k:Key):V:= .ag [.ag [c,.st m.data,.ag [.key m.k0,.key m.k1,.key m.k2]],.lp 1 0,.it .i64 n,.ag [kd,.it .i64 k.oid,.it .i64 k.count,.it .i64 k.call,.it .i64 k.rights,.it .i64 k.value]]
def kO (A:bh×List Obj) (v:V) (r:List aB):Prop:=
 match xy v with
 |some x=>match an r 1 with
  | .store t e M=>if t==tS&&e==eS then(x,M)=A else False
  |_=>False
 |none=>False
theorem PX {A:bh×List Obj} {v:V} {r:List aB} (h:kO A v r):vK (qQ A.1) v r/\an r 1= .store tS eS A.2:=by
 unfold kO at h;split at h
 case h_2=>exact h.elim
 rename_i x hx;split at h
 case h_2=>exact h.elim
 rename_i hr;split at h
 case isFalse=>exact h.elim
 rename_i hc;simp only[VG,VI]at hc;obtain⟨rfl,rfl⟩:=hc;subst h;obtain⟨a,b⟩:=yY v x hx;have ht:bR v=false:=by cases v<;>first|rfl|simp[xy]at hx
 exact⟨fun J K=>⟨a J,fun h=>fb (b K h),ht⟩,hr⟩
def rV (r:OX):bh×List Obj:=(if r.1=0 then r.2.1 else fo r.1,r.2.2)
theorem EV {L:List Obj} {n:Int} {k:Key} {m:bh} {c:Int} (hc:1<=c/\c<=7):aG L n (kk 5 k) (mm c m)=if dG 5 c=true/\m.k2.kind≠1 then(fo 240,L)else rV (ga L (kk 5 k) (mm c m)):=by
 have h0:¬c=0:=by omega
 have h1:¬(c<1\/cV 5<c):=by have:cV 5=7:=by decide
                            omega
 have e1:(kk 5 k).kind=5:=rfl;have e2:(mm c m).code=c:=rfl;have e3:(mm c m).k2=m.k2:=rfl;have hb:ef L n (kk 5 k) (mm c m)=ga L (kk 5 k) (mm c m):=by unfold ef;rw[e1];rfl
 have hr:dt L n (kk 5 k) (mm c m)=if dG 5 c=true/\m.k2.kind≠1 then(240,ee,L)else ga L (kk 5 k) (mm c m):=by
  unfold dt;rw[e1,e2,e3,VM (by omega),VM h0,hb]
  by_cases h:dG 5 c=true/\m.k2.kind≠1
  ·rw[VN (.inr (.inr h)),VN h]
  ·rw[VM (fun hh=>by rcases hh with hh|hh|hh;exact h1 (.inl hh);exact h1 (.inr hh);exact h hh),VM h]
 unfold aG dg dF;rw[hr];by_cases h:dG 5 c=true/\m.k2.kind≠1
 ·simp only[VN h];rfl
 ·simp only[VM h];rfl
theorem Ig {L:List Obj}:∀(n:Nat) (w:Wk),0<=(Lv L n w).kd/\(Lv L n w).kd<=4
 |0,w=>by simp[Lv]
 |n+1,w=>by
  unfold Lv;split
  ·split<;>simp
  ·split
   ·split
    ·rename_i r heq;unfold kx at heq;split at heq
     ·simp at heq;rw[<-heq];simp
     ·split at heq
      ·split at heq
       ·simp at heq
       ·simp at heq;rw[<-heq];simp
      ·simp at heq;rw[<-heq];simp
    ·exact Ig n _
   ·simp
theorem OO {L:List Obj} {k:Key} {a n:Int} {w:Bool}:0<=cm L k a n w/\cm L k a n w<=6:=by
 have h:0<=(ay L k a).kd/\(ay L k a).kd<=4:=by
  unfold ay;split
  ·exact Ig _ _
  ·simp[Tw]
 unfold cm;grind
def xF (L:List Obj) (n:Int) (k:Key) (m:bh):Bool:=decide (0<=n)&&h9 L m&&bQ L k
def iS (L:List Obj) (n:Int) (k:Key) (m:bh):Int:=
 if aq L=0 then 1 else if xF L n k m=false then 2 else if(ae L k).kind=6\/(ae L k).kind=7 then 241 else 0
def bE (L:List Obj) (n:Int) (k:Key) (m:bh):bh:=if iS L n k m=0 then dg L n (ae L k) (lU L m)else ee
def iv (L:List Obj) (n:Int) (k:Key) (m:bh):Bool:=decide (iS L n k m=0)&&decide ((ae L k).kind=10)&&decide (m.code=1)
def mJ (L:List Obj) (n:Int) (k:Key) (m:bh):List Obj:=if iS L n k m=0 then dF L n (ae L k) (lU L m)else L
def J1:Ct:=Cj (bG sA (bG kA kD)) (fun _=>none) fun x=> .bo (bQ (As x.1) x.2.1)
def QZ:lR (Int×Key×bh×Unit):=bG iA (bG kA (bG mA kD))
theorem N7:ij QZ:=aN fN (aN mG (aN K4 dX))
def UJ:np:=RX (GK QZ) (fun x=>aw x.2.2.1.data) (fun L x=>ar L/\aw x.2.2.1.data) (fun L x=> .tp [qQ (bE L x.1 x.2.1 x.2.2.1),.bo (iv L x.1 x.2.1 x.2.2.1),.it .i64 (iS L x.1 x.2.1 x.2.2.1)]) fun L x=>mJ L x.1 x.2.1 x.2.2.1
def Pc (L:List Obj) (k:Key) (m:bh):Prop:=ar L/\aw m.data/\aS k=true
def O8:np:=fun args res K=>
 match args with
 | [a]=>match a with
   | .lp j off=>if off==0 then match an res j with
     | .blk t c=>if t==m9 then match c with
       | .ag cl=>match cl with
         | [mv,sv,nv,kv]=>match xy mv with
           |some m=>match sv with
            | .lp i o2=>if o2==0&& !(i==j)then match rI .i64 nv with
              |some n=>match rK kv with
               |some k=>match an res i with
                | .store t2 e L=>if t2==tS&&e==eS then Pc L k m/\K (qQ (dg L n k m)) (br res i (.store tS eS (dF L n k m)))else False
                |_=>False
               |none=>False
              |none=>False
              else False
            |_=>False
           |none=>False
         |_=>False
       |_=>False
       else False
     |_=>False
     else False
   |_=>False
 |_=>False
theorem C0 {L:List Obj} {k:Key}:aS (ae L k)=true:=by
 unfold ae;split
 ·rfl
 ·rename_i h;simp only[Bool.or_eq_true,not_or,Bool.not_eq_true',Bool.not_eq_false]at h;exact h.1.2
theorem oZ {k:IntKind} {v:V} {n:Int} (h:rI k v=some n):j4 v=true:=by
 cases v<;>first|rfl|simp[rI,toInt]at h
theorem Iw {v:V} {s:ByteArray} (h:AL v=some s):j4 v=true:=by
 cases v<;>first|rfl|simp[AL]at h
theorem Ai {v:V} {k:Key} (h:rK v=some k):j4 v=true:=by
 unfold rK at h;split at h
 ·rfl
 ·split at h
  case h_2=>simp at h
  repeat' (split at h<;>try(simp at h;done))
  rename_i h1 _ _ h2 _ _ h3 _ _ h4 _ _ h5 _ _ h6;simp[j4,k9,oZ h1,oZ h2,oZ h3,oZ h4,oZ h5,oZ h6]
 ·simp at h
theorem G1 {v:V} {m:bh} (h:xy v=some m):j4 v=true:=by
 unfold xy at h;split at h
 case h_2=>simp at h
 split at h
 case h_2=>simp at h
 split at h
 case h_2=>simp at h
 rename_i hn;split at h
 case h_2=>simp at h
 rename_i hs;split at h
 case h_2=>simp at h
 split at h
 case h_2=>simp at h
 split at h
 case h_2=>simp at h
 rename_i hk;split at h
 case h_2=>simp at h
 rename_i hk';split at h<;>simp only[VE,reduceCtorEq]at h
 rename_i hk'';simp[j4,k9,oZ hn,Iw hs,Ai hk,Ai hk',Ai hk'']
theorem Bl {P:Program} {f:Nat} {K KP:V->List aB->Prop} {t:Nat} {c c':V} {r:aB} (hr:r≠ .yet) (hc:∀J,cells J c=cells J c') (hc':∀K,ok K c->ok K c') (hct:bR c'=false)
  (h:aj P f [.lp 0 0] [.ro (.blk t c'),r] K KP):aj P f [.lp 0 0] [.ro (.blk t c),r] K KP:=by
 have hk:∀i (x:V),known [.ro (.blk t x),r] i↔i=0\/i=1:=fun i x=>by
  unfold known;rcases i with _|_|i<;>simp[an,hr]
 have hkk:∀i (x y:V),known [.ro (.blk t x),r] i->known [.ro (.blk t y),r] i:=fun i x y h=>(hk i y).2 ((hk i x).1 h)
 refine h.tr fun J fps w0 F0 w hH=>⟨J,fps,hH.weaken fun i hi=>⟨hkk i _ _ hi,fun fp hh=>?_⟩,Env.bc.refl _ _,fun i hi=>hkk i _ _ hi⟩
 rcases(hk i _).1 hi with rfl|rfl
 ·obtain⟨fp',⟨h1,h2,h3,h4⟩,h5⟩:=hh;exact⟨fp',⟨hc' _ (cL (fun i hi=>hkk i _ _ hi) _ h1),hct,h3,by rw[<-hc];exact h4⟩,h5⟩
 ·exact aB.mH _ hh fun i hi=>hkk i _ _ hi
theorem w8 {P:Program} {f:Nat} {K KP:V->List aB->Prop} {c c' d d':V} {m:bh} {n:Int} {k:Key} {r:aB} (hr:r≠ .yet) (hc:∀J,den J c=den J c') (hc':∀K,ok K c->ok K c') (hct:bR c'=false) (hd:∀J,den J d=den J d') (hd':∀K,ok K d->ok K d') (hdt:bR d'=false)
  (h:aj P f [.lp 0 0] [.ro (.blk m9 (gj c' m n d' k)),r] K KP):aj P f [.lp 0 0] [.ro (.blk m9 (gj c m n d k)),r] K KP:=by
 refine Bl hr (fun J=>by simp only[cells,gj,den,aW,hc,hd]) (fun K h1=>?_) rfl h
 obtain⟨⟨⟨⟨x1,x2⟩,_⟩,y,z,⟨⟨u1,u2⟩,_⟩,_⟩,v⟩:=h1;exact⟨⟨⟨⟨hc' _ x1,x2⟩,by cases c'<;>first| (simp[qI];done)|simp[bR]at hct⟩,y,z,⟨⟨hd' _ u1,u2⟩,by cases d'<;>first| (simp[qI];done)|simp[bR]at hdt⟩,trivial⟩,by simp[qI]⟩
theorem Iy {P:Program} {f:Nat} {K KP:V->List aB->Prop} {mv nv kv:V} {m:bh} {n:Int} {k:Key} {r:aB} (hr:r≠ .yet) (hm:xy mv=some m) (hn:rI .i64 nv=some n) (hk:rK kv=some k)
  (h:aj P f [.lp 0 0] [.ro (.blk m9 (gj (.it .i64 m.code) m n (.it .i64 k.kind) k)),r] K KP):aj P f [.lp 0 0] [.ro (.blk m9 (.ag [mv,.lp 1 0,nv,kv])),r] K KP:=by
 obtain⟨m1,m2⟩:=yY _ _ hm;obtain⟨n1,n2⟩:=gR .i64 _ _ hn;obtain⟨k1,k2⟩:=ir _ _ hk;refine Bl hr (fun J=>?_) (fun K h1=>?_) rfl h
 ·simp only[cells,gj,den,aW,m1 J,n1 J,k1 J,qQ,Value.cells,dA,i64];simp
 ·obtain⟨⟨x,y,z,u,_⟩,_⟩:=h1;obtain⟨a1,a2,a3,a4,a5,a6⟩:=(k2 K u:k.wf);exact⟨⟨fb (m2 K x),y,n2 K z,⟨⟨a1,a2,a3,a4,a5,a6,trivial⟩,by simp[qI]⟩,trivial⟩,by simp[qI,qQ]⟩
def oc (a b:Int) (k:Key) (m:bh):Bool:=decide (k.kind=a)&&decide (m.code=b)
theorem u5 {c:Int} {k:Key} (h:k.kind=c):kk c k=k:=by subst h;rfl
theorem En {c:Int} {m:bh} (h:m.code=c):mm c m=m:=by subst h;rfl
def T4 (nid:Nat):V:= .mp nid
def Eo (nid:Nat):List aB:= [.mq [[1,1],[2,1],[2,2],[2,3],[2,4],[2,5],[2,6],[3,1],[3,2],[3,3],[3,4],[3,5],[4,1],[4,2],[4,3],[4,4],[4,5],[4,6],[5,1],[5,2],[5,3],[5,4],[5,5],[5,6],[5,7],[8,1],[8,2],[8,3],[9,1],[10,1]] [.fn 143 [],.fn 145 [],.fn 149 [],.fn 151 [],.fn 154 [],.fn 156 [],.fn 157 [],.fn 158 [],.fn 159 [],.fn 161 [],.fn 163 [],.fn 156 [],.fn 210 [.lp (nid+1) 0],.fn 210 [.lp (nid+1+1) 0],.fn 166 [],.fn 168 [],.fn 170 [],.fn 171 [],.fn 172 [],.fn 175 [],.fn 176 [],.fn 178 [],.fn 179 [],.fn 180 [],.fn 181 [],.fn 182 [],.fn 183 [],.fn 187 [],.fn 189 [],.fn 190 []],.blk 70 (.ci .i64 1),.blk 70 (.ci .i64 2)]
end Go.Sx
