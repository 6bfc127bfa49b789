import Derived.Test.YtmfbohanboiklaaGreatMb3
set_option linter.unusedSimpArgs false
set_option linter.unusedVariables false
namespace Go.Sx
open Go.RowKit (Below)
inductive Out where
 |norm
 |exit (i:Nat)
 |goto (l:Nat)
 |ret
 |pan (v:V)
def DT(J:Env)(res:List aQ):Exit->Out->Prop
 | .normal,.norm=>True
 | .exit i,.exit j=>i=j
 | .goto i,.goto j=>i=j
 | .ret,.ret=>True
 | .panic chain,.pan v=>chain= [{v:=den J v,recovered:=false}]/\ok (known res) v
 |_,_=>False
def jh(ρ0:Env)(res0:List aQ)(w0:World)(F0:Nat->Prop)(K:Out->St->Prop):Exit->Act->World->Prop:=fun e a w=>
 ∃out U J fps,DT J U.res e out/\K out U/\kS J fps U w0 F0 a w/\Good ρ0 res0 J U.res
theorem jh.Ue{ρ0:Env}{res0:List aQ}{w0:World}{F0:Nat->Prop}{K:Out->St->Prop}:¬LetsOut (jh ρ0 res0 w0 F0 K):=by
 rintro⟨a,w,out,U,J,fps,h1,_⟩
 cases out<;>exact h1
theorem jh.mono{ρ0:Env}{res0:List aQ}{w0:World}{F0:Nat->Prop}{K K':Out->St->Prop}{e:Exit}{a:Act}{w:World}(h:jh ρ0 res0 w0 F0 K e a w)(hK:∀o U,K o U->K' o U):
  jh ρ0 res0 w0 F0 K' e a w:=
 let ⟨o,U,J,fps,h1,h2,h3,h4⟩:=h
 ⟨o,U,J,fps,h1,hK _ _ h2,h3,h4⟩
def bh(ds:List (Option Nat×Nat))(i:Nat):Nat:=
 match ds[i]? with
 |some p=>p.2
 |none=>0
def jB(ds:List (Option Nat×Nat))(es:List Edge):Nat:=
 match es with
 | []=>0
 |e::l=>if Region.binds .any e then(2^e.on ||| bh ds e.on) ||| jB ds l else jB ds l
def Ru:List Oper->List (Option Nat×Nat)->List (Option Nat×Nat)
 | [],acc=>acc
 |o::l,acc=>Ru l (acc++ [(o.dst,jB acc o.after.toList)])
def LH:Option Nat->Option Nat->Bool
 |some a,some b=> !(a==b)
 |_,_=>true
def sr:List (Option Nat×Nat)->Bool
 | []=>true
 |p::l=>l.all (fun q=>LH p.1 q.1)&&sr l
def Dk(ds:List (Option Nat×Nat)):Nat->List Oper->List (Option Nat×Nat)->Bool
 |i,o::l,d::m=>(match o.dst,d.1 with|none,none=>true|some a,some b=>a==b|_,_=>false)&&jB ds o.after.toList==d.2&&Nat.ble (d.2+1) (2^i)
  &&(List.range i).all (fun j=> !(Nat.testBit d.2 j)||((bh ds j ||| d.2)==d.2))&&Dk ds (i+1) l m
 |_,[],[]=>true
 |_,_,_=>false
def eM(anc i:Nat):Nat->List (Option Nat×Nat)->List S->List S->List S
 |j,(some d,_)::ds,s::done,sl=>eM anc i (j+1) ds done (sset sl d (if Nat.testBit anc j then s else .und))
 |j,(some d,m)::ds,[],sl=>if j==i||Nat.testBit m i then eM anc i (j+1) ds [] sl else eM anc i (j+1) ds [] (sset sl d .und)
 |j,(none,_)::ds,done,sl=>eM anc i (j+1) ds done.tail sl
 |_,[],_,sl=>sl
structure Dr where
 s:S
 g:Bool
 q:Option Prop
 new:List aQ
 up:Option (Nat×aQ):=none
def xS:List aQ->List aQ
 | []=> []
 |_::l=> .yet::xS l
def ie(p:Nat->Bool):Nat->List Dr->List aQ
 |_,[]=> []
 |j,d::l=>match d.new with
  | []=>ie p (j+1) l
  |r::n=>(if p j then r::n else .yet::xS n)++ie p (j+1) l
def lens:List Dr->Nat
 | []=>0
 |d::l=>d.new.length+lens l
def wK:List Dr->List S
 | []=> []
 |d::l=>d.s::wK l
def HT(m:Nat):Option (Nat×Bool)->Bool
 |none=>true
 |some (j,_)=>Nat.testBit m j
def vN(C:Ctx)(ops:List Oper)(D:List S)(R:List aQ)(nid:Nat)(o:Oper):Option Dr:=
 if abB C.P D o then match sj D ops o.guard with
 |none=>none
 |some none=>some {s:= .ud,g:=false,q:=none,new:= []}
 |some (some ch)=>match BF C D R nid ch o.op with
  |some (q,x,new)=>match ch with
   | []=>some {s:= .v x,g:=true,q:=q,new:=new}
   |c::ch=>if new.isEmpty then some {s:= .gv (c::ch) x,g:=mc D (c::ch),q:=q,new:= []}else some {s:= .v x,g:=true,q:=some (mc D (c::ch)=true/\cK q),new:=new}
  |none=>none
 else none
def ED(n:Nat):Option Nat->Bool
 |none=>true
 |some d=>Nat.blt d n
def Kl(p:Nat->Bool):Nat->List Dr->List aQ->List aQ
 |_,[],R=>R
 |j,d::l,R=>match d.up with
  |none=>Kl p (j+1) l R
  |some u=>if p j then Kl p (j+1) l (bQ R u.1 u.2)else Kl p (j+1) l R
def zP(ds:List (Option Nat×Nat))(i:Nat):List (Nat×Nat)->List aQ->List aQ
 | [],R=>R
 |u::h,R=>if u.1==i||Nat.testBit (bh ds i) u.1||Nat.testBit (bh ds u.1) i then zP ds i h R else zP ds i h (bQ R u.2 .yet)
def vw(ds:List (Option Nat×Nat))(hid:List (Nat×Nat))(res:List aQ)(done:List Dr)(i:Nat):List aQ:=
 zP ds i hid (Kl (Nat.testBit (bh ds i)) 0 done (od res (ie (Nat.testBit (bh ds i)) 0 done)))
def tR:Nat->List Dr->List (Nat×Nat)
 |_,[]=> []
 |j,d::l=>match d.up with
  |none=>tR (j+1) l
  |some u=>(j,u.1)::tR (j+1) l
def Bj:List (Nat×Nat)->List (Nat×Nat)->Bool
 | [],[]=>true
 |a::l,b::m=>a.1==b.1&&a.2==b.2&&Bj l m
 |_,_=>false
def zg(C:Ctx)(D:List S)(R:List aQ)(o:Oper):Option Dr:=
 match o.op with
 | .store t p x=>match o.dst with
   |none=>match o.guard with
    |none=>match dY D [] p with
     |some pv=>match pv with
      | .lp id off=>match dY D [] x with
        |some y=>if nP C.P t==some (eH y)&& !cz y then match aN R id with
         | .blk ty c=>match setAt 8 c off y with
           |some c'=>some {s:= .und,g:=true,q:=none,new:= [],up:=some (id,.blk ty c')}
           |none=>none
         |_=>none
         else none
        |none=>none
      |_=>none
     |none=>none
    |some _=>none
   |some _=>none
 |_=>none
def uf(C:Ctx)(ops:List Oper)(st:Bool)(D:List S)(R:List aQ)(nid:Nat)(o:Oper):Option Dr:=
 match vN C ops D R nid o with
 |some d=>some d
 |none=>if st then zg C D R o else none
def kN(C:Ctx)(ops:List Oper)(ds:List (Option Nat×Nat))(sl:List S)(res:List aQ)(st:Bool)(hid:List (Nat×Nat))(done:List Dr)(i:Nat)(o:Oper):Option Dr:=
 if HT (bh ds i) o.guard&&ED sl.length o.dst then
  uf C ops st (eM (bh ds i) i 0 ds (wK done) sl) (vw ds hid res done i) (res.length+lens done) o
 else none
def mQ(C:Ctx)(ops:List Oper)(ds:List (Option Nat×Nat))(sl:List S)(res:List aQ)(st:Bool)(hid:List (Nat×Nat)):Nat->List Oper->List Dr->List Dr×List Oper
 |_,[],done=>(done,[])
 |i,o::l,done=>match kN C ops ds sl res st hid done i o with
  |some d=>mQ C ops ds sl res st hid (i+1) l (done++ [d])
  |none=>(done,o::l)
def vI:List Dr->Prop->Prop
 | [],k=>k
 |d::l,k=>match d.s with
  | .gv _ _=>VB d.g d.q (vI l k)
  |_=>zb d.q (vI l k)
def pW(n:Nat):Nat:=2^n-1
def AS(C:Ctx)(ops:List Oper)(ds:List (Option Nat×Nat))(sl:List S)(res:List aQ)(st:Bool)(hid:List (Nat×Nat)):Nat->List Oper->List Dr->(List Dr->List Oper->Prop)->Prop
 |_,[],done,k=>k done []
 |i,o::l,done,k=>xY (eM (bh ds i) i 0 ds (wK done) sl) fun D=>
  match (if HT (bh ds i) o.guard&&ED sl.length o.dst then uf C ops st D (vw ds hid res done i) (res.length+lens done) o else none)with
  |some d=>AS C ops ds sl res st hid (i+1) l (done++ [d]) k
  |none=>k done (o::l)
theorem uR(C:Ctx)(ops:List Oper)(ds:List (Option Nat×Nat))(sl:List S)(res:List aQ)(st:Bool)(hid:List (Nat×Nat)):∀(l:List Oper) (i:Nat) (done:List Dr) (k:List Dr->List Oper->Prop),
  AS C ops ds sl res st hid i l done k=k (mQ C ops ds sl res st hid i l done).1 (mQ C ops ds sl res st hid i l done).2
 | [],_,_,_=>rfl
 |o::l,i,done,k=>by
  simp only[AS,mQ,uT,kN];split
  ·simp_all[uR]
  ·rename_i hd;rfl
def Ep(C:Ctx)(H:Handler)(Y:ej)(ops:List Oper):List Oper->St->(Out->St->Prop)->Prop
 | [],U,K=>lY U.slots fun sl=>K .norm {U with slots:=sl}
 |o::l,U,K=>AK C H Y ops o U (fun σ'=>Ep C H Y ops l σ' K) (fun v σ'=>K (.pan v) σ')
def th(ds:List (Option Nat×Nat)):Nat->List Oper->Bool
 |_,[]=>true
 |i,_::l=>bh ds i==pW i&&th ds (i+1) l
def YT(o:Operand)(d:Nat):Bool:=
 match o with
 | .tmp s=> !(s==d)
 |_=>true
def UN(o:Oper):Option Operand:=
 match o.op with
 | .move x=>some x
 | .assign x=>some x
 | .extract x _=>some x
 |_=>none
def apart(x y:Oper):Bool:=
 match UN x,x.dst,UN y,y.dst with
 |some sx,some dx,some sy,some dy=>YT sy dx&&YT sx dy&& !(dx==dy)
 |_,_,_,_=>false
def yy(res:List aQ)(drs:List Dr):List aQ:=Kl (fun _=>true) 0 drs (od res (ie (fun _=>true) 0 drs))
def UP(ops:List Oper)(ds:List (Option Nat×Nat))(n:Nat):List Oper->Bool
 | []=>true
 |o::l=>th ds n (o::l)
def wZ(C:Ctx)(H:Handler)(Y:ej)(ops:List Oper)(ds:List (Option Nat×Nat))(U:St)(K:Out->St->Prop)(drs:List Dr)(rest:List Oper):Prop:=
 vI drs (match rest with
  | []=>xY (eM (pW drs.length) drs.length 0 ds (wK drs) (clean U.slots)) fun sl=>lY sl fun sl=>K .norm {U with slots:=sl,res:=yy U.res drs}
  |o::l=>if th ds drs.length (o::l)then
    xY (eM (pW drs.length) drs.length 0 ds (wK drs) (clean U.slots)) fun sl=>Ep C H Y ops (o::l) {U with slots:=sl,res:=yy U.res drs} K
   else False)
def KM(C:Ctx)(H:Handler)(Y:ej)(ops:List Oper)(ds:List (Option Nat×Nat))(U:St)(K:Out->St->Prop)(alt:Prop):Prop:=
 if Dk ds 0 ops ds&&sr ds then
  lY U.slots fun sl=>AS C ops ds sl U.res false [] 0 ops [] fun drs rest=>
   if UP ops ds drs.length rest then wZ C H Y ops ds U K drs rest
   else AS C ops ds sl U.res true [] 0 ops [] fun drs1 _=>AS C ops ds sl U.res true (tR 0 drs1) 0 ops [] fun drs2 rest2=>
    if Bj (tR 0 drs2) (tR 0 drs1)&&UP ops ds drs2.length rest2 then wZ C H Y ops ds U K drs2 rest2 else alt
 else False
def NI(C:Ctx)(H:Handler)(Y:ej)(ops:List Oper)(U:St)(K:Out->St->Prop)(alt:Prop):Prop:=KM C H Y ops (Ru ops []) U K alt
theorem mz{ds:List (Option Nat×Nat)}{k:Nat}:∀{es:List Edge},(jB ds es).testBit k=true↔ ∃e∈es,Region.binds .any e=true/\(e.on=k\/(bh ds e.on).testBit k=true)
 | []=>by simp[jB]
 |e::l=>by
  have ih:=mz (ds:=ds) (k:=k) (es:=l);simp only[jB,List.mem_cons,exists_eq_or_imp];split
  ·grind
  ·rename_i h;simp[ih,h]
theorem jF(anc i:Nat):∀(ds:List (Option Nat×Nat)) (j:Nat) (done sl:List S),(eM anc i j ds done sl).length=sl.length
 | [],j,done,sl=>by simp[eM]
 | (none,m)::ds,j,done,sl=>by simp only[eM];exact jF anc i ds _ _ _
 | (some d,m)::ds,j,s::done,sl=>by simp only[eM];rw[jF anc i ds _ _ _,gM]
 | (some d,m)::ds,j,[],sl=>by
   simp only[eM];split
   ·exact jF anc i ds _ _ _
   ·rw[jF anc i ds _ _ _,gM]
theorem ki(anc i t:Nat):∀(ds:List (Option Nat×Nat)) (j:Nat) (done sl:List S),
  b9 (eM anc i j ds done sl) t= .und\/
  (∃k m s,ds[k]? =some (some t,m)/\done[k]? =some s/\anc.testBit (j+k)=true/\b9 (eM anc i j ds done sl) t=s)\/
  (b9 (eM anc i j ds done sl) t=b9 sl t/\∀k m,ds[k]? =some (some t,m)->done.length<=k/\(j+k=i\/m.testBit i=true))
 | [],j,done,sl=> .inr (.inr ⟨by simp[eM],by simp⟩)
 | (none,m)::ds,j,done,sl=>by
   simp only[eM];rcases ki anc i t ds (j+1) done.tail sl with h|⟨k,m',s,h1,h2,h3,h4⟩|⟨h1,h2⟩
   ·exact .inl h
   ·refine .inr (.inl ⟨k+1,m',s,by simpa using h1,?_,by rw[show j+(k+1)=j+1+k by omega];exact h3,h4⟩)
    cases done<;>first| (simp at h2;done)|simpa using h2
   ·grind
 | (some d,m)::ds,j,s::done,sl=>by
   simp only[eM];rcases ki anc i t ds (j+1) done (sset sl d (if anc.testBit j=true then s else .und))with h|⟨k,m',s',h1,h2,h3,h4⟩|⟨h1,h2⟩
   ·exact .inl h
   ·exact .inr (.inl ⟨k+1,m',s',by simpa using h1,by simpa using h2,by rw[show j+(k+1)=j+1+k by omega];exact h3,h4⟩)
   ·rw[gh]at h1;by_cases e:t=d/\d<sl.length
    ·rw[ar e]at h1;obtain⟨rfl,hd⟩:=e;by_cases hb:anc.testBit j=true
     ·rw[ar hb]at h1;exact .inr (.inl ⟨0,m,s,by simp,by simp,by simpa using hb,by rw[ar hb];exact h1⟩)
     ·simp_all
    ·grind[ku]
 | (some d,m)::ds,j,[],sl=>by
   simp only[eM];split
   ·rename_i hc;rcases ki anc i t ds (j+1) [] sl with h|⟨k,m',s',h1,h2,h3,h4⟩|⟨h1,h2⟩
    ·exact .inl h
    ·simp at h2
    ·grind
   ·rename_i hc;rcases ki anc i t ds (j+1) [] (sset sl d .und)with h|⟨k,m',s',h1,h2,h3,h4⟩|⟨h1,h2⟩
    ·exact .inl h
    ·simp at h2
    ·grind[gh,ku]
theorem yk{a b:Option Nat}(h:LH a b=true){t:Nat}(ha:a=some t)(hb:b=some t):False:=by
 subst ha;subst hb;simp[LH]at h
theorem oS:∀{ds:List (Option Nat×Nat)},sr ds=true->∀{j k t m m':Nat},ds[j]? =some (some t,m)->ds[k]? =some (some t,m')->j=k
 | [],_,j,k,t,m,m',h,_=>by simp at h
 |p::l,hd,j,k,t,m,m',hj,hk=>by
  simp only[sr,af,List.all_eq_true]at hd;cases j with
  |zero=>
   cases k with
   |zero=>rfl
   |succ k=>
    simp only[List.getElem?_cons_zero,aa]at hj;have:=hd.1 _ (List.mem_of_getElem? (by simpa using hk))
    exact(yk this (by rw[hj]) rfl).elim
  |succ j=>
   cases k with
   |zero=>
    simp only[List.getElem?_cons_zero,aa]at hk;have:=hd.1 _ (List.mem_of_getElem? (by simpa using hj))
    exact(yk this (by rw[hk]) rfl).elim
   |succ k=>exact congrArg (· +1) (oS hd.2 (t:=t) (m:=m) (m':=m') (by simpa using hj) (by simpa using hk))
theorem uA{anc i t:Nat}:∀{ds:List (Option Nat×Nat)} (_:sr ds=true) {j:Nat} {done sl:List S} {k m:Nat} {s:S},ds[k]? =some (some t,m)->done[k]? =some s->anc.testBit (j+k)=true->
  t<sl.length->b9 (eM anc i j ds done sl) t=s
 | (none,m0)::ds,hd,j,done,sl,k,m,s,h1,h2,h3,ht=>by
   simp only[sr,af]at hd;cases k with
   |zero=>simp at h1
   |succ k=>
    simp only[eM];refine uA hd.2 (k:=k) (by simpa using h1) ?_ (by rw[show j+1+k=j+(k+1) by omega];exact h3) ht
    cases done<;>first| (simp at h2;done)|simpa using h2
 | (some d,m0)::ds,hd,j,[],sl,k,m,s,h1,h2,h3,ht=>by simp at h2
 | (some d,m0)::ds,hd,j,x::done,sl,k,m,s,h1,h2,h3,ht=>by
   have hd':=hd;simp only[sr,af]at hd;cases k with
   |succ k=>
    simp only[eM];exact uA hd.2 (k:=k) (by simpa using h1) (by simpa using h2) (by rw[show j+1+k=j+(k+1) by omega];exact h3) (by rw[gM];exact ht)
   |zero=>
    simp only[List.getElem?_cons_zero,aa,ae]at h1 h2;obtain⟨rfl,rfl⟩:=h1;subst h2;simp only[eM];simp only[Nat.add_zero]at h3
    have hno:∀(k m':Nat),ds[k]? =some (some d,m')->False:=fun k m' hk=>by
     have:=oS hd' (j:=0) (k:=k+1) (t:=d) (m:=m0) (m':=m') (by simp) (by simpa using hk)
     omega
    have key:∀(ds:List (Option Nat×Nat)) (j:Nat) (done sl:List S),(∀(k m':Nat),ds[k]? =some (some d,m')->False)->b9 (eM anc i j ds done sl) d=b9 sl d:=by
     intro ds;induction ds with
     |nil=>intro j done sl _;simp[eM]
     |cons p ds ih=>
      intro j done sl hn;have hn':∀(k m':Nat),ds[k]? =some (some d,m')->False:=fun k m' hk=>hn (k+1) m' (by simpa using hk)
      obtain⟨a,b⟩:=p;cases a with
      |none=>simp only[eM];exact ih _ _ _ hn'
      |some e=>
       have hne:d≠e:=fun he=>hn 0 b (by simp[he])
       have hss:∀(sl:List S) (y:S),b9 (sset sl e y) d=b9 sl d:=fun sl y=>by rw[gh,aq fun h=>hne h.1]
       cases done with
       |nil=>
        simp only[eM];split
        ·exact ih _ _ _ hn'
        ·rw[ih _ _ _ hn',hss]
       |cons y done=>simp only[eM];rw[ih _ _ _ hn',hss]
    rw[key _ _ _ _ hno,gh,ar ⟨rfl,ht⟩,ar h3]
 | [],_,j,done,sl,k,m,s,h1,h2,h3,ht=>by simp at h1
theorem AD{anc i t:Nat}{ds:List (Option Nat×Nat)}{j:Nat}{done sl:List S}(ht:¬t<sl.length):b9 (eM anc i j ds done sl) t= .und:=by
 simp_all[ku,jF]
def gR:List Dr->Nat->Option (Nat×Nat)
 | [],_=>none
 |d::l,x=>if x<d.new.length then some (0,x)else(gR l (x-d.new.length)).map fun p=>(p.1+1,p.2)
theorem qK:∀l,(xS l).length=l.length
 | []=>rfl
 |_::l=>by simp[xS,qK l]
theorem Ar:∀(l:List aQ) (x:Nat),aN (xS l) x= .yet
 | [],x=>by simp[xS,aN]
 |_::l,0=>by simp[xS,aN]
 |_::l,x+1=>by simp[xS,aN,Ar l x]
theorem py(p:Nat->Bool)(j:Nat)(d:Dr)(l:List Dr):ie p j (d::l)=(if p j then d.new else xS d.new)++ie p (j+1) l:=by
 grind[ie,xS]
theorem Al(p:Nat->Bool):∀(l:List Dr) (j x:Nat),aN (ie p j l) x=match gR l x with
  |some (k,y)=>if p (j+k)then(match l[k]? with|some d=>aN d.new y|none=> .yet)else .yet
  |none=> .yet
 | [],j,x=>by simp[ie,gR,aN]
 |d::l,j,x=>by
  rw[py,bZ];have hlen:(if p j=true then d.new else xS d.new).length=d.new.length:=by split<;>simp[qK]
  rw[hlen];simp only[gR];split
  ·grind[Ar]
  ·rw[Al p l (j+1) (x-d.new.length)];cases hl:gR l (x-d.new.length)with
   |none=>simp
   |some q=>
    obtain⟨k,y⟩:=q;simp only[Option.map_some,List.getElem?_cons_succ];rw[show j+1+k=j+(k+1) by omega]
theorem mw(p:Nat->Bool):∀(l:List Dr) (j:Nat),(ie p j l).length=lens l
 | [],j=>by simp[ie,lens]
 |d::l,j=>by
  rw[py,List.length_append,mw p l,lens];split<;>simp[qK]
theorem ga:∀(l:List Dr) (x k y:Nat),gR l x=some (k,y)↔(∃d,l[k]? =some d/\y<d.new.length)/\x=lens (l.take k)+y
 | [],x,k,y=>by simp[gR]
 |d::l,x,k,y=>by
  simp only[gR];cases k with
  |zero=>
   simp only[List.getElem?_cons_zero,aa,exists_eq_left',List.take_zero,lens,Nat.zero_add];split
   ·grind
   ·rename_i hx;constructor
    ·simp_all
    ·intro h;omega
  |succ k=>
   simp only[List.getElem?_cons_succ,List.take_succ_cons,lens];split
   ·grind
   ·rename_i hx;have ih:=ga l (x-d.new.length) k y;constructor
    ·intro h;cases hl:gR l (x-d.new.length)with
     |none=>simp[hl]at h
     |some q=>
      obtain⟨a,b⟩:=q;simp only[hl,Option.map_some,aa,ae]at h;have:gR l (x-d.new.length)=some (k,y):=by rw[hl];simp;omega
      obtain⟨g1,g2⟩:=ih.1 this;exact⟨g1,by omega⟩
    ·rintro⟨g1,g2⟩
     rw[ih.2 ⟨g1,by omega⟩];rfl
theorem vm{ds:List (Option Nat×Nat)}:∀{ops:List Oper} {i0:Nat} {dd:List (Option Nat×Nat)},Dk ds i0 ops dd=true->ops.length=dd.length/\∀(i:Nat) (o:Oper),ops[i]? =some o->
  ∃m,dd[i]? =some (o.dst,m)/\jB ds o.after.toList=m/\m<2^(i0+i)/\∀j,m.testBit j=true->(bh ds j ||| m)=m
 | [],i0,[],_=>⟨rfl,by simp⟩
 | [],_,_::_,h=>by simp[Dk]at h
 |_::_,_,[],h=>by simp[Dk]at h
 |o::l,i0,d::dd,h=>by
  simp only[Dk,af,ai,List.all_eq_true,List.mem_range,Bool.or_eq_true,Bool.not_eq_true',Nat.ble_eq]at h;obtain⟨⟨⟨⟨h1,h2⟩,h3⟩,h4⟩,h5⟩:=h;obtain⟨i1,i2⟩:=vm h5;refine⟨by simp[i1],fun i p hp=>?_⟩
  cases i with
  |zero=>
   simp only[List.getElem?_cons_zero,aa]at hp;subst hp;refine⟨d.2,?_,h2,by rw[Nat.add_zero];exact h3,fun j hj=>?_⟩
   ·grind
   ·have hlt:j<i0:=by
     rcases Nat.lt_or_ge j i0 with h|h
     ·exact h
     ·have:=Nat.testBit_lt_two_pow (x:=d.2) (i:=j) (Nat.lt_of_lt_of_le (by omega) (Nat.pow_le_pow_right (by omega) h))
      rw[this]at hj;simp at hj
    rcases h4 j hlt with h|h
    ·rw[h]at hj;simp at hj
    ·exact h
  |succ i=>
   obtain⟨m,a,b,c,e⟩:=i2 i p (by simpa using hp)
   exact⟨m,by simpa using a,b,by rw[show i0+(i+1)=i0+1+i by omega];exact c,e⟩
structure fq(C:Ctx)(ops:List Oper)(ds:List (Option Nat×Nat))(sl:List S)(res:List aQ)(drs:List Dr):Prop where
 okk:Dk ds 0 ops ds=true
 dst:sr ds=true
 cl:∀t,(∃x,b9 sl t= .v x)\/b9 sl t= .und
 plan:∃st hid,(∀i d,drs[i]? =some d->∃o,ops[i]? =some o/\kN C ops ds sl res st hid (drs.take i) i o=some d)/\∀s d u,drs[s]? =some d->d.up=some u->(s,u.1)∈hid
theorem qI{C:Ctx}{D:List S}{R:List aQ}{o:Oper}{d:Dr}(h:zg C D R o=some d):∃t p x id off y ty c c',o.op= .store t p x/\o.dst=none/\o.guard=none/\dY D [] p=some (.lp id off)/\dY D [] x=some y/\
  nP C.P t=some (eH y)/\cz y=false/\aN R id= .blk ty c/\setAt 8 c off y=some c'/\d= {s:= .und,g:=true,q:=none,new:= [],up:=some (id,.blk ty c')}:=by
 unfold zg at h;split at h
 case h_2=>simp at h
 rename_i t p x hop;split at h
 case h_2=>simp at h
 rename_i hd;split at h
 case h_2=>simp at h
 rename_i hg;split at h
 case h_2=>simp at h
 rename_i pv hp;split at h
 case h_2=>simp at h
 rename_i id off;split at h
 case h_2=>simp at h
 rename_i y hy;split at h
 case isFalse=>simp at h
 rename_i hc;simp only[af,ai,Bool.not_eq_true']at hc;split at h
 case h_2=>simp at h
 rename_i ty c hr;split at h
 case h_2=>simp at h
 rename_i c' hs;simp only[aa]at h;exact⟨t,p,x,id,off,y,ty,c,c',hop,hd,hg,hp,hy,hc.1,hc.2,hr,hs,h.symm⟩
theorem oq{C:Ctx}{ops:List Oper}{st:Bool}{D:List S}{R:List aQ}{nid:Nat}{o:Oper}{d:Dr}(h:uf C ops st D R nid o=some d):vN C ops D R nid o=some d\/zg C D R o=some d:=by
 grind[uf]
theorem vL{C:Ctx}{ops:List Oper}{D:List S}{R:List aQ}{nid:Nat}{o:Oper}{d:Dr}(h:vN C ops D R nid o=some d):d.up=none:=by
 grind[vN]
theorem tY:∀(l:List Dr) (i:Nat),(wK l)[i]? =(l[i]?).map Dr.s
 | [],i=>by simp[wK]
 |d::l,0=>by simp[wK]
 |d::l,i+1=>by simp[wK,tY l i]
theorem FU(l:List Dr):(wK l).length=l.length:=by
 induction l with
 |nil=>rfl
 |cons d l ih=>simp[wK,ih]
theorem Af{sl sl':List S}:∀{ch:List (Nat×Bool)},(∀p∈ch,b9 sl p.1=b9 sl' p.1)->mc sl ch=mc sl' ch
 | [],_=>rfl
 | (s,w)::c,h=>by
   rw[iP,iP,h (s,w) (by simp),Af fun p hp=>h p (by simp[hp])]
section
variable {C:Ctx} {opsA:Array Oper} {ds:List (Option Nat×Nat)} {sl:List S} {res:List aQ} {drs:List Dr}
theorem fq.at(P:fq C opsA.toList ds sl res drs){i:Nat}{o:Oper}(h:opsA[i]? =some o):
  ds[i]? =some (o.dst,bh ds i)/\(∀k,(bh ds i).testBit k=true->k<i)/\
  (∀k,(bh ds i).testBit k=true↔ ∃e∈o.after,Region.binds .any e=true/\(e.on=k\/(bh ds e.on).testBit k=true))/\
  ∀k r,(bh ds i).testBit k=true->(bh ds k).testBit r=true->(bh ds i).testBit r=true:=by
 obtain⟨m,h1,h2,h3,h4⟩:=(vm P.okk).2 i o (by simpa using h)
 have hm:bh ds i=m:=by simp[bh,h1]
 rw[hm];refine⟨h1,fun k hk=>?_,fun k=>?_,fun k r hk hr=>?_⟩
 ·rcases Nat.lt_or_ge k i with h|h
  ·exact h
  ·have:=Nat.testBit_lt_two_pow (x:=m) (i:=k) (Nat.lt_of_lt_of_le h3 (Nat.pow_le_pow_right (by omega) (by omega)))
   rw[this]at hk;simp at hk
 ·rw[<-h2,mz];simp only[Array.mem_toList_iff]
 ·rw[<-h4 k hk,Nat.testBit_or,hr];rfl
def AtW(opsA:Array Oper)(ds:List (Option Nat×Nat)):Prop:=∀i o,opsA[i]? =some o->(∀k,(bh ds i).testBit k=true->k<i)/\
    (∀k,(bh ds i).testBit k=true->∃e∈o.after,Region.binds .any e=true/\(e.on=k\/(bh ds e.on).testBit k=true))/\∀e∈o.after,Region.binds .any e=true->e.on<i
theorem fq.atW(P:fq C opsA.toList ds sl res drs):AtW opsA ds:=fun i o h=>by
 obtain⟨_,p2,p3,_⟩:=P.at h;exact⟨p2,fun k hk=>(p3 k).1 hk,fun e he hb=>p2 _ ((p3 e.on).2 ⟨e,he,hb,.inl rfl⟩)⟩
theorem fq.len(P:fq C opsA.toList ds sl res drs):ds.length=opsA.size:=by
 have:=(vm P.okk).1;simpa using this.symm
def Dat(ds:List (Option Nat×Nat))(sl:List S)(drs:List Dr)(i:Nat):List S:=eM (bh ds i) i 0 ds (wK (drs.take i)) sl
def Y5(ds:List (Option Nat×Nat))(m:Nat)(ch:List (Nat×Bool)):Prop:=∀p∈ch,∃k m',m.testBit k=true/\ds[k]? =some (some p.1,m')
theorem fq.chain(P:fq C opsA.toList ds sl res drs):∀(i:Nat) (d:Dr),drs[i]? =some d->∀ch x,d.s= .gv ch x->d.g=mc (Dat ds sl drs i) ch/\Y5 ds (bh ds i) ch:=by
 intro i;induction i using Nat.strongRecOn with
 |_ i ih=>
  intro d hd ch x hs;obtain⟨st,hid,hpl,_⟩:=P.plan;obtain⟨o,ho,hp⟩:=hpl i d hd;obtain⟨p1,p2,p3,p4⟩:=P.at (i:=i) (o:=o) (by simpa using ho)
  unfold kN at hp;split at hp
  ·rename_i hc;simp only[af]at hc;rcases oq hp with hp|hp
   case inr=>
    obtain⟨_,_,_,_,_,_,_,_,_,_,_,_,_,_,_,_,_,_,rfl⟩:=qI hp;simp at hs
   unfold vN at hp;split at hp
   case isFalse=>simp at hp
   split at hp
   ·simp at hp
   ·simp only[aa]at hp;subst hp;simp at hs
   ·rename_i ch' hch;split at hp
    ·rename_i q y new hop;cases ch' with
     |nil=>simp only[aa]at hp;subst hp;simp at hs
     |cons c0 c1=>
      simp only at hp;split at hp
      ·simp only[aa]at hp;subst hp;simp only[S.gv.injEq]at hs;obtain⟨rfl,rfl⟩:=hs;refine⟨rfl,?_⟩;unfold sj at hch;split at hch
       ·simp at hch
       ·rename_i j w hg;split at hch
        ·simp at hch
        ·rename_i s hsd;have hjb:(bh ds i).testBit j=true:=by have:=hc.1;rw[hg]at this;exact this
         have hj:∃m',ds[j]? =some (some s,m'):=by
          cases hoj:opsA.toList[j]? with
          |none=>simp[hoj]at hsd
          |some oj=>
           simp only[hoj,Option.bind_some]at hsd;have:=(P.at (i:=j) (o:=oj) (by simpa using hoj)).1
           rw[hsd]at this;exact⟨_,this⟩
         have hsub:∀c y,b9 (eM (bh ds i) i 0 ds (wK (drs.take i)) sl) s= .gv c y->Y5 ds (bh ds i) c:=by
          intro c y hy;rcases ki (bh ds i) i s ds 0 (wK (drs.take i)) sl with h|⟨k,m',s',h1,h2,h3,h4⟩|⟨h1,h2⟩
          ·rw[h]at hy;simp at hy
          ·rw[h4]at hy;simp only[Nat.zero_add]at h3;have hki:=p2 k h3;rw[tY,List.getElem?_take,ar hki]at h2;cases hdk:drs[k]? with
           |none=>simp[hdk]at h2
           |some dk=>
            simp only[hdk,Option.map_some,aa]at h2;obtain⟨_,g2⟩:=ih k hki dk hdk c y (by rw[h2];exact hy)
            exact fun p hp=>let ⟨r,m'',e1,e2⟩:=g2 p hp;⟨r,m'',p4 k r h3 e1,e2⟩
          ·rw[h1]at hy;rcases P.cl s with⟨z,hz⟩|hz<;>rw[hz]at hy<;>simp at hy
         have hhead:∃(k m':Nat),(bh ds i).testBit k=true/\ds[k]? =some (some s,m'):=let ⟨m',h⟩:=hj;⟨j,m',hjb,h⟩;clear hop;split at hch<;>(try split at hch)<;>simp only[aa,reduceCtorEq,List.cons.injEq]at hch
         ·obtain⟨rfl,rfl⟩:=hch;intro p hp;simp only[List.mem_singleton]at hp;subst hp;exact hhead
         ·rename_i c b hv;obtain⟨rfl,rfl⟩:=hch;intro p hp;rcases List.mem_cons.1 hp with rfl|hp
          ·exact hhead
          ·exact hsub _ _ hv p hp
         ·simp_all
      ·simp only[aa]at hp;subst hp;simp at hs
    ·simp at hp
  ·simp at hp
theorem fq.Py(P:fq C opsA.toList ds sl res drs){k:Nat}{d:Dr}(hd:drs[k]? =some d){ch:List (Nat×Bool)}{x:V}(hs:d.s= .gv ch x){anc i:Nat}(hi:k<i)
  (hsub:∀r,(bh ds k).testBit r=true->anc.testBit r=true):mc (eM anc i 0 ds (wK (drs.take i)) sl) ch=d.g:=by
 obtain⟨h1,h2⟩:=P.chain k d hd ch x hs;rw[h1];obtain⟨st,hid,hpl,_⟩:=P.plan;obtain⟨o,ho,_⟩:=hpl k d hd;obtain⟨p1,p2,p3,p4⟩:=P.at (i:=k) (o:=o) (by simpa using ho)
 have hklt:k<drs.length:=(List.getElem?_eq_some_iff.1 hd).1;refine Af fun p hp=>?_
 obtain⟨r,m',e1,e2⟩:=h2 p hp;have hr:=p2 r e1;by_cases ht:p.1<sl.length
 ·have hdr:drs[r]? =some (drs[r]'(by omega)):=List.getElem?_eq_getElem (by omega)
  rw[uA P.dst (k:=r) e2 (s:=(drs[r]'(by omega)).s) (by rw[tY,List.getElem?_take,ar (by omega),hdr];rfl) (by simpa using hsub r e1) ht]
  unfold Dat;rw[uA P.dst (k:=r) e2 (s:=(drs[r]'(by omega)).s) (by rw[tY,List.getElem?_take,ar hr,hdr];rfl) (by simpa using e1) ht]
 ·rw[AD ht];unfold Dat;rw[AD ht]
def qu(J:Env)(K:Nat->Prop)(x:Value)(d:Dr):Prop:=
 match d.s with
 | .und=>True
 | .ud=>x=undef
 | .v y=>x=den J y/\ok K y
 | .gv _ y=>(d.g=true->x=den J y/\ok K y)/\(d.g=false->x=undef)
theorem qu.env{J ρ':Env}{K K':Nat->Prop}{x:Value}{d:Dr}(h:qu J K x d)(hK:∀i,K i->K' i)(ha:Env.agree K J ρ'):qu ρ' K' x d:=by
 grind[qu,fL,cZ]
def AV(res:List aQ)(drs:List Dr)(L:Nat->Bool):List aQ:=Kl L 0 drs (res++ie L 0 drs)
def KL(res:List aQ)(drs:List Dr)(L:Nat->Bool)(id:Nat):Prop:=known res id\/(res.length<=id/\∃j y,gR drs (id-res.length)=some (j,y)/\L j=true)
structure Inv(ds:List (Option Nat×Nat))(sl:List S)(res:List aQ)(drs:List Dr)(defs:List (Nat×List V×List V))(ρ0:Env)(w0:World)(F0:Nat->Prop)(L:Nat->Bool)(J:Env)(fps:Nat->Nat->Prop)(a:Act)(w:World):Prop where
 size:a.tmps.size=sl.length
 done:∀t j m d,ds[j]? =some (some t,m)->drs[j]? =some d->L j=true->qu J (KL res drs L) (a.tmps.getD t undef) d
 todo:∀t,(∀j m,ds[j]? =some (some t,m)->L j=false)->gy J (KL res drs L) [] (a.tmps.getD t undef) (b9 sl t)
 heap:bn J fps (AV res drs L) (KL res drs L) w0 F0 w
 down:∀i k,L i=true->(bh ds i).testBit k=true->L k=true
 defs:a.defers=defs.flatMap (kV J)/\∀d∈defs,fc (known res) d.2.1/\fc (known res) d.2.2
 agree:Env.agree (known res) ρ0 J
 newk:∀j d,drs[j]? =some d->L j=true->∀y,y<d.new.length->aN d.new y≠ .yet
theorem gy.plain{J:Env}{K:Nat->Prop}{sl sl':List S}{x:Value}{s:S}(hs:(∃y,s= .v y)\/s= .und)(h:gy J K sl x s):gy J K sl' x s:=by
 rcases hs with⟨y,rfl⟩|rfl
 ·exact h
 ·trivial
theorem fq.view{defs:List (Nat×List V×List V)}{ρ0 J:Env}{w0 w:World}{F0:Nat->Prop}{L:Nat->Bool}{fps:Nat->Nat->Prop}{a:Act}(P:fq C opsA.toList ds sl res drs)(I:Inv ds sl res drs defs ρ0 w0 F0 L J fps a w)
  {anc i:Nat} (h0:i<=drs.length) (h1:∀k,anc.testBit k=true->L k=true/\k<i) (h2:∀k r,anc.testBit k=true->(bh ds k).testBit r=true->anc.testBit r=true)
  (h3:∀k m t,ds[k]? =some (some t,m)->i<=k->(k=i\/m.testBit i=true)->L k=false):iS J (KL res drs L) (eM anc i 0 ds (wK (drs.take i)) sl) a:=by
 refine⟨by rw[jF];exact I.size,fun t=>?_⟩
 rcases ki anc i t ds 0 (wK (drs.take i)) sl with h|⟨k,m',s',e1,e2,e3,e4⟩|⟨e1,e2⟩
 ·rw[h];trivial
 ·simp only[Nat.zero_add]at e3;obtain⟨l1,l2⟩:=h1 k e3;rw[tY,List.getElem?_take,ar l2]at e2;cases hdk:drs[k]? with
  |none=>simp[hdk]at e2
  |some dk=>
   simp only[hdk,Option.map_some,aa]at e2;have hG:=I.done t k m' dk e1 hdk l1;rw[e4,<-e2];unfold qu at hG;cases hds:dk.s with
   |und=>trivial
   |ud=>rw[hds]at hG;exact hG
   |v y=>rw[hds]at hG;exact hG
   |gv c y=>
    rw[hds]at hG;have:=P.Py hdk hds (anc:=anc) (i:=i) l2 (fun r hr=>h2 k r e3 hr)
    exact⟨fun hg=>hG.1 (by rw[<-this];exact hg),fun hg=>hG.2 (by rw[<-this];exact hg)⟩
 ·rw[e1];refine gy.plain (P.cl t) (I.todo t fun j m hj=>?_)
  obtain⟨f1,f2⟩:=e2 j m hj;rw[FU,List.length_take,Nat.min_eq_left h0]at f1;exact h3 j m t hj f1 (by simpa using f2)
end
theorem pj:∀(l:List Dr) (i k y:Nat),(∃d,l[k]? =some d/\y<d.new.length)->k<i->lens (l.take k)+y<lens (l.take i)
 | [],i,k,y,h,_=>by obtain⟨d,h,_⟩:=h;simp at h
 |d::l,0,k,y,_,h=>by omega
 |d::l,i+1,0,y,h,_=>by
  grind[lens]
 |d::l,i+1,k+1,y,h,hk=>by
  have:=pj l i k y (by simpa using h) (by omega)
  simp only[List.take_succ_cons,lens];omega
theorem wj{l:List Dr}{i x k y:Nat}(h:gR (l.take i) x=some (k,y)):k<i/\gR l x=some (k,y):=by
 grind[ga]
theorem iV(res:List aQ)(drs:List Dr)(p:Nat->Bool)(id:Nat):aN (res++ie p 0 drs) id=if id<res.length then aN res id else
  match gR drs (id-res.length)with
  |some (k,y)=>if p k then(match drs[k]? with|some d=>aN d.new y|none=> .yet)else .yet
  |none=> .yet:=by
 simp_all[bZ,Al,gR]
theorem nc{res:List aQ}{drs:List Dr}{p:Nat->Bool}{id:Nat}(h:known (res++ie p 0 drs) id):KL res drs p id:=by
 unfold known at h;rw[iV]at h;by_cases hlt:id<res.length
 ·rw[ar hlt]at h;exact .inl h
 ·rw[aq hlt]at h;refine .inr ⟨by omega,?_⟩
  cases hl:gR drs (id-res.length)with
  |none=>simp[hl]at h
  |some q=>
   obtain⟨k,y⟩:=q;simp only[hl]at h;by_cases hp:p k=true
   ·exact⟨k,y,rfl,hp⟩
   ·rw[aq hp]at h;exact absurd rfl h
theorem CL{res:List aQ}{drs:List Dr}{p L:Nat->Bool}{i:Nat}(hp:∀k,p k=true->L k=true)(id:Nat)(h:known (res++ie p 0 (drs.take i)) id):
  aN (res++ie p 0 (drs.take i)) id=aN (res++ie L 0 drs) id:=by
 grind[known,iV,gR,wj]
def dQ(p:Nat->Bool)(id:Nat):Nat->List Dr->Option aQ
 |_,[]=>none
 |j,d::l=>match dQ p id (j+1) l with
  |some r=>some r
  |none=>match d.up with
   |some u=>if p j&&u.1==id then some u.2 else none
   |none=>none
theorem lz(p:Nat->Bool):∀(l:List Dr) (j:Nat) (R:List aQ),(Kl p j l R).length=R.length
 | [],j,R=>rfl
 |d::l,j,R=>by
  simp only[Kl];split
  ·exact lz p l _ R
  ·split
   ·rw[lz p l,bX]
   ·exact lz p l _ R
theorem o9(p:Nat->Bool)(id:Nat):∀(l:List Dr) (j:Nat) (R:List aQ),id<R.length->aN (Kl p j l R) id=(dQ p id j l).getD (aN R id)
 | [],j,R,h=>rfl
 |d::l,j,R,h=>by
  simp only[Kl,dQ];cases hu:d.up with
  |none=>
   simp only;rw[o9 p id l _ R h];cases dQ p id (j+1) l<;>rfl
  |some u=>
   simp only;by_cases hp:p j=true
   ·rw[ar hp,o9 p id l _ _ (by rw[bX];exact h)]
    cases dQ p id (j+1) l with
    |some r=>rfl
    |none=>
     simp only[Option.getD_none,hp,Bool.true_and];by_cases e:u.1=id
     ·subst e;rw[bJ _ _ _ _ h];simp
     ·by_cases hl:u.1<R.length
      ·rw[bJ _ _ _ _ hl,aq (Ne.symm e)];simp[e]
      ·rw[mo,List.set_eq_of_length_le (by omega)]
       simp[e]
   ·rw[aq hp,o9 p id l _ R h];cases dQ p id (j+1) l with
    |some r=>rfl
    |none=>simp[hp]
theorem kJ{p L:Nat->Bool}{id:Nat}:∀(l:List Dr) (j m:Nat),(∀k d u,l[k]? =some d->d.up=some u->u.1=id->(L (j+k)=true↔k<m/\p (j+k)=true))->dQ p id j (l.take m)=dQ L id j l
 | [],j,m,h=>by simp[dQ]
 |d::l,j,0,h=>by
  have h':=kJ (p:=p) (L:=L) (id:=id) l (j+1) 0 fun k d' u h1 h2 h3=>by
   have:=h (k+1) d' u (by simpa using h1) h2 h3
   rw[show j+1+k=j+(k+1) by omega]
   constructor
   ·intro hh;exact absurd (this.1 hh).1 (by omega)
   ·intro hh;exact absurd hh.1 (by omega)
  simp only[List.take_zero,dQ]at h'⊢;rw[<-h'];simp only;cases hu:d.up with
  |none=>rfl
  |some u=>
   simp only;rw[aq];intro hh;simp only[af,ai]at hh;exact absurd ((h 0 d u (by simp) hu hh.2).1 (by simpa using hh.1)).1 (by omega)
 |d::l,j,m+1,h=>by
  have h':=kJ (p:=p) (L:=L) (id:=id) l (j+1) m fun k d' u h1 h2 h3=>by
   have:=h (k+1) d' u (by simpa using h1) h2 h3
   rw[show j+1+k=j+(k+1) by omega]
   constructor
   ·intro hh;exact⟨by have:=(this.1 hh).1;omega,(this.1 hh).2⟩
   ·intro hh;exact this.2 ⟨by omega,hh.2⟩
  simp only[List.take_succ_cons,dQ,h'];cases dQ L id (j+1) l with
  |some r=>rfl
  |none=>
   simp only;cases hu:d.up with
   |none=>rfl
   |some u=>
    simp only;by_cases e:u.1=id
    ·have:=h 0 d u (by simp) hu e
     simp only[Nat.add_zero]at this
     have hb:p j=L j:=by
      rw[Bool.eq_iff_iff];exact⟨fun hh=>this.2 ⟨by omega,hh⟩,fun hh=>(this.1 hh).2⟩
     rw[hb]
    ·simp[e]
theorem ix{p:Nat->Bool}{id:Nat}{r:aQ}:∀(l:List Dr) (j:Nat),dQ p id j l=some r->∃k d,l[k]? =some d/\d.up=some (id,r)/\p (j+k)=true
 | [],j,h=>by simp[dQ]at h
 |d::l,j,h=>by
  simp only[dQ]at h;split at h
  ·rename_i r' hr;simp only[aa]at h;subst h;obtain⟨k,d',h1,h2,h3⟩:=ix l (j+1) hr;exact⟨k+1,d',by simpa using h1,h2,by rw[show j+(k+1)=j+1+k by omega];exact h3⟩
  ·split at h
   ·rename_i u hu;split at h
    ·rename_i hc;simp only[af,ai]at hc;simp only[aa]at h;subst h;exact⟨0,d,by simp,by rw[hu,<-hc.2],by simpa using hc.1⟩
    ·simp at h
   ·simp at h
theorem vV{p:Nat->Bool}{id:Nat}{r:aQ}:∀(l:List Dr) (j s:Nat) (d:Dr),l[s]? =some d->d.up=some (id,r)->p (j+s)=true->(∀k d' u,s<k->l[k]? =some d'->d'.up=some u->u.1=id->p (j+k)=false)->dQ p id j l=some r
 | [],j,s,d,h,_,_,_=>by simp at h
 |x::l,j,0,d,h,hu,hp,hn=>by
  simp only[List.getElem?_cons_zero,aa]at h;subst h;simp only[dQ]
  have:dQ p id (j+1) l=none:=by
   cases hl:dQ p id (j+1) l with
   |none=>rfl
   |some r'=>
    obtain⟨k,d',h1,h2,h3⟩:=ix l (j+1) hl;have:=hn (k+1) d' _ (by omega) (by simpa using h1) h2 rfl
    rw[show j+(k+1)=j+1+k by omega,h3]at this
    simp at this
  rw[this,hu];simp only[Nat.add_zero]at hp;simp[hp]
 |x::l,j,s+1,d,h,hu,hp,hn=>by
  simp only[dQ]
  rw[vV l (j+1) s d (by simpa using h) hu (by rw[show j+1+s=j+(s+1) by omega];exact hp) fun k d' u h1 h2 h3 h4=>by
   rw[show j+1+k=j+(k+1) by omega]
   exact hn (k+1) d' u (by omega) (by simpa using h2) h3 h4]
theorem oO(ds:List (Option Nat×Nat))(i:Nat):∀(h:List (Nat×Nat)) (R:List aQ) (id:Nat),known (zP ds i h R) id->aN (zP ds i h R) id=aN R id/\known R id/\∀s,(s,id)∈h->s=i\/(bh ds i).testBit s=true\/(bh ds s).testBit i=true
 | [],R,id,hk=>⟨rfl,hk,by simp⟩
 |u::h,R,id,hk=>by
  unfold zP at hk⊢;split at hk
  ·rename_i hc;rw[ar hc];obtain⟨a,b,c⟩:=oO ds i h R id hk;refine⟨a,b,fun s hs=>?_⟩
   rcases List.mem_cons.1 hs with rfl|hs
   ·grind
   ·exact c s hs
  ·rename_i hc;rw[aq hc];obtain⟨a,b,c⟩:=oO ds i h _ id hk
   have hne:u.2≠id\/¬u.2<R.length:=by
    grind[known,bJ]
   have hr:aN (bQ R u.2 .yet) id=aN R id:=by
    rcases hne with e|hl
    ·by_cases hl:u.2<R.length
     ·rw[bJ _ _ _ _ hl,aq (Ne.symm e)]
     ·rw[mo,List.set_eq_of_length_le (by omega)]
    ·rw[mo,List.set_eq_of_length_le (by omega)]
   have hkR:known R id:=by unfold known at b⊢;rw[<-hr];exact b
   refine⟨by rw[a,hr],hkR,fun s hs=>?_⟩
   rcases List.mem_cons.1 hs with rfl|hs
   ·exfalso
    rcases hne with e|hl
    ·exact e rfl
    ·exact hl (aW hkR)
   ·exact c s hs
def ins(L:Nat->Bool)(i:Nat)(k:Nat):Bool:=k==i||L k
theorem JQ{res:List aQ}{drs:List Dr}{L:Nat->Bool}{i:Nat}{d:Dr}(hd:drs[i]? =some d)(hi:L i=false)(hnew:∀k,k<d.new.length->aN d.new k≠ .yet):
  R1 (res++ie L 0 drs) (res++ie (ins L i) 0 drs) (res.length+lens (drs.take i)) d.new/\
  (∀id,KL res drs L id->¬fresh (res.length+lens (drs.take i)) d.new.length id)/\
  (∀id,KL res drs L id\/fresh (res.length+lens (drs.take i)) d.new.length id->KL res drs (ins L i) id):=by
 have hfr:∀id,fresh (res.length+lens (drs.take i)) d.new.length id↔res.length<=id/\∃y,gR drs (id-res.length)=some (i,y):=by
  intro id;constructor
  ·rintro⟨h1,h2⟩
   refine⟨by omega,id-res.length-lens (drs.take i),?_⟩
   rw[ga];exact⟨⟨d,hd,by omega⟩,by omega⟩
  ·rintro⟨h1,y,h2⟩
   rw[ga]at h2;obtain⟨⟨d',h3,h4⟩,h5⟩:=h2;rw[hd]at h3;simp only[aa]at h3;subst h3;exact⟨by omega,by omega⟩
 have hKf:∀id,KL res drs L id->¬fresh (res.length+lens (drs.take i)) d.new.length id:=by
  rintro id (hk|⟨h1,j,y,h2,h3⟩) hf
  ·have:=aW hk;have:=((hfr id).1 hf).1;omega
  ·simp_all
 refine⟨⟨fun id hk=>⟨?_,hKf id (nc hk)⟩,fun id hk=>?_,fun k hk=>?_⟩,hKf,?_⟩
 ·have h0:=nc hk;rw[iV,iV];by_cases hlt:id<res.length
  ·rw[ar hlt,ar hlt]
  ·grind[aW,ins]
 ·rcases nc hk with h0|⟨h1,j,y,h2,h3⟩
  ·left
   unfold known;rw[iV,ar (aW h0)];exact h0
  ·by_cases e:j=i
   ·subst e;exact .inr ((hfr id).2 ⟨h1,y,h2⟩)
   ·left
    have h3':L j=true:=by simpa[ins,e]using h3
    unfold known at hk⊢;rw[iV,aq (by omega),h2]at hk⊢
    simp only[h3,h3',if_true]at hk⊢;exact hk
 ·rw[iV,aq (by omega)]
  have:gR drs (res.length+lens (drs.take i)+k-res.length)=some (i,k):=by
   rw[ga];exact⟨⟨d,hd,hk⟩,by omega⟩
  rw[this];simp only[ins,beq_self_eq_true,Bool.true_or,if_true,hd]
 ·rintro id (h|h)
  ·rcases h with h|⟨h1,j,y,h2,h3⟩
   ·exact .inl h
   ·exact .inr ⟨h1,j,y,h2,by simp[ins,h3]⟩
  ·obtain⟨h1,y,h2⟩:=(hfr id).1 h;exact .inr ⟨h1,i,y,h2,by simp[ins]⟩
section
variable {C:Ctx} {opsA:Array Oper} {ds:List (Option Nat×Nat)} {sl:List S} {res:List aQ} {drs:List Dr} {defs:List (Nat×List V×List V)} {ρ0 J:Env} {w0 w:World} {F0:Nat->Prop} {L:Nat->Bool} {fps:Nat->Nat->Prop} {a:Act}
theorem Inv.put(P:fq C opsA.toList ds sl res drs)(I:Inv ds sl res drs defs ρ0 w0 F0 L J fps a w){i:Nat}{o:Oper}{d:Dr}(ho:opsA[i]? =some o)(hd:drs[i]? =some d)(hdst:ED sl.length o.dst=true)
  {ρ':Env} {fps':Nat->Nat->Prop} {w':World} {x:Value} (hL:∀k,(bh ds i).testBit k=true->L k=true) (hK:∀id,KL res drs L id->KL res drs (ins L i) id) (hag:Env.agree (KL res drs L) J ρ')
  (hH:bn ρ' fps' (AV res drs (ins L i)) (KL res drs (ins L i)) w0 F0 w') (hx:qu ρ' (KL res drs (ins L i)) x d) (hnew:∀y,y<d.new.length->aN d.new y≠ .yet):
  Inv ds sl res drs defs ρ0 w0 F0 (ins L i) ρ' fps' (a.put o.dst x) w':=by
 have hpi:=(P.at ho).1;have hsz:(a.put o.dst x).tmps.size=a.tmps.size:=by cases o.dst<;>simp[Act.put]
 have hold:∀t,o.dst≠some t->(a.put o.dst x).tmps.getD t undef=a.tmps.getD t undef:=by
  intro t ht;cases hdd:o.dst with
  |none=>simp[Act.put]
  |some e=>
   have:e≠t:=fun h=>ht (by rw[hdd,h])
   simp[Act.put,Array.getD_eq_getD_getElem?,Array.getElem?_setIfInBounds_ne this]
 refine⟨by rw[hsz];exact I.size,?_,?_,hH,?_,?_,?_,?_⟩
 ·intro t j m dj h1 h2 h3;by_cases e:o.dst=some t
  ·rw[e]at hpi;have:=oS P.dst h1 hpi;subst this;rw[hd]at h2;simp only[aa]at h2;subst h2;rw[e]at hdst;have hlt:t<sl.length:=by simpa[ED]using hdst
   have:(a.put o.dst x).tmps.getD t undef=x:=by
    rw[e];simp[Act.put,I.size,hlt]
   rw[this];exact hx
  ·rw[hold t e]
   have hji:j≠i:=fun hji=>by
    simp_all
   exact(I.done t j m dj h1 h2 (by simpa[ins,hji]using h3)).env hK hag
 ·intro t hall
  have e:o.dst≠some t:=fun e=>by
   grind[ins]
  rw[hold t e]
  exact(I.todo t fun j m hj=>by
   have:=hall j m hj;simp only[ins,Bool.or_eq_false_iff]at this;exact this.2).env hK hag
 ·intro j k hj hk;simp only[ins,Bool.or_eq_true,ai]at hj⊢;rcases hj with rfl|hj
  ·exact .inr (hL k hk)
  ·exact .inr (I.down j k hj hk)
 ·have hag':Env.agree (known res) J ρ':=hag.mono fun id h=> .inl h
  obtain⟨e1,e2⟩:=eA (ρ':=ρ') (K':=known res) I.defs.2 hag' fun _ h=>h
  exact⟨by rw[show(a.put o.dst x).defers=a.defers from put_defers _ _ _,I.defs.1];exact e1.symm,e2⟩
 ·exact I.agree.trans (hag.mono fun id h=> .inl h) fun _ h=>h
 ·intro j dj h1 h2;by_cases e:j=i
  ·simp_all
  ·exact I.newk j dj h1 (by simpa[ins,e]using h2)
theorem wR{p q:Nat->Bool}(h:∀k,p k=true->q k=true){id:Nat}(hk:KL res drs p id):KL res drs q id:=by
 rcases hk with h1|⟨h1,j,y,h2,h3⟩
 ·exact .inl h1
 ·exact .inr ⟨h1,j,y,h2,h j h3⟩
theorem Q0{p:Nat->Bool}{i id:Nat}(hk:KL res (drs.take i) p id):KL res drs p id:=by
 rcases hk with h1|⟨h1,j,y,h2,h3⟩
 ·exact .inl h1
 ·exact .inr ⟨h1,j,y,(wj h2).2,h3⟩
theorem oK:(AV res drs L).length=res.length+lens drs:=by unfold AV;rw[lz,List.length_append,mw]
theorem o5{id:Nat}(h:id<res.length+lens drs):aN (AV res drs L) id=(dQ L id 0 drs).getD (aN (res++ie L 0 drs) id):=by
 unfold AV;rw[o9 _ _ _ _ _ (by rw[List.length_append,mw];exact h)]
theorem Fs{st:Bool}{hid:List (Nat×Nat)}(hpl:∀i d,drs[i]? =some d->∃o,opsA.toList[i]? =some o/\kN C opsA.toList ds sl res st hid (drs.take i) i o=some d){s:Nat}{d:Dr}{u:Nat×aQ}(hd:drs[s]? =some d)(hu:d.up=some u):
  ∃o,opsA.toList[s]? =some o/\ED sl.length o.dst=true/\zg C (eM (bh ds s) s 0 ds (wK (drs.take s)) sl) (vw ds hid res (drs.take s) s) o=some d:=by
 obtain⟨o,ho,hp⟩:=hpl s d hd;unfold kN at hp;split at hp
 case isFalse=>simp at hp
 rename_i hc;simp only[af]at hc;rcases oq hp with h|h
 ·rw[vL h]at hu;simp at hu
 ·exact⟨o,ho,hc.2,h⟩
theorem nR(P:fq C opsA.toList ds sl res drs):∀(s:Nat) (d:Dr) (u:Nat×aQ),drs[s]? =some d->d.up=some u->KL res drs (fun k=>(bh ds s).testBit k) u.1/\∃ty c,u.2= .blk ty c:=by
 obtain⟨st,hid,hpl,hhid⟩:=P.plan;intro s;induction s using Nat.strongRecOn with
 |_ s ih=>
  intro d u hd hu;obtain⟨o,ho,_,hp⟩:=Fs hpl hd hu;obtain⟨p1,p2,p3,p4⟩:=P.at (i:=s) (o:=o) (by simpa using ho)
  obtain⟨t,p,x,id,off,y,ty,c,c',_,_,_,_,_,_,_,hr,_,rfl⟩:=qI hp;simp only[aa]at hu;subst hu;refine⟨?_,ty,c',rfl⟩;have hk:known (vw ds hid res (drs.take s) s) id:=by unfold known;rw[hr];simp
  obtain⟨_,hk2,_⟩:=oO _ _ _ _ _ hk;have hlen:=aW hk2;rw[lz]at hlen;unfold known at hk2;rw[o9 _ _ _ _ _ hlen]at hk2;cases hl:dQ (Nat.testBit (bh ds s)) id 0 (drs.take s)with
  |some r=>
   obtain⟨k,d',h1,h2,h3⟩:=ix _ _ hl;rw[List.getElem?_take]at h1;simp only[Nat.zero_add]at h3;have hks:=p2 k h3;rw[ar hks]at h1;exact wR (fun q hq=>p4 k q h3 hq) (ih k hks d' _ h1 h2).1
  |none=>
   rw[hl]at hk2;rw[rC]at hk2;exact Q0 (nc hk2)
theorem CW(P:fq C opsA.toList ds sl res drs)(hdown:∀i k,L i=true->(bh ds i).testBit k=true->L k=true){id:Nat}(hk:known (AV res drs L) id):KL res drs L id:=by
 have hlt:=aW hk;rw[oK]at hlt;unfold known at hk;rw[o5 hlt]at hk;cases hl:dQ L id 0 drs with
 |some r=>
  obtain⟨k,d',h1,h2,h3⟩:=ix _ _ hl;simp only[Nat.zero_add]at h3;exact wR (fun q hq=>hdown k q h3 hq) (nR P k d' _ h1 h2).1
 |none=>
  rw[hl]at hk;exact nc hk
theorem A1{hid:List (Nat×Nat)}(P:fq C opsA.toList ds sl res drs)(hhid:∀s d u,drs[s]? =some d->d.up=some u->(s,u.1)∈hid){i:Nat}(hil:i<=drs.length)(hi:L i=false)(hL:∀k,(bh ds i).testBit k=true->L k=true)
  (hlt:∀k,(bh ds i).testBit k=true->k<i) (hdown:∀i k,L i=true->(bh ds i).testBit k=true->L k=true) {id:Nat} (hk:known (vw ds hid res (drs.take i) i) id):aN (vw ds hid res (drs.take i) i) id=aN (AV res drs L) id:=by
 obtain⟨h1,h2,h3⟩:=oO _ _ _ _ _ hk;have hlen:=aW h2;rw[lz]at hlen;unfold vw;rw[h1,o9 _ _ _ _ _ hlen]
 have hlen2:id<res.length+lens drs:=by
  rw[rC,List.length_append,mw]at hlen
  have:lens (drs.take i)<=lens drs:=by
   have:∀(l:List Dr) (n:Nat),lens (l.take n)<=lens l:=by
    intro l;induction l with
    |nil=>intro n;simp[lens]
    |cons d l ih=>
     intro n;cases n with
     |zero=>simp[lens]
     |succ n=>simp only[List.take_succ_cons,lens];have:=ih n;omega
   exact this drs i
  omega
 rw[o5 hlen2]
 have hup:dQ (Nat.testBit (bh ds i)) id 0 (drs.take i)=dQ L id 0 drs:=by
  grind[kJ]
 rw[hup];cases hl:dQ L id 0 drs with
 |some r=>rfl
 |none=>
  simp only[Option.getD_none];unfold known at h2;rw[o9 _ _ _ _ _ hlen,hup,hl]at h2;rw[rC]at h2⊢;exact CL (fun k hk=>hL k hk) id h2
theorem BL(P:fq C opsA.toList ds sl res drs)(hdown:∀i k,L i=true->(bh ds i).testBit k=true->L k=true){i:Nat}{d:Dr}(hd:drs[i]? =some d)(hi:L i=false)(hu:d.up=none)(hnew:∀k,k<d.new.length->aN d.new k≠ .yet):
  R1 (AV res drs L) (AV res drs (ins L i)) (res.length+lens (drs.take i)) d.new/\
  (∀id,KL res drs L id->¬fresh (res.length+lens (drs.take i)) d.new.length id)/\
  (∀id,KL res drs L id\/fresh (res.length+lens (drs.take i)) d.new.length id->KL res drs (ins L i) id):=by
 obtain⟨⟨a1,a2,a3⟩,b,c⟩:=JQ (res:=res) hd hi hnew
 have hup:∀id,dQ (ins L i) id 0 drs=dQ L id 0 drs:=fun id=>by
  have:=kJ (p:=ins L i) (L:=L) (id:=id) drs 0 drs.length fun k d' u e1 e2 e3=>by
   grind[ins]
  rwa [List.take_length]at this
 have hnot:∀id,KL res drs L id->∀r,dQ L id 0 drs=some r->r≠ .yet:=fun id _ r hr=>by
  obtain⟨k,d',h1,h2,_⟩:=ix _ _ hr;obtain⟨_,ty,c,e⟩:=nR P k d' _ h1 h2;simp only at e;rw[e];simp
 refine⟨⟨fun id hk=>?_,fun id hk=>?_,fun k hk=>?_⟩,b,c⟩
 ·grind[CW,aW,oK,o5,dQ,known]
 ·grind[aW,oK,known,o5,dQ]
 ·have h3:=a3 k hk
  have hlt:res.length+lens (drs.take i)+k<res.length+lens drs:=by
   have:=pj drs drs.length i k ⟨d,hd,hk⟩ (List.getElem?_eq_some_iff.1 hd).1;rw[List.take_length]at this;omega
  rw[o5 hlt,hup];have hfr:fresh (res.length+lens (drs.take i)) d.new.length (res.length+lens (drs.take i)+k):=⟨by omega,by omega⟩
  cases hl:dQ L (res.length+lens (drs.take i)+k) 0 drs with
  |none=>exact h3
  |some r=>
   exfalso
   obtain⟨s,d',h1,h2,h4⟩:=ix _ _ hl;simp only[Nat.zero_add]at h4;exact b _ (wR (fun q hq=>hdown s q h4 hq) (nR P s d' _ h1 h2).1) hfr
theorem Om(P:fq C opsA.toList ds sl res drs){hid:List (Nat×Nat)}(hhid:∀s d u,drs[s]? =some d->d.up=some u->(s,u.1)∈hid)(hdown:∀i k,L i=true->(bh ds i).testBit k=true->L k=true){i:Nat}{d:Dr}{id:Nat}{r:aQ}(hd:drs[i]? =some d)
  (hi:L i=false) (hu:d.up=some (id,r)) (hn:d.new= []) (hk:known (vw ds hid res (drs.take i) i) id) (hlt:∀k,(bh ds i).testBit k=true->k<i) (hkn:known (AV res drs L) id):
  (∀x,known (AV res drs (ins L i)) x->aN (AV res drs (ins L i)) x=aN (bQ (AV res drs L) id r) x)/\∀x,KL res drs L x↔KL res drs (ins L i) x:=by
 have hKL:∀x,KL res drs L x↔KL res drs (ins L i) x:=fun x=>by
  constructor
  ·exact wR fun k hk=>by simp[ins,hk]
  ·rintro(h|⟨h1,j,y,h2,h3⟩)
   ·exact .inl h
   ·refine .inr ⟨h1,j,y,h2,?_⟩
    have hj:j≠i:=fun e=>by
     simp_all[ga]
    simpa[ins,hj]using h3
 refine⟨fun x hx=>?_,hKL⟩
 have hxl:=aW hx;rw[oK]at hxl;have hidl:=aW hkn
 have hbase:aN (res++ie (ins L i) 0 drs) x=aN (res++ie L 0 drs) x:=by
  grind[iV,gR,ga,ins]
 rw[bJ _ _ _ _ hidl,o5 hxl];by_cases e:x=id
 ·subst e;rw[ar rfl,vV drs 0 i d hd hu (by simp[ins]) fun k d' u h1 h2 h3 h4=>?_]
  ·rfl
  ·simp only[Nat.zero_add,ins,Bool.or_eq_false_iff,beq_eq_false_iff_ne];refine⟨by omega,?_⟩
   cases hLk:L k with
   |false=>rfl
   |true=>
    exfalso
    obtain⟨_,_,h5⟩:=oO _ _ _ _ _ hk;have hm:=hhid k d' u h2 h3;rw[h4]at hm;rcases h5 k hm with rfl|h|h
    ·omega
    ·have:=hlt k h;omega
    ·rw[hdown k i hLk h]at hi;simp at hi
 ·rw[aq e,o5 hxl,hbase]
  have hup:dQ (ins L i) x 0 drs=dQ L x 0 drs:=by
   have:=kJ (p:=ins L i) (L:=L) (id:=x) drs 0 drs.length fun k d' u e1 e2 e3=>by
    grind[ins]
   rwa [List.take_length]at this
  rw[hup]
theorem Inv.step[Fen]{ops:Array Oper}{K:Act->World->Prop}{Q:Exit->Act->World->Prop}{ro:Option Nat}(hops:ops=opsA)(hnd:ro≠none->∀o∈opsA.toList,fe o)(hC:C.Sound)(P:fq C opsA.toList ds sl res drs)(hq:∀(i:Nat) (d:Dr),drs[i]? =some d->(d.g=true->cK d.q))
  (I:Inv ds sl res drs defs ρ0 w0 F0 L J fps a w) {i:Nat} {d:Dr} (hd:drs[i]? =some d)
  (hi:L i=false) (hL:∀k,(bh ds i).testBit k=true->L k=true)
  (hn:∀ρ' fps' a' w',Inv ds sl res drs defs ρ0 w0 F0 (ins L i) ρ' fps' a' w'->K a' w'):wpOpIn (FF C.P ro) 0 C.P ops Q i K a w:=by
 subst hops;obtain⟨st,hid,hpl,hhid⟩:=P.plan;obtain⟨o,ho,hp⟩:=hpl i d hd;have ho':ops[i]? =some o:=by simpa using ho
 obtain⟨p1,p2,p3,p4⟩:=P.at ho';have hilt:i<drs.length:=(List.getElem?_eq_some_iff.1 hd).1
 have hview:iS J (KL res drs L) (eM (bh ds i) i 0 ds (wK (drs.take i)) sl) a:=by
  refine P.view I (by omega) (fun k hk=>⟨hL k hk,p2 k hk⟩) p4 fun k m t h1 h2 h3=>?_
  rcases h3 with rfl|h3
  ·exact hi
  ·cases hLk:L k with
   |false=>rfl
   |true=>
    have hm:bh ds k=m:=by simp[bh,h1]
    have:=I.down k i hLk (by rw[hm];exact h3)
    rw[hi]at this;exact absurd this (by simp)
 have hres:bn J fps (vw ds hid res (drs.take i) i) (KL res drs L) w0 F0 w:=I.heap.forget fun id hk=>A1 P hhid (by omega) hi hL p2 I.down hk
 unfold wpOpIn;simp only[ho'];have hdo:ro≠none->fe o:=fun hr=>hnd hr o (by rw[<-Array.getElem?_toList]at ho';exact List.mem_of_getElem? ho')
 unfold kN at hp;split at hp
 ·rename_i hc;simp only[af]at hc;rcases oq hp with hp|hp
  case inr=>
   obtain⟨t,px,x,id,off,y,ty,c,c',q1,q2,q3,q4,q5,q6,q7,q8,q9,rfl⟩:=qI hp;rw[ar (by simp[Region.wanted,q3])]
   have hkv:known (vw ds hid res (drs.take i) i) id:=by unfold known;rw[q8];simp
   have hav:aN (AV res drs L) id= .blk ty c:=by rw[<-A1 P hhid (by omega) hi hL p2 I.down hkv];exact q8
   have hkn:known (AV res drs L) id:=by unfold known;rw[hav];simp
   obtain⟨e1,e2⟩:=gB hview rfl q4;obtain⟨e3,e4⟩:=gB hview rfl q5
   have hst:pg C.P (AV res drs L) t (.lp id off) y=some (bQ (AV res drs L) id (.blk ty c')):=by
    simp_all[pg]
   obtain⟨w',s1,s2,s3⟩:=qo I.heap hst e2 e4;have hrun:(execOp a.eval o).run C.P w= .ok .skip w':=by simp[execOp,q1,e1,e3,s1]
   refine ev hdo (fun f hf=>by unfold Oper.about at hf;rw[q1]at hf;simp at hf) ?_
   rw[hrun];obtain⟨t1,t2⟩:=Om P hhid I.down hd hi rfl rfl hkv p2 hkn;have hH:bn J fps (AV res drs (ins L i)) (KL res drs (ins L i)) w0 F0 w':=(s2.p5 fun id h=>(t2 id).1 h).forget t1
   exact hn _ _ _ _ (I.put P ho' hd hc.2 hL (fun id h=>(t2 id).1 h) (Env.agree.refl _ _) hH (by simp[qu]) (by simp))
  have hun:=vL hp;unfold vN at hp
  have hsame:d.new= []->∀x,(∀ρ',ρ'=J->qu ρ' (KL res drs (ins L i)) x d)->Inv ds sl res drs defs ρ0 w0 F0 (ins L i) J fps (a.put o.dst x) w:=by
   intro hnew x hx;obtain⟨a1,a2,a3⟩:=BL P I.down hd hi hun (by rw[hnew];simp)
   obtain⟨fps',g1,g2⟩:=I.heap.grow (ρ':=J) a1 a2 a3 (by rw[hnew];exact kW.refl _ _ _ _ _ _)
   have hH:bn J fps (AV res drs (ins L i)) (KL res drs (ins L i)) w0 F0 w:=by
    refine(I.heap.p5 fun id h=>a3 id (.inl h)).forget fun id hk=>?_
    rcases a1.2.1 id hk with h|h
    ·exact(a1.1 id h).1
    ·unfold fresh at h;rw[hnew]at h;simp at h;omega
   exact I.put P ho' hd hc.2 hL (fun id h=>a3 id (.inl h)) (Env.agree.refl _ _) hH (hx J rfl) (by rw[hnew];simp)
  split at hp
  case isFalse=>simp at hp
  rename_i hab;have hab:=Dh hview hab w;split at hp
  ·simp at hp
  ·rename_i hch;simp only[aa]at hp;rw[mB hview hch];simp only[wG,Bool.false_eq_true,if_false];refine⟨fun f hf _=>hab f hf,?_⟩
   exact hn _ _ _ _ (hsame (by rw[<-hp]) undef fun ρ' _=>by subst hp;simp[qu])
  ·rename_i ch hch;rw[mB hview hch];rw[show wG (eM (bh ds i) i 0 ds (wK (drs.take i)) sl) (some ch)=mc (eM (bh ds i) i 0 ds (wK (drs.take i)) sl) ch from rfl];split at hp
   ·rename_i q x new hop
    have hcase:(mc (eM (bh ds i) i 0 ds (wK (drs.take i)) sl) ch=true/\cK q/\d.s= .v x/\d.new=new)\/∃c0 c1,ch=c0::c1/\new= []/\d= {s:= .gv (c0::c1) x,g:=mc (eM (bh ds i) i 0 ds (wK (drs.take i)) sl) (c0::c1),q:=q,new:= []}:=by
     cases ch with
     |nil=>
      simp only[aa]at hp;subst hp;exact .inl ⟨rfl,hq i _ hd rfl,rfl,rfl⟩
     |cons c0 c1=>
      simp only at hp;split at hp<;>simp only[aa]at hp
      ·rename_i hne;exact .inr ⟨c0,c1,rfl,by simpa using hne,hp.symm⟩
      ·subst hp;obtain⟨h1,h2⟩:=hq i _ hd rfl;exact .inl ⟨h1,h2,rfl,rfl⟩
    rcases hcase with⟨hgo,hq',hds,hdn⟩|⟨c0,c1,rfl,rfl,rfl⟩
    ·obtain rfl:=hdn;rw[ar hgo];refine ev hdo hab ?_
     have hnK:∀k,k<d.new.length->¬KL res drs L (res.length+lens (drs.take i)+k):=fun k hk h=>by
      have hfr:fresh (res.length+lens (drs.take i)) d.new.length (res.length+lens (drs.take i)+k):=⟨by omega,by omega⟩
      rcases h with h|⟨h1,j,y,h2,h3⟩
      ·have:=aW h;omega
      ·have h4:gR drs (res.length+lens (drs.take i)+k-res.length)=some (i,k):=by
        rw[ga];exact⟨⟨_,hd,hk⟩,by omega⟩
       rw[h4]at h2;simp only[aa,ae]at h2;rw[<-h2.1,hi]at h3;simp at h3
     obtain⟨hy,hnew⟩:=mK hC hop hview hres hgo hq' hnK;refine hy.wp fun v w' ⟨ρ',hg,hv,hx⟩=>?_
     obtain⟨a1,a2,a3⟩:=BL P I.down hd hi hun hnew;obtain⟨fps',g1,g2⟩:=I.heap.grow a1 a2 a3 hg;exact hn _ _ _ _ (I.put P ho' hd hc.2 hL (fun id h=>a3 id (.inl h)) g2 g1 (by unfold qu;rw[hds];exact⟨hv,cZ a3 _ hx⟩) hnew)
    ·by_cases hg:mc (eM (bh ds i) i 0 ds (wK (drs.take i)) sl) (c0::c1)=true
     ·rw[ar hg];refine ev hdo hab ?_;have hq':cK q:=hq i _ hd hg;obtain⟨hy,_⟩:=mK hC hop hview hres hg hq' (fun k hk=>by simp at hk)
      refine hy.wp fun v w' ⟨ρ',hgr,hv,hx⟩=>?_
      obtain⟨a1,a2,a3⟩:=BL P I.down hd hi hun (by simp)
      obtain⟨fps',g1,g2⟩:=I.heap.grow a1 a2 a3 hgr;refine hn _ _ _ _ (I.put P ho' hd hc.2 hL (fun id h=>a3 id (.inl h)) g2 g1 ⟨fun _=>⟨hv,cZ a3 _ hx⟩,fun h=>?_⟩ (by simp))
      simp only at h;rw[hg]at h;simp at h
     ·rw[aq hg];refine⟨fun f hf _=>hab f hf,?_⟩
      exact hn _ _ _ _ (hsame rfl undef fun ρ' _=>⟨fun h=>absurd h hg,fun _=>rfl⟩)
   ·simp at hp
 ·simp at hp
end
end Go.Sx
