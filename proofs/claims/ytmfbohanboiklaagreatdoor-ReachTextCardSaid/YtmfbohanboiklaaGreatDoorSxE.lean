import Derived.Test.YtmfbohanboiklaaGreatDoorSxD
set_option linter.unusedSimpArgs false
set_option linter.unusedVariables false
namespace Go.Sx
open Go.RowKit (Below)
inductive Out where
 |norm
 |exit (i:Nat)
 |goto (l:Nat)
 |ret
 |pan (v:V)
def wo(J:Env)(res:List aI):Exit->Out->Prop
 | .normal,.norm=>True
 | .exit i,.exit j=>i=j
 | .goto i,.goto j=>i=j
 | .ret,.ret=>True
 | .panic chain,.pan v=>chain= [{v:=den J v,recovered:=false}]/\ok (known res) v
 |_,_=>False
def dr(ρ0:Env)(res0:List aI)(w0:World)(F0:Nat->Prop)(K:Out->St->Prop):Exit->Act->World->Prop:=fun e a w=>
 ∃out U J fps,wo J U.res e out/\K out U/\fq J fps U w0 F0 a w/\Good ρ0 res0 J U.res
theorem dr.yR{ρ0:Env}{res0:List aI}{w0:World}{F0:Nat->Prop}{K:Out->St->Prop}:¬LetsOut (dr ρ0 res0 w0 F0 K):=by
 rintro⟨a,w,out,U,J,fps,h1,_⟩
 cases out<;>exact h1
theorem dr.mono{ρ0:Env}{res0:List aI}{w0:World}{F0:Nat->Prop}{K K':Out->St->Prop}{e:Exit}{a:Act}{w:World}(h:dr ρ0 res0 w0 F0 K e a w)(hK:∀o U,K o U->K' o U):
  dr ρ0 res0 w0 F0 K' e a w:=
 let ⟨o,U,J,fps,h1,h2,h3,h4⟩:=h
 ⟨o,U,J,fps,h1,hK _ _ h2,h3,h4⟩
def aM(ds:List (Option Nat×Nat))(i:Nat):Nat:=
 match ds[i]? with
 |some p=>p.2
 |none=>0
def eK(ds:List (Option Nat×Nat))(es:List Edge):Nat:=
 match es with
 | []=>0
 |e::l=>if Region.binds .any e then(2^e.on ||| aM ds e.on) ||| eK ds l else eK ds l
def ED:List Oper->List (Option Nat×Nat)->List (Option Nat×Nat)
 | [],acc=>acc
 |o::l,acc=>ED l (acc++ [(o.dst,eK acc o.after.toList)])
def DC:Option Nat->Option Nat->Bool
 |some a,some b=> !(a==b)
 |_,_=>true
def mR:List (Option Nat×Nat)->Bool
 | []=>true
 |p::l=>l.all (fun q=>DC p.1 q.1)&&mR l
def xh(ds:List (Option Nat×Nat)):Nat->List Oper->List (Option Nat×Nat)->Bool
 |i,o::l,d::m=>(match o.dst,d.1 with|none,none=>true|some a,some b=>a==b|_,_=>false)&&eK ds o.after.toList==d.2&&Nat.ble (d.2+1) (2^i)
  &&(List.range i).all (fun j=> !(Nat.testBit d.2 j)||((aM ds j ||| d.2)==d.2))&&xh ds (i+1) l m
 |_,[],[]=>true
 |_,_,_=>false
def b7(anc i:Nat):Nat->List (Option Nat×Nat)->List S->List S->List S
 |j,(some d,_)::ds,s::done,sl=>b7 anc i (j+1) ds done (sset sl d (if Nat.testBit anc j then s else .und))
 |j,(some d,m)::ds,[],sl=>if j==i||Nat.testBit m i then b7 anc i (j+1) ds [] sl else b7 anc i (j+1) ds [] (sset sl d .und)
 |j,(none,_)::ds,done,sl=>b7 anc i (j+1) ds done.tail sl
 |_,[],_,sl=>sl
structure Dr where
 s:S
 g:Bool
 q:Option Prop
 new:List aI
 up:Option (Nat×aI):=none
def qZ:List aI->List aI
 | []=> []
 |_::l=> .yet::qZ l
def dN(p:Nat->Bool):Nat->List Dr->List aI
 |_,[]=> []
 |j,d::l=>match d.new with
  | []=>dN p (j+1) l
  |r::n=>(if p j then r::n else .yet::qZ n)++dN p (j+1) l
def lens:List Dr->Nat
 | []=>0
 |d::l=>d.new.length+lens l
def oS:List Dr->List S
 | []=> []
 |d::l=>d.s::oS l
def zL(m:Nat):Option (Nat×Bool)->Bool
 |none=>true
 |some (j,_)=>Nat.testBit m j
def oO(C:Ctx)(ops:List Oper)(D:List S)(R:List aI)(nid:Nat)(o:Oper):Option Dr:=
 if KV C.P D o then match lM D ops o.guard with
 |none=>none
 |some none=>some {s:= .ud,g:=false,q:=none,new:= []}
 |some (some ch)=>match uC C D R nid ch o.op with
  |some (q,x,new)=>match ch with
   | []=>some {s:= .v x,g:=true,q:=q,new:=new}
   |c::ch=>if new.isEmpty then some {s:= .gv (c::ch) x,g:=gx D (c::ch),q:=q,new:= []}else some {s:= .v x,g:=true,q:=some (gx D (c::ch)=true/\bq q),new:=new}
  |none=>none
 else none
def xp(n:Nat):Option Nat->Bool
 |none=>true
 |some d=>Nat.blt d n
def Ay(p:Nat->Bool):Nat->List Dr->List aI->List aI
 |_,[],R=>R
 |j,d::l,R=>match d.up with
  |none=>Ay p (j+1) l R
  |some u=>if p j then Ay p (j+1) l (bd R u.1 u.2)else Ay p (j+1) l R
def s8(ds:List (Option Nat×Nat))(i:Nat):List (Nat×Nat)->List aI->List aI
 | [],R=>R
 |u::h,R=>if u.1==i||Nat.testBit (aM ds i) u.1||Nat.testBit (aM ds u.1) i then s8 ds i h R else s8 ds i h (bd R u.2 .yet)
def vw(ds:List (Option Nat×Nat))(hid:List (Nat×Nat))(res:List aI)(done:List Dr)(i:Nat):List aI:=
 s8 ds i hid (Ay (Nat.testBit (aM ds i)) 0 done (iY res (dN (Nat.testBit (aM ds i)) 0 done)))
def nu:Nat->List Dr->List (Nat×Nat)
 |_,[]=> []
 |j,d::l=>match d.up with
  |none=>nu (j+1) l
  |some u=>(j,u.1)::nu (j+1) l
def tD:List (Nat×Nat)->List (Nat×Nat)->Bool
 | [],[]=>true
 |a::l,b::m=>a.1==b.1&&a.2==b.2&&tD l m
 |_,_=>false
def rm(C:Ctx)(D:List S)(R:List aI)(o:Oper):Option Dr:=
 match o.op with
 | .store t p x=>match o.dst with
   |none=>match o.guard with
    |none=>match bS D [] p with
     |some pv=>match pv with
      | .lp id off=>match bS D [] x with
        |some y=>if iz C.P t==some (bP y)&& !bp y then match aH R id with
         | .blk ty c=>match setAt 8 c off y with
           |some c'=>some {s:= .und,g:=true,q:=none,new:= [],up:=some (id,.blk ty c')}
           |none=>none
         |_=>none
         else none
        |none=>none
      |_=>none
     |none=>none
    |some _=>none
   |some _=>none
 |_=>none
def nF(C:Ctx)(ops:List Oper)(st:Bool)(D:List S)(R:List aI)(nid:Nat)(o:Oper):Option Dr:=
 match oO C ops D R nid o with
 |some d=>some d
 |none=>if st then rm C D R o else none
def fw(C:Ctx)(ops:List Oper)(ds:List (Option Nat×Nat))(sl:List S)(res:List aI)(st:Bool)(hid:List (Nat×Nat))(done:List Dr)(i:Nat)(o:Oper):Option Dr:=
 if zL (aM ds i) o.guard&&xp sl.length o.dst then
  nF C ops st (b7 (aM ds i) i 0 ds (oS done) sl) (vw ds hid res done i) (res.length+lens done) o
 else none
def ib(C:Ctx)(ops:List Oper)(ds:List (Option Nat×Nat))(sl:List S)(res:List aI)(st:Bool)(hid:List (Nat×Nat)):Nat->List Oper->List Dr->List Dr×List Oper
 |_,[],done=>(done,[])
 |i,o::l,done=>match fw C ops ds sl res st hid done i o with
  |some d=>ib C ops ds sl res st hid (i+1) l (done++ [d])
  |none=>(done,o::l)
def o7:List Dr->Prop->Prop
 | [],k=>k
 |d::l,k=>match d.s with
  | .gv _ _=>H5 d.g d.q (o7 l k)
  |_=>rV d.q (o7 l k)
def eX(n:Nat):Nat:=2^n-1
def tK(C:Ctx)(ops:List Oper)(ds:List (Option Nat×Nat))(sl:List S)(res:List aI)(st:Bool)(hid:List (Nat×Nat)):Nat->List Oper->List Dr->(List Dr->List Oper->Prop)->Prop
 |_,[],done,k=>k done []
 |i,o::l,done,k=>qY (b7 (aM ds i) i 0 ds (oS done) sl) fun D=>
  match (if zL (aM ds i) o.guard&&xp sl.length o.dst then nF C ops st D (vw ds hid res done i) (res.length+lens done) o else none)with
  |some d=>tK C ops ds sl res st hid (i+1) l (done++ [d]) k
  |none=>k done (o::l)
theorem nT(C:Ctx)(ops:List Oper)(ds:List (Option Nat×Nat))(sl:List S)(res:List aI)(st:Bool)(hid:List (Nat×Nat)):∀(l:List Oper) (i:Nat) (done:List Dr) (k:List Dr->List Oper->Prop),
  tK C ops ds sl res st hid i l done k=k (ib C ops ds sl res st hid i l done).1 (ib C ops ds sl res st hid i l done).2
 | [],_,_,_=>rfl
 |o::l,i,done,k=>by
  simp only[tK,ib,nR,fw];split
  ·simp_all[nT]
  ·rename_i hd;rfl
def kg(C:Ctx)(H:Handler)(Y:bJ)(ops:List Oper):List Oper->St->(Out->St->Prop)->Prop
 | [],U,K=>gr U.slots fun sl=>K .norm {U with slots:=sl}
 |o::l,U,K=>ri C H Y ops o U (fun σ'=>kg C H Y ops l σ' K) (fun v σ'=>K (.pan v) σ')
def jL(ds:List (Option Nat×Nat)):Nat->List Oper->Bool
 |_,[]=>true
 |i,_::l=>aM ds i==eX i&&jL ds (i+1) l
def Io(m n:Nat):Option Nat:=(List.range n).find? fun e=> !(Nat.testBit m e)&&(m ||| 2^e)==eX n
def oq(o:Operand)(d:Nat):Bool:=
 match o with
 | .tmp s=> !(s==d)
 |_=>true
def n9(ops:List Oper)(ds:List (Option Nat×Nat))(n:Nat)(o:Oper)(l:List Oper):Bool:=
 match o.op with
 | .store _ p x=>match o.dst with
   |none=>match o.guard with
    |none=>match Io (aM ds n) n with
     |some e=>match ops[e]? with
      |some oe=>match oe.op with
       | .extract y _=>match oe.dst with
         |some d=>match oe.guard with
          |none=>oq p d&&oq x d&&oq y d&&jL ds (n+1) l
          |some _=>false
         |none=>false
       |_=>false
      |none=>false
     |none=>false
    |some _=>false
   |some _=>false
 |_=>false
def nP(o:Oper):Option Operand:=
 match o.op with
 | .move x=>some x
 | .assign x=>some x
 | .extract x _=>some x
 |_=>none
def lj(o:Oper):Bool:=
 match o.guard with
 |none=>match o.dst with
  |some _=>(nP o).isSome
  |none=>false
 |some _=>false
def apart(x y:Oper):Bool:=
 match nP x,x.dst,nP y,y.dst with
 |some sx,some dx,some sy,some dy=>oq sy dx&&oq sx dy&& !(dx==dy)
 |_,_,_,_=>false
def qm(ds:List (Option Nat×Nat))(j:Nat)(x:Oper):Nat->List Oper->Bool
 |_,[]=>true
 |i,y::l=>(Nat.testBit (aM ds i) j||apart x y)&&qm ds j x (i+1) l
def rE(ds:List (Option Nat×Nat))(n:Nat):Nat->List Oper->Bool
 |_,[]=>true
 |i,x::l=>lj x&&(aM ds i ||| eX (n+1))==aM ds i&&qm ds i x (i+1) l&&rE ds n (i+1) l
def qX(ds:List (Option Nat×Nat))(n:Nat)(l:List Oper):Bool:=aM ds n==eX n&&rE ds n (n+1) l
def nN(res:List aI)(drs:List Dr):List aI:=Ay (fun _=>true) 0 drs (iY res (dN (fun _=>true) 0 drs))
def GN(ops:List Oper)(ds:List (Option Nat×Nat))(n:Nat):List Oper->Bool
 | []=>true
 |o::l=>jL ds n (o::l)||n9 ops ds n o l||qX ds n l
def qk(C:Ctx)(H:Handler)(Y:bJ)(ops:List Oper)(ds:List (Option Nat×Nat))(U:St)(K:Out->St->Prop)(drs:List Dr)(rest:List Oper):Prop:=
 o7 drs (match rest with
  | []=>qY (b7 (eX drs.length) drs.length 0 ds (oS drs) (clean U.slots)) fun sl=>gr sl fun sl=>K .norm {U with slots:=sl,res:=nN U.res drs}
  |o::l=>if jL ds drs.length (o::l)||n9 ops ds drs.length o l||qX ds drs.length l then
    qY (b7 (eX drs.length) drs.length 0 ds (oS drs) (clean U.slots)) fun sl=>kg C H Y ops (o::l) {U with slots:=sl,res:=nN U.res drs} K
   else False)
def BA(C:Ctx)(H:Handler)(Y:bJ)(ops:List Oper)(ds:List (Option Nat×Nat))(U:St)(K:Out->St->Prop)(alt:Prop):Prop:=
 if xh ds 0 ops ds&&mR ds then
  gr U.slots fun sl=>tK C ops ds sl U.res false [] 0 ops [] fun drs rest=>
   if GN ops ds drs.length rest then qk C H Y ops ds U K drs rest
   else tK C ops ds sl U.res true [] 0 ops [] fun drs1 _=>tK C ops ds sl U.res true (nu 0 drs1) 0 ops [] fun drs2 rest2=>
    if tD (nu 0 drs2) (nu 0 drs1)&&GN ops ds drs2.length rest2 then qk C H Y ops ds U K drs2 rest2 else alt
 else False
def Dq(C:Ctx)(H:Handler)(Y:bJ)(ops:List Oper)(U:St)(K:Out->St->Prop)(alt:Prop):Prop:=BA C H Y ops (ED ops []) U K alt
theorem gK{ds:List (Option Nat×Nat)}{k:Nat}:∀{es:List Edge},(eK ds es).testBit k=true↔ ∃e∈es,Region.binds .any e=true/\(e.on=k\/(aM ds e.on).testBit k=true)
 | []=>by simp[eK]
 |e::l=>by
  have ih:=gK (ds:=ds) (k:=k) (es:=l);simp only[eK,List.mem_cons,exists_eq_or_imp];split
  ·grind
  ·rename_i h;simp[ih,h]
theorem eM(anc i:Nat):∀(ds:List (Option Nat×Nat)) (j:Nat) (done sl:List S),(b7 anc i j ds done sl).length=sl.length
 | [],j,done,sl=>by simp[b7]
 | (none,m)::ds,j,done,sl=>by simp only[b7];exact eM anc i ds _ _ _
 | (some d,m)::ds,j,s::done,sl=>by simp only[b7];rw[eM anc i ds _ _ _,dz]
 | (some d,m)::ds,j,[],sl=>by
   simp only[b7];split
   ·exact eM anc i ds _ _ _
   ·rw[eM anc i ds _ _ _,dz]
theorem fi(anc i t:Nat):∀(ds:List (Option Nat×Nat)) (j:Nat) (done sl:List S),
  bh (b7 anc i j ds done sl) t= .und\/
  (∃k m s,ds[k]? =some (some t,m)/\done[k]? =some s/\anc.testBit (j+k)=true/\bh (b7 anc i j ds done sl) t=s)\/
  (bh (b7 anc i j ds done sl) t=bh sl t/\∀k m,ds[k]? =some (some t,m)->done.length<=k/\(j+k=i\/m.testBit i=true))
 | [],j,done,sl=> .inr (.inr ⟨by simp[b7],by simp⟩)
 | (none,m)::ds,j,done,sl=>by
   simp only[b7];rcases fi anc i t ds (j+1) done.tail sl with h|⟨k,m',s,h1,h2,h3,h4⟩|⟨h1,h2⟩
   ·exact .inl h
   ·refine .inr (.inl ⟨k+1,m',s,by simpa using h1,?_,by rw[show j+(k+1)=j+1+k by omega];exact h3,h4⟩)
    cases done<;>first| (simp at h2;done)|simpa using h2
   ·grind
 | (some d,m)::ds,j,s::done,sl=>by
   simp only[b7];rcases fi anc i t ds (j+1) done (sset sl d (if anc.testBit j=true then s else .und))with h|⟨k,m',s',h1,h2,h3,h4⟩|⟨h1,h2⟩
   ·exact .inl h
   ·exact .inr (.inl ⟨k+1,m',s',by simpa using h1,by simpa using h2,by rw[show j+(k+1)=j+1+k by omega];exact h3,h4⟩)
   ·rw[dc]at h1;by_cases e:t=d/\d<sl.length
    ·rw[au e]at h1;obtain⟨rfl,hd⟩:=e;by_cases hb:anc.testBit j=true
     ·rw[au hb]at h1;exact .inr (.inl ⟨0,m,s,by simp,by simp,by simpa using hb,by rw[au hb];exact h1⟩)
     ·simp_all
    ·grind[fV]
 | (some d,m)::ds,j,[],sl=>by
   simp only[b7];split
   ·rename_i hc;rcases fi anc i t ds (j+1) [] sl with h|⟨k,m',s',h1,h2,h3,h4⟩|⟨h1,h2⟩
    ·exact .inl h
    ·simp at h2
    ·grind
   ·rename_i hc;rcases fi anc i t ds (j+1) [] (sset sl d .und)with h|⟨k,m',s',h1,h2,h3,h4⟩|⟨h1,h2⟩
    ·exact .inl h
    ·simp at h2
    ·grind[dc,fV]
theorem rQ{a b:Option Nat}(h:DC a b=true){t:Nat}(ha:a=some t)(hb:b=some t):False:=by
 subst ha;subst hb;simp[DC]at h
theorem lY:∀{ds:List (Option Nat×Nat)},mR ds=true->∀{j k t m m':Nat},ds[j]? =some (some t,m)->ds[k]? =some (some t,m')->j=k
 | [],_,j,k,t,m,m',h,_=>by simp at h
 |p::l,hd,j,k,t,m,m',hj,hk=>by
  simp only[mR,ah,List.all_eq_true]at hd;cases j with
  |zero=>
   cases k with
   |zero=>rfl
   |succ k=>
    simp only[List.getElem?_cons_zero,aa]at hj;have:=hd.1 _ (List.mem_of_getElem? (by simpa using hk))
    exact(rQ this (by rw[hj]) rfl).elim
  |succ j=>
   cases k with
   |zero=>
    simp only[List.getElem?_cons_zero,aa]at hk;have:=hd.1 _ (List.mem_of_getElem? (by simpa using hj))
    exact(rQ this (by rw[hk]) rfl).elim
   |succ k=>exact congrArg (· +1) (lY hd.2 (t:=t) (m:=m) (m':=m') (by simpa using hj) (by simpa using hk))
theorem nC{anc i t:Nat}:∀{ds:List (Option Nat×Nat)} (_:mR ds=true) {j:Nat} {done sl:List S} {k m:Nat} {s:S},ds[k]? =some (some t,m)->done[k]? =some s->anc.testBit (j+k)=true->
  t<sl.length->bh (b7 anc i j ds done sl) t=s
 | (none,m0)::ds,hd,j,done,sl,k,m,s,h1,h2,h3,ht=>by
   simp only[mR,ah]at hd;cases k with
   |zero=>simp at h1
   |succ k=>
    simp only[b7];refine nC hd.2 (k:=k) (by simpa using h1) ?_ (by rw[show j+1+k=j+(k+1) by omega];exact h3) ht
    cases done<;>first| (simp at h2;done)|simpa using h2
 | (some d,m0)::ds,hd,j,[],sl,k,m,s,h1,h2,h3,ht=>by simp at h2
 | (some d,m0)::ds,hd,j,x::done,sl,k,m,s,h1,h2,h3,ht=>by
   have hd':=hd;simp only[mR,ah]at hd;cases k with
   |succ k=>
    simp only[b7];exact nC hd.2 (k:=k) (by simpa using h1) (by simpa using h2) (by rw[show j+1+k=j+(k+1) by omega];exact h3) (by rw[dz];exact ht)
   |zero=>
    simp only[List.getElem?_cons_zero,aa,ae]at h1 h2;obtain⟨rfl,rfl⟩:=h1;subst h2;simp only[b7];simp only[Nat.add_zero]at h3
    have hno:∀(k m':Nat),ds[k]? =some (some d,m')->False:=fun k m' hk=>by
     have:=lY hd' (j:=0) (k:=k+1) (t:=d) (m:=m0) (m':=m') (by simp) (by simpa using hk)
     omega
    have key:∀(ds:List (Option Nat×Nat)) (j:Nat) (done sl:List S),(∀(k m':Nat),ds[k]? =some (some d,m')->False)->bh (b7 anc i j ds done sl) d=bh sl d:=by
     intro ds;induction ds with
     |nil=>intro j done sl _;simp[b7]
     |cons p ds ih=>
      intro j done sl hn;have hn':∀(k m':Nat),ds[k]? =some (some d,m')->False:=fun k m' hk=>hn (k+1) m' (by simpa using hk)
      obtain⟨a,b⟩:=p;cases a with
      |none=>simp only[b7];exact ih _ _ _ hn'
      |some e=>
       have hne:d≠e:=fun he=>hn 0 b (by simp[he])
       have hss:∀(sl:List S) (y:S),bh (sset sl e y) d=bh sl d:=fun sl y=>by rw[dc,ar fun h=>hne h.1]
       cases done with
       |nil=>
        simp only[b7];split
        ·exact ih _ _ _ hn'
        ·rw[ih _ _ _ hn',hss]
       |cons y done=>simp only[b7];rw[ih _ _ _ hn',hss]
    rw[key _ _ _ _ hno,dc,au ⟨rfl,ht⟩,au h3]
 | [],_,j,done,sl,k,m,s,h1,h2,h3,ht=>by simp at h1
theorem tU{anc i t:Nat}{ds:List (Option Nat×Nat)}{j:Nat}{done sl:List S}(ht:¬t<sl.length):bh (b7 anc i j ds done sl) t= .und:=by
 simp_all[fV,eM]
def dG:List Dr->Nat->Option (Nat×Nat)
 | [],_=>none
 |d::l,x=>if x<d.new.length then some (0,x)else(dG l (x-d.new.length)).map fun p=>(p.1+1,p.2)
theorem kO:∀l,(qZ l).length=l.length
 | []=>rfl
 |_::l=>by simp[qZ,kO l]
theorem tV:∀(l:List aI) (x:Nat),aH (qZ l) x= .yet
 | [],x=>by simp[qZ,aH]
 |_::l,0=>by simp[qZ,aH]
 |_::l,x+1=>by simp[qZ,aH,tV l x]
theorem j3(p:Nat->Bool)(j:Nat)(d:Dr)(l:List Dr):dN p j (d::l)=(if p j then d.new else qZ d.new)++dN p (j+1) l:=by
 grind[dN,qZ]
theorem th(p:Nat->Bool):∀(l:List Dr) (j x:Nat),aH (dN p j l) x=match dG l x with
  |some (k,y)=>if p (j+k)then(match l[k]? with|some d=>aH d.new y|none=> .yet)else .yet
  |none=> .yet
 | [],j,x=>by simp[dN,dG,aH]
 |d::l,j,x=>by
  rw[j3,bc];have hlen:(if p j=true then d.new else qZ d.new).length=d.new.length:=by split<;>simp[kO]
  rw[hlen];simp only[dG];split
  ·grind[tV]
  ·rw[th p l (j+1) (x-d.new.length)];cases hl:dG l (x-d.new.length)with
   |none=>simp
   |some q=>
    obtain⟨k,y⟩:=q;simp only[Option.map_some,List.getElem?_cons_succ];rw[show j+1+k=j+(k+1) by omega]
theorem gM(p:Nat->Bool):∀(l:List Dr) (j:Nat),(dN p j l).length=lens l
 | [],j=>by simp[dN,lens]
 |d::l,j=>by
  rw[j3,List.length_append,gM p l,lens];split<;>simp[kO]
theorem c8:∀(l:List Dr) (x k y:Nat),dG l x=some (k,y)↔(∃d,l[k]? =some d/\y<d.new.length)/\x=lens (l.take k)+y
 | [],x,k,y=>by simp[dG]
 |d::l,x,k,y=>by
  simp only[dG];cases k with
  |zero=>
   simp only[List.getElem?_cons_zero,aa,exists_eq_left',List.take_zero,lens,Nat.zero_add];split
   ·grind
   ·rename_i hx;constructor
    ·simp_all
    ·intro h;omega
  |succ k=>
   simp only[List.getElem?_cons_succ,List.take_succ_cons,lens];split
   ·grind
   ·rename_i hx;have ih:=c8 l (x-d.new.length) k y;constructor
    ·intro h;cases hl:dG l (x-d.new.length)with
     |none=>simp[hl]at h
     |some q=>
      obtain⟨a,b⟩:=q;simp only[hl,Option.map_some,aa,ae]at h;have:dG l (x-d.new.length)=some (k,y):=by rw[hl];simp;omega
      obtain⟨g1,g2⟩:=ih.1 this;exact⟨g1,by omega⟩
    ·rintro⟨g1,g2⟩
     rw[ih.2 ⟨g1,by omega⟩];rfl
end Go.Sx
namespace Go.Sx
open Go.RowKit (Below)
theorem oN{ds:List (Option Nat×Nat)}:∀{ops:List Oper} {i0:Nat} {dd:List (Option Nat×Nat)},xh ds i0 ops dd=true->ops.length=dd.length/\∀(i:Nat) (o:Oper),ops[i]? =some o->
  ∃m,dd[i]? =some (o.dst,m)/\eK ds o.after.toList=m/\m<2^(i0+i)/\∀j,m.testBit j=true->(aM ds j ||| m)=m
 | [],i0,[],_=>⟨rfl,by simp⟩
 | [],_,_::_,h=>by simp[xh]at h
 |_::_,_,[],h=>by simp[xh]at h
 |o::l,i0,d::dd,h=>by
  simp only[xh,ah,aj,List.all_eq_true,List.mem_range,Bool.or_eq_true,Bool.not_eq_true',Nat.ble_eq]at h;obtain⟨⟨⟨⟨h1,h2⟩,h3⟩,h4⟩,h5⟩:=h;obtain⟨i1,i2⟩:=oN h5;refine⟨by simp[i1],fun i p hp=>?_⟩
  cases i with
  |zero=>
   simp only[List.getElem?_cons_zero,aa]at hp;subst hp;refine⟨d.2,?_,h2,by rw[Nat.add_zero];exact h3,fun j hj=>?_⟩
   ·grind
   ·have hlt:j<i0:=by
     rcases Nat.lt_or_ge j i0 with h|h
     ·exact h
     ·have:=Nat.testBit_lt_two_pow (x:=d.2) (i:=j) (Nat.lt_of_lt_of_le (by omega) (Nat.pow_le_pow_right (by omega) h))
      rw[this]at hj;simp at hj
    rcases h4 j hlt with h|h
    ·rw[h]at hj;simp at hj
    ·exact h
  |succ i=>
   obtain⟨m,a,b,c,e⟩:=i2 i p (by simpa using hp)
   exact⟨m,by simpa using a,b,by rw[show i0+(i+1)=i0+1+i by omega];exact c,e⟩
structure b8(C:Ctx)(ops:List Oper)(ds:List (Option Nat×Nat))(sl:List S)(res:List aI)(drs:List Dr):Prop where
 okk:xh ds 0 ops ds=true
 dst:mR ds=true
 cl:∀t,(∃x,bh sl t= .v x)\/bh sl t= .und
 plan:∃st hid,(∀i d,drs[i]? =some d->∃o,ops[i]? =some o/\fw C ops ds sl res st hid (drs.take i) i o=some d)/\∀s d u,drs[s]? =some d->d.up=some u->(s,u.1)∈hid
theorem lk{C:Ctx}{D:List S}{R:List aI}{o:Oper}{d:Dr}(h:rm C D R o=some d):∃t p x id off y ty c c',o.op= .store t p x/\o.dst=none/\o.guard=none/\bS D [] p=some (.lp id off)/\bS D [] x=some y/\
  iz C.P t=some (bP y)/\bp y=false/\aH R id= .blk ty c/\setAt 8 c off y=some c'/\d= {s:= .und,g:=true,q:=none,new:= [],up:=some (id,.blk ty c')}:=by
 unfold rm at h;split at h
 case h_2=>simp at h
 rename_i t p x hop;split at h
 case h_2=>simp at h
 rename_i hd;split at h
 case h_2=>simp at h
 rename_i hg;split at h
 case h_2=>simp at h
 rename_i pv hp;split at h
 case h_2=>simp at h
 rename_i id off;split at h
 case h_2=>simp at h
 rename_i y hy;split at h
 case isFalse=>simp at h
 rename_i hc;simp only[ah,aj,Bool.not_eq_true']at hc;split at h
 case h_2=>simp at h
 rename_i ty c hr;split at h
 case h_2=>simp at h
 rename_i c' hs;simp only[aa]at h;exact⟨t,p,x,id,off,y,ty,c,c',hop,hd,hg,hp,hy,hc.1,hc.2,hr,hs,h.symm⟩
theorem iW{C:Ctx}{ops:List Oper}{st:Bool}{D:List S}{R:List aI}{nid:Nat}{o:Oper}{d:Dr}(h:nF C ops st D R nid o=some d):oO C ops D R nid o=some d\/rm C D R o=some d:=by
 grind[nF]
theorem oU{C:Ctx}{ops:List Oper}{D:List S}{R:List aI}{nid:Nat}{o:Oper}{d:Dr}(h:oO C ops D R nid o=some d):d.up=none:=by
 grind[oO]
theorem nz:∀(l:List Dr) (i:Nat),(oS l)[i]? =(l[i]?).map Dr.s
 | [],i=>by simp[oS]
 |d::l,0=>by simp[oS]
 |d::l,i+1=>by simp[oS,nz l i]
theorem yg(l:List Dr):(oS l).length=l.length:=by
 induction l with
 |nil=>rfl
 |cons d l ih=>simp[oS,ih]
theorem tQ{sl sl':List S}:∀{ch:List (Nat×Bool)},(∀p∈ch,bh sl p.1=bh sl' p.1)->gx sl ch=gx sl' ch
 | [],_=>rfl
 | (s,w)::c,h=>by
   rw[eg,eg,h (s,w) (by simp),tQ fun p hp=>h p (by simp[hp])]
section
variable {C:Ctx} {opsA:Array Oper} {ds:List (Option Nat×Nat)} {sl:List S} {res:List aI} {drs:List Dr}
theorem b8.at(P:b8 C opsA.toList ds sl res drs){i:Nat}{o:Oper}(h:opsA[i]? =some o):
  ds[i]? =some (o.dst,aM ds i)/\(∀k,(aM ds i).testBit k=true->k<i)/\
  (∀k,(aM ds i).testBit k=true↔ ∃e∈o.after,Region.binds .any e=true/\(e.on=k\/(aM ds e.on).testBit k=true))/\
  ∀k r,(aM ds i).testBit k=true->(aM ds k).testBit r=true->(aM ds i).testBit r=true:=by
 obtain⟨m,h1,h2,h3,h4⟩:=(oN P.okk).2 i o (by simpa using h)
 have hm:aM ds i=m:=by simp[aM,h1]
 rw[hm];refine⟨h1,fun k hk=>?_,fun k=>?_,fun k r hk hr=>?_⟩
 ·rcases Nat.lt_or_ge k i with h|h
  ·exact h
  ·have:=Nat.testBit_lt_two_pow (x:=m) (i:=k) (Nat.lt_of_lt_of_le h3 (Nat.pow_le_pow_right (by omega) (by omega)))
   rw[this]at hk;simp at hk
 ·rw[<-h2,gK];simp only[Array.mem_toList_iff]
 ·rw[<-h4 k hk,Nat.testBit_or,hr];rfl
def LS(opsA:Array Oper)(ds:List (Option Nat×Nat)):Prop:=∀i o,opsA[i]? =some o->(∀k,(aM ds i).testBit k=true->k<i)/\
    (∀k,(aM ds i).testBit k=true->∃e∈o.after,Region.binds .any e=true/\(e.on=k\/(aM ds e.on).testBit k=true))/\∀e∈o.after,Region.binds .any e=true->e.on<i
theorem b8.LB(P:b8 C opsA.toList ds sl res drs):LS opsA ds:=fun i o h=>by
 obtain⟨_,p2,p3,_⟩:=P.at h;exact⟨p2,fun k hk=>(p3 k).1 hk,fun e he hb=>p2 _ ((p3 e.on).2 ⟨e,he,hb,.inl rfl⟩)⟩
theorem b8.len(P:b8 C opsA.toList ds sl res drs):ds.length=opsA.size:=by
 have:=(oN P.okk).1;simpa using this.symm
def Lg(ds:List (Option Nat×Nat))(sl:List S)(drs:List Dr)(i:Nat):List S:=b7 (aM ds i) i 0 ds (oS (drs.take i)) sl
def Kc(ds:List (Option Nat×Nat))(m:Nat)(ch:List (Nat×Bool)):Prop:=∀p∈ch,∃k m',m.testBit k=true/\ds[k]? =some (some p.1,m')
theorem b8.chain(P:b8 C opsA.toList ds sl res drs):∀(i:Nat) (d:Dr),drs[i]? =some d->∀ch x,d.s= .gv ch x->d.g=gx (Lg ds sl drs i) ch/\Kc ds (aM ds i) ch:=by
 intro i;induction i using Nat.strongRecOn with
 |_ i ih=>
  intro d hd ch x hs;obtain⟨st,hid,hpl,_⟩:=P.plan;obtain⟨o,ho,hp⟩:=hpl i d hd;obtain⟨p1,p2,p3,p4⟩:=P.at (i:=i) (o:=o) (by simpa using ho)
  unfold fw at hp;split at hp
  ·rename_i hc;simp only[ah]at hc;rcases iW hp with hp|hp
   case inr=>
    obtain⟨_,_,_,_,_,_,_,_,_,_,_,_,_,_,_,_,_,_,rfl⟩:=lk hp;simp at hs
   unfold oO at hp;split at hp
   case isFalse=>simp at hp
   split at hp
   ·simp at hp
   ·simp only[aa]at hp;subst hp;simp at hs
   ·rename_i ch' hch;split at hp
    ·rename_i q y new hop;cases ch' with
     |nil=>simp only[aa]at hp;subst hp;simp at hs
     |cons c0 c1=>
      simp only at hp;split at hp
      ·simp only[aa]at hp;subst hp;simp only[S.gv.injEq]at hs;obtain⟨rfl,rfl⟩:=hs;refine⟨rfl,?_⟩;unfold lM at hch;split at hch
       ·simp at hch
       ·rename_i j w hg;split at hch
        ·simp at hch
        ·rename_i s hsd;have hjb:(aM ds i).testBit j=true:=by have:=hc.1;rw[hg]at this;exact this
         have hj:∃m',ds[j]? =some (some s,m'):=by
          cases hoj:opsA.toList[j]? with
          |none=>simp[hoj]at hsd
          |some oj=>
           simp only[hoj,Option.bind_some]at hsd;have:=(P.at (i:=j) (o:=oj) (by simpa using hoj)).1
           rw[hsd]at this;exact⟨_,this⟩
         have hsub:∀c y,bh (b7 (aM ds i) i 0 ds (oS (drs.take i)) sl) s= .gv c y->Kc ds (aM ds i) c:=by
          intro c y hy;rcases fi (aM ds i) i s ds 0 (oS (drs.take i)) sl with h|⟨k,m',s',h1,h2,h3,h4⟩|⟨h1,h2⟩
          ·rw[h]at hy;simp at hy
          ·rw[h4]at hy;simp only[Nat.zero_add]at h3;have hki:=p2 k h3;rw[nz,List.getElem?_take,au hki]at h2;cases hdk:drs[k]? with
           |none=>simp[hdk]at h2
           |some dk=>
            simp only[hdk,Option.map_some,aa]at h2;obtain⟨_,g2⟩:=ih k hki dk hdk c y (by rw[h2];exact hy)
            exact fun p hp=>let ⟨r,m'',e1,e2⟩:=g2 p hp;⟨r,m'',p4 k r h3 e1,e2⟩
          ·rw[h1]at hy;rcases P.cl s with⟨z,hz⟩|hz<;>rw[hz]at hy<;>simp at hy
         have hhead:∃(k m':Nat),(aM ds i).testBit k=true/\ds[k]? =some (some s,m'):=let ⟨m',h⟩:=hj;⟨j,m',hjb,h⟩;clear hop;split at hch<;>(try split at hch)<;>simp only[aa,reduceCtorEq,List.cons.injEq]at hch
         ·obtain⟨rfl,rfl⟩:=hch;intro p hp;simp only[List.mem_singleton]at hp;subst hp;exact hhead
         ·rename_i c b hv;obtain⟨rfl,rfl⟩:=hch;intro p hp;rcases List.mem_cons.1 hp with rfl|hp
          ·exact hhead
          ·exact hsub _ _ hv p hp
         ·simp_all
      ·simp only[aa]at hp;subst hp;simp at hs
    ·simp at hp
  ·simp at hp
theorem b8.Ch(P:b8 C opsA.toList ds sl res drs){k:Nat}{d:Dr}(hd:drs[k]? =some d){ch:List (Nat×Bool)}{x:V}(hs:d.s= .gv ch x){anc i:Nat}(hi:k<i)
  (hsub:∀r,(aM ds k).testBit r=true->anc.testBit r=true):gx (b7 anc i 0 ds (oS (drs.take i)) sl) ch=d.g:=by
 obtain⟨h1,h2⟩:=P.chain k d hd ch x hs;rw[h1];obtain⟨st,hid,hpl,_⟩:=P.plan;obtain⟨o,ho,_⟩:=hpl k d hd;obtain⟨p1,p2,p3,p4⟩:=P.at (i:=k) (o:=o) (by simpa using ho)
 have hklt:k<drs.length:=(List.getElem?_eq_some_iff.1 hd).1;refine tQ fun p hp=>?_
 obtain⟨r,m',e1,e2⟩:=h2 p hp;have hr:=p2 r e1;by_cases ht:p.1<sl.length
 ·have hdr:drs[r]? =some (drs[r]'(by omega)):=List.getElem?_eq_getElem (by omega)
  rw[nC P.dst (k:=r) e2 (s:=(drs[r]'(by omega)).s) (by rw[nz,List.getElem?_take,au (by omega),hdr];rfl) (by simpa using hsub r e1) ht]
  unfold Lg;rw[nC P.dst (k:=r) e2 (s:=(drs[r]'(by omega)).s) (by rw[nz,List.getElem?_take,au hr,hdr];rfl) (by simpa using e1) ht]
 ·rw[tU ht];unfold Lg;rw[tU ht]
def ll(J:Env)(K:Nat->Prop)(x:Value)(d:Dr):Prop:=
 match d.s with
 | .und=>True
 | .ud=>x=undef
 | .v y=>x=den J y/\ok K y
 | .gv _ y=>(d.g=true->x=den J y/\ok K y)/\(d.g=false->x=undef)
theorem ll.env{J ρ':Env}{K K':Nat->Prop}{x:Value}{d:Dr}(h:ll J K x d)(hK:∀i,K i->K' i)(ha:Env.agree K J ρ'):ll ρ' K' x d:=by
 grind[ll,cJ,bE]
def AV(res:List aI)(drs:List Dr)(L:Nat->Bool):List aI:=Ay L 0 drs (res++dN L 0 drs)
def KL(res:List aI)(drs:List Dr)(L:Nat->Bool)(id:Nat):Prop:=known res id\/(res.length<=id/\∃j y,dG drs (id-res.length)=some (j,y)/\L j=true)
structure Inv(ds:List (Option Nat×Nat))(sl:List S)(res:List aI)(drs:List Dr)(defs:List (Nat×List V×List V))(ρ0:Env)(w0:World)(F0:Nat->Prop)(L:Nat->Bool)(J:Env)(fps:Nat->Nat->Prop)(a:Act)(w:World):Prop where
 size:a.tmps.size=sl.length
 done:∀t j m d,ds[j]? =some (some t,m)->drs[j]? =some d->L j=true->ll J (KL res drs L) (a.tmps.getD t undef) d
 todo:∀t,(∀j m,ds[j]? =some (some t,m)->L j=false)->du J (KL res drs L) [] (a.tmps.getD t undef) (bh sl t)
 heap:aQ J fps (AV res drs L) (KL res drs L) w0 F0 w
 down:∀i k,L i=true->(aM ds i).testBit k=true->L k=true
 defs:a.defers=defs.flatMap (fD J)/\∀d∈defs,cm (known res) d.2.1/\cm (known res) d.2.2
 agree:Env.agree (known res) ρ0 J
 newk:∀j d,drs[j]? =some d->L j=true->∀y,y<d.new.length->aH d.new y≠ .yet
theorem du.plain{J:Env}{K:Nat->Prop}{sl sl':List S}{x:Value}{s:S}(hs:(∃y,s= .v y)\/s= .und)(h:du J K sl x s):du J K sl' x s:=by
 rcases hs with⟨y,rfl⟩|rfl
 ·exact h
 ·trivial
theorem b8.view{defs:List (Nat×List V×List V)}{ρ0 J:Env}{w0 w:World}{F0:Nat->Prop}{L:Nat->Bool}{fps:Nat->Nat->Prop}{a:Act}(P:b8 C opsA.toList ds sl res drs)(I:Inv ds sl res drs defs ρ0 w0 F0 L J fps a w)
  {anc i:Nat} (h0:i<=drs.length) (h1:∀k,anc.testBit k=true->L k=true/\k<i) (h2:∀k r,anc.testBit k=true->(aM ds k).testBit r=true->anc.testBit r=true)
  (h3:∀k m t,ds[k]? =some (some t,m)->i<=k->(k=i\/m.testBit i=true)->L k=false):er J (KL res drs L) (b7 anc i 0 ds (oS (drs.take i)) sl) a:=by
 refine⟨by rw[eM];exact I.size,fun t=>?_⟩
 rcases fi anc i t ds 0 (oS (drs.take i)) sl with h|⟨k,m',s',e1,e2,e3,e4⟩|⟨e1,e2⟩
 ·rw[h];trivial
 ·simp only[Nat.zero_add]at e3;obtain⟨l1,l2⟩:=h1 k e3;rw[nz,List.getElem?_take,au l2]at e2;cases hdk:drs[k]? with
  |none=>simp[hdk]at e2
  |some dk=>
   simp only[hdk,Option.map_some,aa]at e2;have hG:=I.done t k m' dk e1 hdk l1;rw[e4,<-e2];unfold ll at hG;cases hds:dk.s with
   |und=>trivial
   |ud=>rw[hds]at hG;exact hG
   |v y=>rw[hds]at hG;exact hG
   |gv c y=>
    rw[hds]at hG;have:=P.Ch hdk hds (anc:=anc) (i:=i) l2 (fun r hr=>h2 k r e3 hr)
    exact⟨fun hg=>hG.1 (by rw[<-this];exact hg),fun hg=>hG.2 (by rw[<-this];exact hg)⟩
 ·rw[e1];refine du.plain (P.cl t) (I.todo t fun j m hj=>?_)
  obtain⟨f1,f2⟩:=e2 j m hj;rw[yg,List.length_take,Nat.min_eq_left h0]at f1;exact h3 j m t hj f1 (by simpa using f2)
end
end Go.Sx
namespace Go.Sx
open Go.RowKit (Below)
theorem lens_take_le:∀(l:List Dr) (i k y:Nat),(∃d,l[k]? =some d/\y<d.new.length)->k<i->lens (l.take k)+y<lens (l.take i)
 | [],i,k,y,h,_=>by obtain⟨d,h,_⟩:=h;simp at h
 |d::l,0,k,y,_,h=>by omega
 |d::l,i+1,0,y,h,_=>by
  grind[lens]
 |d::l,i+1,k+1,y,h,hk=>by
  have:=lens_take_le l i k y (by simpa using h) (by omega)
  simp only[List.take_succ_cons,lens];omega
theorem pT{l:List Dr}{i x k y:Nat}(h:dG (l.take i) x=some (k,y)):k<i/\dG l x=some (k,y):=by
 grind[c8]
theorem ew(res:List aI)(drs:List Dr)(p:Nat->Bool)(id:Nat):aH (res++dN p 0 drs) id=if id<res.length then aH res id else
  match dG drs (id-res.length)with
  |some (k,y)=>if p k then(match drs[k]? with|some d=>aH d.new y|none=> .yet)else .yet
  |none=> .yet:=by
 simp_all[bc,th,dG]
theorem hJ{res:List aI}{drs:List Dr}{p:Nat->Bool}{id:Nat}(h:known (res++dN p 0 drs) id):KL res drs p id:=by
 unfold known at h;rw[ew]at h;by_cases hlt:id<res.length
 ·rw[au hlt]at h;exact .inl h
 ·rw[ar hlt]at h;refine .inr ⟨by omega,?_⟩
  cases hl:dG drs (id-res.length)with
  |none=>simp[hl]at h
  |some q=>
   obtain⟨k,y⟩:=q;simp only[hl]at h;by_cases hp:p k=true
   ·exact⟨k,y,rfl,hp⟩
   ·rw[ar hp]at h;exact absurd rfl h
theorem wI{res:List aI}{drs:List Dr}{p L:Nat->Bool}{i:Nat}(hp:∀k,p k=true->L k=true)(id:Nat)(h:known (res++dN p 0 (drs.take i)) id):
  aH (res++dN p 0 (drs.take i)) id=aH (res++dN L 0 drs) id:=by
 grind[known,ew,dG,pT]
def bQ(p:Nat->Bool)(id:Nat):Nat->List Dr->Option aI
 |_,[]=>none
 |j,d::l=>match bQ p id (j+1) l with
  |some r=>some r
  |none=>match d.up with
   |some u=>if p j&&u.1==id then some u.2 else none
   |none=>none
theorem fR(p:Nat->Bool):∀(l:List Dr) (j:Nat) (R:List aI),(Ay p j l R).length=R.length
 | [],j,R=>rfl
 |d::l,j,R=>by
  simp only[Ay];split
  ·exact fR p l _ R
  ·split
   ·rw[fR p l,a8]
   ·exact fR p l _ R
theorem jB(p:Nat->Bool)(id:Nat):∀(l:List Dr) (j:Nat) (R:List aI),id<R.length->aH (Ay p j l R) id=(bQ p id j l).getD (aH R id)
 | [],j,R,h=>rfl
 |d::l,j,R,h=>by
  simp only[Ay,bQ];cases hu:d.up with
  |none=>
   simp only;rw[jB p id l _ R h];cases bQ p id (j+1) l<;>rfl
  |some u=>
   simp only;by_cases hp:p j=true
   ·rw[au hp,jB p id l _ _ (by rw[a8];exact h)]
    cases bQ p id (j+1) l with
    |some r=>rfl
    |none=>
     simp only[Option.getD_none,hp,Bool.true_and];by_cases e:u.1=id
     ·subst e;rw[aY _ _ _ _ h];simp
     ·by_cases hl:u.1<R.length
      ·rw[aY _ _ _ _ hl,ar (Ne.symm e)];simp[e]
      ·rw[lS,List.set_eq_of_length_le (by omega)]
       simp[e]
   ·rw[ar hp,jB p id l _ R h];cases bQ p id (j+1) l with
    |some r=>rfl
    |none=>simp[hp]
theorem fy{p L:Nat->Bool}{id:Nat}:∀(l:List Dr) (j m:Nat),(∀k d u,l[k]? =some d->d.up=some u->u.1=id->(L (j+k)=true↔k<m/\p (j+k)=true))->bQ p id j (l.take m)=bQ L id j l
 | [],j,m,h=>by simp[bQ]
 |d::l,j,0,h=>by
  have h':=fy (p:=p) (L:=L) (id:=id) l (j+1) 0 fun k d' u h1 h2 h3=>by
   have:=h (k+1) d' u (by simpa using h1) h2 h3
   rw[show j+1+k=j+(k+1) by omega]
   constructor
   ·intro hh;exact absurd (this.1 hh).1 (by omega)
   ·intro hh;exact absurd hh.1 (by omega)
  simp only[List.take_zero,bQ]at h'⊢;rw[<-h'];simp only;cases hu:d.up with
  |none=>rfl
  |some u=>
   simp only;rw[ar];intro hh;simp only[ah,aj]at hh;exact absurd ((h 0 d u (by simp) hu hh.2).1 (by simpa using hh.1)).1 (by omega)
 |d::l,j,m+1,h=>by
  have h':=fy (p:=p) (L:=L) (id:=id) l (j+1) m fun k d' u h1 h2 h3=>by
   have:=h (k+1) d' u (by simpa using h1) h2 h3
   rw[show j+1+k=j+(k+1) by omega]
   constructor
   ·intro hh;exact⟨by have:=(this.1 hh).1;omega,(this.1 hh).2⟩
   ·intro hh;exact this.2 ⟨by omega,hh.2⟩
  simp only[List.take_succ_cons,bQ,h'];cases bQ L id (j+1) l with
  |some r=>rfl
  |none=>
   simp only;cases hu:d.up with
   |none=>rfl
   |some u=>
    simp only;by_cases e:u.1=id
    ·have:=h 0 d u (by simp) hu e
     simp only[Nat.add_zero]at this
     have hb:p j=L j:=by
      rw[Bool.eq_iff_iff];exact⟨fun hh=>this.2 ⟨by omega,hh⟩,fun hh=>(this.1 hh).2⟩
     rw[hb]
    ·simp[e]
theorem dT{p:Nat->Bool}{id:Nat}{r:aI}:∀(l:List Dr) (j:Nat),bQ p id j l=some r->∃k d,l[k]? =some d/\d.up=some (id,r)/\p (j+k)=true
 | [],j,h=>by simp[bQ]at h
 |d::l,j,h=>by
  simp only[bQ]at h;split at h
  ·rename_i r' hr;simp only[aa]at h;subst h;obtain⟨k,d',h1,h2,h3⟩:=dT l (j+1) hr;exact⟨k+1,d',by simpa using h1,h2,by rw[show j+(k+1)=j+1+k by omega];exact h3⟩
  ·split at h
   ·rename_i u hu;split at h
    ·rename_i hc;simp only[ah,aj]at hc;simp only[aa]at h;subst h;exact⟨0,d,by simp,by rw[hu,<-hc.2],by simpa using hc.1⟩
    ·simp at h
   ·simp at h
theorem pL{p:Nat->Bool}{id:Nat}{r:aI}:∀(l:List Dr) (j s:Nat) (d:Dr),l[s]? =some d->d.up=some (id,r)->p (j+s)=true->(∀k d' u,s<k->l[k]? =some d'->d'.up=some u->u.1=id->p (j+k)=false)->bQ p id j l=some r
 | [],j,s,d,h,_,_,_=>by simp at h
 |x::l,j,0,d,h,hu,hp,hn=>by
  simp only[List.getElem?_cons_zero,aa]at h;subst h;simp only[bQ]
  have:bQ p id (j+1) l=none:=by
   cases hl:bQ p id (j+1) l with
   |none=>rfl
   |some r'=>
    obtain⟨k,d',h1,h2,h3⟩:=dT l (j+1) hl;have:=hn (k+1) d' _ (by omega) (by simpa using h1) h2 rfl
    rw[show j+(k+1)=j+1+k by omega,h3]at this
    simp at this
  rw[this,hu];simp only[Nat.add_zero]at hp;simp[hp]
 |x::l,j,s+1,d,h,hu,hp,hn=>by
  simp only[bQ]
  rw[pL l (j+1) s d (by simpa using h) hu (by rw[show j+1+s=j+(s+1) by omega];exact hp) fun k d' u h1 h2 h3 h4=>by
   rw[show j+1+k=j+(k+1) by omega]
   exact hn (k+1) d' u (by omega) (by simpa using h2) h3 h4]
theorem jn(ds:List (Option Nat×Nat))(i:Nat):∀(h:List (Nat×Nat)) (R:List aI) (id:Nat),known (s8 ds i h R) id->aH (s8 ds i h R) id=aH R id/\known R id/\∀s,(s,id)∈h->s=i\/(aM ds i).testBit s=true\/(aM ds s).testBit i=true
 | [],R,id,hk=>⟨rfl,hk,by simp⟩
 |u::h,R,id,hk=>by
  unfold s8 at hk⊢;split at hk
  ·rename_i hc;rw[au hc];obtain⟨a,b,c⟩:=jn ds i h R id hk;refine⟨a,b,fun s hs=>?_⟩
   rcases List.mem_cons.1 hs with rfl|hs
   ·grind
   ·exact c s hs
  ·rename_i hc;rw[ar hc];obtain⟨a,b,c⟩:=jn ds i h _ id hk
   have hne:u.2≠id\/¬u.2<R.length:=by
    grind[known,aY]
   have hr:aH (bd R u.2 .yet) id=aH R id:=by
    rcases hne with e|hl
    ·by_cases hl:u.2<R.length
     ·rw[aY _ _ _ _ hl,ar (Ne.symm e)]
     ·rw[lS,List.set_eq_of_length_le (by omega)]
    ·rw[lS,List.set_eq_of_length_le (by omega)]
   have hkR:known R id:=by unfold known at b⊢;rw[<-hr];exact b
   refine⟨by rw[a,hr],hkR,fun s hs=>?_⟩
   rcases List.mem_cons.1 hs with rfl|hs
   ·exfalso
    rcases hne with e|hl
    ·exact e rfl
    ·exact hl (aK hkR)
   ·exact c s hs
def ins(L:Nat->Bool)(i:Nat)(k:Nat):Bool:=k==i||L k
theorem z8{res:List aI}{drs:List Dr}{L:Nat->Bool}{i:Nat}{d:Dr}(hd:drs[i]? =some d)(hi:L i=false)(hnew:∀k,k<d.new.length->aH d.new k≠ .yet):
  F5 (res++dN L 0 drs) (res++dN (ins L i) 0 drs) (res.length+lens (drs.take i)) d.new/\
  (∀id,KL res drs L id->¬fresh (res.length+lens (drs.take i)) d.new.length id)/\
  (∀id,KL res drs L id\/fresh (res.length+lens (drs.take i)) d.new.length id->KL res drs (ins L i) id):=by
 have hfr:∀id,fresh (res.length+lens (drs.take i)) d.new.length id↔res.length<=id/\∃y,dG drs (id-res.length)=some (i,y):=by
  intro id;constructor
  ·rintro⟨h1,h2⟩
   refine⟨by omega,id-res.length-lens (drs.take i),?_⟩
   rw[c8];exact⟨⟨d,hd,by omega⟩,by omega⟩
  ·rintro⟨h1,y,h2⟩
   rw[c8]at h2;obtain⟨⟨d',h3,h4⟩,h5⟩:=h2;rw[hd]at h3;simp only[aa]at h3;subst h3;exact⟨by omega,by omega⟩
 have hKf:∀id,KL res drs L id->¬fresh (res.length+lens (drs.take i)) d.new.length id:=by
  rintro id (hk|⟨h1,j,y,h2,h3⟩) hf
  ·have:=aK hk;have:=((hfr id).1 hf).1;omega
  ·simp_all
 refine⟨⟨fun id hk=>⟨?_,hKf id (hJ hk)⟩,fun id hk=>?_,fun k hk=>?_⟩,hKf,?_⟩
 ·have h0:=hJ hk;rw[ew,ew];by_cases hlt:id<res.length
  ·rw[au hlt,au hlt]
  ·grind[aK,ins]
 ·rcases hJ hk with h0|⟨h1,j,y,h2,h3⟩
  ·left
   unfold known;rw[ew,au (aK h0)];exact h0
  ·by_cases e:j=i
   ·subst e;exact .inr ((hfr id).2 ⟨h1,y,h2⟩)
   ·left
    have h3':L j=true:=by simpa[ins,e]using h3
    unfold known at hk⊢;rw[ew,ar (by omega),h2]at hk⊢
    simp only[h3,h3',if_true]at hk⊢;exact hk
 ·rw[ew,ar (by omega)]
  have:dG drs (res.length+lens (drs.take i)+k-res.length)=some (i,k):=by
   rw[c8];exact⟨⟨d,hd,hk⟩,by omega⟩
  rw[this];simp only[ins,beq_self_eq_true,Bool.true_or,if_true,hd]
 ·rintro id (h|h)
  ·rcases h with h|⟨h1,j,y,h2,h3⟩
   ·exact .inl h
   ·exact .inr ⟨h1,j,y,h2,by simp[ins,h3]⟩
  ·obtain⟨h1,y,h2⟩:=(hfr id).1 h;exact .inr ⟨h1,i,y,h2,by simp[ins]⟩
section
variable {C:Ctx} {opsA:Array Oper} {ds:List (Option Nat×Nat)} {sl:List S} {res:List aI} {drs:List Dr} {defs:List (Nat×List V×List V)} {ρ0 J:Env} {w0 w:World} {F0:Nat->Prop} {L:Nat->Bool} {fps:Nat->Nat->Prop} {a:Act}
theorem Inv.put(P:b8 C opsA.toList ds sl res drs)(I:Inv ds sl res drs defs ρ0 w0 F0 L J fps a w){i:Nat}{o:Oper}{d:Dr}(ho:opsA[i]? =some o)(hd:drs[i]? =some d)(hdst:xp sl.length o.dst=true)
  {ρ':Env} {fps':Nat->Nat->Prop} {w':World} {x:Value} (hL:∀k,(aM ds i).testBit k=true->L k=true) (hK:∀id,KL res drs L id->KL res drs (ins L i) id) (hag:Env.agree (KL res drs L) J ρ')
  (hH:aQ ρ' fps' (AV res drs (ins L i)) (KL res drs (ins L i)) w0 F0 w') (hx:ll ρ' (KL res drs (ins L i)) x d) (hnew:∀y,y<d.new.length->aH d.new y≠ .yet):
  Inv ds sl res drs defs ρ0 w0 F0 (ins L i) ρ' fps' (a.put o.dst x) w':=by
 have hpi:=(P.at ho).1;have hsz:(a.put o.dst x).tmps.size=a.tmps.size:=by cases o.dst<;>simp[Act.put]
 have hold:∀t,o.dst≠some t->(a.put o.dst x).tmps.getD t undef=a.tmps.getD t undef:=by
  intro t ht;cases hdd:o.dst with
  |none=>simp[Act.put]
  |some e=>
   have:e≠t:=fun h=>ht (by rw[hdd,h])
   simp[Act.put,Array.getD_eq_getD_getElem?,Array.getElem?_setIfInBounds_ne this]
 refine⟨by rw[hsz];exact I.size,?_,?_,hH,?_,?_,?_,?_⟩
 ·intro t j m dj h1 h2 h3;by_cases e:o.dst=some t
  ·rw[e]at hpi;have:=lY P.dst h1 hpi;subst this;rw[hd]at h2;simp only[aa]at h2;subst h2;rw[e]at hdst;have hlt:t<sl.length:=by simpa[xp]using hdst
   have:(a.put o.dst x).tmps.getD t undef=x:=by
    rw[e];simp[Act.put,I.size,hlt]
   rw[this];exact hx
  ·rw[hold t e]
   have hji:j≠i:=fun hji=>by
    simp_all
   exact(I.done t j m dj h1 h2 (by simpa[ins,hji]using h3)).env hK hag
 ·intro t hall
  have e:o.dst≠some t:=fun e=>by
   grind[ins]
  rw[hold t e]
  exact(I.todo t fun j m hj=>by
   have:=hall j m hj;simp only[ins,Bool.or_eq_false_iff]at this;exact this.2).env hK hag
 ·intro j k hj hk;simp only[ins,Bool.or_eq_true,aj]at hj⊢;rcases hj with rfl|hj
  ·exact .inr (hL k hk)
  ·exact .inr (I.down j k hj hk)
 ·have hag':Env.agree (known res) J ρ':=hag.mono fun id h=> .inl h
  obtain⟨e1,e2⟩:=bY (ρ':=ρ') (K':=known res) I.defs.2 hag' fun _ h=>h
  exact⟨by rw[show(a.put o.dst x).defers=a.defers from put_defers _ _ _,I.defs.1];exact e1.symm,e2⟩
 ·exact I.agree.trans (hag.mono fun id h=> .inl h) fun _ h=>h
 ·intro j dj h1 h2;by_cases e:j=i
  ·simp_all
  ·exact I.newk j dj h1 (by simpa[ins,e]using h2)
theorem qz{p q:Nat->Bool}(h:∀k,p k=true->q k=true){id:Nat}(hk:KL res drs p id):KL res drs q id:=by
 rcases hk with h1|⟨h1,j,y,h2,h3⟩
 ·exact .inl h1
 ·exact .inr ⟨h1,j,y,h2,h j h3⟩
theorem EE{p:Nat->Bool}{i id:Nat}(hk:KL res (drs.take i) p id):KL res drs p id:=by
 rcases hk with h1|⟨h1,j,y,h2,h3⟩
 ·exact .inl h1
 ·exact .inr ⟨h1,j,y,(pT h2).2,h3⟩
theorem jk:(AV res drs L).length=res.length+lens drs:=by unfold AV;rw[fR,List.length_append,gM]
theorem jO{id:Nat}(h:id<res.length+lens drs):aH (AV res drs L) id=(bQ L id 0 drs).getD (aH (res++dN L 0 drs) id):=by
 unfold AV;rw[jB _ _ _ _ _ (by rw[List.length_append,gM];exact h)]
theorem yp{st:Bool}{hid:List (Nat×Nat)}(hpl:∀i d,drs[i]? =some d->∃o,opsA.toList[i]? =some o/\fw C opsA.toList ds sl res st hid (drs.take i) i o=some d){s:Nat}{d:Dr}{u:Nat×aI}(hd:drs[s]? =some d)(hu:d.up=some u):
  ∃o,opsA.toList[s]? =some o/\xp sl.length o.dst=true/\rm C (b7 (aM ds s) s 0 ds (oS (drs.take s)) sl) (vw ds hid res (drs.take s) s) o=some d:=by
 obtain⟨o,ho,hp⟩:=hpl s d hd;unfold fw at hp;split at hp
 case isFalse=>simp at hp
 rename_i hc;simp only[ah]at hc;rcases iW hp with h|h
 ·rw[oU h]at hu;simp at hu
 ·exact⟨o,ho,hc.2,h⟩
theorem iS(P:b8 C opsA.toList ds sl res drs):∀(s:Nat) (d:Dr) (u:Nat×aI),drs[s]? =some d->d.up=some u->KL res drs (fun k=>(aM ds s).testBit k) u.1/\∃ty c,u.2= .blk ty c:=by
 obtain⟨st,hid,hpl,hhid⟩:=P.plan;intro s;induction s using Nat.strongRecOn with
 |_ s ih=>
  intro d u hd hu;obtain⟨o,ho,_,hp⟩:=yp hpl hd hu;obtain⟨p1,p2,p3,p4⟩:=P.at (i:=s) (o:=o) (by simpa using ho)
  obtain⟨t,p,x,id,off,y,ty,c,c',_,_,_,_,_,_,_,hr,_,rfl⟩:=lk hp;simp only[aa]at hu;subst hu;refine⟨?_,ty,c',rfl⟩;have hk:known (vw ds hid res (drs.take s) s) id:=by unfold known;rw[hr];simp
  obtain⟨_,hk2,_⟩:=jn _ _ _ _ _ hk;have hlen:=aK hk2;rw[fR]at hlen;unfold known at hk2;rw[jB _ _ _ _ _ hlen]at hk2;cases hl:bQ (Nat.testBit (aM ds s)) id 0 (drs.take s)with
  |some r=>
   obtain⟨k,d',h1,h2,h3⟩:=dT _ _ hl;rw[List.getElem?_take]at h1;simp only[Nat.zero_add]at h3;have hks:=p2 k h3;rw[au hks]at h1;exact qz (fun q hq=>p4 k q h3 hq) (ih k hks d' _ h1 h2).1
  |none=>
   rw[hl]at hk2;rw[lP]at hk2;exact EE (hJ hk2)
theorem wZ(P:b8 C opsA.toList ds sl res drs)(hdown:∀i k,L i=true->(aM ds i).testBit k=true->L k=true){id:Nat}(hk:known (AV res drs L) id):KL res drs L id:=by
 have hlt:=aK hk;rw[jk]at hlt;unfold known at hk;rw[jO hlt]at hk;cases hl:bQ L id 0 drs with
 |some r=>
  obtain⟨k,d',h1,h2,h3⟩:=dT _ _ hl;simp only[Nat.zero_add]at h3;exact qz (fun q hq=>hdown k q h3 hq) (iS P k d' _ h1 h2).1
 |none=>
  rw[hl]at hk;exact hJ hk
theorem tX{hid:List (Nat×Nat)}(P:b8 C opsA.toList ds sl res drs)(hhid:∀s d u,drs[s]? =some d->d.up=some u->(s,u.1)∈hid){i:Nat}(hil:i<=drs.length)(hi:L i=false)(hL:∀k,(aM ds i).testBit k=true->L k=true)
  (hlt:∀k,(aM ds i).testBit k=true->k<i) (hdown:∀i k,L i=true->(aM ds i).testBit k=true->L k=true) {id:Nat} (hk:known (vw ds hid res (drs.take i) i) id):aH (vw ds hid res (drs.take i) i) id=aH (AV res drs L) id:=by
 obtain⟨h1,h2,h3⟩:=jn _ _ _ _ _ hk;have hlen:=aK h2;rw[fR]at hlen;unfold vw;rw[h1,jB _ _ _ _ _ hlen]
 have hlen2:id<res.length+lens drs:=by
  rw[lP,List.length_append,gM]at hlen
  have:lens (drs.take i)<=lens drs:=by
   have:∀(l:List Dr) (n:Nat),lens (l.take n)<=lens l:=by
    intro l;induction l with
    |nil=>intro n;simp[lens]
    |cons d l ih=>
     intro n;cases n with
     |zero=>simp[lens]
     |succ n=>simp only[List.take_succ_cons,lens];have:=ih n;omega
   exact this drs i
  omega
 rw[jO hlen2]
 have hup:bQ (Nat.testBit (aM ds i)) id 0 (drs.take i)=bQ L id 0 drs:=by
  grind[fy]
 rw[hup];cases hl:bQ L id 0 drs with
 |some r=>rfl
 |none=>
  simp only[Option.getD_none];unfold known at h2;rw[jB _ _ _ _ _ hlen,hup,hl]at h2;rw[lP]at h2⊢;exact wI (fun k hk=>hL k hk) id h2
theorem uI(P:b8 C opsA.toList ds sl res drs)(hdown:∀i k,L i=true->(aM ds i).testBit k=true->L k=true){i:Nat}{d:Dr}(hd:drs[i]? =some d)(hi:L i=false)(hu:d.up=none)(hnew:∀k,k<d.new.length->aH d.new k≠ .yet):
  F5 (AV res drs L) (AV res drs (ins L i)) (res.length+lens (drs.take i)) d.new/\
  (∀id,KL res drs L id->¬fresh (res.length+lens (drs.take i)) d.new.length id)/\
  (∀id,KL res drs L id\/fresh (res.length+lens (drs.take i)) d.new.length id->KL res drs (ins L i) id):=by
 obtain⟨⟨a1,a2,a3⟩,b,c⟩:=z8 (res:=res) hd hi hnew
 have hup:∀id,bQ (ins L i) id 0 drs=bQ L id 0 drs:=fun id=>by
  have:=fy (p:=ins L i) (L:=L) (id:=id) drs 0 drs.length fun k d' u e1 e2 e3=>by
   grind[ins]
  rwa [List.take_length]at this
 have hnot:∀id,KL res drs L id->∀r,bQ L id 0 drs=some r->r≠ .yet:=fun id _ r hr=>by
  obtain⟨k,d',h1,h2,_⟩:=dT _ _ hr;obtain⟨_,ty,c,e⟩:=iS P k d' _ h1 h2;simp only at e;rw[e];simp
 refine⟨⟨fun id hk=>?_,fun id hk=>?_,fun k hk=>?_⟩,b,c⟩
 ·grind[wZ,aK,jk,jO,bQ,known]
 ·grind[aK,jk,known,jO,bQ]
 ·have h3:=a3 k hk
  have hlt:res.length+lens (drs.take i)+k<res.length+lens drs:=by
   have:=lens_take_le drs drs.length i k ⟨d,hd,hk⟩ (List.getElem?_eq_some_iff.1 hd).1;rw[List.take_length]at this;omega
  rw[jO hlt,hup];have hfr:fresh (res.length+lens (drs.take i)) d.new.length (res.length+lens (drs.take i)+k):=⟨by omega,by omega⟩
  cases hl:bQ L (res.length+lens (drs.take i)+k) 0 drs with
  |none=>exact h3
  |some r=>
   exfalso
   obtain⟨s,d',h1,h2,h4⟩:=dT _ _ hl;simp only[Nat.zero_add]at h4;exact b _ (qz (fun q hq=>hdown s q h4 hq) (iS P s d' _ h1 h2).1) hfr
theorem CP(P:b8 C opsA.toList ds sl res drs){hid:List (Nat×Nat)}(hhid:∀s d u,drs[s]? =some d->d.up=some u->(s,u.1)∈hid)(hdown:∀i k,L i=true->(aM ds i).testBit k=true->L k=true){i:Nat}{d:Dr}{id:Nat}{r:aI}(hd:drs[i]? =some d)
  (hi:L i=false) (hu:d.up=some (id,r)) (hn:d.new= []) (hk:known (vw ds hid res (drs.take i) i) id) (hlt:∀k,(aM ds i).testBit k=true->k<i) (hkn:known (AV res drs L) id):
  (∀x,known (AV res drs (ins L i)) x->aH (AV res drs (ins L i)) x=aH (bd (AV res drs L) id r) x)/\∀x,KL res drs L x↔KL res drs (ins L i) x:=by
 have hKL:∀x,KL res drs L x↔KL res drs (ins L i) x:=fun x=>by
  constructor
  ·exact qz fun k hk=>by simp[ins,hk]
  ·rintro(h|⟨h1,j,y,h2,h3⟩)
   ·exact .inl h
   ·refine .inr ⟨h1,j,y,h2,?_⟩
    have hj:j≠i:=fun e=>by
     simp_all[c8]
    simpa[ins,hj]using h3
 refine⟨fun x hx=>?_,hKL⟩
 have hxl:=aK hx;rw[jk]at hxl;have hidl:=aK hkn
 have hbase:aH (res++dN (ins L i) 0 drs) x=aH (res++dN L 0 drs) x:=by
  grind[ew,dG,c8,ins]
 rw[aY _ _ _ _ hidl,jO hxl];by_cases e:x=id
 ·subst e;rw[au rfl,pL drs 0 i d hd hu (by simp[ins]) fun k d' u h1 h2 h3 h4=>?_]
  ·rfl
  ·simp only[Nat.zero_add,ins,Bool.or_eq_false_iff,beq_eq_false_iff_ne];refine⟨by omega,?_⟩
   cases hLk:L k with
   |false=>rfl
   |true=>
    exfalso
    obtain⟨_,_,h5⟩:=jn _ _ _ _ _ hk;have hm:=hhid k d' u h2 h3;rw[h4]at hm;rcases h5 k hm with rfl|h|h
    ·omega
    ·have:=hlt k h;omega
    ·rw[hdown k i hLk h]at hi;simp at hi
 ·rw[ar e,jO hxl,hbase]
  have hup:bQ (ins L i) x 0 drs=bQ L x 0 drs:=by
   have:=fy (p:=ins L i) (L:=L) (id:=x) drs 0 drs.length fun k d' u e1 e2 e3=>by
    grind[ins]
   rwa [List.take_length]at this
  rw[hup]
theorem Inv.step[Fen]{ops:Array Oper}{K:Act->World->Prop}{Q:Exit->Act->World->Prop}{ro:Option Nat}(hops:ops=opsA)(hnd:ro≠none->∀o∈opsA.toList,bZ o)(hC:C.Sound)(P:b8 C opsA.toList ds sl res drs)(hq:∀(i:Nat) (d:Dr),drs[i]? =some d->(d.g=true->bq d.q))
  (I:Inv ds sl res drs defs ρ0 w0 F0 L J fps a w) {i:Nat} {d:Dr} (hd:drs[i]? =some d)
  (hi:L i=false) (hL:∀k,(aM ds i).testBit k=true->L k=true)
  (hn:∀ρ' fps' a' w',Inv ds sl res drs defs ρ0 w0 F0 (ins L i) ρ' fps' a' w'->K a' w'):wpOpIn (FF C.P ro) 0 C.P ops Q i K a w:=by
 subst hops;obtain⟨st,hid,hpl,hhid⟩:=P.plan;obtain⟨o,ho,hp⟩:=hpl i d hd;have ho':ops[i]? =some o:=by simpa using ho
 obtain⟨p1,p2,p3,p4⟩:=P.at ho';have hilt:i<drs.length:=(List.getElem?_eq_some_iff.1 hd).1
 have hview:er J (KL res drs L) (b7 (aM ds i) i 0 ds (oS (drs.take i)) sl) a:=by
  refine P.view I (by omega) (fun k hk=>⟨hL k hk,p2 k hk⟩) p4 fun k m t h1 h2 h3=>?_
  rcases h3 with rfl|h3
  ·exact hi
  ·cases hLk:L k with
   |false=>rfl
   |true=>
    have hm:aM ds k=m:=by simp[aM,h1]
    have:=I.down k i hLk (by rw[hm];exact h3)
    rw[hi]at this;exact absurd this (by simp)
 have hres:aQ J fps (vw ds hid res (drs.take i) i) (KL res drs L) w0 F0 w:=I.heap.forget fun id hk=>tX P hhid (by omega) hi hL p2 I.down hk
 unfold wpOpIn;simp only[ho'];have hdo:ro≠none->bZ o:=fun hr=>hnd hr o (by rw[<-Array.getElem?_toList]at ho';exact List.mem_of_getElem? ho')
 unfold fw at hp;split at hp
 ·rename_i hc;simp only[ah]at hc;rcases iW hp with hp|hp
  case inr=>
   obtain⟨t,px,x,id,off,y,ty,c,c',q1,q2,q3,q4,q5,q6,q7,q8,q9,rfl⟩:=lk hp;rw[au (by simp[Region.wanted,q3])]
   have hkv:known (vw ds hid res (drs.take i) i) id:=by unfold known;rw[q8];simp
   have hav:aH (AV res drs L) id= .blk ty c:=by rw[<-tX P hhid (by omega) hi hL p2 I.down hkv];exact q8
   have hkn:known (AV res drs L) id:=by unfold known;rw[hav];simp
   obtain⟨e1,e2⟩:=dv hview rfl q4;obtain⟨e3,e4⟩:=dv hview rfl q5
   have hst:jW C.P (AV res drs L) t (.lp id off) y=some (bd (AV res drs L) id (.blk ty c')):=by
    simp_all[jW]
   obtain⟨w',s1,s2,s3⟩:=kB I.heap hst e2 e4;have hrun:(execOp a.eval o).run C.P w= .ok .skip w':=by simp[execOp,q1,e1,e3,s1]
   refine cL hdo (fun f hf=>by unfold Oper.about at hf;rw[q1]at hf;simp at hf) ?_
   rw[hrun];obtain⟨t1,t2⟩:=CP P hhid I.down hd hi rfl rfl hkv p2 hkn;have hH:aQ J fps (AV res drs (ins L i)) (KL res drs (ins L i)) w0 F0 w':=(s2.ki fun id h=>(t2 id).1 h).forget t1
   exact hn _ _ _ _ (I.put P ho' hd hc.2 hL (fun id h=>(t2 id).1 h) (Env.agree.refl _ _) hH (by simp[ll]) (by simp))
  have hun:=oU hp;unfold oO at hp
  have hsame:d.new= []->∀x,(∀ρ',ρ'=J->ll ρ' (KL res drs (ins L i)) x d)->Inv ds sl res drs defs ρ0 w0 F0 (ins L i) J fps (a.put o.dst x) w:=by
   intro hnew x hx;obtain⟨a1,a2,a3⟩:=uI P I.down hd hi hun (by rw[hnew];simp)
   obtain⟨fps',g1,g2⟩:=I.heap.grow (ρ':=J) a1 a2 a3 (by rw[hnew];exact fJ.refl _ _ _ _ _ _)
   have hH:aQ J fps (AV res drs (ins L i)) (KL res drs (ins L i)) w0 F0 w:=by
    refine(I.heap.ki fun id h=>a3 id (.inl h)).forget fun id hk=>?_
    rcases a1.2.1 id hk with h|h
    ·exact(a1.1 id h).1
    ·unfold fresh at h;rw[hnew]at h;simp at h;omega
   exact I.put P ho' hd hc.2 hL (fun id h=>a3 id (.inl h)) (Env.agree.refl _ _) hH (hx J rfl) (by rw[hnew];simp)
  split at hp
  case isFalse=>simp at hp
  rename_i hab;have hab:=vZ hview hab w;split at hp
  ·simp at hp
  ·rename_i hch;simp only[aa]at hp;rw[gC hview hch];simp only[p6,Bool.false_eq_true,if_false];refine⟨fun f hf _=>hab f hf,?_⟩
   exact hn _ _ _ _ (hsame (by rw[<-hp]) undef fun ρ' _=>by subst hp;simp[ll])
  ·rename_i ch hch;rw[gC hview hch];rw[show p6 (b7 (aM ds i) i 0 ds (oS (drs.take i)) sl) (some ch)=gx (b7 (aM ds i) i 0 ds (oS (drs.take i)) sl) ch from rfl];split at hp
   ·rename_i q x new hop
    have hcase:(gx (b7 (aM ds i) i 0 ds (oS (drs.take i)) sl) ch=true/\bq q/\d.s= .v x/\d.new=new)\/∃c0 c1,ch=c0::c1/\new= []/\d= {s:= .gv (c0::c1) x,g:=gx (b7 (aM ds i) i 0 ds (oS (drs.take i)) sl) (c0::c1),q:=q,new:= []}:=by
     cases ch with
     |nil=>
      simp only[aa]at hp;subst hp;exact .inl ⟨rfl,hq i _ hd rfl,rfl,rfl⟩
     |cons c0 c1=>
      simp only at hp;split at hp<;>simp only[aa]at hp
      ·rename_i hne;exact .inr ⟨c0,c1,rfl,by simpa using hne,hp.symm⟩
      ·subst hp;obtain⟨h1,h2⟩:=hq i _ hd rfl;exact .inl ⟨h1,h2,rfl,rfl⟩
    rcases hcase with⟨hgo,hq',hds,hdn⟩|⟨c0,c1,rfl,rfl,rfl⟩
    ·obtain rfl:=hdn;rw[au hgo];refine cL hdo hab ?_
     have hnK:∀k,k<d.new.length->¬KL res drs L (res.length+lens (drs.take i)+k):=fun k hk h=>by
      have hfr:fresh (res.length+lens (drs.take i)) d.new.length (res.length+lens (drs.take i)+k):=⟨by omega,by omega⟩
      rcases h with h|⟨h1,j,y,h2,h3⟩
      ·have:=aK h;omega
      ·have h4:dG drs (res.length+lens (drs.take i)+k-res.length)=some (i,k):=by
        rw[c8];exact⟨⟨_,hd,hk⟩,by omega⟩
       rw[h4]at h2;simp only[aa,ae]at h2;rw[<-h2.1,hi]at h3;simp at h3
     obtain⟨hy,hnew⟩:=gN hC hop hview hres hgo hq' hnK;refine hy.wp fun v w' ⟨ρ',hg,hv,hx⟩=>?_
     obtain⟨a1,a2,a3⟩:=uI P I.down hd hi hun hnew;obtain⟨fps',g1,g2⟩:=I.heap.grow a1 a2 a3 hg;exact hn _ _ _ _ (I.put P ho' hd hc.2 hL (fun id h=>a3 id (.inl h)) g2 g1 (by unfold ll;rw[hds];exact⟨hv,bE a3 _ hx⟩) hnew)
    ·by_cases hg:gx (b7 (aM ds i) i 0 ds (oS (drs.take i)) sl) (c0::c1)=true
     ·rw[au hg];refine cL hdo hab ?_;have hq':bq q:=hq i _ hd hg;obtain⟨hy,_⟩:=gN hC hop hview hres hg hq' (fun k hk=>by simp at hk)
      refine hy.wp fun v w' ⟨ρ',hgr,hv,hx⟩=>?_
      obtain⟨a1,a2,a3⟩:=uI P I.down hd hi hun (by simp)
      obtain⟨fps',g1,g2⟩:=I.heap.grow a1 a2 a3 hgr;refine hn _ _ _ _ (I.put P ho' hd hc.2 hL (fun id h=>a3 id (.inl h)) g2 g1 ⟨fun _=>⟨hv,bE a3 _ hx⟩,fun h=>?_⟩ (by simp))
      simp only at h;rw[hg]at h;simp at h
     ·rw[ar hg];refine⟨fun f hf _=>hab f hf,?_⟩
      exact hn _ _ _ _ (hsame rfl undef fun ρ' _=>⟨fun h=>absurd h hg,fun _=>rfl⟩)
   ·simp at hp
 ·simp at hp
end
end Go.Sx
