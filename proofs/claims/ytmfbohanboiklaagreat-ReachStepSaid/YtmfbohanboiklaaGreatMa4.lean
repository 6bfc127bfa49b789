import Derived.Test.YtmfbohanboiklaaGreatMa3
set_option linter.unusedSimpArgs false
set_option linter.unusedVariables false
namespace Go.Sx
open Go.RowKit (Below)
inductive Out where
 |norm
 |exit (i:Nat)
 |goto (l:Nat)
 |ret
 |pan (v:V)
def Fp(J:Env)(res:List aS):Exit->Out->Prop
 | .normal,.norm=>True
 | .exit i,.exit j=>i=j
 | .goto i,.goto j=>i=j
 | .ret,.ret=>True
 | .panic chain,.pan v=>chain= [{v:=den J v,recovered:=false}]/\ok (known res) v
 |_,_=>False
def jR(ρ0:Env)(res0:List aS)(w0:World)(F0:Nat->Prop)(K:Out->St->Prop):Exit->Act->World->Prop:=fun e a w=>
 ∃out U J fps,Fp J U.res e out/\K out U/\lE J fps U w0 F0 a w/\Good ρ0 res0 J U.res
theorem jR.W4{ρ0:Env}{res0:List aS}{w0:World}{F0:Nat->Prop}{K:Out->St->Prop}:¬LetsOut (jR ρ0 res0 w0 F0 K):=by
 rintro⟨a,w,out,U,J,fps,h1,_⟩
 cases out<;>exact h1
theorem jR.mono{ρ0:Env}{res0:List aS}{w0:World}{F0:Nat->Prop}{K K':Out->St->Prop}{e:Exit}{a:Act}{w:World}(h:jR ρ0 res0 w0 F0 K e a w)(hK:∀o U,K o U->K' o U):
  jR ρ0 res0 w0 F0 K' e a w:=
 let ⟨o,U,J,fps,h1,h2,h3,h4⟩:=h
 ⟨o,U,J,fps,h1,hK _ _ h2,h3,h4⟩
def bj(ds:List (Option Nat×Nat))(i:Nat):Nat:=
 match ds[i]? with
 |some p=>p.2
 |none=>0
def j4(ds:List (Option Nat×Nat))(es:List Edge):Nat:=
 match es with
 | []=>0
 |e::l=>if Region.binds .any e then(2^e.on ||| bj ds e.on) ||| j4 ds l else j4 ds l
def T7:List Oper->List (Option Nat×Nat)->List (Option Nat×Nat)
 | [],acc=>acc
 |o::l,acc=>T7 l (acc++ [(o.dst,j4 acc o.after.toList)])
def MV:Option Nat->Option Nat->Bool
 |some a,some b=> !(a==b)
 |_,_=>true
def tg:List (Option Nat×Nat)->Bool
 | []=>true
 |p::l=>l.all (fun q=>MV p.1 q.1)&&tg l
def GH(ds:List (Option Nat×Nat)):Nat->List Oper->List (Option Nat×Nat)->Bool
 |i,o::l,d::m=>(match o.dst,d.1 with|none,none=>true|some a,some b=>a==b|_,_=>false)&&j4 ds o.after.toList==d.2&&Nat.ble (d.2+1) (2^i)
  &&(List.range i).all (fun j=> !(Nat.testBit d.2 j)||((bj ds j ||| d.2)==d.2))&&GH ds (i+1) l m
 |_,[],[]=>true
 |_,_,_=>false
def fg(anc i:Nat):Nat->List (Option Nat×Nat)->List S->List S->List S
 |j,(some d,_)::ds,s::done,sl=>fg anc i (j+1) ds done (sset sl d (if Nat.testBit anc j then s else .und))
 |j,(some d,m)::ds,[],sl=>if j==i||Nat.testBit m i then fg anc i (j+1) ds [] sl else fg anc i (j+1) ds [] (sset sl d .und)
 |j,(none,_)::ds,done,sl=>fg anc i (j+1) ds done.tail sl
 |_,[],_,sl=>sl
structure Dr where
 s:S
 g:Bool
 q:Option Prop
 new:List aS
 up:Option (Nat×aS):=none
def Ac:List aS->List aS
 | []=> []
 |_::l=> .yet::Ac l
def iH(p:Nat->Bool):Nat->List Dr->List aS
 |_,[]=> []
 |j,d::l=>match d.new with
  | []=>iH p (j+1) l
  |r::n=>(if p j then r::n else .yet::Ac n)++iH p (j+1) l
def lens:List Dr->Nat
 | []=>0
 |d::l=>d.new.length+lens l
def xX:List Dr->List S
 | []=> []
 |d::l=>d.s::xX l
def JN(m:Nat):Option (Nat×Bool)->Bool
 |none=>true
 |some (j,_)=>Nat.testBit m j
def wG(C:Ctx)(ops:List Oper)(D:List S)(R:List aS)(nid:Nat)(o:Oper):Option Dr:=
 if abB C.P D o then match s6 D ops o.guard with
 |none=>none
 |some none=>some {s:= .ud,g:=false,q:=none,new:= []}
 |some (some ch)=>match DK C D R nid ch o.op with
  |some (q,x,new)=>match ch with
   | []=>some {s:= .v x,g:=true,q:=q,new:=new}
   |c::ch=>if new.isEmpty then some {s:= .gv (c::ch) x,g:=na D (c::ch),q:=q,new:= []}else some {s:= .v x,g:=true,q:=some (na D (c::ch)=true/\cM q),new:=new}
  |none=>none
 else none
def E8(n:Nat):Option Nat->Bool
 |none=>true
 |some d=>Nat.blt d n
def Mg(p:Nat->Bool):Nat->List Dr->List aS->List aS
 |_,[],R=>R
 |j,d::l,R=>match d.up with
  |none=>Mg p (j+1) l R
  |some u=>if p j then Mg p (j+1) l (bR R u.1 u.2)else Mg p (j+1) l R
def B2(ds:List (Option Nat×Nat))(i:Nat):List (Nat×Nat)->List aS->List aS
 | [],R=>R
 |u::h,R=>if u.1==i||Nat.testBit (bj ds i) u.1||Nat.testBit (bj ds u.1) i then B2 ds i h R else B2 ds i h (bR R u.2 .yet)
def vw(ds:List (Option Nat×Nat))(hid:List (Nat×Nat))(res:List aS)(done:List Dr)(i:Nat):List aS:=
 B2 ds i hid (Mg (Nat.testBit (bj ds i)) 0 done (pg res (iH (Nat.testBit (bj ds i)) 0 done)))
def vn:Nat->List Dr->List (Nat×Nat)
 |_,[]=> []
 |j,d::l=>match d.up with
  |none=>vn (j+1) l
  |some u=>(j,u.1)::vn (j+1) l
def Bs:List (Nat×Nat)->List (Nat×Nat)->Bool
 | [],[]=>true
 |a::l,b::m=>a.1==b.1&&a.2==b.2&&Bs l m
 |_,_=>false
def AQ(C:Ctx)(D:List S)(R:List aS)(o:Oper):Option Dr:=
 match o.op with
 | .store t p x=>match o.dst with
   |none=>match o.guard with
    |none=>match er D [] p with
     |some pv=>match pv with
      | .lp id off=>match er D [] x with
        |some y=>if oG C.P t==some (fe y)&& !cE y then match aN R id with
         | .blk ty c=>match setAt 8 c off y with
           |some c'=>some {s:= .und,g:=true,q:=none,new:= [],up:=some (id,.blk ty c')}
           |none=>none
         |_=>none
         else none
        |none=>none
      |_=>none
     |none=>none
    |some _=>none
   |some _=>none
 |_=>none
def vW(C:Ctx)(ops:List Oper)(st:Bool)(D:List S)(R:List aS)(nid:Nat)(o:Oper):Option Dr:=
 match wG C ops D R nid o with
 |some d=>some d
 |none=>if st then AQ C D R o else none
def lD(C:Ctx)(ops:List Oper)(ds:List (Option Nat×Nat))(sl:List S)(res:List aS)(st:Bool)(hid:List (Nat×Nat))(done:List Dr)(i:Nat)(o:Oper):Option Dr:=
 if JN (bj ds i) o.guard&&E8 sl.length o.dst then
  vW C ops st (fg (bj ds i) i 0 ds (xX done) sl) (vw ds hid res done i) (res.length+lens done) o
 else none
def nN(C:Ctx)(ops:List Oper)(ds:List (Option Nat×Nat))(sl:List S)(res:List aS)(st:Bool)(hid:List (Nat×Nat)):Nat->List Oper->List Dr->List Dr×List Oper
 |_,[],done=>(done,[])
 |i,o::l,done=>match lD C ops ds sl res st hid done i o with
  |some d=>nN C ops ds sl res st hid (i+1) l (done++ [d])
  |none=>(done,o::l)
def wb:List Dr->Prop->Prop
 | [],k=>k
 |d::l,k=>match d.s with
  | .gv _ _=>Zh d.g d.q (wb l k)
  |_=>z7 d.q (wb l k)
def qJ(n:Nat):Nat:=2^n-1
def B6(C:Ctx)(ops:List Oper)(ds:List (Option Nat×Nat))(sl:List S)(res:List aS)(st:Bool)(hid:List (Nat×Nat)):Nat->List Oper->List Dr->(List Dr->List Oper->Prop)->Prop
 |_,[],done,k=>k done []
 |i,o::l,done,k=>zW (fg (bj ds i) i 0 ds (xX done) sl) fun D=>
  match (if JN (bj ds i) o.guard&&E8 sl.length o.dst then vW C ops st D (vw ds hid res done i) (res.length+lens done) o else none)with
  |some d=>B6 C ops ds sl res st hid (i+1) l (done++ [d]) k
  |none=>k done (o::l)
theorem vu(C:Ctx)(ops:List Oper)(ds:List (Option Nat×Nat))(sl:List S)(res:List aS)(st:Bool)(hid:List (Nat×Nat)):∀(l:List Oper) (i:Nat) (done:List Dr) (k:List Dr->List Oper->Prop),
  B6 C ops ds sl res st hid i l done k=k (nN C ops ds sl res st hid i l done).1 (nN C ops ds sl res st hid i l done).2
 | [],_,_,_=>rfl
 |o::l,i,done,k=>by
  simp only[B6,nN,uO,lD];split
  ·simp_all[vu]
  ·rename_i hd;rfl
def E5(C:Ctx)(H:Handler)(Y:eF)(ops:List Oper):List Oper->St->(Out->St->Prop)->Prop
 | [],U,K=>mN U.slots fun sl=>K .norm {U with slots:=sl}
 |o::l,U,K=>Bm C H Y ops o U (fun σ'=>E5 C H Y ops l σ' K) (fun v σ'=>K (.pan v) σ')
def ub(ds:List (Option Nat×Nat)):Nat->List Oper->Bool
 |_,[]=>true
 |i,_::l=>bj ds i==qJ i&&ub ds (i+1) l
def acR(o:Operand)(d:Nat):Bool:=
 match o with
 | .tmp s=> !(s==d)
 |_=>true
def Xq(o:Oper):Option Operand:=
 match o.op with
 | .move x=>some x
 | .assign x=>some x
 | .extract x _=>some x
 |_=>none
def apart(x y:Oper):Bool:=
 match Xq x,x.dst,Xq y,y.dst with
 |some sx,some dx,some sy,some dy=>acR sy dx&&acR sx dy&& !(dx==dy)
 |_,_,_,_=>false
def zq(res:List aS)(drs:List Dr):List aS:=Mg (fun _=>true) 0 drs (pg res (iH (fun _=>true) 0 drs))
def XH(ops:List Oper)(ds:List (Option Nat×Nat))(n:Nat):List Oper->Bool
 | []=>true
 |o::l=>ub ds n (o::l)
def yK(C:Ctx)(H:Handler)(Y:eF)(ops:List Oper)(ds:List (Option Nat×Nat))(U:St)(K:Out->St->Prop)(drs:List Dr)(rest:List Oper):Prop:=
 wb drs (match rest with
  | []=>zW (fg (qJ drs.length) drs.length 0 ds (xX drs) (clean U.slots)) fun sl=>mN sl fun sl=>K .norm {U with slots:=sl,res:=zq U.res drs}
  |o::l=>if ub ds drs.length (o::l)then
    zW (fg (qJ drs.length) drs.length 0 ds (xX drs) (clean U.slots)) fun sl=>E5 C H Y ops (o::l) {U with slots:=sl,res:=zq U.res drs} K
   else False)
def PD(C:Ctx)(H:Handler)(Y:eF)(ops:List Oper)(ds:List (Option Nat×Nat))(U:St)(K:Out->St->Prop)(alt:Prop):Prop:=
 if GH ds 0 ops ds&&tg ds then
  mN U.slots fun sl=>B6 C ops ds sl U.res false [] 0 ops [] fun drs rest=>
   if XH ops ds drs.length rest then yK C H Y ops ds U K drs rest
   else B6 C ops ds sl U.res true [] 0 ops [] fun drs1 _=>B6 C ops ds sl U.res true (vn 0 drs1) 0 ops [] fun drs2 rest2=>
    if Bs (vn 0 drs2) (vn 0 drs1)&&XH ops ds drs2.length rest2 then yK C H Y ops ds U K drs2 rest2 else alt
 else False
def O2(C:Ctx)(H:Handler)(Y:eF)(ops:List Oper)(U:St)(K:Out->St->Prop)(alt:Prop):Prop:=PD C H Y ops (T7 ops []) U K alt
theorem nf{ds:List (Option Nat×Nat)}{k:Nat}:∀{es:List Edge},(j4 ds es).testBit k=true↔ ∃e∈es,Region.binds .any e=true/\(e.on=k\/(bj ds e.on).testBit k=true)
 | []=>by simp[j4]
 |e::l=>by
  have ih:=nf (ds:=ds) (k:=k) (es:=l);simp only[j4,List.mem_cons,exists_eq_or_imp];split
  ·grind
  ·rename_i h;simp[ih,h]
theorem kf(anc i:Nat):∀(ds:List (Option Nat×Nat)) (j:Nat) (done sl:List S),(fg anc i j ds done sl).length=sl.length
 | [],j,done,sl=>by simp[fg]
 | (none,m)::ds,j,done,sl=>by simp only[fg];exact kf anc i ds _ _ _
 | (some d,m)::ds,j,s::done,sl=>by simp only[fg];rw[kf anc i ds _ _ _,iv]
 | (some d,m)::ds,j,[],sl=>by
   simp only[fg];split
   ·exact kf anc i ds _ _ _
   ·rw[kf anc i ds _ _ _,iv]
theorem k7(anc i t:Nat):∀(ds:List (Option Nat×Nat)) (j:Nat) (done sl:List S),
  cm (fg anc i j ds done sl) t= .und\/
  (∃k m s,ds[k]? =some (some t,m)/\done[k]? =some s/\anc.testBit (j+k)=true/\cm (fg anc i j ds done sl) t=s)\/
  (cm (fg anc i j ds done sl) t=cm sl t/\∀k m,ds[k]? =some (some t,m)->done.length<=k/\(j+k=i\/m.testBit i=true))
 | [],j,done,sl=> .inr (.inr ⟨by simp[fg],by simp⟩)
 | (none,m)::ds,j,done,sl=>by
   simp only[fg];rcases k7 anc i t ds (j+1) done.tail sl with h|⟨k,m',s,h1,h2,h3,h4⟩|⟨h1,h2⟩
   ·exact .inl h
   ·refine .inr (.inl ⟨k+1,m',s,by simpa using h1,?_,by rw[show j+(k+1)=j+1+k by omega];exact h3,h4⟩)
    cases done<;>first| (simp at h2;done)|simpa using h2
   ·grind
 | (some d,m)::ds,j,s::done,sl=>by
   simp only[fg];rcases k7 anc i t ds (j+1) done (sset sl d (if anc.testBit j=true then s else .und))with h|⟨k,m',s',h1,h2,h3,h4⟩|⟨h1,h2⟩
   ·exact .inl h
   ·exact .inr (.inl ⟨k+1,m',s',by simpa using h1,by simpa using h2,by rw[show j+(k+1)=j+1+k by omega];exact h3,h4⟩)
   ·rw[gR]at h1;by_cases e:t=d/\d<sl.length
    ·rw[ar e]at h1;obtain⟨rfl,hd⟩:=e;by_cases hb:anc.testBit j=true
     ·rw[ar hb]at h1;exact .inr (.inl ⟨0,m,s,by simp,by simp,by simpa using hb,by rw[ar hb];exact h1⟩)
     ·simp_all
    ·grind[lK]
 | (some d,m)::ds,j,[],sl=>by
   simp only[fg];split
   ·rename_i hc;rcases k7 anc i t ds (j+1) [] sl with h|⟨k,m',s',h1,h2,h3,h4⟩|⟨h1,h2⟩
    ·exact .inl h
    ·simp at h2
    ·grind
   ·rename_i hc;rcases k7 anc i t ds (j+1) [] (sset sl d .und)with h|⟨k,m',s',h1,h2,h3,h4⟩|⟨h1,h2⟩
    ·exact .inl h
    ·simp at h2
    ·grind[gR,lK]
theorem zU{a b:Option Nat}(h:MV a b=true){t:Nat}(ha:a=some t)(hb:b=some t):False:=by
 subst ha;subst hb;simp[MV]at h
theorem pH:∀{ds:List (Option Nat×Nat)},tg ds=true->∀{j k t m m':Nat},ds[j]? =some (some t,m)->ds[k]? =some (some t,m')->j=k
 | [],_,j,k,t,m,m',h,_=>by simp at h
 |p::l,hd,j,k,t,m,m',hj,hk=>by
  simp only[tg,af,List.all_eq_true]at hd;cases j with
  |zero=>
   cases k with
   |zero=>rfl
   |succ k=>
    simp only[List.getElem?_cons_zero,aa]at hj;have:=hd.1 _ (List.mem_of_getElem? (by simpa using hk))
    exact(zU this (by rw[hj]) rfl).elim
  |succ j=>
   cases k with
   |zero=>
    simp only[List.getElem?_cons_zero,aa]at hk;have:=hd.1 _ (List.mem_of_getElem? (by simpa using hj))
    exact(zU this (by rw[hk]) rfl).elim
   |succ k=>exact congrArg (· +1) (pH hd.2 (t:=t) (m:=m) (m':=m') (by simpa using hj) (by simpa using hk))
theorem u4{anc i t:Nat}:∀{ds:List (Option Nat×Nat)} (_:tg ds=true) {j:Nat} {done sl:List S} {k m:Nat} {s:S},ds[k]? =some (some t,m)->done[k]? =some s->anc.testBit (j+k)=true->
  t<sl.length->cm (fg anc i j ds done sl) t=s
 | (none,m0)::ds,hd,j,done,sl,k,m,s,h1,h2,h3,ht=>by
   simp only[tg,af]at hd;cases k with
   |zero=>simp at h1
   |succ k=>
    simp only[fg];refine u4 hd.2 (k:=k) (by simpa using h1) ?_ (by rw[show j+1+k=j+(k+1) by omega];exact h3) ht
    cases done<;>first| (simp at h2;done)|simpa using h2
 | (some d,m0)::ds,hd,j,[],sl,k,m,s,h1,h2,h3,ht=>by simp at h2
 | (some d,m0)::ds,hd,j,x::done,sl,k,m,s,h1,h2,h3,ht=>by
   have hd':=hd;simp only[tg,af]at hd;cases k with
   |succ k=>
    simp only[fg];exact u4 hd.2 (k:=k) (by simpa using h1) (by simpa using h2) (by rw[show j+1+k=j+(k+1) by omega];exact h3) (by rw[iv];exact ht)
   |zero=>
    simp only[List.getElem?_cons_zero,aa,ae]at h1 h2;obtain⟨rfl,rfl⟩:=h1;subst h2;simp only[fg];simp only[Nat.add_zero]at h3
    have hno:∀(k m':Nat),ds[k]? =some (some d,m')->False:=fun k m' hk=>by
     have:=pH hd' (j:=0) (k:=k+1) (t:=d) (m:=m0) (m':=m') (by simp) (by simpa using hk)
     omega
    have key:∀(ds:List (Option Nat×Nat)) (j:Nat) (done sl:List S),(∀(k m':Nat),ds[k]? =some (some d,m')->False)->cm (fg anc i j ds done sl) d=cm sl d:=by
     intro ds;induction ds with
     |nil=>intro j done sl _;simp[fg]
     |cons p ds ih=>
      intro j done sl hn;have hn':∀(k m':Nat),ds[k]? =some (some d,m')->False:=fun k m' hk=>hn (k+1) m' (by simpa using hk)
      obtain⟨a,b⟩:=p;cases a with
      |none=>simp only[fg];exact ih _ _ _ hn'
      |some e=>
       have hne:d≠e:=fun he=>hn 0 b (by simp[he])
       have hss:∀(sl:List S) (y:S),cm (sset sl e y) d=cm sl d:=fun sl y=>by rw[gR,aq fun h=>hne h.1]
       cases done with
       |nil=>
        simp only[fg];split
        ·exact ih _ _ _ hn'
        ·rw[ih _ _ _ hn',hss]
       |cons y done=>simp only[fg];rw[ih _ _ _ hn',hss]
    rw[key _ _ _ _ hno,gR,ar ⟨rfl,ht⟩,ar h3]
 | [],_,j,done,sl,k,m,s,h1,h2,h3,ht=>by simp at h1
theorem B3{anc i t:Nat}{ds:List (Option Nat×Nat)}{j:Nat}{done sl:List S}(ht:¬t<sl.length):cm (fg anc i j ds done sl) t= .und:=by
 simp_all[lK,kf]
def iy:List Dr->Nat->Option (Nat×Nat)
 | [],_=>none
 |d::l,x=>if x<d.new.length then some (0,x)else(iy l (x-d.new.length)).map fun p=>(p.1+1,p.2)
theorem ru:∀l,(Ac l).length=l.length
 | []=>rfl
 |_::l=>by simp[Ac,ru l]
theorem Co:∀(l:List aS) (x:Nat),aN (Ac l) x= .yet
 | [],x=>by simp[Ac,aN]
 |_::l,0=>by simp[Ac,aN]
 |_::l,x+1=>by simp[Ac,aN,Co l x]
theorem qC(p:Nat->Bool)(j:Nat)(d:Dr)(l:List Dr):iH p j (d::l)=(if p j then d.new else Ac d.new)++iH p (j+1) l:=by
 grind[iH,Ac]
theorem Ba(p:Nat->Bool):∀(l:List Dr) (j x:Nat),aN (iH p j l) x=match iy l x with
  |some (k,y)=>if p (j+k)then(match l[k]? with|some d=>aN d.new y|none=> .yet)else .yet
  |none=> .yet
 | [],j,x=>by simp[iH,iy,aN]
 |d::l,j,x=>by
  rw[qC,ca];have hlen:(if p j=true then d.new else Ac d.new).length=d.new.length:=by split<;>simp[ru]
  rw[hlen];simp only[iy];split
  ·grind[Co]
  ·rw[Ba p l (j+1) (x-d.new.length)];cases hl:iy l (x-d.new.length)with
   |none=>simp
   |some q=>
    obtain⟨k,y⟩:=q;simp only[Option.map_some,List.getElem?_cons_succ];rw[show j+1+k=j+(k+1) by omega]
theorem np(p:Nat->Bool):∀(l:List Dr) (j:Nat),(iH p j l).length=lens l
 | [],j=>by simp[iH,lens]
 |d::l,j=>by
  rw[qC,List.length_append,np p l,lens];split<;>simp[ru]
theorem gN:∀(l:List Dr) (x k y:Nat),iy l x=some (k,y)↔(∃d,l[k]? =some d/\y<d.new.length)/\x=lens (l.take k)+y
 | [],x,k,y=>by simp[iy]
 |d::l,x,k,y=>by
  simp only[iy];cases k with
  |zero=>
   simp only[List.getElem?_cons_zero,aa,exists_eq_left',List.take_zero,lens,Nat.zero_add];split
   ·grind
   ·rename_i hx;constructor
    ·simp_all
    ·intro h;omega
  |succ k=>
   simp only[List.getElem?_cons_succ,List.take_succ_cons,lens];split
   ·grind
   ·rename_i hx;have ih:=gN l (x-d.new.length) k y;constructor
    ·intro h;cases hl:iy l (x-d.new.length)with
     |none=>simp[hl]at h
     |some q=>
      obtain⟨a,b⟩:=q;simp only[hl,Option.map_some,aa,ae]at h;have:iy l (x-d.new.length)=some (k,y):=by rw[hl];simp;omega
      obtain⟨g1,g2⟩:=ih.1 this;exact⟨g1,by omega⟩
    ·rintro⟨g1,g2⟩
     rw[ih.2 ⟨g1,by omega⟩];rfl
theorem wz{ds:List (Option Nat×Nat)}:∀{ops:List Oper} {i0:Nat} {dd:List (Option Nat×Nat)},GH ds i0 ops dd=true->ops.length=dd.length/\∀(i:Nat) (o:Oper),ops[i]? =some o->
  ∃m,dd[i]? =some (o.dst,m)/\j4 ds o.after.toList=m/\m<2^(i0+i)/\∀j,m.testBit j=true->(bj ds j ||| m)=m
 | [],i0,[],_=>⟨rfl,by simp⟩
 | [],_,_::_,h=>by simp[GH]at h
 |_::_,_,[],h=>by simp[GH]at h
 |o::l,i0,d::dd,h=>by
  simp only[GH,af,ai,List.all_eq_true,List.mem_range,Bool.or_eq_true,Bool.not_eq_true',Nat.ble_eq]at h;obtain⟨⟨⟨⟨h1,h2⟩,h3⟩,h4⟩,h5⟩:=h;obtain⟨i1,i2⟩:=wz h5;refine⟨by simp[i1],fun i p hp=>?_⟩
  cases i with
  |zero=>
   simp only[List.getElem?_cons_zero,aa]at hp;subst hp;refine⟨d.2,?_,h2,by rw[Nat.add_zero];exact h3,fun j hj=>?_⟩
   ·grind
   ·have hlt:j<i0:=by
     rcases Nat.lt_or_ge j i0 with h|h
     ·exact h
     ·have:=Nat.testBit_lt_two_pow (x:=d.2) (i:=j) (Nat.lt_of_lt_of_le (by omega) (Nat.pow_le_pow_right (by omega) h))
      rw[this]at hj;simp at hj
    rcases h4 j hlt with h|h
    ·rw[h]at hj;simp at hj
    ·exact h
  |succ i=>
   obtain⟨m,a,b,c,e⟩:=i2 i p (by simpa using hp)
   exact⟨m,by simpa using a,b,by rw[show i0+(i+1)=i0+1+i by omega];exact c,e⟩
structure fM(C:Ctx)(ops:List Oper)(ds:List (Option Nat×Nat))(sl:List S)(res:List aS)(drs:List Dr):Prop where
 okk:GH ds 0 ops ds=true
 dst:tg ds=true
 cl:∀t,(∃x,cm sl t= .v x)\/cm sl t= .und
 plan:∃st hid,(∀i d,drs[i]? =some d->∃o,ops[i]? =some o/\lD C ops ds sl res st hid (drs.take i) i o=some d)/\∀s d u,drs[s]? =some d->d.up=some u->(s,u.1)∈hid
theorem rp{C:Ctx}{D:List S}{R:List aS}{o:Oper}{d:Dr}(h:AQ C D R o=some d):∃t p x id off y ty c c',o.op= .store t p x/\o.dst=none/\o.guard=none/\er D [] p=some (.lp id off)/\er D [] x=some y/\
  oG C.P t=some (fe y)/\cE y=false/\aN R id= .blk ty c/\setAt 8 c off y=some c'/\d= {s:= .und,g:=true,q:=none,new:= [],up:=some (id,.blk ty c')}:=by
 unfold AQ at h;split at h
 case h_2=>simp at h
 rename_i t p x hop;split at h
 case h_2=>simp at h
 rename_i hd;split at h
 case h_2=>simp at h
 rename_i hg;split at h
 case h_2=>simp at h
 rename_i pv hp;split at h
 case h_2=>simp at h
 rename_i id off;split at h
 case h_2=>simp at h
 rename_i y hy;split at h
 case isFalse=>simp at h
 rename_i hc;simp only[af,ai,Bool.not_eq_true']at hc;split at h
 case h_2=>simp at h
 rename_i ty c hr;split at h
 case h_2=>simp at h
 rename_i c' hs;simp only[aa]at h;exact⟨t,p,x,id,off,y,ty,c,c',hop,hd,hg,hp,hy,hc.1,hc.2,hr,hs,h.symm⟩
theorem o8{C:Ctx}{ops:List Oper}{st:Bool}{D:List S}{R:List aS}{nid:Nat}{o:Oper}{d:Dr}(h:vW C ops st D R nid o=some d):wG C ops D R nid o=some d\/AQ C D R o=some d:=by
 grind[vW]
theorem wA{C:Ctx}{ops:List Oper}{D:List S}{R:List aS}{nid:Nat}{o:Oper}{d:Dr}(h:wG C ops D R nid o=some d):d.up=none:=by
 grind[wG]
theorem uN:∀(l:List Dr) (i:Nat),(xX l)[i]? =(l[i]?).map Dr.s
 | [],i=>by simp[xX]
 |d::l,0=>by simp[xX]
 |d::l,i+1=>by simp[xX,uN l i]
theorem Ic(l:List Dr):(xX l).length=l.length:=by
 induction l with
 |nil=>rfl
 |cons d l ih=>simp[xX,ih]
theorem BQ{sl sl':List S}:∀{ch:List (Nat×Bool)},(∀p∈ch,cm sl p.1=cm sl' p.1)->na sl ch=na sl' ch
 | [],_=>rfl
 | (s,w)::c,h=>by
   rw[jt,jt,h (s,w) (by simp),BQ fun p hp=>h p (by simp[hp])]
section
variable {C:Ctx} {opsA:Array Oper} {ds:List (Option Nat×Nat)} {sl:List S} {res:List aS} {drs:List Dr}
theorem fM.at(P:fM C opsA.toList ds sl res drs){i:Nat}{o:Oper}(h:opsA[i]? =some o):
  ds[i]? =some (o.dst,bj ds i)/\(∀k,(bj ds i).testBit k=true->k<i)/\
  (∀k,(bj ds i).testBit k=true↔ ∃e∈o.after,Region.binds .any e=true/\(e.on=k\/(bj ds e.on).testBit k=true))/\
  ∀k r,(bj ds i).testBit k=true->(bj ds k).testBit r=true->(bj ds i).testBit r=true:=by
 obtain⟨m,h1,h2,h3,h4⟩:=(wz P.okk).2 i o (by simpa using h)
 have hm:bj ds i=m:=by simp[bj,h1]
 rw[hm];refine⟨h1,fun k hk=>?_,fun k=>?_,fun k r hk hr=>?_⟩
 ·rcases Nat.lt_or_ge k i with h|h
  ·exact h
  ·have:=Nat.testBit_lt_two_pow (x:=m) (i:=k) (Nat.lt_of_lt_of_le h3 (Nat.pow_le_pow_right (by omega) (by omega)))
   rw[this]at hk;simp at hk
 ·rw[<-h2,nf];simp only[Array.mem_toList_iff]
 ·rw[<-h4 k hk,Nat.testBit_or,hr];rfl
def AtW(opsA:Array Oper)(ds:List (Option Nat×Nat)):Prop:=∀i o,opsA[i]? =some o->(∀k,(bj ds i).testBit k=true->k<i)/\
    (∀k,(bj ds i).testBit k=true->∃e∈o.after,Region.binds .any e=true/\(e.on=k\/(bj ds e.on).testBit k=true))/\∀e∈o.after,Region.binds .any e=true->e.on<i
theorem fM.atW(P:fM C opsA.toList ds sl res drs):AtW opsA ds:=fun i o h=>by
 obtain⟨_,p2,p3,_⟩:=P.at h;exact⟨p2,fun k hk=>(p3 k).1 hk,fun e he hb=>p2 _ ((p3 e.on).2 ⟨e,he,hb,.inl rfl⟩)⟩
theorem fM.len(P:fM C opsA.toList ds sl res drs):ds.length=opsA.size:=by
 have:=(wz P.okk).1;simpa using this.symm
def Dat(ds:List (Option Nat×Nat))(sl:List S)(drs:List Dr)(i:Nat):List S:=fg (bj ds i) i 0 ds (xX (drs.take i)) sl
def abP(ds:List (Option Nat×Nat))(m:Nat)(ch:List (Nat×Bool)):Prop:=∀p∈ch,∃k m',m.testBit k=true/\ds[k]? =some (some p.1,m')
theorem fM.chain(P:fM C opsA.toList ds sl res drs):∀(i:Nat) (d:Dr),drs[i]? =some d->∀ch x,d.s= .gv ch x->d.g=na (Dat ds sl drs i) ch/\abP ds (bj ds i) ch:=by
 intro i;induction i using Nat.strongRecOn with
 |_ i ih=>
  intro d hd ch x hs;obtain⟨st,hid,hpl,_⟩:=P.plan;obtain⟨o,ho,hp⟩:=hpl i d hd;obtain⟨p1,p2,p3,p4⟩:=P.at (i:=i) (o:=o) (by simpa using ho)
  unfold lD at hp;split at hp
  ·rename_i hc;simp only[af]at hc;rcases o8 hp with hp|hp
   case inr=>
    obtain⟨_,_,_,_,_,_,_,_,_,_,_,_,_,_,_,_,_,_,rfl⟩:=rp hp;simp at hs
   unfold wG at hp;split at hp
   case isFalse=>simp at hp
   split at hp
   ·simp at hp
   ·simp only[aa]at hp;subst hp;simp at hs
   ·rename_i ch' hch;split at hp
    ·rename_i q y new hop;cases ch' with
     |nil=>simp only[aa]at hp;subst hp;simp at hs
     |cons c0 c1=>
      simp only at hp;split at hp
      ·simp only[aa]at hp;subst hp;simp only[S.gv.injEq]at hs;obtain⟨rfl,rfl⟩:=hs;refine⟨rfl,?_⟩;unfold s6 at hch;split at hch
       ·simp at hch
       ·rename_i j w hg;split at hch
        ·simp at hch
        ·rename_i s hsd;have hjb:(bj ds i).testBit j=true:=by have:=hc.1;rw[hg]at this;exact this
         have hj:∃m',ds[j]? =some (some s,m'):=by
          cases hoj:opsA.toList[j]? with
          |none=>simp[hoj]at hsd
          |some oj=>
           simp only[hoj,Option.bind_some]at hsd;have:=(P.at (i:=j) (o:=oj) (by simpa using hoj)).1
           rw[hsd]at this;exact⟨_,this⟩
         have hsub:∀c y,cm (fg (bj ds i) i 0 ds (xX (drs.take i)) sl) s= .gv c y->abP ds (bj ds i) c:=by
          intro c y hy;rcases k7 (bj ds i) i s ds 0 (xX (drs.take i)) sl with h|⟨k,m',s',h1,h2,h3,h4⟩|⟨h1,h2⟩
          ·rw[h]at hy;simp at hy
          ·rw[h4]at hy;simp only[Nat.zero_add]at h3;have hki:=p2 k h3;rw[uN,List.getElem?_take,ar hki]at h2;cases hdk:drs[k]? with
           |none=>simp[hdk]at h2
           |some dk=>
            simp only[hdk,Option.map_some,aa]at h2;obtain⟨_,g2⟩:=ih k hki dk hdk c y (by rw[h2];exact hy)
            exact fun p hp=>let ⟨r,m'',e1,e2⟩:=g2 p hp;⟨r,m'',p4 k r h3 e1,e2⟩
          ·rw[h1]at hy;rcases P.cl s with⟨z,hz⟩|hz<;>rw[hz]at hy<;>simp at hy
         have hhead:∃(k m':Nat),(bj ds i).testBit k=true/\ds[k]? =some (some s,m'):=let ⟨m',h⟩:=hj;⟨j,m',hjb,h⟩;clear hop;split at hch<;>(try split at hch)<;>simp only[aa,reduceCtorEq,List.cons.injEq]at hch
         ·obtain⟨rfl,rfl⟩:=hch;intro p hp;simp only[List.mem_singleton]at hp;subst hp;exact hhead
         ·rename_i c b hv;obtain⟨rfl,rfl⟩:=hch;intro p hp;rcases List.mem_cons.1 hp with rfl|hp
          ·exact hhead
          ·exact hsub _ _ hv p hp
         ·simp_all
      ·simp only[aa]at hp;subst hp;simp at hs
    ·simp at hp
  ·simp at hp
theorem fM.Nz(P:fM C opsA.toList ds sl res drs){k:Nat}{d:Dr}(hd:drs[k]? =some d){ch:List (Nat×Bool)}{x:V}(hs:d.s= .gv ch x){anc i:Nat}(hi:k<i)
  (hsub:∀r,(bj ds k).testBit r=true->anc.testBit r=true):na (fg anc i 0 ds (xX (drs.take i)) sl) ch=d.g:=by
 obtain⟨h1,h2⟩:=P.chain k d hd ch x hs;rw[h1];obtain⟨st,hid,hpl,_⟩:=P.plan;obtain⟨o,ho,_⟩:=hpl k d hd;obtain⟨p1,p2,p3,p4⟩:=P.at (i:=k) (o:=o) (by simpa using ho)
 have hklt:k<drs.length:=(List.getElem?_eq_some_iff.1 hd).1;refine BQ fun p hp=>?_
 obtain⟨r,m',e1,e2⟩:=h2 p hp;have hr:=p2 r e1;by_cases ht:p.1<sl.length
 ·have hdr:drs[r]? =some (drs[r]'(by omega)):=List.getElem?_eq_getElem (by omega)
  rw[u4 P.dst (k:=r) e2 (s:=(drs[r]'(by omega)).s) (by rw[uN,List.getElem?_take,ar (by omega),hdr];rfl) (by simpa using hsub r e1) ht]
  unfold Dat;rw[u4 P.dst (k:=r) e2 (s:=(drs[r]'(by omega)).s) (by rw[uN,List.getElem?_take,ar hr,hdr];rfl) (by simpa using e1) ht]
 ·rw[B3 ht];unfold Dat;rw[B3 ht]
def rC(J:Env)(K:Nat->Prop)(x:Value)(d:Dr):Prop:=
 match d.s with
 | .und=>True
 | .ud=>x=undef
 | .v y=>x=den J y/\ok K y
 | .gv _ y=>(d.g=true->x=den J y/\ok K y)/\(d.g=false->x=undef)
theorem rC.env{J ρ':Env}{K K':Nat->Prop}{x:Value}{d:Dr}(h:rC J K x d)(hK:∀i,K i->K' i)(ha:Env.agree K J ρ'):rC ρ' K' x d:=by
 grind[rC,gr,dt]
def AV(res:List aS)(drs:List Dr)(L:Nat->Bool):List aS:=Mg L 0 drs (res++iH L 0 drs)
def KL(res:List aS)(drs:List Dr)(L:Nat->Bool)(id:Nat):Prop:=known res id\/(res.length<=id/\∃j y,iy drs (id-res.length)=some (j,y)/\L j=true)
structure Inv(ds:List (Option Nat×Nat))(sl:List S)(res:List aS)(drs:List Dr)(defs:List (Nat×List V×List V))(ρ0:Env)(w0:World)(F0:Nat->Prop)(L:Nat->Bool)(J:Env)(fps:Nat->Nat->Prop)(a:Act)(w:World):Prop where
 size:a.tmps.size=sl.length
 done:∀t j m d,ds[j]? =some (some t,m)->drs[j]? =some d->L j=true->rC J (KL res drs L) (a.tmps.getD t undef) d
 todo:∀t,(∀j m,ds[j]? =some (some t,m)->L j=false)->hJ J (KL res drs L) [] (a.tmps.getD t undef) (cm sl t)
 heap:bp J fps (AV res drs L) (KL res drs L) w0 F0 w
 down:∀i k,L i=true->(bj ds i).testBit k=true->L k=true
 defs:a.defers=defs.flatMap (lO J)/\∀d∈defs,fq (known res) d.2.1/\fq (known res) d.2.2
 agree:Env.agree (known res) ρ0 J
 newk:∀j d,drs[j]? =some d->L j=true->∀y,y<d.new.length->aN d.new y≠ .yet
theorem hJ.plain{J:Env}{K:Nat->Prop}{sl sl':List S}{x:Value}{s:S}(hs:(∃y,s= .v y)\/s= .und)(h:hJ J K sl x s):hJ J K sl' x s:=by
 rcases hs with⟨y,rfl⟩|rfl
 ·exact h
 ·trivial
theorem fM.view{defs:List (Nat×List V×List V)}{ρ0 J:Env}{w0 w:World}{F0:Nat->Prop}{L:Nat->Bool}{fps:Nat->Nat->Prop}{a:Act}(P:fM C opsA.toList ds sl res drs)(I:Inv ds sl res drs defs ρ0 w0 F0 L J fps a w)
  {anc i:Nat} (h0:i<=drs.length) (h1:∀k,anc.testBit k=true->L k=true/\k<i) (h2:∀k r,anc.testBit k=true->(bj ds k).testBit r=true->anc.testBit r=true)
  (h3:∀k m t,ds[k]? =some (some t,m)->i<=k->(k=i\/m.testBit i=true)->L k=false):jx J (KL res drs L) (fg anc i 0 ds (xX (drs.take i)) sl) a:=by
 refine⟨by rw[kf];exact I.size,fun t=>?_⟩
 rcases k7 anc i t ds 0 (xX (drs.take i)) sl with h|⟨k,m',s',e1,e2,e3,e4⟩|⟨e1,e2⟩
 ·rw[h];trivial
 ·simp only[Nat.zero_add]at e3;obtain⟨l1,l2⟩:=h1 k e3;rw[uN,List.getElem?_take,ar l2]at e2;cases hdk:drs[k]? with
  |none=>simp[hdk]at e2
  |some dk=>
   simp only[hdk,Option.map_some,aa]at e2;have hG:=I.done t k m' dk e1 hdk l1;rw[e4,<-e2];unfold rC at hG;cases hds:dk.s with
   |und=>trivial
   |ud=>rw[hds]at hG;exact hG
   |v y=>rw[hds]at hG;exact hG
   |gv c y=>
    rw[hds]at hG;have:=P.Nz hdk hds (anc:=anc) (i:=i) l2 (fun r hr=>h2 k r e3 hr)
    exact⟨fun hg=>hG.1 (by rw[<-this];exact hg),fun hg=>hG.2 (by rw[<-this];exact hg)⟩
 ·rw[e1];refine hJ.plain (P.cl t) (I.todo t fun j m hj=>?_)
  obtain⟨f1,f2⟩:=e2 j m hj;rw[Ic,List.length_take,Nat.min_eq_left h0]at f1;exact h3 j m t hj f1 (by simpa using f2)
end
theorem qv:∀(l:List Dr) (i k y:Nat),(∃d,l[k]? =some d/\y<d.new.length)->k<i->lens (l.take k)+y<lens (l.take i)
 | [],i,k,y,h,_=>by obtain⟨d,h,_⟩:=h;simp at h
 |d::l,0,k,y,_,h=>by omega
 |d::l,i+1,0,y,h,_=>by
  grind[lens]
 |d::l,i+1,k+1,y,h,hk=>by
  have:=qv l i k y (by simpa using h) (by omega)
  simp only[List.take_succ_cons,lens];omega
theorem xp{l:List Dr}{i x k y:Nat}(h:iy (l.take i) x=some (k,y)):k<i/\iy l x=some (k,y):=by
 grind[gN]
theorem jD(res:List aS)(drs:List Dr)(p:Nat->Bool)(id:Nat):aN (res++iH p 0 drs) id=if id<res.length then aN res id else
  match iy drs (id-res.length)with
  |some (k,y)=>if p k then(match drs[k]? with|some d=>aN d.new y|none=> .yet)else .yet
  |none=> .yet:=by
 simp_all[ca,Ba,iy]
theorem nJ{res:List aS}{drs:List Dr}{p:Nat->Bool}{id:Nat}(h:known (res++iH p 0 drs) id):KL res drs p id:=by
 unfold known at h;rw[jD]at h;by_cases hlt:id<res.length
 ·rw[ar hlt]at h;exact .inl h
 ·rw[aq hlt]at h;refine .inr ⟨by omega,?_⟩
  cases hl:iy drs (id-res.length)with
  |none=>simp[hl]at h
  |some q=>
   obtain⟨k,y⟩:=q;simp only[hl]at h;by_cases hp:p k=true
   ·exact⟨k,y,rfl,hp⟩
   ·rw[aq hp]at h;exact absurd rfl h
theorem ED{res:List aS}{drs:List Dr}{p L:Nat->Bool}{i:Nat}(hp:∀k,p k=true->L k=true)(id:Nat)(h:known (res++iH p 0 (drs.take i)) id):
  aN (res++iH p 0 (drs.take i)) id=aN (res++iH L 0 drs) id:=by
 grind[known,jD,iy,xp]
def ej(p:Nat->Bool)(id:Nat):Nat->List Dr->Option aS
 |_,[]=>none
 |j,d::l=>match ej p id (j+1) l with
  |some r=>some r
  |none=>match d.up with
   |some u=>if p j&&u.1==id then some u.2 else none
   |none=>none
theorem lY(p:Nat->Bool):∀(l:List Dr) (j:Nat) (R:List aS),(Mg p j l R).length=R.length
 | [],j,R=>rfl
 |d::l,j,R=>by
  simp only[Mg];split
  ·exact lY p l _ R
  ·split
   ·rw[lY p l,bX]
   ·exact lY p l _ R
theorem p7(p:Nat->Bool)(id:Nat):∀(l:List Dr) (j:Nat) (R:List aS),id<R.length->aN (Mg p j l R) id=(ej p id j l).getD (aN R id)
 | [],j,R,h=>rfl
 |d::l,j,R,h=>by
  simp only[Mg,ej];cases hu:d.up with
  |none=>
   simp only;rw[p7 p id l _ R h];cases ej p id (j+1) l<;>rfl
  |some u=>
   simp only;by_cases hp:p j=true
   ·rw[ar hp,p7 p id l _ _ (by rw[bX];exact h)]
    cases ej p id (j+1) l with
    |some r=>rfl
    |none=>
     simp only[Option.getD_none,hp,Bool.true_and];by_cases e:u.1=id
     ·subst e;rw[bI _ _ _ _ h];simp
     ·by_cases hl:u.1<R.length
      ·rw[bI _ _ _ _ hl,aq (Ne.symm e)];simp[e]
      ·rw[nj,List.set_eq_of_length_le (by omega)]
       simp[e]
   ·rw[aq hp,p7 p id l _ R h];cases ej p id (j+1) l with
    |some r=>rfl
    |none=>simp[hp]
theorem lG{p L:Nat->Bool}{id:Nat}:∀(l:List Dr) (j m:Nat),(∀k d u,l[k]? =some d->d.up=some u->u.1=id->(L (j+k)=true↔k<m/\p (j+k)=true))->ej p id j (l.take m)=ej L id j l
 | [],j,m,h=>by simp[ej]
 |d::l,j,0,h=>by
  have h':=lG (p:=p) (L:=L) (id:=id) l (j+1) 0 fun k d' u h1 h2 h3=>by
   have:=h (k+1) d' u (by simpa using h1) h2 h3
   rw[show j+1+k=j+(k+1) by omega]
   constructor
   ·intro hh;exact absurd (this.1 hh).1 (by omega)
   ·intro hh;exact absurd hh.1 (by omega)
  simp only[List.take_zero,ej]at h'⊢;rw[<-h'];simp only;cases hu:d.up with
  |none=>rfl
  |some u=>
   simp only;rw[aq];intro hh;simp only[af,ai]at hh;exact absurd ((h 0 d u (by simp) hu hh.2).1 (by simpa using hh.1)).1 (by omega)
 |d::l,j,m+1,h=>by
  have h':=lG (p:=p) (L:=L) (id:=id) l (j+1) m fun k d' u h1 h2 h3=>by
   have:=h (k+1) d' u (by simpa using h1) h2 h3
   rw[show j+1+k=j+(k+1) by omega]
   constructor
   ·intro hh;exact⟨by have:=(this.1 hh).1;omega,(this.1 hh).2⟩
   ·intro hh;exact this.2 ⟨by omega,hh.2⟩
  simp only[List.take_succ_cons,ej,h'];cases ej L id (j+1) l with
  |some r=>rfl
  |none=>
   simp only;cases hu:d.up with
   |none=>rfl
   |some u=>
    simp only;by_cases e:u.1=id
    ·have:=h 0 d u (by simp) hu e
     simp only[Nat.add_zero]at this
     have hb:p j=L j:=by
      rw[Bool.eq_iff_iff];exact⟨fun hh=>this.2 ⟨by omega,hh⟩,fun hh=>(this.1 hh).2⟩
     rw[hb]
    ·simp[e]
theorem ja{p:Nat->Bool}{id:Nat}{r:aS}:∀(l:List Dr) (j:Nat),ej p id j l=some r->∃k d,l[k]? =some d/\d.up=some (id,r)/\p (j+k)=true
 | [],j,h=>by simp[ej]at h
 |d::l,j,h=>by
  simp only[ej]at h;split at h
  ·rename_i r' hr;simp only[aa]at h;subst h;obtain⟨k,d',h1,h2,h3⟩:=ja l (j+1) hr;exact⟨k+1,d',by simpa using h1,h2,by rw[show j+(k+1)=j+1+k by omega];exact h3⟩
  ·split at h
   ·rename_i u hu;split at h
    ·rename_i hc;simp only[af,ai]at hc;simp only[aa]at h;subst h;exact⟨0,d,by simp,by rw[hu,<-hc.2],by simpa using hc.1⟩
    ·simp at h
   ·simp at h
theorem xx{p:Nat->Bool}{id:Nat}{r:aS}:∀(l:List Dr) (j s:Nat) (d:Dr),l[s]? =some d->d.up=some (id,r)->p (j+s)=true->(∀k d' u,s<k->l[k]? =some d'->d'.up=some u->u.1=id->p (j+k)=false)->ej p id j l=some r
 | [],j,s,d,h,_,_,_=>by simp at h
 |x::l,j,0,d,h,hu,hp,hn=>by
  simp only[List.getElem?_cons_zero,aa]at h;subst h;simp only[ej]
  have:ej p id (j+1) l=none:=by
   cases hl:ej p id (j+1) l with
   |none=>rfl
   |some r'=>
    obtain⟨k,d',h1,h2,h3⟩:=ja l (j+1) hl;have:=hn (k+1) d' _ (by omega) (by simpa using h1) h2 rfl
    rw[show j+(k+1)=j+1+k by omega,h3]at this
    simp at this
  rw[this,hu];simp only[Nat.add_zero]at hp;simp[hp]
 |x::l,j,s+1,d,h,hu,hp,hn=>by
  simp only[ej]
  rw[xx l (j+1) s d (by simpa using h) hu (by rw[show j+1+s=j+(s+1) by omega];exact hp) fun k d' u h1 h2 h3 h4=>by
   rw[show j+1+k=j+(k+1) by omega]
   exact hn (k+1) d' u (by omega) (by simpa using h2) h3 h4]
theorem ph(ds:List (Option Nat×Nat))(i:Nat):∀(h:List (Nat×Nat)) (R:List aS) (id:Nat),known (B2 ds i h R) id->aN (B2 ds i h R) id=aN R id/\known R id/\∀s,(s,id)∈h->s=i\/(bj ds i).testBit s=true\/(bj ds s).testBit i=true
 | [],R,id,hk=>⟨rfl,hk,by simp⟩
 |u::h,R,id,hk=>by
  unfold B2 at hk⊢;split at hk
  ·rename_i hc;rw[ar hc];obtain⟨a,b,c⟩:=ph ds i h R id hk;refine⟨a,b,fun s hs=>?_⟩
   rcases List.mem_cons.1 hs with rfl|hs
   ·grind
   ·exact c s hs
  ·rename_i hc;rw[aq hc];obtain⟨a,b,c⟩:=ph ds i h _ id hk
   have hne:u.2≠id\/¬u.2<R.length:=by
    grind[known,bI]
   have hr:aN (bR R u.2 .yet) id=aN R id:=by
    rcases hne with e|hl
    ·by_cases hl:u.2<R.length
     ·rw[bI _ _ _ _ hl,aq (Ne.symm e)]
     ·rw[nj,List.set_eq_of_length_le (by omega)]
    ·rw[nj,List.set_eq_of_length_le (by omega)]
   have hkR:known R id:=by unfold known at b⊢;rw[<-hr];exact b
   refine⟨by rw[a,hr],hkR,fun s hs=>?_⟩
   rcases List.mem_cons.1 hs with rfl|hs
   ·exfalso
    rcases hne with e|hl
    ·exact e rfl
    ·exact hl (aY hkR)
   ·exact c s hs
def ins(L:Nat->Bool)(i:Nat)(k:Nat):Bool:=k==i||L k
theorem Lr{res:List aS}{drs:List Dr}{L:Nat->Bool}{i:Nat}{d:Dr}(hd:drs[i]? =some d)(hi:L i=false)(hnew:∀k,k<d.new.length->aN d.new k≠ .yet):
  WE (res++iH L 0 drs) (res++iH (ins L i) 0 drs) (res.length+lens (drs.take i)) d.new/\
  (∀id,KL res drs L id->¬fresh (res.length+lens (drs.take i)) d.new.length id)/\
  (∀id,KL res drs L id\/fresh (res.length+lens (drs.take i)) d.new.length id->KL res drs (ins L i) id):=by
 have hfr:∀id,fresh (res.length+lens (drs.take i)) d.new.length id↔res.length<=id/\∃y,iy drs (id-res.length)=some (i,y):=by
  intro id;constructor
  ·rintro⟨h1,h2⟩
   refine⟨by omega,id-res.length-lens (drs.take i),?_⟩
   rw[gN];exact⟨⟨d,hd,by omega⟩,by omega⟩
  ·rintro⟨h1,y,h2⟩
   rw[gN]at h2;obtain⟨⟨d',h3,h4⟩,h5⟩:=h2;rw[hd]at h3;simp only[aa]at h3;subst h3;exact⟨by omega,by omega⟩
 have hKf:∀id,KL res drs L id->¬fresh (res.length+lens (drs.take i)) d.new.length id:=by
  rintro id (hk|⟨h1,j,y,h2,h3⟩) hf
  ·have:=aY hk;have:=((hfr id).1 hf).1;omega
  ·simp_all
 refine⟨⟨fun id hk=>⟨?_,hKf id (nJ hk)⟩,fun id hk=>?_,fun k hk=>?_⟩,hKf,?_⟩
 ·have h0:=nJ hk;rw[jD,jD];by_cases hlt:id<res.length
  ·rw[ar hlt,ar hlt]
  ·grind[aY,ins]
 ·rcases nJ hk with h0|⟨h1,j,y,h2,h3⟩
  ·left
   unfold known;rw[jD,ar (aY h0)];exact h0
  ·by_cases e:j=i
   ·subst e;exact .inr ((hfr id).2 ⟨h1,y,h2⟩)
   ·left
    have h3':L j=true:=by simpa[ins,e]using h3
    unfold known at hk⊢;rw[jD,aq (by omega),h2]at hk⊢
    simp only[h3,h3',if_true]at hk⊢;exact hk
 ·rw[jD,aq (by omega)]
  have:iy drs (res.length+lens (drs.take i)+k-res.length)=some (i,k):=by
   rw[gN];exact⟨⟨d,hd,hk⟩,by omega⟩
  rw[this];simp only[ins,beq_self_eq_true,Bool.true_or,if_true,hd]
 ·rintro id (h|h)
  ·rcases h with h|⟨h1,j,y,h2,h3⟩
   ·exact .inl h
   ·exact .inr ⟨h1,j,y,h2,by simp[ins,h3]⟩
  ·obtain⟨h1,y,h2⟩:=(hfr id).1 h;exact .inr ⟨h1,i,y,h2,by simp[ins]⟩
section
variable {C:Ctx} {opsA:Array Oper} {ds:List (Option Nat×Nat)} {sl:List S} {res:List aS} {drs:List Dr} {defs:List (Nat×List V×List V)} {ρ0 J:Env} {w0 w:World} {F0:Nat->Prop} {L:Nat->Bool} {fps:Nat->Nat->Prop} {a:Act}
theorem Inv.put(P:fM C opsA.toList ds sl res drs)(I:Inv ds sl res drs defs ρ0 w0 F0 L J fps a w){i:Nat}{o:Oper}{d:Dr}(ho:opsA[i]? =some o)(hd:drs[i]? =some d)(hdst:E8 sl.length o.dst=true)
  {ρ':Env} {fps':Nat->Nat->Prop} {w':World} {x:Value} (hL:∀k,(bj ds i).testBit k=true->L k=true) (hK:∀id,KL res drs L id->KL res drs (ins L i) id) (hag:Env.agree (KL res drs L) J ρ')
  (hH:bp ρ' fps' (AV res drs (ins L i)) (KL res drs (ins L i)) w0 F0 w') (hx:rC ρ' (KL res drs (ins L i)) x d) (hnew:∀y,y<d.new.length->aN d.new y≠ .yet):
  Inv ds sl res drs defs ρ0 w0 F0 (ins L i) ρ' fps' (a.put o.dst x) w':=by
 have hpi:=(P.at ho).1;have hsz:(a.put o.dst x).tmps.size=a.tmps.size:=by cases o.dst<;>simp[Act.put]
 have hold:∀t,o.dst≠some t->(a.put o.dst x).tmps.getD t undef=a.tmps.getD t undef:=by
  intro t ht;cases hdd:o.dst with
  |none=>simp[Act.put]
  |some e=>
   have:e≠t:=fun h=>ht (by rw[hdd,h])
   simp[Act.put,Array.getD_eq_getD_getElem?,Array.getElem?_setIfInBounds_ne this]
 refine⟨by rw[hsz];exact I.size,?_,?_,hH,?_,?_,?_,?_⟩
 ·intro t j m dj h1 h2 h3;by_cases e:o.dst=some t
  ·rw[e]at hpi;have:=pH P.dst h1 hpi;subst this;rw[hd]at h2;simp only[aa]at h2;subst h2;rw[e]at hdst;have hlt:t<sl.length:=by simpa[E8]using hdst
   have:(a.put o.dst x).tmps.getD t undef=x:=by
    rw[e];simp[Act.put,I.size,hlt]
   rw[this];exact hx
  ·rw[hold t e]
   have hji:j≠i:=fun hji=>by
    simp_all
   exact(I.done t j m dj h1 h2 (by simpa[ins,hji]using h3)).env hK hag
 ·intro t hall
  have e:o.dst≠some t:=fun e=>by
   grind[ins]
  rw[hold t e]
  exact(I.todo t fun j m hj=>by
   have:=hall j m hj;simp only[ins,Bool.or_eq_false_iff]at this;exact this.2).env hK hag
 ·intro j k hj hk;simp only[ins,Bool.or_eq_true,ai]at hj⊢;rcases hj with rfl|hj
  ·exact .inr (hL k hk)
  ·exact .inr (I.down j k hj hk)
 ·have hag':Env.agree (known res) J ρ':=hag.mono fun id h=> .inl h
  obtain⟨e1,e2⟩:=fb (ρ':=ρ') (K':=known res) I.defs.2 hag' fun _ h=>h
  exact⟨by rw[show(a.put o.dst x).defers=a.defers from put_defers _ _ _,I.defs.1];exact e1.symm,e2⟩
 ·exact I.agree.trans (hag.mono fun id h=> .inl h) fun _ h=>h
 ·intro j dj h1 h2;by_cases e:j=i
  ·simp_all
  ·exact I.newk j dj h1 (by simpa[ins,e]using h2)
theorem yx{p q:Nat->Bool}(h:∀k,p k=true->q k=true){id:Nat}(hk:KL res drs p id):KL res drs q id:=by
 rcases hk with h1|⟨h1,j,y,h2,h3⟩
 ·exact .inl h1
 ·exact .inr ⟨h1,j,y,h2,h j h3⟩
theorem Ut{p:Nat->Bool}{i id:Nat}(hk:KL res (drs.take i) p id):KL res drs p id:=by
 rcases hk with h1|⟨h1,j,y,h2,h3⟩
 ·exact .inl h1
 ·exact .inr ⟨h1,j,y,(xp h2).2,h3⟩
theorem pL:(AV res drs L).length=res.length+lens drs:=by unfold AV;rw[lY,List.length_append,np]
theorem qD{id:Nat}(h:id<res.length+lens drs):aN (AV res drs L) id=(ej L id 0 drs).getD (aN (res++iH L 0 drs) id):=by
 unfold AV;rw[p7 _ _ _ _ _ (by rw[List.length_append,np];exact h)]
theorem GX{st:Bool}{hid:List (Nat×Nat)}(hpl:∀i d,drs[i]? =some d->∃o,opsA.toList[i]? =some o/\lD C opsA.toList ds sl res st hid (drs.take i) i o=some d){s:Nat}{d:Dr}{u:Nat×aS}(hd:drs[s]? =some d)(hu:d.up=some u):
  ∃o,opsA.toList[s]? =some o/\E8 sl.length o.dst=true/\AQ C (fg (bj ds s) s 0 ds (xX (drs.take s)) sl) (vw ds hid res (drs.take s) s) o=some d:=by
 obtain⟨o,ho,hp⟩:=hpl s d hd;unfold lD at hp;split at hp
 case isFalse=>simp at hp
 rename_i hc;simp only[af]at hc;rcases o8 hp with h|h
 ·rw[wA h]at hu;simp at hu
 ·exact⟨o,ho,hc.2,h⟩
theorem oM(P:fM C opsA.toList ds sl res drs):∀(s:Nat) (d:Dr) (u:Nat×aS),drs[s]? =some d->d.up=some u->KL res drs (fun k=>(bj ds s).testBit k) u.1/\∃ty c,u.2= .blk ty c:=by
 obtain⟨st,hid,hpl,hhid⟩:=P.plan;intro s;induction s using Nat.strongRecOn with
 |_ s ih=>
  intro d u hd hu;obtain⟨o,ho,_,hp⟩:=GX hpl hd hu;obtain⟨p1,p2,p3,p4⟩:=P.at (i:=s) (o:=o) (by simpa using ho)
  obtain⟨t,p,x,id,off,y,ty,c,c',_,_,_,_,_,_,_,hr,_,rfl⟩:=rp hp;simp only[aa]at hu;subst hu;refine⟨?_,ty,c',rfl⟩;have hk:known (vw ds hid res (drs.take s) s) id:=by unfold known;rw[hr];simp
  obtain⟨_,hk2,_⟩:=ph _ _ _ _ _ hk;have hlen:=aY hk2;rw[lY]at hlen;unfold known at hk2;rw[p7 _ _ _ _ _ hlen]at hk2;cases hl:ej (Nat.testBit (bj ds s)) id 0 (drs.take s)with
  |some r=>
   obtain⟨k,d',h1,h2,h3⟩:=ja _ _ hl;rw[List.getElem?_take]at h1;simp only[Nat.zero_add]at h3;have hks:=p2 k h3;rw[ar hks]at h1;exact yx (fun q hq=>p4 k q h3 hq) (ih k hks d' _ h1 h2).1
  |none=>
   rw[hl]at hk2;rw[sT]at hk2;exact Ut (nJ hk2)
theorem Gj(P:fM C opsA.toList ds sl res drs)(hdown:∀i k,L i=true->(bj ds i).testBit k=true->L k=true){id:Nat}(hk:known (AV res drs L) id):KL res drs L id:=by
 have hlt:=aY hk;rw[pL]at hlt;unfold known at hk;rw[qD hlt]at hk;cases hl:ej L id 0 drs with
 |some r=>
  obtain⟨k,d',h1,h2,h3⟩:=ja _ _ hl;simp only[Nat.zero_add]at h3;exact yx (fun q hq=>hdown k q h3 hq) (oM P k d' _ h1 h2).1
 |none=>
  rw[hl]at hk;exact nJ hk
theorem BK{hid:List (Nat×Nat)}(P:fM C opsA.toList ds sl res drs)(hhid:∀s d u,drs[s]? =some d->d.up=some u->(s,u.1)∈hid){i:Nat}(hil:i<=drs.length)(hi:L i=false)(hL:∀k,(bj ds i).testBit k=true->L k=true)
  (hlt:∀k,(bj ds i).testBit k=true->k<i) (hdown:∀i k,L i=true->(bj ds i).testBit k=true->L k=true) {id:Nat} (hk:known (vw ds hid res (drs.take i) i) id):aN (vw ds hid res (drs.take i) i) id=aN (AV res drs L) id:=by
 obtain⟨h1,h2,h3⟩:=ph _ _ _ _ _ hk;have hlen:=aY h2;rw[lY]at hlen;unfold vw;rw[h1,p7 _ _ _ _ _ hlen]
 have hlen2:id<res.length+lens drs:=by
  rw[sT,List.length_append,np]at hlen
  have:lens (drs.take i)<=lens drs:=by
   have:∀(l:List Dr) (n:Nat),lens (l.take n)<=lens l:=by
    intro l;induction l with
    |nil=>intro n;simp[lens]
    |cons d l ih=>
     intro n;cases n with
     |zero=>simp[lens]
     |succ n=>simp only[List.take_succ_cons,lens];have:=ih n;omega
   exact this drs i
  omega
 rw[qD hlen2]
 have hup:ej (Nat.testBit (bj ds i)) id 0 (drs.take i)=ej L id 0 drs:=by
  grind[lG]
 rw[hup];cases hl:ej L id 0 drs with
 |some r=>rfl
 |none=>
  simp only[Option.getD_none];unfold known at h2;rw[p7 _ _ _ _ _ hlen,hup,hl]at h2;rw[sT]at h2⊢;exact ED (fun k hk=>hL k hk) id h2
theorem DR(P:fM C opsA.toList ds sl res drs)(hdown:∀i k,L i=true->(bj ds i).testBit k=true->L k=true){i:Nat}{d:Dr}(hd:drs[i]? =some d)(hi:L i=false)(hu:d.up=none)(hnew:∀k,k<d.new.length->aN d.new k≠ .yet):
  WE (AV res drs L) (AV res drs (ins L i)) (res.length+lens (drs.take i)) d.new/\
  (∀id,KL res drs L id->¬fresh (res.length+lens (drs.take i)) d.new.length id)/\
  (∀id,KL res drs L id\/fresh (res.length+lens (drs.take i)) d.new.length id->KL res drs (ins L i) id):=by
 obtain⟨⟨a1,a2,a3⟩,b,c⟩:=Lr (res:=res) hd hi hnew
 have hup:∀id,ej (ins L i) id 0 drs=ej L id 0 drs:=fun id=>by
  have:=lG (p:=ins L i) (L:=L) (id:=id) drs 0 drs.length fun k d' u e1 e2 e3=>by
   grind[ins]
  rwa [List.take_length]at this
 have hnot:∀id,KL res drs L id->∀r,ej L id 0 drs=some r->r≠ .yet:=fun id _ r hr=>by
  obtain⟨k,d',h1,h2,_⟩:=ja _ _ hr;obtain⟨_,ty,c,e⟩:=oM P k d' _ h1 h2;simp only at e;rw[e];simp
 refine⟨⟨fun id hk=>?_,fun id hk=>?_,fun k hk=>?_⟩,b,c⟩
 ·grind[Gj,aY,pL,qD,ej,known]
 ·grind[aY,pL,known,qD,ej]
 ·have h3:=a3 k hk
  have hlt:res.length+lens (drs.take i)+k<res.length+lens drs:=by
   have:=qv drs drs.length i k ⟨d,hd,hk⟩ (List.getElem?_eq_some_iff.1 hd).1;rw[List.take_length]at this;omega
  rw[qD hlt,hup];have hfr:fresh (res.length+lens (drs.take i)) d.new.length (res.length+lens (drs.take i)+k):=⟨by omega,by omega⟩
  cases hl:ej L (res.length+lens (drs.take i)+k) 0 drs with
  |none=>exact h3
  |some r=>
   exfalso
   obtain⟨s,d',h1,h2,h4⟩:=ja _ _ hl;simp only[Nat.zero_add]at h4;exact b _ (yx (fun q hq=>hdown s q h4 hq) (oM P s d' _ h1 h2).1) hfr
theorem NY(P:fM C opsA.toList ds sl res drs){hid:List (Nat×Nat)}(hhid:∀s d u,drs[s]? =some d->d.up=some u->(s,u.1)∈hid)(hdown:∀i k,L i=true->(bj ds i).testBit k=true->L k=true){i:Nat}{d:Dr}{id:Nat}{r:aS}(hd:drs[i]? =some d)
  (hi:L i=false) (hu:d.up=some (id,r)) (hn:d.new= []) (hk:known (vw ds hid res (drs.take i) i) id) (hlt:∀k,(bj ds i).testBit k=true->k<i) (hkn:known (AV res drs L) id):
  (∀x,known (AV res drs (ins L i)) x->aN (AV res drs (ins L i)) x=aN (bR (AV res drs L) id r) x)/\∀x,KL res drs L x↔KL res drs (ins L i) x:=by
 have hKL:∀x,KL res drs L x↔KL res drs (ins L i) x:=fun x=>by
  constructor
  ·exact yx fun k hk=>by simp[ins,hk]
  ·rintro(h|⟨h1,j,y,h2,h3⟩)
   ·exact .inl h
   ·refine .inr ⟨h1,j,y,h2,?_⟩
    have hj:j≠i:=fun e=>by
     simp_all[gN]
    simpa[ins,hj]using h3
 refine⟨fun x hx=>?_,hKL⟩
 have hxl:=aY hx;rw[pL]at hxl;have hidl:=aY hkn
 have hbase:aN (res++iH (ins L i) 0 drs) x=aN (res++iH L 0 drs) x:=by
  grind[jD,iy,gN,ins]
 rw[bI _ _ _ _ hidl,qD hxl];by_cases e:x=id
 ·subst e;rw[ar rfl,xx drs 0 i d hd hu (by simp[ins]) fun k d' u h1 h2 h3 h4=>?_]
  ·rfl
  ·simp only[Nat.zero_add,ins,Bool.or_eq_false_iff,beq_eq_false_iff_ne];refine⟨by omega,?_⟩
   cases hLk:L k with
   |false=>rfl
   |true=>
    exfalso
    obtain⟨_,_,h5⟩:=ph _ _ _ _ _ hk;have hm:=hhid k d' u h2 h3;rw[h4]at hm;rcases h5 k hm with rfl|h|h
    ·omega
    ·have:=hlt k h;omega
    ·rw[hdown k i hLk h]at hi;simp at hi
 ·rw[aq e,qD hxl,hbase]
  have hup:ej (ins L i) x 0 drs=ej L x 0 drs:=by
   have:=lG (p:=ins L i) (L:=L) (id:=x) drs 0 drs.length fun k d' u e1 e2 e3=>by
    grind[ins]
   rwa [List.take_length]at this
  rw[hup]
theorem Inv.step[Fen]{ops:Array Oper}{K:Act->World->Prop}{Q:Exit->Act->World->Prop}{ro:Option Nat}(hops:ops=opsA)(hnd:ro≠none->∀o∈opsA.toList,ft o)(hC:C.Sound)(P:fM C opsA.toList ds sl res drs)(hq:∀(i:Nat) (d:Dr),drs[i]? =some d->(d.g=true->cM d.q))
  (I:Inv ds sl res drs defs ρ0 w0 F0 L J fps a w) {i:Nat} {d:Dr} (hd:drs[i]? =some d)
  (hi:L i=false) (hL:∀k,(bj ds i).testBit k=true->L k=true)
  (hn:∀ρ' fps' a' w',Inv ds sl res drs defs ρ0 w0 F0 (ins L i) ρ' fps' a' w'->K a' w'):wpOpIn (FF C.P ro) 0 C.P ops Q i K a w:=by
 subst hops;obtain⟨st,hid,hpl,hhid⟩:=P.plan;obtain⟨o,ho,hp⟩:=hpl i d hd;have ho':ops[i]? =some o:=by simpa using ho
 obtain⟨p1,p2,p3,p4⟩:=P.at ho';have hilt:i<drs.length:=(List.getElem?_eq_some_iff.1 hd).1
 have hview:jx J (KL res drs L) (fg (bj ds i) i 0 ds (xX (drs.take i)) sl) a:=by
  refine P.view I (by omega) (fun k hk=>⟨hL k hk,p2 k hk⟩) p4 fun k m t h1 h2 h3=>?_
  rcases h3 with rfl|h3
  ·exact hi
  ·cases hLk:L k with
   |false=>rfl
   |true=>
    have hm:bj ds k=m:=by simp[bj,h1]
    have:=I.down k i hLk (by rw[hm];exact h3)
    rw[hi]at this;exact absurd this (by simp)
 have hres:bp J fps (vw ds hid res (drs.take i) i) (KL res drs L) w0 F0 w:=I.heap.forget fun id hk=>BK P hhid (by omega) hi hL p2 I.down hk
 unfold wpOpIn;simp only[ho'];have hdo:ro≠none->ft o:=fun hr=>hnd hr o (by rw[<-Array.getElem?_toList]at ho';exact List.mem_of_getElem? ho')
 unfold lD at hp;split at hp
 ·rename_i hc;simp only[af]at hc;rcases o8 hp with hp|hp
  case inr=>
   obtain⟨t,px,x,id,off,y,ty,c,c',q1,q2,q3,q4,q5,q6,q7,q8,q9,rfl⟩:=rp hp;rw[ar (by simp[Region.wanted,q3])]
   have hkv:known (vw ds hid res (drs.take i) i) id:=by unfold known;rw[q8];simp
   have hav:aN (AV res drs L) id= .blk ty c:=by rw[<-BK P hhid (by omega) hi hL p2 I.down hkv];exact q8
   have hkn:known (AV res drs L) id:=by unfold known;rw[hav];simp
   obtain⟨e1,e2⟩:=hU hview rfl q4;obtain⟨e3,e4⟩:=hU hview rfl q5
   have hst:qw C.P (AV res drs L) t (.lp id off) y=some (bR (AV res drs L) id (.blk ty c')):=by
    simp_all[qw]
   obtain⟨w',s1,s2,s3⟩:=qT I.heap hst e2 e4;have hrun:(execOp a.eval o).run C.P w= .ok .skip w':=by simp[execOp,q1,e1,e3,s1]
   refine eW hdo (fun f hf=>by unfold Oper.about at hf;rw[q1]at hf;simp at hf) ?_
   rw[hrun];obtain⟨t1,t2⟩:=NY P hhid I.down hd hi rfl rfl hkv p2 hkn;have hH:bp J fps (AV res drs (ins L i)) (KL res drs (ins L i)) w0 F0 w':=(s2.qH fun id h=>(t2 id).1 h).forget t1
   exact hn _ _ _ _ (I.put P ho' hd hc.2 hL (fun id h=>(t2 id).1 h) (Env.agree.refl _ _) hH (by simp[rC]) (by simp))
  have hun:=wA hp;unfold wG at hp
  have hsame:d.new= []->∀x,(∀ρ',ρ'=J->rC ρ' (KL res drs (ins L i)) x d)->Inv ds sl res drs defs ρ0 w0 F0 (ins L i) J fps (a.put o.dst x) w:=by
   intro hnew x hx;obtain⟨a1,a2,a3⟩:=DR P I.down hd hi hun (by rw[hnew];simp)
   obtain⟨fps',g1,g2⟩:=I.heap.grow (ρ':=J) a1 a2 a3 (by rw[hnew];exact lQ.refl _ _ _ _ _ _)
   have hH:bp J fps (AV res drs (ins L i)) (KL res drs (ins L i)) w0 F0 w:=by
    refine(I.heap.qH fun id h=>a3 id (.inl h)).forget fun id hk=>?_
    rcases a1.2.1 id hk with h|h
    ·exact(a1.1 id h).1
    ·unfold fresh at h;rw[hnew]at h;simp at h;omega
   exact I.put P ho' hd hc.2 hL (fun id h=>a3 id (.inl h)) (Env.agree.refl _ _) hH (hx J rfl) (by rw[hnew];simp)
  split at hp
  case isFalse=>simp at hp
  rename_i hab;have hab:=Gi hview hab w;split at hp
  ·simp at hp
  ·rename_i hch;simp only[aa]at hp;rw[ng hview hch];simp only[xW,Bool.false_eq_true,if_false];refine⟨fun f hf _=>hab f hf,?_⟩
   exact hn _ _ _ _ (hsame (by rw[<-hp]) undef fun ρ' _=>by subst hp;simp[rC])
  ·rename_i ch hch;rw[ng hview hch];rw[show xW (fg (bj ds i) i 0 ds (xX (drs.take i)) sl) (some ch)=na (fg (bj ds i) i 0 ds (xX (drs.take i)) sl) ch from rfl];split at hp
   ·rename_i q x new hop
    have hcase:(na (fg (bj ds i) i 0 ds (xX (drs.take i)) sl) ch=true/\cM q/\d.s= .v x/\d.new=new)\/∃c0 c1,ch=c0::c1/\new= []/\d= {s:= .gv (c0::c1) x,g:=na (fg (bj ds i) i 0 ds (xX (drs.take i)) sl) (c0::c1),q:=q,new:= []}:=by
     cases ch with
     |nil=>
      simp only[aa]at hp;subst hp;exact .inl ⟨rfl,hq i _ hd rfl,rfl,rfl⟩
     |cons c0 c1=>
      simp only at hp;split at hp<;>simp only[aa]at hp
      ·rename_i hne;exact .inr ⟨c0,c1,rfl,by simpa using hne,hp.symm⟩
      ·subst hp;obtain⟨h1,h2⟩:=hq i _ hd rfl;exact .inl ⟨h1,h2,rfl,rfl⟩
    rcases hcase with⟨hgo,hq',hds,hdn⟩|⟨c0,c1,rfl,rfl,rfl⟩
    ·obtain rfl:=hdn;rw[ar hgo];refine eW hdo hab ?_
     have hnK:∀k,k<d.new.length->¬KL res drs L (res.length+lens (drs.take i)+k):=fun k hk h=>by
      have hfr:fresh (res.length+lens (drs.take i)) d.new.length (res.length+lens (drs.take i)+k):=⟨by omega,by omega⟩
      rcases h with h|⟨h1,j,y,h2,h3⟩
      ·have:=aY h;omega
      ·have h4:iy drs (res.length+lens (drs.take i)+k-res.length)=some (i,k):=by
        rw[gN];exact⟨⟨_,hd,hk⟩,by omega⟩
       rw[h4]at h2;simp only[aa,ae]at h2;rw[<-h2.1,hi]at h3;simp at h3
     obtain⟨hy,hnew⟩:=nF hC hop hview hres hgo hq' hnK;refine hy.wp fun v w' ⟨ρ',hg,hv,hx⟩=>?_
     obtain⟨a1,a2,a3⟩:=DR P I.down hd hi hun hnew;obtain⟨fps',g1,g2⟩:=I.heap.grow a1 a2 a3 hg;exact hn _ _ _ _ (I.put P ho' hd hc.2 hL (fun id h=>a3 id (.inl h)) g2 g1 (by unfold rC;rw[hds];exact⟨hv,dt a3 _ hx⟩) hnew)
    ·by_cases hg:na (fg (bj ds i) i 0 ds (xX (drs.take i)) sl) (c0::c1)=true
     ·rw[ar hg];refine eW hdo hab ?_;have hq':cM q:=hq i _ hd hg;obtain⟨hy,_⟩:=nF hC hop hview hres hg hq' (fun k hk=>by simp at hk)
      refine hy.wp fun v w' ⟨ρ',hgr,hv,hx⟩=>?_
      obtain⟨a1,a2,a3⟩:=DR P I.down hd hi hun (by simp)
      obtain⟨fps',g1,g2⟩:=I.heap.grow a1 a2 a3 hgr;refine hn _ _ _ _ (I.put P ho' hd hc.2 hL (fun id h=>a3 id (.inl h)) g2 g1 ⟨fun _=>⟨hv,dt a3 _ hx⟩,fun h=>?_⟩ (by simp))
      simp only at h;rw[hg]at h;simp at h
     ·rw[aq hg];refine⟨fun f hf _=>hab f hf,?_⟩
      exact hn _ _ _ _ (hsame rfl undef fun ρ' _=>⟨fun h=>absurd h hg,fun _=>rfl⟩)
   ·simp at hp
 ·simp at hp
end
end Go.Sx
