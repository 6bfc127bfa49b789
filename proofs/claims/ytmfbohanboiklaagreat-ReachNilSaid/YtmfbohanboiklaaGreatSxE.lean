import Derived.Test.YtmfbohanboiklaaGreatSxD
set_option linter.unusedSimpArgs false
set_option linter.unusedVariables false
namespace Go.Sx
open Go.RowKit (Below)
inductive Out where
 |norm
 |exit (i:Nat)
 |goto (l:Nat)
 |ret
 |pan (v:V)
def vg (J:Env) (res:List ae):Exit->Out->Prop
 | .normal,.norm=>True
 | .exit i,.exit j=>i=j
 | .goto i,.goto j=>i=j
 | .ret,.ret=>True
 | .panic chain,.pan v=>chain= [{v:=den J v,recovered:=false}]/\ok (known res) v
 |_,_=>False
def cx (ρ0:Env) (res0:List ae) (w0:World) (F0:Nat->Prop) (K:Out->St->Prop):Exit->Act->World->Prop:=fun e a w=>
 ∃out U J fps,vg J U.res e out/\K out U/\eD J fps U w0 F0 a w/\Good ρ0 res0 J U.res
theorem cx.xI {ρ0:Env} {res0:List ae} {w0:World} {F0:Nat->Prop} {K:Out->St->Prop}:¬LetsOut (cx ρ0 res0 w0 F0 K):=by
 rintro⟨a,w,out,U,J,fps,h1,_⟩
 cases out<;>exact h1
theorem cx.mono {ρ0:Env} {res0:List ae} {w0:World} {F0:Nat->Prop} {K K':Out->St->Prop} {e:Exit} {a:Act} {w:World} (h:cx ρ0 res0 w0 F0 K e a w) (hK:∀o U,K o U->K' o U):
  cx ρ0 res0 w0 F0 K' e a w:=
 let ⟨o,U,J,fps,h1,h2,h3,h4⟩:=h
 ⟨o,U,J,fps,h1,hK _ _ h2,h3,h4⟩
def aj (ds:List (Option Nat×Nat)) (i:Nat):Nat:=
 match ds[i]? with
 |some p=>p.2
 |none=>0
def dL (ds:List (Option Nat×Nat)) (es:List Edge):Nat:=
 match es with
 | []=>0
 |e::l=>if Region.binds .any e then(2^e.on ||| aj ds e.on) ||| dL ds l else dL ds l
def CZ:List Oper->List (Option Nat×Nat)->List (Option Nat×Nat)
 | [],acc=>acc
 |o::l,acc=>CZ l (acc++ [(o.dst,dL acc o.after.toList)])
def z7:Option Nat->Option Nat->Bool
 |some a,some b=> !(a==b)
 |_,_=>true
def lF:List (Option Nat×Nat)->Bool
 | []=>true
 |p::l=>l.all (fun q=>z7 p.1 q.1)&&lF l
def uV (ds:List (Option Nat×Nat)):Nat->List Oper->List (Option Nat×Nat)->Bool
 |i,o::l,d::m=>(match o.dst,d.1 with|none,none=>true|some a,some b=>a==b|_,_=>false)&&dL ds o.after.toList==d.2&&Nat.ble (d.2+1) (2^i)
  &&(List.range i).all (fun j=> !(Nat.testBit d.2 j)||((aj ds j ||| d.2)==d.2))&&uV ds (i+1) l m
 |_,[],[]=>true
 |_,_,_=>false
def bq (anc i:Nat):Nat->List (Option Nat×Nat)->List S->List S->List S
 |j,(some d,_)::ds,s::done,sl=>bq anc i (j+1) ds done (sset sl d (if Nat.testBit anc j then s else .und))
 |j,(some d,m)::ds,[],sl=>if j==i||Nat.testBit m i then bq anc i (j+1) ds [] sl else bq anc i (j+1) ds [] (sset sl d .und)
 |j,(none,_)::ds,done,sl=>bq anc i (j+1) ds done.tail sl
 |_,[],_,sl=>sl
structure Dr where
 s:S
 g:Bool
 q:Option Prop
 new:List ae
 up:Option (Nat×ae):=none
def py:List ae->List ae
 | []=> []
 |_::l=> .yet::py l
def cT (p:Nat->Bool):Nat->List Dr->List ae
 |_,[]=> []
 |j,d::l=>match d.new with
  | []=>cT p (j+1) l
  |r::n=>(if p j then r::n else .yet::py n)++cT p (j+1) l
def lens:List Dr->Nat
 | []=>0
 |d::l=>d.new.length+lens l
def nj:List Dr->List S
 | []=> []
 |d::l=>d.s::nj l
def xi (m:Nat):Option (Nat×Bool)->Bool
 |none=>true
 |some (j,_)=>Nat.testBit m j
def nE (C:Ctx) (ops:List Oper) (D:List S) (R:List ae) (nid:Nat) (o:Oper):Option Dr:=
 match kD D ops o.guard with
 |none=>none
 |some none=>some {s:= .ud,g:=false,q:=none,new:= []}
 |some (some ch)=>match sZ C D R nid ch o.op with
  |some (q,x,new)=>match ch with
   | []=>some {s:= .v x,g:=true,q:=q,new:=new}
   |c::ch=>if new.isEmpty then some {s:= .gv (c::ch) x,g:=fN D (c::ch),q:=q,new:= []}else some {s:= .v x,g:=true,q:=some (fN D (c::ch)=true/\aN q),new:=new}
  |none=>none
def uI (n:Nat):Option Nat->Bool
 |none=>true
 |some d=>Nat.blt d n
def yX (p:Nat->Bool):Nat->List Dr->List ae->List ae
 |_,[],R=>R
 |j,d::l,R=>match d.up with
  |none=>yX p (j+1) l R
  |some u=>if p j then yX p (j+1) l (aG R u.1 u.2)else yX p (j+1) l R
def rq (ds:List (Option Nat×Nat)) (i:Nat):List (Nat×Nat)->List ae->List ae
 | [],R=>R
 |u::h,R=>if u.1==i||Nat.testBit (aj ds i) u.1||Nat.testBit (aj ds u.1) i then rq ds i h R else rq ds i h (aG R u.2 .yet)
def vw (ds:List (Option Nat×Nat)) (hid:List (Nat×Nat)) (res:List ae) (done:List Dr) (i:Nat):List ae:=
 rq ds i hid (yX (Nat.testBit (aj ds i)) 0 done (gX res (cT (Nat.testBit (aj ds i)) 0 done)))
def mC:Nat->List Dr->List (Nat×Nat)
 |_,[]=> []
 |j,d::l=>match d.up with
  |none=>mC (j+1) l
  |some u=>(j,u.1)::mC (j+1) l
def sd:List (Nat×Nat)->List (Nat×Nat)->Bool
 | [],[]=>true
 |a::l,b::m=>a.1==b.1&&a.2==b.2&&sd l m
 |_,_=>false
def pF (C:Ctx) (D:List S) (R:List ae) (o:Oper):Option Dr:=
 match o.op with
 | .store t p x=>match o.dst with
   |none=>match o.guard with
    |none=>match bj D [] p with
     |some pv=>match pv with
      | .lp id off=>match bj D [] x with
        |some y=>if gz C.P t==some (bg y)&& !aP y then match aa R id with
         | .blk ty c=>match setAt 8 c off y with
           |some c'=>some {s:= .und,g:=true,q:=none,new:= [],up:=some (id,.blk ty c')}
           |none=>none
         |_=>none
         else none
        |none=>none
      |_=>none
     |none=>none
    |some _=>none
   |some _=>none
 |_=>none
def mN (C:Ctx) (ops:List Oper) (st:Bool) (D:List S) (R:List ae) (nid:Nat) (o:Oper):Option Dr:=
 match nE C ops D R nid o with
 |some d=>some d
 |none=>if st then pF C D R o else none
def eK (C:Ctx) (ops:List Oper) (ds:List (Option Nat×Nat)) (sl:List S) (res:List ae) (st:Bool) (hid:List (Nat×Nat)) (done:List Dr) (i:Nat) (o:Oper):Option Dr:=
 if xi (aj ds i) o.guard&&uI sl.length o.dst then
  mN C ops st (bq (aj ds i) i 0 ds (nj done) sl) (vw ds hid res done i) (res.length+lens done) o
 else none
def ga (C:Ctx) (ops:List Oper) (ds:List (Option Nat×Nat)) (sl:List S) (res:List ae) (st:Bool) (hid:List (Nat×Nat)):Nat->List Oper->List Dr->List Dr×List Oper
 |_,[],done=>(done,[])
 |i,o::l,done=>match eK C ops ds sl res st hid done i o with
  |some d=>ga C ops ds sl res st hid (i+1) l (done++ [d])
  |none=>(done,o::l)
def nI:List Dr->Prop->Prop
 | [],k=>k
 |d::l,k=>match d.s with
  | .gv _ _=>FV d.g d.q (nI l k)
  |_=>qK d.q (nI l k)
def eh (n:Nat):Nat:=2^n-1
def su (C:Ctx) (ops:List Oper) (ds:List (Option Nat×Nat)) (sl:List S) (res:List ae) (st:Bool) (hid:List (Nat×Nat)):Nat->List Oper->List Dr->(List Dr->List Oper->Prop)->Prop
 |_,[],done,k=>k done []
 |i,o::l,done,k=>pU (bq (aj ds i) i 0 ds (nj done) sl) fun D=>
  match (if xi (aj ds i) o.guard&&uI sl.length o.dst then mN C ops st D (vw ds hid res done i) (res.length+lens done) o else none)with
  |some d=>su C ops ds sl res st hid (i+1) l (done++ [d]) k
  |none=>k done (o::l)
theorem nf (C:Ctx) (ops:List Oper) (ds:List (Option Nat×Nat)) (sl:List S) (res:List ae) (st:Bool) (hid:List (Nat×Nat)):∀(l:List Oper) (i:Nat) (done:List Dr) (k:List Dr->List Oper->Prop),
  su C ops ds sl res st hid i l done k=k (ga C ops ds sl res st hid i l done).1 (ga C ops ds sl res st hid i l done).2
 | [],_,_,_=>rfl
 |o::l,i,done,k=>by
  simp only[su,ga,lS,eK];split
  ·simp_all[nf]
  ·rename_i hd;rfl
def jl (C:Ctx) (H:Handler) (Y:aZ) (ops:List Oper):List Oper->St->(Out->St->Prop)->Prop
 | [],U,K=>fB U.slots fun sl=>K .norm {U with slots:=sl}
 |o::l,U,K=>pH C H Y ops o U (fun σ'=>jl C H Y ops l σ' K) (fun v σ'=>K (.pan v) σ')
def iP (ds:List (Option Nat×Nat)):Nat->List Oper->Bool
 |_,[]=>true
 |i,_::l=>aj ds i==eh i&&iP ds (i+1) l
def E3 (m n:Nat):Option Nat:=(List.range n).find? fun e=> !(Nat.testBit m e)&&(m ||| 2^e)==eh n
def mb (o:Operand) (d:Nat):Bool:=
 match o with
 | .tmp s=> !(s==d)
 |_=>true
def lW (ops:List Oper) (ds:List (Option Nat×Nat)) (n:Nat) (o:Oper) (l:List Oper):Bool:=
 match o.op with
 | .store _ p x=>match o.dst with
   |none=>match o.guard with
    |none=>match E3 (aj ds n) n with
     |some e=>match ops[e]? with
      |some oe=>match oe.op with
       | .extract y _=>match oe.dst with
         |some d=>match oe.guard with
          |none=>mb p d&&mb x d&&mb y d&&iP ds (n+1) l
          |some _=>false
         |none=>false
       |_=>false
      |none=>false
     |none=>false
    |some _=>false
   |some _=>false
 |_=>false
def mI (o:Oper):Option Operand:=
 match o.op with
 | .move x=>some x
 | .assign x=>some x
 | .extract x _=>some x
 |_=>none
def jx (o:Oper):Bool:=
 match o.guard with
 |none=>match o.dst with
  |some _=>(mI o).isSome
  |none=>false
 |some _=>false
def apart (x y:Oper):Bool:=
 match mI x,x.dst,mI y,y.dst with
 |some sx,some dx,some sy,some dy=>mb sy dx&&mb sx dy&& !(dx==dy)
 |_,_,_,_=>false
def pj (ds:List (Option Nat×Nat)) (j:Nat) (x:Oper):Nat->List Oper->Bool
 |_,[]=>true
 |i,y::l=>(Nat.testBit (aj ds i) j||apart x y)&&pj ds j x (i+1) l
def pI (ds:List (Option Nat×Nat)) (n:Nat):Nat->List Oper->Bool
 |_,[]=>true
 |i,x::l=>jx x&&(aj ds i ||| eh (n+1))==aj ds i&&pj ds i x (i+1) l&&pI ds n (i+1) l
def qe (ds:List (Option Nat×Nat)) (n:Nat) (l:List Oper):Bool:=aj ds n==eh n&&pI ds n (n+1) l
def mz (res:List ae) (drs:List Dr):List ae:=yX (fun _=>true) 0 drs (gX res (cT (fun _=>true) 0 drs))
def EM (ops:List Oper) (ds:List (Option Nat×Nat)) (n:Nat):List Oper->Bool
 | []=>true
 |o::l=>iP ds n (o::l)||lW ops ds n o l||qe ds n l
def pb (C:Ctx) (H:Handler) (Y:aZ) (ops:List Oper) (ds:List (Option Nat×Nat)) (U:St) (K:Out->St->Prop) (drs:List Dr) (rest:List Oper):Prop:=
 nI drs (match rest with
  | []=>pU (bq (eh drs.length) drs.length 0 ds (nj drs) (clean U.slots)) fun sl=>fB sl fun sl=>K .norm {U with slots:=sl,res:=mz U.res drs}
  |o::l=>if iP ds drs.length (o::l)||lW ops ds drs.length o l||qe ds drs.length l then
    pU (bq (eh drs.length) drs.length 0 ds (nj drs) (clean U.slots)) fun sl=>jl C H Y ops (o::l) {U with slots:=sl,res:=mz U.res drs} K
   else False)
def Br (C:Ctx) (H:Handler) (Y:aZ) (ops:List Oper) (ds:List (Option Nat×Nat)) (U:St) (K:Out->St->Prop) (alt:Prop):Prop:=
 if uV ds 0 ops ds&&lF ds then
  fB U.slots fun sl=>su C ops ds sl U.res false [] 0 ops [] fun drs rest=>
   if EM ops ds drs.length rest then pb C H Y ops ds U K drs rest
   else su C ops ds sl U.res true [] 0 ops [] fun drs1 _=>su C ops ds sl U.res true (mC 0 drs1) 0 ops [] fun drs2 rest2=>
    if sd (mC 0 drs2) (mC 0 drs1)&&EM ops ds drs2.length rest2 then pb C H Y ops ds U K drs2 rest2 else alt
 else False
def Ac (C:Ctx) (H:Handler) (Y:aZ) (ops:List Oper) (U:St) (K:Out->St->Prop) (alt:Prop):Prop:=Br C H Y ops (CZ ops []) U K alt
theorem fG {ds:List (Option Nat×Nat)} {k:Nat}:∀{es:List Edge},(dL ds es).testBit k=true↔ ∃e∈es,Region.binds .any e=true/\(e.on=k\/(aj ds e.on).testBit k=true)
 | []=>by simp[dL]
 |e::l=>by
  have ih:=fG (ds:=ds) (k:=k) (es:=l);simp only[dL,List.mem_cons,exists_eq_or_imp];split
  ·grind
  ·rename_i h;simp[ih,h]
theorem dY (anc i:Nat):∀(ds:List (Option Nat×Nat)) (j:Nat) (done sl:List S),(bq anc i j ds done sl).length=sl.length
 | [],j,done,sl=>by simp[bq]
 | (none,m)::ds,j,done,sl=>by simp only[bq];exact dY anc i ds _ _ _
 | (some d,m)::ds,j,s::done,sl=>by simp only[bq];rw[dY anc i ds _ _ _,cE]
 | (some d,m)::ds,j,[],sl=>by
   simp only[bq];split
   ·exact dY anc i ds _ _ _
   ·rw[dY anc i ds _ _ _,cE]
theorem eB (anc i t:Nat):∀(ds:List (Option Nat×Nat)) (j:Nat) (done sl:List S),
  aJ (bq anc i j ds done sl) t= .und\/
  (∃k m s,ds[k]? =some (some t,m)/\done[k]? =some s/\anc.testBit (j+k)=true/\aJ (bq anc i j ds done sl) t=s)\/
  (aJ (bq anc i j ds done sl) t=aJ sl t/\∀k m,ds[k]? =some (some t,m)->done.length<=k/\(j+k=i\/m.testBit i=true))
 | [],j,done,sl=> .inr (.inr ⟨by simp[bq],by simp⟩)
 | (none,m)::ds,j,done,sl=>by
   simp only[bq];rcases eB anc i t ds (j+1) done.tail sl with h|⟨k,m',s,h1,h2,h3,h4⟩|⟨h1,h2⟩
   ·exact .inl h
   ·refine .inr (.inl ⟨k+1,m',s,by simpa using h1,?_,by rw[show j+(k+1)=j+1+k by omega];exact h3,h4⟩)
    cases done<;>first| (simp at h2;done)|simpa using h2
   ·grind
 | (some d,m)::ds,j,s::done,sl=>by
   simp only[bq];rcases eB anc i t ds (j+1) done (sset sl d (if anc.testBit j=true then s else .und))with h|⟨k,m',s',h1,h2,h3,h4⟩|⟨h1,h2⟩
   ·exact .inl h
   ·exact .inr (.inl ⟨k+1,m',s',by simpa using h1,by simpa using h2,by rw[show j+(k+1)=j+1+k by omega];exact h3,h4⟩)
   ·rw[b8]at h1;by_cases e:t=d/\d<sl.length
    ·rw[JY e]at h1;obtain⟨rfl,hd⟩:=e;by_cases hb:anc.testBit j=true
     ·rw[JY hb]at h1;exact .inr (.inl ⟨0,m,s,by simp,by simp,by simpa using hb,by rw[JY hb];exact h1⟩)
     ·simp_all
    ·grind[fj]
 | (some d,m)::ds,j,[],sl=>by
   simp only[bq];split
   ·rename_i hc;rcases eB anc i t ds (j+1) [] sl with h|⟨k,m',s',h1,h2,h3,h4⟩|⟨h1,h2⟩
    ·exact .inl h
    ·simp at h2
    ·grind
   ·rename_i hc;rcases eB anc i t ds (j+1) [] (sset sl d .und)with h|⟨k,m',s',h1,h2,h3,h4⟩|⟨h1,h2⟩
    ·exact .inl h
    ·simp at h2
    ·grind[b8,fj]
theorem pZ {a b:Option Nat} (h:z7 a b=true) {t:Nat} (ha:a=some t) (hb:b=some t):False:=by
 subst ha;subst hb;simp[z7]at h
theorem kS:∀{ds:List (Option Nat×Nat)},lF ds=true->∀{j k t m m':Nat},ds[j]? =some (some t,m)->ds[k]? =some (some t,m')->j=k
 | [],_,j,k,t,m,m',h,_=>by simp at h
 |p::l,hd,j,k,t,m,m',hj,hk=>by
  simp only[lF,JR,List.all_eq_true]at hd;cases j with
  |zero=>
   cases k with
   |zero=>rfl
   |succ k=>
    simp only[List.getElem?_cons_zero,JP]at hj;have:=hd.1 _ (List.mem_of_getElem? (by simpa using hk))
    exact(pZ this (by rw[hj]) rfl).elim
  |succ j=>
   cases k with
   |zero=>
    simp only[List.getElem?_cons_zero,JP]at hk;have:=hd.1 _ (List.mem_of_getElem? (by simpa using hj))
    exact(pZ this (by rw[hk]) rfl).elim
   |succ k=>exact congrArg (· +1) (kS hd.2 (t:=t) (m:=m) (m':=m') (by simpa using hj) (by simpa using hk))
theorem mZ {anc i t:Nat}:∀{ds:List (Option Nat×Nat)} (_:lF ds=true) {j:Nat} {done sl:List S} {k m:Nat} {s:S},ds[k]? =some (some t,m)->done[k]? =some s->anc.testBit (j+k)=true->
  t<sl.length->aJ (bq anc i j ds done sl) t=s
 | (none,m0)::ds,hd,j,done,sl,k,m,s,h1,h2,h3,ht=>by
   simp only[lF,JR]at hd;cases k with
   |zero=>simp at h1
   |succ k=>
    simp only[bq];refine mZ hd.2 (k:=k) (by simpa using h1) ?_ (by rw[show j+1+k=j+(k+1) by omega];exact h3) ht
    cases done<;>first| (simp at h2;done)|simpa using h2
 | (some d,m0)::ds,hd,j,[],sl,k,m,s,h1,h2,h3,ht=>by simp at h2
 | (some d,m0)::ds,hd,j,x::done,sl,k,m,s,h1,h2,h3,ht=>by
   have hd':=hd;simp only[lF,JR]at hd;cases k with
   |succ k=>
    simp only[bq];exact mZ hd.2 (k:=k) (by simpa using h1) (by simpa using h2) (by rw[show j+1+k=j+(k+1) by omega];exact h3) (by rw[cE];exact ht)
   |zero=>
    simp only[List.getElem?_cons_zero,JP,JQ]at h1 h2;obtain⟨rfl,rfl⟩:=h1;subst h2;simp only[bq];simp only[Nat.add_zero]at h3
    have hno:∀(k m':Nat),ds[k]? =some (some d,m')->False:=fun k m' hk=>by
     have:=kS hd' (j:=0) (k:=k+1) (t:=d) (m:=m0) (m':=m') (by simp) (by simpa using hk)
     omega
    have key:∀(ds:List (Option Nat×Nat)) (j:Nat) (done sl:List S),(∀(k m':Nat),ds[k]? =some (some d,m')->False)->aJ (bq anc i j ds done sl) d=aJ sl d:=by
     intro ds;induction ds with
     |nil=>intro j done sl _;simp[bq]
     |cons p ds ih=>
      intro j done sl hn;have hn':∀(k m':Nat),ds[k]? =some (some d,m')->False:=fun k m' hk=>hn (k+1) m' (by simpa using hk)
      obtain⟨a,b⟩:=p;cases a with
      |none=>simp only[bq];exact ih _ _ _ hn'
      |some e=>
       have hne:d≠e:=fun he=>hn 0 b (by simp[he])
       have hss:∀(sl:List S) (y:S),aJ (sset sl e y) d=aJ sl d:=fun sl y=>by rw[b8,JX fun h=>hne h.1]
       cases done with
       |nil=>
        simp only[bq];split
        ·exact ih _ _ _ hn'
        ·rw[ih _ _ _ hn',hss]
       |cons y done=>simp only[bq];rw[ih _ _ _ hn',hss]
    rw[key _ _ _ _ hno,b8,JY ⟨rfl,ht⟩,JY h3]
 | [],_,j,done,sl,k,m,s,h1,h2,h3,ht=>by simp at h1
theorem rP {anc i t:Nat} {ds:List (Option Nat×Nat)} {j:Nat} {done sl:List S} (ht:¬t<sl.length):aJ (bq anc i j ds done sl) t= .und:=by
 simp_all[fj,dY]
def cN:List Dr->Nat->Option (Nat×Nat)
 | [],_=>none
 |d::l,x=>if x<d.new.length then some (0,x)else(cN l (x-d.new.length)).map fun p=>(p.1+1,p.2)
theorem kh:∀l,(py l).length=l.length
 | []=>rfl
 |_::l=>by simp[py,kh l]
theorem sN:∀(l:List ae) (x:Nat),aa (py l) x= .yet
 | [],x=>by simp[py,aa]
 |_::l,0=>by simp[py,aa]
 |_::l,x+1=>by simp[py,aa,sN l x]
theorem iI (p:Nat->Bool) (j:Nat) (d:Dr) (l:List Dr):cT p j (d::l)=(if p j then d.new else py d.new)++cT p (j+1) l:=by
 grind[cT,py]
theorem sC (p:Nat->Bool):∀(l:List Dr) (j x:Nat),aa (cT p j l) x=match cN l x with
  |some (k,y)=>if p (j+k)then(match l[k]? with|some d=>aa d.new y|none=> .yet)else .yet
  |none=> .yet
 | [],j,x=>by simp[cT,cN,aa]
 |d::l,j,x=>by
  rw[iI,aH];have hlen:(if p j=true then d.new else py d.new).length=d.new.length:=by split<;>simp[kh]
  rw[hlen];simp only[cN];split
  ·grind[sN]
  ·rw[sC p l (j+1) (x-d.new.length)];cases hl:cN l (x-d.new.length)with
   |none=>simp
   |some q=>
    obtain⟨k,y⟩:=q;simp only[Option.map_some,List.getElem?_cons_succ];rw[show j+1+k=j+(k+1) by omega]
theorem fQ (p:Nat->Bool):∀(l:List Dr) (j:Nat),(cT p j l).length=lens l
 | [],j=>by simp[cT,lens]
 |d::l,j=>by
  rw[iI,List.length_append,fQ p l,lens];split<;>simp[kh]
theorem b7:∀(l:List Dr) (x k y:Nat),cN l x=some (k,y)↔(∃d,l[k]? =some d/\y<d.new.length)/\x=lens (l.take k)+y
 | [],x,k,y=>by simp[cN]
 |d::l,x,k,y=>by
  simp only[cN];cases k with
  |zero=>
   simp only[List.getElem?_cons_zero,JP,exists_eq_left',List.take_zero,lens,Nat.zero_add];split
   ·grind
   ·rename_i hx;constructor
    ·simp_all
    ·intro h;omega
  |succ k=>
   simp only[List.getElem?_cons_succ,List.take_succ_cons,lens];split
   ·grind
   ·rename_i hx;have ih:=b7 l (x-d.new.length) k y;constructor
    ·intro h;cases hl:cN l (x-d.new.length)with
     |none=>simp[hl]at h
     |some q=>
      obtain⟨a,b⟩:=q;simp only[hl,Option.map_some,JP,JQ]at h;have:cN l (x-d.new.length)=some (k,y):=by rw[hl];simp;omega
      obtain⟨g1,g2⟩:=ih.1 this;exact⟨g1,by omega⟩
    ·rintro⟨g1,g2⟩
     rw[ih.2 ⟨g1,by omega⟩];rfl
end Go.Sx
namespace Go.Sx
open Go.RowKit (Below)
theorem nM {ds:List (Option Nat×Nat)}:∀{ops:List Oper} {i0:Nat} {dd:List (Option Nat×Nat)},uV ds i0 ops dd=true->ops.length=dd.length/\∀(i:Nat) (o:Oper),ops[i]? =some o->
  ∃m,dd[i]? =some (o.dst,m)/\dL ds o.after.toList=m/\m<2^(i0+i)/\∀j,m.testBit j=true->(aj ds j ||| m)=m
 | [],i0,[],_=>⟨rfl,by simp⟩
 | [],_,_::_,h=>by simp[uV]at h
 |_::_,_,[],h=>by simp[uV]at h
 |o::l,i0,d::dd,h=>by
  simp only[uV,JR,JT,List.all_eq_true,List.mem_range,Bool.or_eq_true,Bool.not_eq_true',Nat.ble_eq]at h;obtain⟨⟨⟨⟨h1,h2⟩,h3⟩,h4⟩,h5⟩:=h;obtain⟨i1,i2⟩:=nM h5;refine⟨by simp[i1],fun i p hp=>?_⟩
  cases i with
  |zero=>
   simp only[List.getElem?_cons_zero,JP]at hp;subst hp;refine⟨d.2,?_,h2,by rw[Nat.add_zero];exact h3,fun j hj=>?_⟩
   ·grind
   ·have hlt:j<i0:=by
     rcases Nat.lt_or_ge j i0 with h|h
     ·exact h
     ·have:=Nat.testBit_lt_two_pow (x:=d.2) (i:=j) (Nat.lt_of_lt_of_le (by omega) (Nat.pow_le_pow_right (by omega) h))
      rw[this]at hj;simp at hj
    rcases h4 j hlt with h|h
    ·rw[h]at hj;simp at hj
    ·exact h
  |succ i=>
   obtain⟨m,a,b,c,e⟩:=i2 i p (by simpa using hp)
   exact⟨m,by simpa using a,b,by rw[show i0+(i+1)=i0+1+i by omega];exact c,e⟩
structure bz (C:Ctx) (ops:List Oper) (ds:List (Option Nat×Nat)) (sl:List S) (res:List ae) (drs:List Dr):Prop where
 okk:uV ds 0 ops ds=true
 dst:lF ds=true
 cl:∀t,(∃x,aJ sl t= .v x)\/aJ sl t= .und
 plan:∃st hid,(∀i d,drs[i]? =some d->∃o,ops[i]? =some o/\eK C ops ds sl res st hid (drs.take i) i o=some d)/\∀s d u,drs[s]? =some d->d.up=some u->(s,u.1)∈hid
theorem j9 {C:Ctx} {D:List S} {R:List ae} {o:Oper} {d:Dr} (h:pF C D R o=some d):∃t p x id off y ty c c',o.op= .store t p x/\o.dst=none/\o.guard=none/\bj D [] p=some (.lp id off)/\bj D [] x=some y/\
  gz C.P t=some (bg y)/\aP y=false/\aa R id= .blk ty c/\setAt 8 c off y=some c'/\d= {s:= .und,g:=true,q:=none,new:= [],up:=some (id,.blk ty c')}:=by
 unfold pF at h;split at h
 case h_2=>simp at h
 rename_i t p x hop;split at h
 case h_2=>simp at h
 rename_i hd;split at h
 case h_2=>simp at h
 rename_i hg;split at h
 case h_2=>simp at h
 rename_i pv hp;split at h
 case h_2=>simp at h
 rename_i id off;split at h
 case h_2=>simp at h
 rename_i y hy;split at h
 case isFalse=>simp at h
 rename_i hc;simp only[JR,JT,Bool.not_eq_true']at hc;split at h
 case h_2=>simp at h
 rename_i ty c hr;split at h
 case h_2=>simp at h
 rename_i c' hs;simp only[JP]at h;exact⟨t,p,x,id,off,y,ty,c,c',hop,hd,hg,hp,hy,hc.1,hc.2,hr,hs,h.symm⟩
theorem gW {C:Ctx} {ops:List Oper} {st:Bool} {D:List S} {R:List ae} {nid:Nat} {o:Oper} {d:Dr} (h:mN C ops st D R nid o=some d):nE C ops D R nid o=some d\/pF C D R o=some d:=by
 grind[mN]
theorem nP {C:Ctx} {ops:List Oper} {D:List S} {R:List ae} {nid:Nat} {o:Oper} {d:Dr} (h:nE C ops D R nid o=some d):d.up=none:=by
 grind[nE]
theorem mn:∀(l:List Dr) (i:Nat),(nj l)[i]? =(l[i]?).map Dr.s
 | [],i=>by simp[nj]
 |d::l,0=>by simp[nj]
 |d::l,i+1=>by simp[nj,mn l i]
theorem wC (l:List Dr):(nj l).length=l.length:=by
 induction l with
 |nil=>rfl
 |cons d l ih=>simp[nj,ih]
theorem r8 {sl sl':List S}:∀{ch:List (Nat×Bool)},(∀p∈ch,aJ sl p.1=aJ sl' p.1)->fN sl ch=fN sl' ch
 | [],_=>rfl
 | (s,w)::c,h=>by
   rw[dr,dr,h (s,w) (by simp),r8 fun p hp=>h p (by simp[hp])]
section
variable {C:Ctx} {opsA:Array Oper} {ds:List (Option Nat×Nat)} {sl:List S} {res:List ae} {drs:List Dr}
theorem bz.at (P:bz C opsA.toList ds sl res drs) {i:Nat} {o:Oper} (h:opsA[i]? =some o):
  ds[i]? =some (o.dst,aj ds i)/\(∀k,(aj ds i).testBit k=true->k<i)/\
  (∀k,(aj ds i).testBit k=true↔ ∃e∈o.after,Region.binds .any e=true/\(e.on=k\/(aj ds e.on).testBit k=true))/\
  ∀k r,(aj ds i).testBit k=true->(aj ds k).testBit r=true->(aj ds i).testBit r=true:=by
 obtain⟨m,h1,h2,h3,h4⟩:=(nM P.okk).2 i o (by simpa using h)
 have hm:aj ds i=m:=by simp[aj,h1]
 rw[hm];refine⟨h1,fun k hk=>?_,fun k=>?_,fun k r hk hr=>?_⟩
 ·rcases Nat.lt_or_ge k i with h|h
  ·exact h
  ·have:=Nat.testBit_lt_two_pow (x:=m) (i:=k) (Nat.lt_of_lt_of_le h3 (Nat.pow_le_pow_right (by omega) (by omega)))
   rw[this]at hk;simp at hk
 ·rw[<-h2,fG];simp only[Array.mem_toList_iff]
 ·rw[<-h4 k hk,Nat.testBit_or,hr];rfl
def Jf (opsA:Array Oper) (ds:List (Option Nat×Nat)):Prop:=∀i o,opsA[i]? =some o->(∀k,(aj ds i).testBit k=true->k<i)/\
    (∀k,(aj ds i).testBit k=true->∃e∈o.after,Region.binds .any e=true/\(e.on=k\/(aj ds e.on).testBit k=true))/\∀e∈o.after,Region.binds .any e=true->e.on<i
theorem bz.I2 (P:bz C opsA.toList ds sl res drs):Jf opsA ds:=fun i o h=>by
 obtain⟨_,p2,p3,_⟩:=P.at h;exact⟨p2,fun k hk=>(p3 k).1 hk,fun e he hb=>p2 _ ((p3 e.on).2 ⟨e,he,hb,.inl rfl⟩)⟩
theorem bz.len (P:bz C opsA.toList ds sl res drs):ds.length=opsA.size:=by
 have:=(nM P.okk).1;simpa using this.symm
def Jd (ds:List (Option Nat×Nat)) (sl:List S) (drs:List Dr) (i:Nat):List S:=bq (aj ds i) i 0 ds (nj (drs.take i)) sl
def Hb (ds:List (Option Nat×Nat)) (m:Nat) (ch:List (Nat×Bool)):Prop:=∀p∈ch,∃k m',m.testBit k=true/\ds[k]? =some (some p.1,m')
theorem bz.chain (P:bz C opsA.toList ds sl res drs):∀(i:Nat) (d:Dr),drs[i]? =some d->∀ch x,d.s= .gv ch x->d.g=fN (Jd ds sl drs i) ch/\Hb ds (aj ds i) ch:=by
 intro i;induction i using Nat.strongRecOn with
 |_ i ih=>
  intro d hd ch x hs;obtain⟨st,hid,hpl,_⟩:=P.plan;obtain⟨o,ho,hp⟩:=hpl i d hd;obtain⟨p1,p2,p3,p4⟩:=P.at (i:=i) (o:=o) (by simpa using ho)
  unfold eK at hp;split at hp
  ·rename_i hc;simp only[JR]at hc;rcases gW hp with hp|hp
   case inr=>
    obtain⟨_,_,_,_,_,_,_,_,_,_,_,_,_,_,_,_,_,_,rfl⟩:=j9 hp;simp at hs
   unfold nE at hp;split at hp
   ·simp at hp
   ·simp only[JP]at hp;subst hp;simp at hs
   ·rename_i ch' hch;split at hp
    ·rename_i q y new hop;cases ch' with
     |nil=>simp only[JP]at hp;subst hp;simp at hs
     |cons c0 c1=>
      simp only at hp;split at hp
      ·simp only[JP]at hp;subst hp;simp only[S.gv.injEq]at hs;obtain⟨rfl,rfl⟩:=hs;refine⟨rfl,?_⟩;unfold kD at hch;split at hch
       ·simp at hch
       ·rename_i j w hg;split at hch
        ·simp at hch
        ·rename_i s hsd;have hjb:(aj ds i).testBit j=true:=by have:=hc.1;rw[hg]at this;exact this
         have hj:∃m',ds[j]? =some (some s,m'):=by
          cases hoj:opsA.toList[j]? with
          |none=>simp[hoj]at hsd
          |some oj=>
           simp only[hoj,Option.bind_some]at hsd;have:=(P.at (i:=j) (o:=oj) (by simpa using hoj)).1
           rw[hsd]at this;exact⟨_,this⟩
         have hsub:∀c y,aJ (bq (aj ds i) i 0 ds (nj (drs.take i)) sl) s= .gv c y->Hb ds (aj ds i) c:=by
          intro c y hy;rcases eB (aj ds i) i s ds 0 (nj (drs.take i)) sl with h|⟨k,m',s',h1,h2,h3,h4⟩|⟨h1,h2⟩
          ·rw[h]at hy;simp at hy
          ·rw[h4]at hy;simp only[Nat.zero_add]at h3;have hki:=p2 k h3;rw[mn,List.getElem?_take,JY hki]at h2;cases hdk:drs[k]? with
           |none=>simp[hdk]at h2
           |some dk=>
            simp only[hdk,Option.map_some,JP]at h2;obtain⟨_,g2⟩:=ih k hki dk hdk c y (by rw[h2];exact hy)
            exact fun p hp=>let ⟨r,m'',e1,e2⟩:=g2 p hp;⟨r,m'',p4 k r h3 e1,e2⟩
          ·rw[h1]at hy;rcases P.cl s with⟨z,hz⟩|hz<;>rw[hz]at hy<;>simp at hy
         have hhead:∃(k m':Nat),(aj ds i).testBit k=true/\ds[k]? =some (some s,m'):=let ⟨m',h⟩:=hj;⟨j,m',hjb,h⟩;clear hop;split at hch<;>(try split at hch)<;>simp only[JP,reduceCtorEq,List.cons.injEq]at hch
         ·obtain⟨rfl,rfl⟩:=hch;intro p hp;simp only[List.mem_singleton]at hp;subst hp;exact hhead
         ·rename_i c b hv;obtain⟨rfl,rfl⟩:=hch;intro p hp;rcases List.mem_cons.1 hp with rfl|hp
          ·exact hhead
          ·exact hsub _ _ hv p hp
         ·simp_all
      ·simp only[JP]at hp;subst hp;simp at hs
    ·simp at hp
  ·simp at hp
theorem bz.AX (P:bz C opsA.toList ds sl res drs) {k:Nat} {d:Dr} (hd:drs[k]? =some d) {ch:List (Nat×Bool)} {x:V} (hs:d.s= .gv ch x) {anc i:Nat} (hi:k<i)
  (hsub:∀r,(aj ds k).testBit r=true->anc.testBit r=true):fN (bq anc i 0 ds (nj (drs.take i)) sl) ch=d.g:=by
 obtain⟨h1,h2⟩:=P.chain k d hd ch x hs;rw[h1];obtain⟨st,hid,hpl,_⟩:=P.plan;obtain⟨o,ho,_⟩:=hpl k d hd;obtain⟨p1,p2,p3,p4⟩:=P.at (i:=k) (o:=o) (by simpa using ho)
 have hklt:k<drs.length:=(List.getElem?_eq_some_iff.1 hd).1;refine r8 fun p hp=>?_
 obtain⟨r,m',e1,e2⟩:=h2 p hp;have hr:=p2 r e1;by_cases ht:p.1<sl.length
 ·have hdr:drs[r]? =some (drs[r]'(by omega)):=List.getElem?_eq_getElem (by omega)
  rw[mZ P.dst (k:=r) e2 (s:=(drs[r]'(by omega)).s) (by rw[mn,List.getElem?_take,JY (by omega),hdr];rfl) (by simpa using hsub r e1) ht]
  unfold Jd;rw[mZ P.dst (k:=r) e2 (s:=(drs[r]'(by omega)).s) (by rw[mn,List.getElem?_take,JY hr,hdr];rfl) (by simpa using e1) ht]
 ·rw[rP ht];unfold Jd;rw[rP ht]
def jP (J:Env) (K:Nat->Prop) (x:Value) (d:Dr):Prop:=
 match d.s with
 | .und=>True
 | .ud=>x=undef
 | .v y=>x=den J y/\ok K y
 | .gv _ y=>(d.g=true->x=den J y/\ok K y)/\(d.g=false->x=undef)
theorem jP.env {J ρ':Env} {K K':Nat->Prop} {x:Value} {d:Dr} (h:jP J K x d) (hK:∀i,K i->K' i) (ha:Env.agree K J ρ'):jP ρ' K' x d:=by
 grind[jP,bT,aU]
def AV (res:List ae) (drs:List Dr) (L:Nat->Bool):List ae:=yX L 0 drs (res++cT L 0 drs)
def KL (res:List ae) (drs:List Dr) (L:Nat->Bool) (id:Nat):Prop:=known res id\/(res.length<=id/\∃j y,cN drs (id-res.length)=some (j,y)/\L j=true)
structure Inv (ds:List (Option Nat×Nat)) (sl:List S) (res:List ae) (drs:List Dr) (defs:List (Nat×List V×List V)) (ρ0:Env) (w0:World) (F0:Nat->Prop) (L:Nat->Bool) (J:Env) (fps:Nat->Nat->Prop) (a:Act) (w:World):Prop where
 size:a.tmps.size=sl.length
 done:∀t j m d,ds[j]? =some (some t,m)->drs[j]? =some d->L j=true->jP J (KL res drs L) (a.tmps.getD t undef) d
 todo:∀t,(∀j m,ds[j]? =some (some t,m)->L j=false)->cy J (KL res drs L) [] (a.tmps.getD t undef) (aJ sl t)
 heap:an J fps (AV res drs L) (KL res drs L) w0 F0 w
 down:∀i k,L i=true->(aj ds i).testBit k=true->L k=true
 defs:a.defers=defs.flatMap (eO J)/\∀d∈defs,bH (known res) d.2.1/\bH (known res) d.2.2
 agree:Env.agree (known res) ρ0 J
 newk:∀j d,drs[j]? =some d->L j=true->∀y,y<d.new.length->aa d.new y≠ .yet
theorem cy.plain {J:Env} {K:Nat->Prop} {sl sl':List S} {x:Value} {s:S} (hs:(∃y,s= .v y)\/s= .und) (h:cy J K sl x s):cy J K sl' x s:=by
 rcases hs with⟨y,rfl⟩|rfl
 ·exact h
 ·trivial
theorem bz.view {defs:List (Nat×List V×List V)} {ρ0 J:Env} {w0 w:World} {F0:Nat->Prop} {L:Nat->Bool} {fps:Nat->Nat->Prop} {a:Act} (P:bz C opsA.toList ds sl res drs) (I:Inv ds sl res drs defs ρ0 w0 F0 L J fps a w)
  {anc i:Nat} (h0:i<=drs.length) (h1:∀k,anc.testBit k=true->L k=true/\k<i) (h2:∀k r,anc.testBit k=true->(aj ds k).testBit r=true->anc.testBit r=true)
  (h3:∀k m t,ds[k]? =some (some t,m)->i<=k->(k=i\/m.testBit i=true)->L k=false):dG J (KL res drs L) (bq anc i 0 ds (nj (drs.take i)) sl) a:=by
 refine⟨by rw[dY];exact I.size,fun t=>?_⟩
 rcases eB anc i t ds 0 (nj (drs.take i)) sl with h|⟨k,m',s',e1,e2,e3,e4⟩|⟨e1,e2⟩
 ·rw[h];trivial
 ·simp only[Nat.zero_add]at e3;obtain⟨l1,l2⟩:=h1 k e3;rw[mn,List.getElem?_take,JY l2]at e2;cases hdk:drs[k]? with
  |none=>simp[hdk]at e2
  |some dk=>
   simp only[hdk,Option.map_some,JP]at e2;have hG:=I.done t k m' dk e1 hdk l1;rw[e4,<-e2];unfold jP at hG;cases hds:dk.s with
   |und=>trivial
   |ud=>rw[hds]at hG;exact hG
   |v y=>rw[hds]at hG;exact hG
   |gv c y=>
    rw[hds]at hG;have:=P.AX hdk hds (anc:=anc) (i:=i) l2 (fun r hr=>h2 k r e3 hr)
    exact⟨fun hg=>hG.1 (by rw[<-this];exact hg),fun hg=>hG.2 (by rw[<-this];exact hg)⟩
 ·rw[e1];refine cy.plain (P.cl t) (I.todo t fun j m hj=>?_)
  obtain⟨f1,f2⟩:=e2 j m hj;rw[wC,List.length_take,Nat.min_eq_left h0]at f1;exact h3 j m t hj f1 (by simpa using f2)
end
end Go.Sx
namespace Go.Sx
open Go.RowKit (Below)
theorem iK:∀(l:List Dr) (i k y:Nat),(∃d,l[k]? =some d/\y<d.new.length)->k<i->lens (l.take k)+y<lens (l.take i)
 | [],i,k,y,h,_=>by obtain⟨d,h,_⟩:=h;simp at h
 |d::l,0,k,y,_,h=>by omega
 |d::l,i+1,0,y,h,_=>by
  grind[lens]
 |d::l,i+1,k+1,y,h,hk=>by
  have:=iK l i k y (by simpa using h) (by omega)
  simp only[List.take_succ_cons,lens];omega
theorem ot {l:List Dr} {i x k y:Nat} (h:cN (l.take i) x=some (k,y)):k<i/\cN l x=some (k,y):=by
 grind[b7]
theorem dB (res:List ae) (drs:List Dr) (p:Nat->Bool) (id:Nat):aa (res++cT p 0 drs) id=if id<res.length then aa res id else
  match cN drs (id-res.length)with
  |some (k,y)=>if p k then(match drs[k]? with|some d=>aa d.new y|none=> .yet)else .yet
  |none=> .yet:=by
 simp_all[aH,sC,cN]
theorem gj {res:List ae} {drs:List Dr} {p:Nat->Bool} {id:Nat} (h:known (res++cT p 0 drs) id):KL res drs p id:=by
 unfold known at h;rw[dB]at h;by_cases hlt:id<res.length
 ·rw[JY hlt]at h;exact .inl h
 ·rw[JX hlt]at h;refine .inr ⟨by omega,?_⟩
  cases hl:cN drs (id-res.length)with
  |none=>simp[hl]at h
  |some q=>
   obtain⟨k,y⟩:=q;simp only[hl]at h;by_cases hp:p k=true
   ·exact⟨k,y,rfl,hp⟩
   ·rw[JX hp]at h;exact absurd rfl h
theorem uW {res:List ae} {drs:List Dr} {p L:Nat->Bool} {i:Nat} (hp:∀k,p k=true->L k=true) (id:Nat) (h:known (res++cT p 0 (drs.take i)) id):
  aa (res++cT p 0 (drs.take i)) id=aa (res++cT L 0 drs) id:=by
 grind[known,dB,cN,ot]
def bd (p:Nat->Bool) (id:Nat):Nat->List Dr->Option ae
 |_,[]=>none
 |j,d::l=>match bd p id (j+1) l with
  |some r=>some r
  |none=>match d.up with
   |some u=>if p j&&u.1==id then some u.2 else none
   |none=>none
theorem e9 (p:Nat->Bool):∀(l:List Dr) (j:Nat) (R:List ae),(yX p j l R).length=R.length
 | [],j,R=>rfl
 |d::l,j,R=>by
  simp only[yX];split
  ·exact e9 p l _ R
  ·split
   ·rw[e9 p l,aE]
   ·exact e9 p l _ R
theorem iE (p:Nat->Bool) (id:Nat):∀(l:List Dr) (j:Nat) (R:List ae),id<R.length->aa (yX p j l R) id=(bd p id j l).getD (aa R id)
 | [],j,R,h=>rfl
 |d::l,j,R,h=>by
  simp only[yX,bd];cases hu:d.up with
  |none=>
   simp only;rw[iE p id l _ R h];cases bd p id (j+1) l<;>rfl
  |some u=>
   simp only;by_cases hp:p j=true
   ·rw[JY hp,iE p id l _ _ (by rw[aE];exact h)]
    cases bd p id (j+1) l with
    |some r=>rfl
    |none=>
     simp only[Option.getD_none,hp,Bool.true_and];by_cases e:u.1=id
     ·subst e;rw[aA _ _ _ _ h];simp
     ·by_cases hl:u.1<R.length
      ·rw[aA _ _ _ _ hl,JX (Ne.symm e)];simp[e]
      ·rw[kQ,List.set_eq_of_length_le (by omega)]
       simp[e]
   ·rw[JX hp,iE p id l _ R h];cases bd p id (j+1) l with
    |some r=>rfl
    |none=>simp[hp]
theorem eI {p L:Nat->Bool} {id:Nat}:∀(l:List Dr) (j m:Nat),(∀k d u,l[k]? =some d->d.up=some u->u.1=id->(L (j+k)=true↔k<m/\p (j+k)=true))->bd p id j (l.take m)=bd L id j l
 | [],j,m,h=>by simp[bd]
 |d::l,j,0,h=>by
  have h':=eI (p:=p) (L:=L) (id:=id) l (j+1) 0 fun k d' u h1 h2 h3=>by
   have:=h (k+1) d' u (by simpa using h1) h2 h3
   rw[show j+1+k=j+(k+1) by omega]
   constructor
   ·intro hh;exact absurd (this.1 hh).1 (by omega)
   ·intro hh;exact absurd hh.1 (by omega)
  simp only[List.take_zero,bd]at h'⊢;rw[<-h'];simp only;cases hu:d.up with
  |none=>rfl
  |some u=>
   simp only;rw[JX];intro hh;simp only[JR,JT]at hh;exact absurd ((h 0 d u (by simp) hu hh.2).1 (by simpa using hh.1)).1 (by omega)
 |d::l,j,m+1,h=>by
  have h':=eI (p:=p) (L:=L) (id:=id) l (j+1) m fun k d' u h1 h2 h3=>by
   have:=h (k+1) d' u (by simpa using h1) h2 h3
   rw[show j+1+k=j+(k+1) by omega]
   constructor
   ·intro hh;exact⟨by have:=(this.1 hh).1;omega,(this.1 hh).2⟩
   ·intro hh;exact this.2 ⟨by omega,hh.2⟩
  simp only[List.take_succ_cons,bd,h'];cases bd L id (j+1) l with
  |some r=>rfl
  |none=>
   simp only;cases hu:d.up with
   |none=>rfl
   |some u=>
    simp only;by_cases e:u.1=id
    ·have:=h 0 d u (by simp) hu e
     simp only[Nat.add_zero]at this
     have hb:p j=L j:=by
      rw[Bool.eq_iff_iff];exact⟨fun hh=>this.2 ⟨by omega,hh⟩,fun hh=>(this.1 hh).2⟩
     rw[hb]
    ·simp[e]
theorem cZ {p:Nat->Bool} {id:Nat} {r:ae}:∀(l:List Dr) (j:Nat),bd p id j l=some r->∃k d,l[k]? =some d/\d.up=some (id,r)/\p (j+k)=true
 | [],j,h=>by simp[bd]at h
 |d::l,j,h=>by
  simp only[bd]at h;split at h
  ·rename_i r' hr;simp only[JP]at h;subst h;obtain⟨k,d',h1,h2,h3⟩:=cZ l (j+1) hr;exact⟨k+1,d',by simpa using h1,h2,by rw[show j+(k+1)=j+1+k by omega];exact h3⟩
  ·split at h
   ·rename_i u hu;split at h
    ·rename_i hc;simp only[JR,JT]at hc;simp only[JP]at h;subst h;exact⟨0,d,by simp,by rw[hu,<-hc.2],by simpa using hc.1⟩
    ·simp at h
   ·simp at h
theorem n9 {p:Nat->Bool} {id:Nat} {r:ae}:∀(l:List Dr) (j s:Nat) (d:Dr),l[s]? =some d->d.up=some (id,r)->p (j+s)=true->(∀k d' u,s<k->l[k]? =some d'->d'.up=some u->u.1=id->p (j+k)=false)->bd p id j l=some r
 | [],j,s,d,h,_,_,_=>by simp at h
 |x::l,j,0,d,h,hu,hp,hn=>by
  simp only[List.getElem?_cons_zero,JP]at h;subst h;simp only[bd]
  have:bd p id (j+1) l=none:=by
   cases hl:bd p id (j+1) l with
   |none=>rfl
   |some r'=>
    obtain⟨k,d',h1,h2,h3⟩:=cZ l (j+1) hl;have:=hn (k+1) d' _ (by omega) (by simpa using h1) h2 rfl
    rw[show j+(k+1)=j+1+k by omega,h3]at this
    simp at this
  rw[this,hu];simp only[Nat.add_zero]at hp;simp[hp]
 |x::l,j,s+1,d,h,hu,hp,hn=>by
  simp only[bd]
  rw[n9 l (j+1) s d (by simpa using h) hu (by rw[show j+1+s=j+(s+1) by omega];exact hp) fun k d' u h1 h2 h3 h4=>by
   rw[show j+1+k=j+(k+1) by omega]
   exact hn (k+1) d' u (by omega) (by simpa using h2) h3 h4]
theorem ib (ds:List (Option Nat×Nat)) (i:Nat):∀(h:List (Nat×Nat)) (R:List ae) (id:Nat),known (rq ds i h R) id->aa (rq ds i h R) id=aa R id/\known R id/\∀s,(s,id)∈h->s=i\/(aj ds i).testBit s=true\/(aj ds s).testBit i=true
 | [],R,id,hk=>⟨rfl,hk,by simp⟩
 |u::h,R,id,hk=>by
  unfold rq at hk⊢;split at hk
  ·rename_i hc;rw[JY hc];obtain⟨a,b,c⟩:=ib ds i h R id hk;refine⟨a,b,fun s hs=>?_⟩
   rcases List.mem_cons.1 hs with rfl|hs
   ·grind
   ·exact c s hs
  ·rename_i hc;rw[JX hc];obtain⟨a,b,c⟩:=ib ds i h _ id hk
   have hne:u.2≠id\/¬u.2<R.length:=by
    grind[known,aA]
   have hr:aa (aG R u.2 .yet) id=aa R id:=by
    rcases hne with e|hl
    ·by_cases hl:u.2<R.length
     ·rw[aA _ _ _ _ hl,JX (Ne.symm e)]
     ·rw[kQ,List.set_eq_of_length_le (by omega)]
    ·rw[kQ,List.set_eq_of_length_le (by omega)]
   have hkR:known R id:=by unfold known at b⊢;rw[<-hr];exact b
   refine⟨by rw[a,hr],hkR,fun s hs=>?_⟩
   rcases List.mem_cons.1 hs with rfl|hs
   ·exfalso
    rcases hne with e|hl
    ·exact e rfl
    ·exact hl (ai hkR)
   ·exact c s hs
def ins (L:Nat->Bool) (i:Nat) (k:Nat):Bool:=k==i||L k
theorem yy {res:List ae} {drs:List Dr} {L:Nat->Bool} {i:Nat} {d:Dr} (hd:drs[i]? =some d) (hi:L i=false) (hnew:∀k,k<d.new.length->aa d.new k≠ .yet):
  CL (res++cT L 0 drs) (res++cT (ins L i) 0 drs) (res.length+lens (drs.take i)) d.new/\
  (∀id,KL res drs L id->¬fresh (res.length+lens (drs.take i)) d.new.length id)/\
  (∀id,KL res drs L id\/fresh (res.length+lens (drs.take i)) d.new.length id->KL res drs (ins L i) id):=by
 have hfr:∀id,fresh (res.length+lens (drs.take i)) d.new.length id↔res.length<=id/\∃y,cN drs (id-res.length)=some (i,y):=by
  intro id;constructor
  ·rintro⟨h1,h2⟩
   refine⟨by omega,id-res.length-lens (drs.take i),?_⟩
   rw[b7];exact⟨⟨d,hd,by omega⟩,by omega⟩
  ·rintro⟨h1,y,h2⟩
   rw[b7]at h2;obtain⟨⟨d',h3,h4⟩,h5⟩:=h2;rw[hd]at h3;simp only[JP]at h3;subst h3;exact⟨by omega,by omega⟩
 have hKf:∀id,KL res drs L id->¬fresh (res.length+lens (drs.take i)) d.new.length id:=by
  rintro id (hk|⟨h1,j,y,h2,h3⟩) hf
  ·have:=ai hk;have:=((hfr id).1 hf).1;omega
  ·simp_all
 refine⟨⟨fun id hk=>⟨?_,hKf id (gj hk)⟩,fun id hk=>?_,fun k hk=>?_⟩,hKf,?_⟩
 ·have h0:=gj hk;rw[dB,dB];by_cases hlt:id<res.length
  ·rw[JY hlt,JY hlt]
  ·grind[ai,ins]
 ·rcases gj hk with h0|⟨h1,j,y,h2,h3⟩
  ·left
   unfold known;rw[dB,JY (ai h0)];exact h0
  ·by_cases e:j=i
   ·subst e;exact .inr ((hfr id).2 ⟨h1,y,h2⟩)
   ·left
    have h3':L j=true:=by simpa[ins,e]using h3
    unfold known at hk⊢;rw[dB,JX (by omega),h2]at hk⊢
    simp only[h3,h3',if_true]at hk⊢;exact hk
 ·rw[dB,JX (by omega)]
  have:cN drs (res.length+lens (drs.take i)+k-res.length)=some (i,k):=by
   rw[b7];exact⟨⟨d,hd,hk⟩,by omega⟩
  rw[this];simp only[ins,beq_self_eq_true,Bool.true_or,if_true,hd]
 ·rintro id (h|h)
  ·rcases h with h|⟨h1,j,y,h2,h3⟩
   ·exact .inl h
   ·exact .inr ⟨h1,j,y,h2,by simp[ins,h3]⟩
  ·obtain⟨h1,y,h2⟩:=(hfr id).1 h;exact .inr ⟨h1,i,y,h2,by simp[ins]⟩
section
variable {C:Ctx} {opsA:Array Oper} {ds:List (Option Nat×Nat)} {sl:List S} {res:List ae} {drs:List Dr} {defs:List (Nat×List V×List V)} {ρ0 J:Env} {w0 w:World} {F0:Nat->Prop} {L:Nat->Bool} {fps:Nat->Nat->Prop} {a:Act}
theorem Inv.put (P:bz C opsA.toList ds sl res drs) (I:Inv ds sl res drs defs ρ0 w0 F0 L J fps a w) {i:Nat} {o:Oper} {d:Dr} (ho:opsA[i]? =some o) (hd:drs[i]? =some d) (hdst:uI sl.length o.dst=true)
  {ρ':Env} {fps':Nat->Nat->Prop} {w':World} {x:Value} (hL:∀k,(aj ds i).testBit k=true->L k=true) (hK:∀id,KL res drs L id->KL res drs (ins L i) id) (hag:Env.agree (KL res drs L) J ρ')
  (hH:an ρ' fps' (AV res drs (ins L i)) (KL res drs (ins L i)) w0 F0 w') (hx:jP ρ' (KL res drs (ins L i)) x d) (hnew:∀y,y<d.new.length->aa d.new y≠ .yet):
  Inv ds sl res drs defs ρ0 w0 F0 (ins L i) ρ' fps' (a.put o.dst x) w':=by
 have hpi:=(P.at ho).1;have hsz:(a.put o.dst x).tmps.size=a.tmps.size:=by cases o.dst<;>simp[Act.put]
 have hold:∀t,o.dst≠some t->(a.put o.dst x).tmps.getD t undef=a.tmps.getD t undef:=by
  intro t ht;cases hdd:o.dst with
  |none=>simp[Act.put]
  |some e=>
   have:e≠t:=fun h=>ht (by rw[hdd,h])
   simp[Act.put,Array.getD_eq_getD_getElem?,Array.getElem?_setIfInBounds_ne this]
 refine⟨by rw[hsz];exact I.size,?_,?_,hH,?_,?_,?_,?_⟩
 ·intro t j m dj h1 h2 h3;by_cases e:o.dst=some t
  ·rw[e]at hpi;have:=kS P.dst h1 hpi;subst this;rw[hd]at h2;simp only[JP]at h2;subst h2;rw[e]at hdst;have hlt:t<sl.length:=by simpa[uI]using hdst
   have:(a.put o.dst x).tmps.getD t undef=x:=by
    rw[e];simp[Act.put,I.size,hlt]
   rw[this];exact hx
  ·rw[hold t e]
   have hji:j≠i:=fun hji=>by
    simp_all
   exact(I.done t j m dj h1 h2 (by simpa[ins,hji]using h3)).env hK hag
 ·intro t hall
  have e:o.dst≠some t:=fun e=>by
   grind[ins]
  rw[hold t e]
  exact(I.todo t fun j m hj=>by
   have:=hall j m hj;simp only[ins,Bool.or_eq_false_iff]at this;exact this.2).env hK hag
 ·intro j k hj hk;simp only[ins,Bool.or_eq_true,JT]at hj⊢;rcases hj with rfl|hj
  ·exact .inr (hL k hk)
  ·exact .inr (I.down j k hj hk)
 ·have hag':Env.agree (known res) J ρ':=hag.mono fun id h=> .inl h
  obtain⟨e1,e2⟩:=bw (ρ':=ρ') (K':=known res) I.defs.2 hag' fun _ h=>h
  exact⟨by rw[show(a.put o.dst x).defers=a.defers from put_defers _ _ _,I.defs.1];exact e1.symm,e2⟩
 ·exact I.agree.trans (hag.mono fun id h=> .inl h) fun _ h=>h
 ·intro j dj h1 h2;by_cases e:j=i
  ·simp_all
  ·exact I.newk j dj h1 (by simpa[ins,e]using h2)
theorem pg {p q:Nat->Bool} (h:∀k,p k=true->q k=true) {id:Nat} (hk:KL res drs p id):KL res drs q id:=by
 rcases hk with h1|⟨h1,j,y,h2,h3⟩
 ·exact .inl h1
 ·exact .inr ⟨h1,j,y,h2,h j h3⟩
theorem Ei {p:Nat->Bool} {i id:Nat} (hk:KL res (drs.take i) p id):KL res drs p id:=by
 rcases hk with h1|⟨h1,j,y,h2,h3⟩
 ·exact .inl h1
 ·exact .inr ⟨h1,j,y,(ot h2).2,h3⟩
theorem ia:(AV res drs L).length=res.length+lens drs:=by unfold AV;rw[e9,List.length_append,fQ]
theorem je {id:Nat} (h:id<res.length+lens drs):aa (AV res drs L) id=(bd L id 0 drs).getD (aa (res++cT L 0 drs) id):=by
 unfold AV;rw[iE _ _ _ _ _ (by rw[List.length_append,fQ];exact h)]
theorem wx {st:Bool} {hid:List (Nat×Nat)} (hpl:∀i d,drs[i]? =some d->∃o,opsA.toList[i]? =some o/\eK C opsA.toList ds sl res st hid (drs.take i) i o=some d) {s:Nat} {d:Dr} {u:Nat×ae} (hd:drs[s]? =some d) (hu:d.up=some u):
  ∃o,opsA.toList[s]? =some o/\uI sl.length o.dst=true/\pF C (bq (aj ds s) s 0 ds (nj (drs.take s)) sl) (vw ds hid res (drs.take s) s) o=some d:=by
 obtain⟨o,ho,hp⟩:=hpl s d hd;unfold eK at hp;split at hp
 case isFalse=>simp at hp
 rename_i hc;simp only[JR]at hc;rcases gW hp with h|h
 ·rw[nP h]at hu;simp at hu
 ·exact⟨o,ho,hc.2,h⟩
theorem gP (P:bz C opsA.toList ds sl res drs):∀(s:Nat) (d:Dr) (u:Nat×ae),drs[s]? =some d->d.up=some u->KL res drs (fun k=>(aj ds s).testBit k) u.1/\∃ty c,u.2= .blk ty c:=by
 obtain⟨st,hid,hpl,hhid⟩:=P.plan;intro s;induction s using Nat.strongRecOn with
 |_ s ih=>
  intro d u hd hu;obtain⟨o,ho,_,hp⟩:=wx hpl hd hu;obtain⟨p1,p2,p3,p4⟩:=P.at (i:=s) (o:=o) (by simpa using ho)
  obtain⟨t,p,x,id,off,y,ty,c,c',_,_,_,_,_,_,_,hr,_,rfl⟩:=j9 hp;simp only[JP]at hu;subst hu;refine⟨?_,ty,c',rfl⟩;have hk:known (vw ds hid res (drs.take s) s) id:=by unfold known;rw[hr];simp
  obtain⟨_,hk2,_⟩:=ib _ _ _ _ _ hk;have hlen:=ai hk2;rw[e9]at hlen;unfold known at hk2;rw[iE _ _ _ _ _ hlen]at hk2;cases hl:bd (Nat.testBit (aj ds s)) id 0 (drs.take s)with
  |some r=>
   obtain⟨k,d',h1,h2,h3⟩:=cZ _ _ hl;rw[List.getElem?_take]at h1;simp only[Nat.zero_add]at h3;have hks:=p2 k h3;rw[JY hks]at h1;exact pg (fun q hq=>p4 k q h3 hq) (ih k hks d' _ h1 h2).1
  |none=>
   rw[hl]at hk2;rw[kV]at hk2;exact Ei (gj hk2)
theorem vB (P:bz C opsA.toList ds sl res drs) (hdown:∀i k,L i=true->(aj ds i).testBit k=true->L k=true) {id:Nat} (hk:known (AV res drs L) id):KL res drs L id:=by
 have hlt:=ai hk;rw[ia]at hlt;unfold known at hk;rw[je hlt]at hk;cases hl:bd L id 0 drs with
 |some r=>
  obtain⟨k,d',h1,h2,h3⟩:=cZ _ _ hl;simp only[Nat.zero_add]at h3;exact pg (fun q hq=>hdown k q h3 hq) (gP P k d' _ h1 h2).1
 |none=>
  rw[hl]at hk;exact gj hk
theorem rA {hid:List (Nat×Nat)} (P:bz C opsA.toList ds sl res drs) (hhid:∀s d u,drs[s]? =some d->d.up=some u->(s,u.1)∈hid) {i:Nat} (hil:i<=drs.length) (hi:L i=false) (hL:∀k,(aj ds i).testBit k=true->L k=true)
  (hlt:∀k,(aj ds i).testBit k=true->k<i) (hdown:∀i k,L i=true->(aj ds i).testBit k=true->L k=true) {id:Nat} (hk:known (vw ds hid res (drs.take i) i) id):aa (vw ds hid res (drs.take i) i) id=aa (AV res drs L) id:=by
 obtain⟨h1,h2,h3⟩:=ib _ _ _ _ _ hk;have hlen:=ai h2;rw[e9]at hlen;unfold vw;rw[h1,iE _ _ _ _ _ hlen]
 have hlen2:id<res.length+lens drs:=by
  rw[kV,List.length_append,fQ]at hlen
  have:lens (drs.take i)<=lens drs:=by
   have:∀(l:List Dr) (n:Nat),lens (l.take n)<=lens l:=by
    intro l;induction l with
    |nil=>intro n;simp[lens]
    |cons d l ih=>
     intro n;cases n with
     |zero=>simp[lens]
     |succ n=>simp only[List.take_succ_cons,lens];have:=ih n;omega
   exact this drs i
  omega
 rw[je hlen2]
 have hup:bd (Nat.testBit (aj ds i)) id 0 (drs.take i)=bd L id 0 drs:=by
  grind[eI]
 rw[hup];cases hl:bd L id 0 drs with
 |some r=>rfl
 |none=>
  simp only[Option.getD_none];unfold known at h2;rw[iE _ _ _ _ _ hlen,hup,hl]at h2;rw[kV]at h2⊢;exact uW (fun k hk=>hL k hk) id h2
theorem tG (P:bz C opsA.toList ds sl res drs) (hdown:∀i k,L i=true->(aj ds i).testBit k=true->L k=true) {i:Nat} {d:Dr} (hd:drs[i]? =some d) (hi:L i=false) (hu:d.up=none) (hnew:∀k,k<d.new.length->aa d.new k≠ .yet):
  CL (AV res drs L) (AV res drs (ins L i)) (res.length+lens (drs.take i)) d.new/\
  (∀id,KL res drs L id->¬fresh (res.length+lens (drs.take i)) d.new.length id)/\
  (∀id,KL res drs L id\/fresh (res.length+lens (drs.take i)) d.new.length id->KL res drs (ins L i) id):=by
 obtain⟨⟨a1,a2,a3⟩,b,c⟩:=yy (res:=res) hd hi hnew
 have hup:∀id,bd (ins L i) id 0 drs=bd L id 0 drs:=fun id=>by
  have:=eI (p:=ins L i) (L:=L) (id:=id) drs 0 drs.length fun k d' u e1 e2 e3=>by
   grind[ins]
  rwa [List.take_length]at this
 have hnot:∀id,KL res drs L id->∀r,bd L id 0 drs=some r->r≠ .yet:=fun id _ r hr=>by
  obtain⟨k,d',h1,h2,_⟩:=cZ _ _ hr;obtain⟨_,ty,c,e⟩:=gP P k d' _ h1 h2;simp only at e;rw[e];simp
 refine⟨⟨fun id hk=>?_,fun id hk=>?_,fun k hk=>?_⟩,b,c⟩
 ·grind[vB,ai,ia,je,bd,known]
 ·grind[ai,ia,known,je,bd]
 ·have h3:=a3 k hk
  have hlt:res.length+lens (drs.take i)+k<res.length+lens drs:=by
   have:=iK drs drs.length i k ⟨d,hd,hk⟩ (List.getElem?_eq_some_iff.1 hd).1;rw[List.take_length]at this;omega
  rw[je hlt,hup];have hfr:fresh (res.length+lens (drs.take i)) d.new.length (res.length+lens (drs.take i)+k):=⟨by omega,by omega⟩
  cases hl:bd L (res.length+lens (drs.take i)+k) 0 drs with
  |none=>exact h3
  |some r=>
   exfalso
   obtain⟨s,d',h1,h2,h4⟩:=cZ _ _ hl;simp only[Nat.zero_add]at h4;exact b _ (pg (fun q hq=>hdown s q h4 hq) (gP P s d' _ h1 h2).1) hfr
theorem Bo (P:bz C opsA.toList ds sl res drs) {hid:List (Nat×Nat)} (hhid:∀s d u,drs[s]? =some d->d.up=some u->(s,u.1)∈hid) (hdown:∀i k,L i=true->(aj ds i).testBit k=true->L k=true) {i:Nat} {d:Dr} {id:Nat} {r:ae} (hd:drs[i]? =some d)
  (hi:L i=false) (hu:d.up=some (id,r)) (hn:d.new= []) (hk:known (vw ds hid res (drs.take i) i) id) (hlt:∀k,(aj ds i).testBit k=true->k<i) (hkn:known (AV res drs L) id):
  (∀x,known (AV res drs (ins L i)) x->aa (AV res drs (ins L i)) x=aa (aG (AV res drs L) id r) x)/\∀x,KL res drs L x↔KL res drs (ins L i) x:=by
 have hKL:∀x,KL res drs L x↔KL res drs (ins L i) x:=fun x=>by
  constructor
  ·exact pg fun k hk=>by simp[ins,hk]
  ·rintro(h|⟨h1,j,y,h2,h3⟩)
   ·exact .inl h
   ·refine .inr ⟨h1,j,y,h2,?_⟩
    have hj:j≠i:=fun e=>by
     simp_all[b7]
    simpa[ins,hj]using h3
 refine⟨fun x hx=>?_,hKL⟩
 have hxl:=ai hx;rw[ia]at hxl;have hidl:=ai hkn
 have hbase:aa (res++cT (ins L i) 0 drs) x=aa (res++cT L 0 drs) x:=by
  grind[dB,cN,b7,ins]
 rw[aA _ _ _ _ hidl,je hxl];by_cases e:x=id
 ·subst e;rw[JY rfl,n9 drs 0 i d hd hu (by simp[ins]) fun k d' u h1 h2 h3 h4=>?_]
  ·rfl
  ·simp only[Nat.zero_add,ins,Bool.or_eq_false_iff,beq_eq_false_iff_ne];refine⟨by omega,?_⟩
   cases hLk:L k with
   |false=>rfl
   |true=>
    exfalso
    obtain⟨_,_,h5⟩:=ib _ _ _ _ _ hk;have hm:=hhid k d' u h2 h3;rw[h4]at hm;rcases h5 k hm with rfl|h|h
    ·omega
    ·have:=hlt k h;omega
    ·rw[hdown k i hLk h]at hi;simp at hi
 ·rw[JX e,je hxl,hbase]
  have hup:bd (ins L i) x 0 drs=bd L x 0 drs:=by
   have:=eI (p:=ins L i) (L:=L) (id:=x) drs 0 drs.length fun k d' u e1 e2 e3=>by
    grind[ins]
   rwa [List.take_length]at this
  rw[hup]
theorem Inv.step {ops:Array Oper} {K:Act->World->Prop} {Q:Exit->Act->World->Prop} {ro:Option Nat} (hops:ops=opsA) (hnd:ro≠none->∀o∈opsA.toList,bp o) (hC:C.Sound) (P:bz C opsA.toList ds sl res drs) (hq:∀(i:Nat) (d:Dr),drs[i]? =some d->(d.g=true->aN d.q))
  (I:Inv ds sl res drs defs ρ0 w0 F0 L J fps a w) {i:Nat} {d:Dr} (hd:drs[i]? =some d)
  (hi:L i=false) (hL:∀k,(aj ds i).testBit k=true->L k=true)
  (hn:∀ρ' fps' a' w',Inv ds sl res drs defs ρ0 w0 F0 (ins L i) ρ' fps' a' w'->K a' w'):wpOpIn (FF C.P ro) 0 C.P ops Q i K a w:=by
 subst hops;obtain⟨st,hid,hpl,hhid⟩:=P.plan;obtain⟨o,ho,hp⟩:=hpl i d hd;have ho':ops[i]? =some o:=by simpa using ho
 obtain⟨p1,p2,p3,p4⟩:=P.at ho';have hilt:i<drs.length:=(List.getElem?_eq_some_iff.1 hd).1
 have hview:dG J (KL res drs L) (bq (aj ds i) i 0 ds (nj (drs.take i)) sl) a:=by
  refine P.view I (by omega) (fun k hk=>⟨hL k hk,p2 k hk⟩) p4 fun k m t h1 h2 h3=>?_
  rcases h3 with rfl|h3
  ·exact hi
  ·cases hLk:L k with
   |false=>rfl
   |true=>
    have hm:aj ds k=m:=by simp[aj,h1]
    have:=I.down k i hLk (by rw[hm];exact h3)
    rw[hi]at this;exact absurd this (by simp)
 have hres:an J fps (vw ds hid res (drs.take i) i) (KL res drs L) w0 F0 w:=I.heap.forget fun id hk=>rA P hhid (by omega) hi hL p2 I.down hk
 unfold wpOpIn;simp only[ho'];have hdo:ro≠none->bp o:=fun hr=>hnd hr o (by rw[<-Array.getElem?_toList]at ho';exact List.mem_of_getElem? ho')
 unfold eK at hp;split at hp
 ·rename_i hc;simp only[JR]at hc;rcases gW hp with hp|hp
  case inr=>
   obtain⟨t,px,x,id,off,y,ty,c,c',q1,q2,q3,q4,q5,q6,q7,q8,q9,rfl⟩:=j9 hp;rw[JY (by simp[Region.wanted,q3])]
   have hkv:known (vw ds hid res (drs.take i) i) id:=by unfold known;rw[q8];simp
   have hav:aa (AV res drs L) id= .blk ty c:=by rw[<-rA P hhid (by omega) hi hL p2 I.down hkv];exact q8
   have hkn:known (AV res drs L) id:=by unfold known;rw[hav];simp
   obtain⟨e1,e2⟩:=cB hview rfl q4;obtain⟨e3,e4⟩:=cB hview rfl q5
   have hst:iD C.P (AV res drs L) t (.lp id off) y=some (aG (AV res drs L) id (.blk ty c')):=by
    simp_all[iD]
   obtain⟨w',s1,s2,s3⟩:=kc I.heap hst e2 e4;have hrun:(execOp a.eval o).run C.P w= .ok .skip w':=by simp[execOp,q1,e1,e3,s1]
   refine bU hdo ?_;rw[hrun];obtain⟨t1,t2⟩:=Bo P hhid I.down hd hi rfl rfl hkv p2 hkn;have hH:an J fps (AV res drs (ins L i)) (KL res drs (ins L i)) w0 F0 w':=(s2.jj fun id h=>(t2 id).1 h).forget t1
   exact hn _ _ _ _ (I.put P ho' hd hc.2 hL (fun id h=>(t2 id).1 h) (Env.agree.refl _ _) hH (by simp[jP]) (by simp))
  have hun:=nP hp;unfold nE at hp
  have hsame:d.new= []->∀x,(∀ρ',ρ'=J->jP ρ' (KL res drs (ins L i)) x d)->Inv ds sl res drs defs ρ0 w0 F0 (ins L i) J fps (a.put o.dst x) w:=by
   intro hnew x hx;obtain⟨a1,a2,a3⟩:=tG P I.down hd hi hun (by rw[hnew];simp)
   obtain⟨fps',g1,g2⟩:=I.heap.grow (ρ':=J) a1 a2 a3 (by rw[hnew];exact fc.refl _ _ _ _ _ _)
   have hH:an J fps (AV res drs (ins L i)) (KL res drs (ins L i)) w0 F0 w:=by
    refine(I.heap.jj fun id h=>a3 id (.inl h)).forget fun id hk=>?_
    rcases a1.2.1 id hk with h|h
    ·exact(a1.1 id h).1
    ·unfold fresh at h;rw[hnew]at h;simp at h;omega
   exact I.put P ho' hd hc.2 hL (fun id h=>a3 id (.inl h)) (Env.agree.refl _ _) hH (hx J rfl) (by rw[hnew];simp)
  split at hp
  ·simp at hp
  ·rename_i hch;simp only[JP]at hp;rw[fK hview hch];simp only[oK,Bool.false_eq_true,if_false];refine⟨fun _ _=>trivial,?_⟩
   exact hn _ _ _ _ (hsame (by rw[<-hp]) undef fun ρ' _=>by subst hp;simp[jP])
  ·rename_i ch hch;rw[fK hview hch];rw[show oK (bq (aj ds i) i 0 ds (nj (drs.take i)) sl) (some ch)=fN (bq (aj ds i) i 0 ds (nj (drs.take i)) sl) ch from rfl];split at hp
   ·rename_i q x new hop
    have hcase:(fN (bq (aj ds i) i 0 ds (nj (drs.take i)) sl) ch=true/\aN q/\d.s= .v x/\d.new=new)\/∃c0 c1,ch=c0::c1/\new= []/\d= {s:= .gv (c0::c1) x,g:=fN (bq (aj ds i) i 0 ds (nj (drs.take i)) sl) (c0::c1),q:=q,new:= []}:=by
     cases ch with
     |nil=>
      simp only[JP]at hp;subst hp;exact .inl ⟨rfl,hq i _ hd rfl,rfl,rfl⟩
     |cons c0 c1=>
      simp only at hp;split at hp<;>simp only[JP]at hp
      ·rename_i hne;exact .inr ⟨c0,c1,rfl,by simpa using hne,hp.symm⟩
      ·subst hp;obtain⟨h1,h2⟩:=hq i _ hd rfl;exact .inl ⟨h1,h2,rfl,rfl⟩
    rcases hcase with⟨hgo,hq',hds,hdn⟩|⟨c0,c1,rfl,rfl,rfl⟩
    ·obtain rfl:=hdn;rw[JY hgo];refine bU hdo ?_
     have hnK:∀k,k<d.new.length->¬KL res drs L (res.length+lens (drs.take i)+k):=fun k hk h=>by
      have hfr:fresh (res.length+lens (drs.take i)) d.new.length (res.length+lens (drs.take i)+k):=⟨by omega,by omega⟩
      rcases h with h|⟨h1,j,y,h2,h3⟩
      ·have:=ai h;omega
      ·have h4:cN drs (res.length+lens (drs.take i)+k-res.length)=some (i,k):=by
        rw[b7];exact⟨⟨_,hd,hk⟩,by omega⟩
       rw[h4]at h2;simp only[JP,JQ]at h2;rw[<-h2.1,hi]at h3;simp at h3
     obtain⟨hy,hnew⟩:=fS hC hop hview hres hgo hq' hnK;refine hy.wp fun v w' ⟨ρ',hg,hv,hx⟩=>?_
     obtain⟨a1,a2,a3⟩:=tG P I.down hd hi hun hnew;obtain⟨fps',g1,g2⟩:=I.heap.grow a1 a2 a3 hg;exact hn _ _ _ _ (I.put P ho' hd hc.2 hL (fun id h=>a3 id (.inl h)) g2 g1 (by unfold jP;rw[hds];exact⟨hv,aU a3 _ hx⟩) hnew)
    ·by_cases hg:fN (bq (aj ds i) i 0 ds (nj (drs.take i)) sl) (c0::c1)=true
     ·rw[JY hg];refine bU hdo ?_;have hq':aN q:=hq i _ hd hg;obtain⟨hy,_⟩:=fS hC hop hview hres hg hq' (fun k hk=>by simp at hk)
      refine hy.wp fun v w' ⟨ρ',hgr,hv,hx⟩=>?_
      obtain⟨a1,a2,a3⟩:=tG P I.down hd hi hun (by simp)
      obtain⟨fps',g1,g2⟩:=I.heap.grow a1 a2 a3 hgr;refine hn _ _ _ _ (I.put P ho' hd hc.2 hL (fun id h=>a3 id (.inl h)) g2 g1 ⟨fun _=>⟨hv,aU a3 _ hx⟩,fun h=>?_⟩ (by simp))
      simp only at h;rw[hg]at h;simp at h
     ·rw[JX hg];refine⟨fun _ _=>trivial,?_⟩
      exact hn _ _ _ _ (hsame rfl undef fun ρ' _=>⟨fun h=>absurd h hg,fun _=>rfl⟩)
   ·simp at hp
 ·simp at hp
end
end Go.Sx
