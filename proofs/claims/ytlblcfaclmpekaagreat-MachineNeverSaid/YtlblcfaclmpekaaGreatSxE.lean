import Derived.Test.YtlblcfaclmpekaaGreatSxD
set_option linter.unusedSimpArgs false
set_option linter.unusedVariables false
namespace Go.Sx
open Go.RowKit (Below)
inductive Out where
 |norm
 |exit (i:Nat)
 |goto (l:Nat)
 |ret
 |pan (v:V)
def B4 (J:Env) (res:List aA):Exit->Out->Prop
 | .normal,.norm=>True
 | .exit i,.exit j=>i=j
 | .goto i,.goto j=>i=j
 | .ret,.ret=>True
 | .panic chain,.pan v=>chain= [{v:=den J v,recovered:=false}]/\ok (known res) v
 |_,_=>False
def fG (ρ0:Env) (res0:List aA) (w0:World) (F0:Nat->Prop) (K:Out->St->Prop):Exit->Act->World->Prop:=fun e a w=>
 ∃out U J fps,B4 J U.res e out/\K out U/\jN J fps U w0 F0 a w/\Good ρ0 res0 J U.res
theorem fG.E8 {ρ0:Env} {res0:List aA} {w0:World} {F0:Nat->Prop} {K:Out->St->Prop}:¬LetsOut (fG ρ0 res0 w0 F0 K):=by
 rintro⟨a,w,out,U,J,fps,h1,_⟩
 cases out<;>exact h1
theorem fG.mono {ρ0:Env} {res0:List aA} {w0:World} {F0:Nat->Prop} {K K':Out->St->Prop} {e:Exit} {a:Act} {w:World} (h:fG ρ0 res0 w0 F0 K e a w) (hK:∀o U,K o U->K' o U):
  fG ρ0 res0 w0 F0 K' e a w:=
 let ⟨o,U,J,fps,h1,h2,h3,h4⟩:=h
 ⟨o,U,J,fps,h1,hK _ _ h2,h3,h4⟩
def aG (ds:List (Option Nat×Nat)) (i:Nat):Nat:=
 match ds[i]? with
 |some p=>p.2
 |none=>0
def iB (ds:List (Option Nat×Nat)) (es:List Edge):Nat:=
 match es with
 | []=>0
 |e::l=>if Region.binds .any e then(2^e.on ||| aG ds e.on) ||| iB ds l else iB ds l
def PE:List Oper->List (Option Nat×Nat)->List (Option Nat×Nat)
 | [],acc=>acc
 |o::l,acc=>PE l (acc++ [(o.dst,iB acc o.after.toList)])
def Ik:Option Nat->Option Nat->Bool
 |some a,some b=> !(a==b)
 |_,_=>true
def qM:List (Option Nat×Nat)->Bool
 | []=>true
 |p::l=>l.all (fun q=>Ik p.1 q.1)&&qM l
def BT (ds:List (Option Nat×Nat)):Nat->List Oper->List (Option Nat×Nat)->Bool
 |i,o::l,d::m=>(match o.dst,d.1 with|none,none=>true|some a,some b=>a==b|_,_=>false)&&iB ds o.after.toList==d.2&&Nat.ble (d.2+1) (2^i)
  &&(List.range i).all (fun j=> !(Nat.testBit d.2 j)||((aG ds j ||| d.2)==d.2))&&BT ds (i+1) l m
 |_,[],[]=>true
 |_,_,_=>false
def dO (anc i:Nat):Nat->List (Option Nat×Nat)->List S->List S->List S
 |j,(some d,_)::ds,s::done,sl=>dO anc i (j+1) ds done (sset sl d (if Nat.testBit anc j then s else .und))
 |j,(some d,m)::ds,[],sl=>if j==i||Nat.testBit m i then dO anc i (j+1) ds [] sl else dO anc i (j+1) ds [] (sset sl d .und)
 |j,(none,_)::ds,done,sl=>dO anc i (j+1) ds done.tail sl
 |_,[],_,sl=>sl
structure Dr where
 s:S
 g:Bool
 q:Option Prop
 new:List aA
 up:Option (Nat×aA):=none
def vh:List aA->List aA
 | []=> []
 |_::l=> .yet::vh l
def gu (p:Nat->Bool):Nat->List Dr->List aA
 |_,[]=> []
 |j,d::l=>match d.new with
  | []=>gu p (j+1) l
  |r::n=>(if p j then r::n else .yet::vh n)++gu p (j+1) l
def lens:List Dr->Nat
 | []=>0
 |d::l=>d.new.length+lens l
def vj:List Dr->List S
 | []=> []
 |d::l=>d.s::vj l
def Fo (m:Nat):Option (Nat×Bool)->Bool
 |none=>true
 |some (j,_)=>Nat.testBit m j
def tC (C:Ctx) (ops:List Oper) (D:List S) (R:List aA) (nid:Nat) (o:Oper):Option Dr:=
 if Vn C.P D o then match qn D ops o.guard with
 |none=>none
 |some none=>some {s:= .ud,g:=false,q:=none,new:= []}
 |some (some ch)=>match Ay C D R nid ch o.op with
  |some (q,x,new)=>match ch with
   | []=>some {s:= .v x,g:=true,q:=q,new:=new}
   |c::ch=>if new.isEmpty then some {s:= .gv (c::ch) x,g:=lE D (c::ch),q:=q,new:= []}else none
  |none=>none
 else none
def Cv (n:Nat):Option Nat->Bool
 |none=>true
 |some d=>Nat.blt d n
def FU (p:Nat->Bool):Nat->List Dr->List aA->List aA
 |_,[],R=>R
 |j,d::l,R=>match d.up with
  |none=>FU p (j+1) l R
  |some u=>if p j then FU p (j+1) l (bD R u.1 u.2)else FU p (j+1) l R
def yt (ds:List (Option Nat×Nat)) (i:Nat):List (Nat×Nat)->List aA->List aA
 | [],R=>R
 |u::h,R=>if u.1==i||Nat.testBit (aG ds i) u.1||Nat.testBit (aG ds u.1) i then yt ds i h R else yt ds i h (bD R u.2 .yet)
def vw (ds:List (Option Nat×Nat)) (hid:List (Nat×Nat)) (res:List aA) (done:List Dr) (i:Nat):List aA:=
 yt ds i hid (FU (Nat.testBit (aG ds i)) 0 done (nf res (gu (Nat.testBit (aG ds i)) 0 done)))
def rY:Nat->List Dr->List (Nat×Nat)
 |_,[]=> []
 |j,d::l=>match d.up with
  |none=>rY (j+1) l
  |some u=>(j,u.1)::rY (j+1) l
def yp:List (Nat×Nat)->List (Nat×Nat)->Bool
 | [],[]=>true
 |a::l,b::m=>a.1==b.1&&a.2==b.2&&yp l m
 |_,_=>false
def wZ (C:Ctx) (D:List S) (R:List aA) (o:Oper):Option Dr:=
 match o.op with
 | .store t p x=>match o.dst with
   |none=>match o.guard with
    |none=>match ea D [] p with
     |some pv=>match pv with
      | .lp id off=>match ea D [] x with
        |some y=>if nh C.P t==some (dQ y)&& !bR y then match ar R id with
         | .blk ty c=>match setAt 8 c off y with
           |some c'=>some {s:= .und,g:=true,q:=none,new:= [],up:=some (id,.blk ty c')}
           |none=>none
         |_=>none
         else none
        |none=>none
      |_=>none
     |none=>none
    |some _=>none
   |some _=>none
 |_=>none
def tx (C:Ctx) (ops:List Oper) (st:Bool) (D:List S) (R:List aA) (nid:Nat) (o:Oper):Option Dr:=
 match tC C ops D R nid o with
 |some d=>some d
 |none=>if st then wZ C D R o else none
def jQ (C:Ctx) (ops:List Oper) (ds:List (Option Nat×Nat)) (sl:List S) (res:List aA) (st:Bool) (hid:List (Nat×Nat)) (done:List Dr) (i:Nat) (o:Oper):Option Dr:=
 if Fo (aG ds i) o.guard&&Cv sl.length o.dst then
  tx C ops st (dO (aG ds i) i 0 ds (vj done) sl) (vw ds hid res done i) (res.length+lens done) o
 else none
def lY (C:Ctx) (ops:List Oper) (ds:List (Option Nat×Nat)) (sl:List S) (res:List aA) (st:Bool) (hid:List (Nat×Nat)):Nat->List Oper->List Dr->List Dr×List Oper
 |_,[],done=>(done,[])
 |i,o::l,done=>match jQ C ops ds sl res st hid done i o with
  |some d=>lY C ops ds sl res st hid (i+1) l (done++ [d])
  |none=>(done,o::l)
def tR:List Dr->Prop->Prop
 | [],k=>k
 |d::l,k=>match d.s with
  | .gv _ _=>Q4 d.g d.q (tR l k)
  |_=>CL d.q (tR l k)
def jm (n:Nat):Nat:=2^n-1
def yM (C:Ctx) (ops:List Oper) (ds:List (Option Nat×Nat)) (sl:List S) (res:List aA) (st:Bool) (hid:List (Nat×Nat)):Nat->List Oper->List Dr->(List Dr->List Oper->Prop)->Prop
 |_,[],done,k=>k done []
 |i,o::l,done,k=>wb (dO (aG ds i) i 0 ds (vj done) sl) fun D=>
  match (if Fo (aG ds i) o.guard&&Cv sl.length o.dst then tx C ops st D (vw ds hid res done i) (res.length+lens done) o else none)with
  |some d=>yM C ops ds sl res st hid (i+1) l (done++ [d]) k
  |none=>k done (o::l)
theorem tv (C:Ctx) (ops:List Oper) (ds:List (Option Nat×Nat)) (sl:List S) (res:List aA) (st:Bool) (hid:List (Nat×Nat)):∀(l:List Oper) (i:Nat) (done:List Dr) (k:List Dr->List Oper->Prop),
  yM C ops ds sl res st hid i l done k=k (lY C ops ds sl res st hid i l done).1 (lY C ops ds sl res st hid i l done).2
 | [],_,_,_=>rfl
 |o::l,i,done,k=>by
  simp only[yM,lY,r7,jQ];split
  ·rename_i d hd;exact tv C ops ds sl res st hid l (i+1) (done++ [d]) k
  ·rename_i hd;rfl
def oK (C:Ctx) (H:Handler) (Y:cJ) (ops:List Oper):List Oper->St->(Out->St->Prop)->Prop
 | [],U,K=>k8 U.slots fun sl=>K .norm {U with slots:=sl}
 |o::l,U,K=>vV C H Y ops o U (fun σ'=>oK C H Y ops l σ' K) (fun v σ'=>K (.pan v) σ')
def nP (ds:List (Option Nat×Nat)):Nat->List Oper->Bool
 |_,[]=>true
 |i,_::l=>aG ds i==jm i&&nP ds (i+1) l
def Td (m n:Nat):Option Nat:=(List.range n).find? fun e=> !(Nat.testBit m e)&&(m ||| 2^e)==jm n
def sF (o:Operand) (d:Nat):Bool:=
 match o with
 | .tmp s=> !(s==d)
 |_=>true
def sb (ops:List Oper) (ds:List (Option Nat×Nat)) (n:Nat) (o:Oper) (l:List Oper):Bool:=
 match o.op with
 | .store _ p x=>match o.dst with
   |none=>match o.guard with
    |none=>match Td (aG ds n) n with
     |some e=>match ops[e]? with
      |some oe=>match oe.op with
       | .extract y _=>match oe.dst with
         |some d=>match oe.guard with
          |none=>sF p d&&sF x d&&sF y d&&nP ds (n+1) l
          |some _=>false
         |none=>false
       |_=>false
      |none=>false
     |none=>false
    |some _=>false
   |some _=>false
 |_=>false
def rU (o:Oper):Option Operand:=
 match o.op with
 | .move x=>some x
 | .assign x=>some x
 | .extract x _=>some x
 |_=>none
def pd (o:Oper):Bool:=
 match o.guard with
 |none=>match o.dst with
  |some _=>(rU o).isSome
  |none=>false
 |some _=>false
def apart (x y:Oper):Bool:=
 match rU x,x.dst,rU y,y.dst with
 |some sx,some dx,some sy,some dy=>sF sy dx&&sF sx dy&& !(dx==dy)
 |_,_,_,_=>false
def vt (ds:List (Option Nat×Nat)) (j:Nat) (x:Oper):Nat->List Oper->Bool
 |_,[]=>true
 |i,y::l=>(Nat.testBit (aG ds i) j||apart x y)&&vt ds j x (i+1) l
def wT (ds:List (Option Nat×Nat)) (n:Nat):Nat->List Oper->Bool
 |_,[]=>true
 |i,x::l=>pd x&&(aG ds i ||| jm (n+1))==aG ds i&&vt ds i x (i+1) l&&wT ds n (i+1) l
def wO (ds:List (Option Nat×Nat)) (n:Nat) (l:List Oper):Bool:=aG ds n==jm n&&wT ds n (n+1) l
def tz (res:List aA) (drs:List Dr):List aA:=FU (fun _=>true) 0 drs (nf res (gu (fun _=>true) 0 drs))
def Qb (ops:List Oper) (ds:List (Option Nat×Nat)) (n:Nat):List Oper->Bool
 | []=>true
 |o::l=>nP ds n (o::l)||sb ops ds n o l||wO ds n l
def vN (C:Ctx) (H:Handler) (Y:cJ) (ops:List Oper) (ds:List (Option Nat×Nat)) (U:St) (K:Out->St->Prop) (drs:List Dr) (rest:List Oper):Prop:=
 tR drs (match rest with
  | []=>wb (dO (jm drs.length) drs.length 0 ds (vj drs) (clean U.slots)) fun sl=>k8 sl fun sl=>K .norm {U with slots:=sl,res:=tz U.res drs}
  |o::l=>if nP ds drs.length (o::l)||sb ops ds drs.length o l||wO ds drs.length l then
    wb (dO (jm drs.length) drs.length 0 ds (vj drs) (clean U.slots)) fun sl=>oK C H Y ops (o::l) {U with slots:=sl,res:=tz U.res drs} K
   else False)
def Mm (C:Ctx) (H:Handler) (Y:cJ) (ops:List Oper) (ds:List (Option Nat×Nat)) (U:St) (K:Out->St->Prop) (alt:Prop):Prop:=
 if BT ds 0 ops ds&&qM ds then
  k8 U.slots fun sl=>yM C ops ds sl U.res false [] 0 ops [] fun drs rest=>
   if Qb ops ds drs.length rest then vN C H Y ops ds U K drs rest
   else yM C ops ds sl U.res true [] 0 ops [] fun drs1 _=>yM C ops ds sl U.res true (rY 0 drs1) 0 ops [] fun drs2 rest2=>
    if yp (rY 0 drs2) (rY 0 drs1)&&Qb ops ds drs2.length rest2 then vN C H Y ops ds U K drs2 rest2 else alt
 else False
def Lc (C:Ctx) (H:Handler) (Y:cJ) (ops:List Oper) (U:St) (K:Out->St->Prop) (alt:Prop):Prop:=Mm C H Y ops (PE ops []) U K alt
theorem lF {ds:List (Option Nat×Nat)} {k:Nat}:∀{es:List Edge},(iB ds es).testBit k=true↔ ∃e∈es,Region.binds .any e=true/\(e.on=k\/(aG ds e.on).testBit k=true)
 | []=>by simp[iB]
 |e::l=>by
  have ih:=lF (ds:=ds) (k:=k) (es:=l);simp only[iB,List.mem_cons,exists_eq_or_imp];split
  ·rename_i h;simp only[Nat.testBit_or,Bool.or_eq_true,ih,h,true_and,Nat.testBit_two_pow,Xp]
  ·rename_i h;simp[ih,h]
theorem iS (anc i:Nat):∀(ds:List (Option Nat×Nat)) (j:Nat) (done sl:List S),(dO anc i j ds done sl).length=sl.length
 | [],j,done,sl=>by simp[dO]
 | (none,m)::ds,j,done,sl=>by simp only[dO];exact iS anc i ds _ _ _
 | (some d,m)::ds,j,s::done,sl=>by simp only[dO];rw[iS anc i ds _ _ _,fT]
 | (some d,m)::ds,j,[],sl=>by
   simp only[dO];split
   ·exact iS anc i ds _ _ _
   ·rw[iS anc i ds _ _ _,fT]
theorem jC (anc i t:Nat):∀(ds:List (Option Nat×Nat)) (j:Nat) (done sl:List S),
  bC (dO anc i j ds done sl) t= .und\/
  (∃k m s,ds[k]? =some (some t,m)/\done[k]? =some s/\anc.testBit (j+k)=true/\bC (dO anc i j ds done sl) t=s)\/
  (bC (dO anc i j ds done sl) t=bC sl t/\∀k m,ds[k]? =some (some t,m)->done.length<=k/\(j+k=i\/m.testBit i=true))
 | [],j,done,sl=> .inr (.inr ⟨by simp[dO],by simp⟩)
 | (none,m)::ds,j,done,sl=>by
   simp only[dO];rcases jC anc i t ds (j+1) done.tail sl with h|⟨k,m',s,h1,h2,h3,h4⟩|⟨h1,h2⟩
   ·exact .inl h
   ·refine .inr (.inl ⟨k+1,m',s,by simpa using h1,?_,by rw[show j+(k+1)=j+1+k by omega];exact h3,h4⟩)
    cases done<;>first| (simp at h2;done)|simpa using h2
   ·refine .inr (.inr ⟨h1,fun k m' hk=>?_⟩)
    cases k with
    |zero=>simp at hk
    |succ k=>
     obtain⟨a,b⟩:=h2 k m' (by simpa using hk)
     refine⟨?_,by rw[show j+(k+1)=j+1+k by omega];exact b⟩
     cases done with
     |nil=>simp
     |cons x l=>simpa using a
 | (some d,m)::ds,j,s::done,sl=>by
   simp only[dO];rcases jC anc i t ds (j+1) done (sset sl d (if anc.testBit j=true then s else .und))with h|⟨k,m',s',h1,h2,h3,h4⟩|⟨h1,h2⟩
   ·exact .inl h
   ·exact .inr (.inl ⟨k+1,m',s',by simpa using h1,by simpa using h2,by rw[show j+(k+1)=j+1+k by omega];exact h3,h4⟩)
   ·rw[eX]at h1;by_cases e:t=d/\d<sl.length
    ·rw[Xv e]at h1;obtain⟨rfl,hd⟩:=e;by_cases hb:anc.testBit j=true
     ·rw[Xv hb]at h1;exact .inr (.inl ⟨0,m,s,by simp,by simp,by simpa using hb,by rw[Xv hb];exact h1⟩)
     ·rw[Xu hb]at h1;exact .inl (by rw[Xu hb];exact h1)
    ·rw[Xu e]at h1;by_cases e':t=d
     ·subst e';have hl:¬t<sl.length:=fun hh=>e ⟨rfl,hh⟩
      refine .inl ?_;rw[h1,jq,Xt,List.getElem?_eq_none (by omega)];rfl
     ·refine .inr (.inr ⟨h1,fun k m' hk=>?_⟩)
      cases k with
      |zero=>simp only[List.getElem?_cons_zero,Xm,Xn]at hk;exact absurd hk.1.symm e'
      |succ k=>
       obtain⟨a,b⟩:=h2 k m' (by simpa using hk)
       exact⟨by simpa using a,by rw[show j+(k+1)=j+1+k by omega];exact b⟩
 | (some d,m)::ds,j,[],sl=>by
   simp only[dO];split
   ·rename_i hc;rcases jC anc i t ds (j+1) [] sl with h|⟨k,m',s',h1,h2,h3,h4⟩|⟨h1,h2⟩
    ·exact .inl h
    ·simp at h2
    ·refine .inr (.inr ⟨h1,fun k m' hk=>⟨by simp,?_⟩⟩)
     cases k with
     |zero=>
      simp only[List.getElem?_cons_zero,Xm,Xn]at hk;obtain⟨_,rfl⟩:=hk;simpa using hc
     |succ k=>
      obtain⟨a,b⟩:=h2 k m' (by simpa using hk)
      rw[show j+(k+1)=j+1+k by omega];exact b
   ·rename_i hc;rcases jC anc i t ds (j+1) [] (sset sl d .und)with h|⟨k,m',s',h1,h2,h3,h4⟩|⟨h1,h2⟩
    ·exact .inl h
    ·simp at h2
    ·rw[eX]at h1;by_cases e:t=d/\d<sl.length
     ·rw[Xv e]at h1;exact .inl h1
     ·rw[Xu e]at h1;by_cases e':t=d
      ·subst e';have hl:¬t<sl.length:=fun hh=>e ⟨rfl,hh⟩
       refine .inl ?_;rw[h1,jq,Xt,List.getElem?_eq_none (by omega)];rfl
      ·refine .inr (.inr ⟨h1,fun k m' hk=>⟨by simp,?_⟩⟩)
       cases k with
       |zero=>simp only[List.getElem?_cons_zero,Xm,Xn]at hk;exact absurd hk.1.symm e'
       |succ k=>
        obtain⟨a,b⟩:=h2 k m' (by simpa using hk)
        rw[show j+(k+1)=j+1+k by omega];exact b
theorem wu {a b:Option Nat} (h:Ik a b=true) {t:Nat} (ha:a=some t) (hb:b=some t):False:=by
 subst ha;subst hb;simp[Ik]at h
theorem ny:∀{ds:List (Option Nat×Nat)},qM ds=true->∀{j k t m m':Nat},ds[j]? =some (some t,m)->ds[k]? =some (some t,m')->j=k
 | [],_,j,k,t,m,m',h,_=>by simp at h
 |p::l,hd,j,k,t,m,m',hj,hk=>by
  simp only[qM,Xo,List.all_eq_true]at hd;cases j with
  |zero=>
   cases k with
   |zero=>rfl
   |succ k=>
    simp only[List.getElem?_cons_zero,Xm]at hj;have:=hd.1 _ (List.mem_of_getElem? (by simpa using hk))
    exact(wu this (by rw[hj]) rfl).elim
  |succ j=>
   cases k with
   |zero=>
    simp only[List.getElem?_cons_zero,Xm]at hk;have:=hd.1 _ (List.mem_of_getElem? (by simpa using hj))
    exact(wu this (by rw[hk]) rfl).elim
   |succ k=>exact congrArg (· +1) (ny hd.2 (t:=t) (m:=m) (m':=m') (by simpa using hj) (by simpa using hk))
theorem sM {anc i t:Nat}:∀{ds:List (Option Nat×Nat)} (_:qM ds=true) {j:Nat} {done sl:List S} {k m:Nat} {s:S},ds[k]? =some (some t,m)->done[k]? =some s->anc.testBit (j+k)=true->
  t<sl.length->bC (dO anc i j ds done sl) t=s
 | (none,m0)::ds,hd,j,done,sl,k,m,s,h1,h2,h3,ht=>by
   simp only[qM,Xo]at hd;cases k with
   |zero=>simp at h1
   |succ k=>
    simp only[dO];refine sM hd.2 (k:=k) (by simpa using h1) ?_ (by rw[show j+1+k=j+(k+1) by omega];exact h3) ht
    cases done<;>first| (simp at h2;done)|simpa using h2
 | (some d,m0)::ds,hd,j,[],sl,k,m,s,h1,h2,h3,ht=>by simp at h2
 | (some d,m0)::ds,hd,j,x::done,sl,k,m,s,h1,h2,h3,ht=>by
   have hd':=hd;simp only[qM,Xo]at hd;cases k with
   |succ k=>
    simp only[dO];exact sM hd.2 (k:=k) (by simpa using h1) (by simpa using h2) (by rw[show j+1+k=j+(k+1) by omega];exact h3) (by rw[fT];exact ht)
   |zero=>
    simp only[List.getElem?_cons_zero,Xm,Xn]at h1 h2;obtain⟨rfl,rfl⟩:=h1;subst h2;simp only[dO];simp only[Nat.add_zero]at h3
    have hno:∀(k m':Nat),ds[k]? =some (some d,m')->False:=fun k m' hk=>by
     have:=ny hd' (j:=0) (k:=k+1) (t:=d) (m:=m0) (m':=m') (by simp) (by simpa using hk)
     omega
    have key:∀(ds:List (Option Nat×Nat)) (j:Nat) (done sl:List S),(∀(k m':Nat),ds[k]? =some (some d,m')->False)->bC (dO anc i j ds done sl) d=bC sl d:=by
     intro ds;induction ds with
     |nil=>intro j done sl _;simp[dO]
     |cons p ds ih=>
      intro j done sl hn;have hn':∀(k m':Nat),ds[k]? =some (some d,m')->False:=fun k m' hk=>hn (k+1) m' (by simpa using hk)
      obtain⟨a,b⟩:=p;cases a with
      |none=>simp only[dO];exact ih _ _ _ hn'
      |some e=>
       have hne:d≠e:=fun he=>hn 0 b (by simp[he])
       have hss:∀(sl:List S) (y:S),bC (sset sl e y) d=bC sl d:=fun sl y=>by rw[eX,Xu fun h=>hne h.1]
       cases done with
       |nil=>
        simp only[dO];split
        ·exact ih _ _ _ hn'
        ·rw[ih _ _ _ hn',hss]
       |cons y done=>simp only[dO];rw[ih _ _ _ hn',hss]
    rw[key _ _ _ _ hno,eX,Xv ⟨rfl,ht⟩,Xv h3]
 | [],_,j,done,sl,k,m,s,h1,h2,h3,ht=>by simp at h1
theorem yy {anc i t:Nat} {ds:List (Option Nat×Nat)} {j:Nat} {done sl:List S} (ht:¬t<sl.length):bC (dO anc i j ds done sl) t= .und:=by
 rw[jq,Xt,List.getElem?_eq_none (by rw[iS];omega)];rfl
def fL:List Dr->Nat->Option (Nat×Nat)
 | [],_=>none
 |d::l,x=>if x<d.new.length then some (0,x)else(fL l (x-d.new.length)).map fun p=>(p.1+1,p.2)
theorem pk:∀l,(vh l).length=l.length
 | []=>rfl
 |_::l=>by simp[vh,pk l]
theorem yO:∀(l:List aA) (x:Nat),ar (vh l) x= .yet
 | [],x=>by simp[vh,ar]
 |_::l,0=>by simp[vh,ar]
 |_::l,x+1=>by simp[vh,ar,yO l x]
theorem oC (p:Nat->Bool) (j:Nat) (d:Dr) (l:List Dr):gu p j (d::l)=(if p j then d.new else vh d.new)++gu p (j+1) l:=by
 simp only[gu];cases h:d.new with
 |nil=>simp[vh]
 |cons r n=>simp[vh]
theorem yK (p:Nat->Bool):∀(l:List Dr) (j x:Nat),ar (gu p j l) x=match fL l x with
  |some (k,y)=>if p (j+k)then(match l[k]? with|some d=>ar d.new y|none=> .yet)else .yet
  |none=> .yet
 | [],j,x=>by simp[gu,fL,ar]
 |d::l,j,x=>by
  rw[oC,bM];have hlen:(if p j=true then d.new else vh d.new).length=d.new.length:=by split<;>simp[pk]
  rw[hlen];simp only[fL];split
  ·simp only[Nat.add_zero,List.getElem?_cons_zero];split<;>simp[yO]
  ·rw[yK p l (j+1) (x-d.new.length)];cases hl:fL l (x-d.new.length)with
   |none=>simp
   |some q=>
    obtain⟨k,y⟩:=q;simp only[Option.map_some,List.getElem?_cons_succ];rw[show j+1+k=j+(k+1) by omega]
theorem lG (p:Nat->Bool):∀(l:List Dr) (j:Nat),(gu p j l).length=lens l
 | [],j=>by simp[gu,lens]
 |d::l,j=>by
  rw[oC,List.length_append,lG p l,lens];split<;>simp[pk]
theorem fm:∀(l:List Dr) (x k y:Nat),fL l x=some (k,y)↔(∃d,l[k]? =some d/\y<d.new.length)/\x=lens (l.take k)+y
 | [],x,k,y=>by simp[fL]
 |d::l,x,k,y=>by
  simp only[fL];cases k with
  |zero=>
   simp only[List.getElem?_cons_zero,Xm,exists_eq_left',List.take_zero,lens,Nat.zero_add];split
   ·simp only[Xm,Xn,true_and];exact⟨fun h=>⟨by omega,h⟩,fun h=>h.2⟩
   ·rename_i hx;constructor
    ·intro h;cases hl:fL l (x-d.new.length)<;>simp[hl]at h
    ·intro h;omega
  |succ k=>
   simp only[List.getElem?_cons_succ,List.take_succ_cons,lens];split
   ·rename_i hx;simp only[Xm,Xn];constructor
    ·intro h;omega
    ·rintro⟨_,h⟩;omega
   ·rename_i hx;have ih:=fm l (x-d.new.length) k y;constructor
    ·intro h;cases hl:fL l (x-d.new.length)with
     |none=>simp[hl]at h
     |some q=>
      obtain⟨a,b⟩:=q;simp only[hl,Option.map_some,Xm,Xn]at h;have:fL l (x-d.new.length)=some (k,y):=by rw[hl];simp;omega
      obtain⟨g1,g2⟩:=ih.1 this;exact⟨g1,by omega⟩
    ·rintro⟨g1,g2⟩
     rw[ih.2 ⟨g1,by omega⟩];rfl
end Go.Sx
namespace Go.Sx
open Go.RowKit (Below)
theorem ug {ds:List (Option Nat×Nat)}:∀{ops:List Oper} {i0:Nat} {dd:List (Option Nat×Nat)},BT ds i0 ops dd=true->ops.length=dd.length/\∀(i:Nat) (o:Oper),ops[i]? =some o->
  ∃m,dd[i]? =some (o.dst,m)/\iB ds o.after.toList=m/\m<2^(i0+i)/\∀j,m.testBit j=true->(aG ds j ||| m)=m
 | [],i0,[],_=>⟨rfl,by simp⟩
 | [],_,_::_,h=>by simp[BT]at h
 |_::_,_,[],h=>by simp[BT]at h
 |o::l,i0,d::dd,h=>by
  simp only[BT,Xo,Xq,List.all_eq_true,List.mem_range,Bool.or_eq_true,Bool.not_eq_true',Nat.ble_eq]at h;obtain⟨⟨⟨⟨h1,h2⟩,h3⟩,h4⟩,h5⟩:=h;obtain⟨i1,i2⟩:=ug h5;refine⟨by simp[i1],fun i p hp=>?_⟩
  cases i with
  |zero=>
   simp only[List.getElem?_cons_zero,Xm]at hp;subst hp;refine⟨d.2,?_,h2,by rw[Nat.add_zero];exact h3,fun j hj=>?_⟩
   ·obtain⟨d1,d2⟩:=d;simp only[List.getElem?_cons_zero,Xm,Xn,and_true];simp only at h1;split at h1<;>simp_all
   ·have hlt:j<i0:=by
     rcases Nat.lt_or_ge j i0 with h|h
     ·exact h
     ·have:=Nat.testBit_lt_two_pow (x:=d.2) (i:=j) (Nat.lt_of_lt_of_le (by omega) (Nat.pow_le_pow_right (by omega) h))
      rw[this]at hj;simp at hj
    rcases h4 j hlt with h|h
    ·rw[h]at hj;simp at hj
    ·exact h
  |succ i=>
   obtain⟨m,a,b,c,e⟩:=i2 i p (by simpa using hp)
   exact⟨m,by simpa using a,b,by rw[show i0+(i+1)=i0+1+i by omega];exact c,e⟩
structure dN (C:Ctx) (ops:List Oper) (ds:List (Option Nat×Nat)) (sl:List S) (res:List aA) (drs:List Dr):Prop where
 okk:BT ds 0 ops ds=true
 dst:qM ds=true
 cl:∀t,(∃x,bC sl t= .v x)\/bC sl t= .und
 plan:∃st hid,(∀i d,drs[i]? =some d->∃o,ops[i]? =some o/\jQ C ops ds sl res st hid (drs.take i) i o=some d)/\∀s d u,drs[s]? =some d->d.up=some u->(s,u.1)∈hid
theorem p6 {C:Ctx} {D:List S} {R:List aA} {o:Oper} {d:Dr} (h:wZ C D R o=some d):∃t p x id off y ty c c',o.op= .store t p x/\o.dst=none/\o.guard=none/\ea D [] p=some (.lp id off)/\ea D [] x=some y/\
  nh C.P t=some (dQ y)/\bR y=false/\ar R id= .blk ty c/\setAt 8 c off y=some c'/\d= {s:= .und,g:=true,q:=none,new:= [],up:=some (id,.blk ty c')}:=by
 unfold wZ at h;split at h
 case h_2=>simp at h
 rename_i t p x hop;split at h
 case h_2=>simp at h
 rename_i hd;split at h
 case h_2=>simp at h
 rename_i hg;split at h
 case h_2=>simp at h
 rename_i pv hp;split at h
 case h_2=>simp at h
 rename_i id off;split at h
 case h_2=>simp at h
 rename_i y hy;split at h
 case isFalse=>simp at h
 rename_i hc;simp only[Xo,Xq,Bool.not_eq_true']at hc;split at h
 case h_2=>simp at h
 rename_i ty c hr;split at h
 case h_2=>simp at h
 rename_i c' hs;simp only[Xm]at h;exact⟨t,p,x,id,off,y,ty,c,c',hop,hd,hg,hp,hy,hc.1,hc.2,hr,hs,h.symm⟩
theorem nc {C:Ctx} {ops:List Oper} {st:Bool} {D:List S} {R:List aA} {nid:Nat} {o:Oper} {d:Dr} (h:tx C ops st D R nid o=some d):tC C ops D R nid o=some d\/wZ C D R o=some d:=by
 unfold tx at h;split at h
 ·rename_i d' hd;rw[hd];exact .inl h
 ·split at h
  ·exact .inr h
  ·simp at h
theorem tD {C:Ctx} {ops:List Oper} {D:List S} {R:List aA} {nid:Nat} {o:Oper} {d:Dr} (h:tC C ops D R nid o=some d):d.up=none:=by
 unfold tC at h;split at h
 case isFalse=>simp at h
 split at h
 ·simp at h
 ·simp only[Xm]at h;subst h;rfl
 ·split at h
  ·split at h
   ·simp only[Xm]at h;subst h;rfl
   ·split at h
    ·simp only[Xm]at h;subst h;rfl
    ·simp at h
  ·simp at h
theorem tc:∀(l:List Dr) (i:Nat),(vj l)[i]? =(l[i]?).map Dr.s
 | [],i=>by simp[vj]
 |d::l,0=>by simp[vj]
 |d::l,i+1=>by simp[vj,tc l i]
theorem DT (l:List Dr):(vj l).length=l.length:=by
 induction l with
 |nil=>rfl
 |cons d l ih=>simp[vj,ih]
theorem ym {sl sl':List S}:∀{ch:List (Nat×Bool)},(∀p∈ch,bC sl p.1=bC sl' p.1)->lE sl ch=lE sl' ch
 | [],_=>rfl
 | (s,w)::c,h=>by
   rw[gX,gX,h (s,w) (by simp),ym fun p hp=>h p (by simp[hp])]
section
variable {C:Ctx} {opsA:Array Oper} {ds:List (Option Nat×Nat)} {sl:List S} {res:List aA} {drs:List Dr}
theorem dN.at (P:dN C opsA.toList ds sl res drs) {i:Nat} {o:Oper} (h:opsA[i]? =some o):
  ds[i]? =some (o.dst,aG ds i)/\(∀k,(aG ds i).testBit k=true->k<i)/\
  (∀k,(aG ds i).testBit k=true↔ ∃e∈o.after,Region.binds .any e=true/\(e.on=k\/(aG ds e.on).testBit k=true))/\
  ∀k r,(aG ds i).testBit k=true->(aG ds k).testBit r=true->(aG ds i).testBit r=true:=by
 obtain⟨m,h1,h2,h3,h4⟩:=(ug P.okk).2 i o (by simpa using h)
 have hm:aG ds i=m:=by simp[aG,h1]
 rw[hm];refine⟨h1,fun k hk=>?_,fun k=>?_,fun k r hk hr=>?_⟩
 ·rcases Nat.lt_or_ge k i with h|h
  ·exact h
  ·have:=Nat.testBit_lt_two_pow (x:=m) (i:=k) (Nat.lt_of_lt_of_le h3 (Nat.pow_le_pow_right (by omega) (by omega)))
   rw[this]at hk;simp at hk
 ·rw[<-h2,lF];simp only[Array.mem_toList_iff]
 ·rw[<-h4 k hk,Nat.testBit_or,hr];rfl
def WI (opsA:Array Oper) (ds:List (Option Nat×Nat)):Prop:=∀i o,opsA[i]? =some o->(∀k,(aG ds i).testBit k=true->k<i)/\
    (∀k,(aG ds i).testBit k=true->∃e∈o.after,Region.binds .any e=true/\(e.on=k\/(aG ds e.on).testBit k=true))/\∀e∈o.after,Region.binds .any e=true->e.on<i
theorem dN.VX (P:dN C opsA.toList ds sl res drs):WI opsA ds:=fun i o h=>by
 obtain⟨_,p2,p3,_⟩:=P.at h;exact⟨p2,fun k hk=>(p3 k).1 hk,fun e he hb=>p2 _ ((p3 e.on).2 ⟨e,he,hb,.inl rfl⟩)⟩
theorem dN.len (P:dN C opsA.toList ds sl res drs):ds.length=opsA.size:=by
 have:=(ug P.okk).1;simpa using this.symm
def VW (ds:List (Option Nat×Nat)) (sl:List S) (drs:List Dr) (i:Nat):List S:=dO (aG ds i) i 0 ds (vj (drs.take i)) sl
def Ud (ds:List (Option Nat×Nat)) (m:Nat) (ch:List (Nat×Bool)):Prop:=∀p∈ch,∃k m',m.testBit k=true/\ds[k]? =some (some p.1,m')
theorem dN.chain (P:dN C opsA.toList ds sl res drs):∀(i:Nat) (d:Dr),drs[i]? =some d->∀ch x,d.s= .gv ch x->d.g=lE (VW ds sl drs i) ch/\Ud ds (aG ds i) ch:=by
 intro i;induction i using Nat.strongRecOn with
 |_ i ih=>
  intro d hd ch x hs;obtain⟨st,hid,hpl,_⟩:=P.plan;obtain⟨o,ho,hp⟩:=hpl i d hd;obtain⟨p1,p2,p3,p4⟩:=P.at (i:=i) (o:=o) (by simpa using ho)
  unfold jQ at hp;split at hp
  ·rename_i hc;simp only[Xo]at hc;rcases nc hp with hp|hp
   case inr=>
    obtain⟨_,_,_,_,_,_,_,_,_,_,_,_,_,_,_,_,_,_,rfl⟩:=p6 hp;simp at hs
   unfold tC at hp;split at hp
   case isFalse=>simp at hp
   split at hp
   ·simp at hp
   ·simp only[Xm]at hp;subst hp;simp at hs
   ·rename_i ch' hch;split at hp
    ·rename_i q y new hop;cases ch' with
     |nil=>simp only[Xm]at hp;subst hp;simp at hs
     |cons c0 c1=>
      simp only at hp;split at hp
      ·simp only[Xm]at hp;subst hp;simp only[S.gv.injEq]at hs;obtain⟨rfl,rfl⟩:=hs;refine⟨rfl,?_⟩;unfold qn at hch;split at hch
       ·simp at hch
       ·rename_i j w hg;split at hch
        ·simp at hch
        ·rename_i s hsd;have hjb:(aG ds i).testBit j=true:=by have:=hc.1;rw[hg]at this;exact this
         have hj:∃m',ds[j]? =some (some s,m'):=by
          cases hoj:opsA.toList[j]? with
          |none=>simp[hoj]at hsd
          |some oj=>
           simp only[hoj,Option.bind_some]at hsd;have:=(P.at (i:=j) (o:=oj) (by simpa using hoj)).1
           rw[hsd]at this;exact⟨_,this⟩
         have hsub:∀c y,bC (dO (aG ds i) i 0 ds (vj (drs.take i)) sl) s= .gv c y->Ud ds (aG ds i) c:=by
          intro c y hy;rcases jC (aG ds i) i s ds 0 (vj (drs.take i)) sl with h|⟨k,m',s',h1,h2,h3,h4⟩|⟨h1,h2⟩
          ·rw[h]at hy;simp at hy
          ·rw[h4]at hy;simp only[Nat.zero_add]at h3;have hki:=p2 k h3;rw[tc,List.getElem?_take,Xv hki]at h2;cases hdk:drs[k]? with
           |none=>simp[hdk]at h2
           |some dk=>
            simp only[hdk,Option.map_some,Xm]at h2;obtain⟨_,g2⟩:=ih k hki dk hdk c y (by rw[h2];exact hy)
            exact fun p hp=>let ⟨r,m'',e1,e2⟩:=g2 p hp;⟨r,m'',p4 k r h3 e1,e2⟩
          ·rw[h1]at hy;rcases P.cl s with⟨z,hz⟩|hz<;>rw[hz]at hy<;>simp at hy
         have hhead:∃(k m':Nat),(aG ds i).testBit k=true/\ds[k]? =some (some s,m'):=let ⟨m',h⟩:=hj;⟨j,m',hjb,h⟩;clear hop;split at hch<;>(try split at hch)<;>simp only[Xm,reduceCtorEq,List.cons.injEq]at hch
         ·obtain⟨rfl,rfl⟩:=hch;intro p hp;simp only[List.mem_singleton]at hp;subst hp;exact hhead
         ·rename_i c b hv;obtain⟨rfl,rfl⟩:=hch;intro p hp;rcases List.mem_cons.1 hp with rfl|hp
          ·exact hhead
          ·exact hsub _ _ hv p hp
         ·rename_i c b hv _;subst hch;exact hsub _ _ hv
      ·simp at hp
    ·simp at hp
  ·simp at hp
theorem dN.Kn (P:dN C opsA.toList ds sl res drs) {k:Nat} {d:Dr} (hd:drs[k]? =some d) {ch:List (Nat×Bool)} {x:V} (hs:d.s= .gv ch x) {anc i:Nat} (hi:k<i)
  (hsub:∀r,(aG ds k).testBit r=true->anc.testBit r=true):lE (dO anc i 0 ds (vj (drs.take i)) sl) ch=d.g:=by
 obtain⟨h1,h2⟩:=P.chain k d hd ch x hs;rw[h1];obtain⟨st,hid,hpl,_⟩:=P.plan;obtain⟨o,ho,_⟩:=hpl k d hd;obtain⟨p1,p2,p3,p4⟩:=P.at (i:=k) (o:=o) (by simpa using ho)
 have hklt:k<drs.length:=(List.getElem?_eq_some_iff.1 hd).1;refine ym fun p hp=>?_
 obtain⟨r,m',e1,e2⟩:=h2 p hp;have hr:=p2 r e1;by_cases ht:p.1<sl.length
 ·have hdr:drs[r]? =some (drs[r]'(by omega)):=List.getElem?_eq_getElem (by omega)
  rw[sM P.dst (k:=r) e2 (s:=(drs[r]'(by omega)).s) (by rw[tc,List.getElem?_take,Xv (by omega),hdr];rfl) (by simpa using hsub r e1) ht]
  unfold VW;rw[sM P.dst (k:=r) e2 (s:=(drs[r]'(by omega)).s) (by rw[tc,List.getElem?_take,Xv hr,hdr];rfl) (by simpa using e1) ht]
 ·rw[yy ht];unfold VW;rw[yy ht]
def qV (J:Env) (K:Nat->Prop) (x:Value) (d:Dr):Prop:=
 match d.s with
 | .und=>True
 | .ud=>x=undef
 | .v y=>x=den J y/\ok K y
 | .gv _ y=>(d.g=true->x=den J y/\ok K y)/\(d.g=false->x=undef)
theorem qV.env {J ρ':Env} {K K':Nat->Prop} {x:Value} {d:Dr} (h:qV J K x d) (hK:∀i,K i->K' i) (ha:Env.aZ K J ρ'):qV ρ' K' x d:=by
 unfold qV at h⊢;split
 ·trivial
 ·rename_i hs;rw[hs]at h;exact h
 ·rename_i y hs;rw[hs]at h;exact⟨by rw[eI ha y h.2];exact h.1,cN hK y h.2⟩
 ·rename_i c y hs;rw[hs]at h;exact⟨fun hg=>⟨by rw[eI ha y (h.1 hg).2];exact(h.1 hg).1,cN hK y (h.1 hg).2⟩,h.2⟩
def AV (res:List aA) (drs:List Dr) (L:Nat->Bool):List aA:=FU L 0 drs (res++gu L 0 drs)
def KL (res:List aA) (drs:List Dr) (L:Nat->Bool) (id:Nat):Prop:=known res id\/(res.length<=id/\∃j y,fL drs (id-res.length)=some (j,y)/\L j=true)
structure Inv (ds:List (Option Nat×Nat)) (sl:List S) (res:List aA) (drs:List Dr) (defs:List (Nat×List V×List V)) (ρ0:Env) (w0:World) (F0:Nat->Prop) (L:Nat->Bool) (J:Env) (fps:Nat->Nat->Prop) (a:Act) (w:World):Prop where
 size:a.tmps.size=sl.length
 done:∀t j m d,ds[j]? =some (some t,m)->drs[j]? =some d->L j=true->qV J (KL res drs L) (a.tmps.getD t undef) d
 todo:∀t,(∀j m,ds[j]? =some (some t,m)->L j=false)->fJ J (KL res drs L) [] (a.tmps.getD t undef) (bC sl t)
 heap:aW J fps (AV res drs L) (KL res drs L) w0 F0 w
 down:∀i k,L i=true->(aG ds i).testBit k=true->L k=true
 defs:a.defers=defs.flatMap (ka J)/\∀d∈defs,eM (known res) d.2.1/\eM (known res) d.2.2
 aZ:Env.aZ (known res) ρ0 J
 newk:∀j d,drs[j]? =some d->L j=true->∀y,y<d.new.length->ar d.new y≠ .yet
theorem fJ.plain {J:Env} {K:Nat->Prop} {sl sl':List S} {x:Value} {s:S} (hs:(∃y,s= .v y)\/s= .und) (h:fJ J K sl x s):fJ J K sl' x s:=by
 rcases hs with⟨y,rfl⟩|rfl
 ·exact h
 ·trivial
theorem dN.view {defs:List (Nat×List V×List V)} {ρ0 J:Env} {w0 w:World} {F0:Nat->Prop} {L:Nat->Bool} {fps:Nat->Nat->Prop} {a:Act} (P:dN C opsA.toList ds sl res drs) (I:Inv ds sl res drs defs ρ0 w0 F0 L J fps a w)
  {anc i:Nat} (h0:i<=drs.length) (h1:∀k,anc.testBit k=true->L k=true/\k<i) (h2:∀k r,anc.testBit k=true->(aG ds k).testBit r=true->anc.testBit r=true)
  (h3:∀k m t,ds[k]? =some (some t,m)->i<=k->(k=i\/m.testBit i=true)->L k=false):gV J (KL res drs L) (dO anc i 0 ds (vj (drs.take i)) sl) a:=by
 refine⟨by rw[iS];exact I.size,fun t=>?_⟩
 rcases jC anc i t ds 0 (vj (drs.take i)) sl with h|⟨k,m',s',e1,e2,e3,e4⟩|⟨e1,e2⟩
 ·rw[h];trivial
 ·simp only[Nat.zero_add]at e3;obtain⟨l1,l2⟩:=h1 k e3;rw[tc,List.getElem?_take,Xv l2]at e2;cases hdk:drs[k]? with
  |none=>simp[hdk]at e2
  |some dk=>
   simp only[hdk,Option.map_some,Xm]at e2;have hG:=I.done t k m' dk e1 hdk l1;rw[e4,<-e2];unfold qV at hG;cases hds:dk.s with
   |und=>trivial
   |ud=>rw[hds]at hG;exact hG
   |v y=>rw[hds]at hG;exact hG
   |gv c y=>
    rw[hds]at hG;have:=P.Kn hdk hds (anc:=anc) (i:=i) l2 (fun r hr=>h2 k r e3 hr)
    exact⟨fun hg=>hG.1 (by rw[<-this];exact hg),fun hg=>hG.2 (by rw[<-this];exact hg)⟩
 ·rw[e1];refine fJ.plain (P.cl t) (I.todo t fun j m hj=>?_)
  obtain⟨f1,f2⟩:=e2 j m hj;rw[DT,List.length_take,Nat.min_eq_left h0]at f1;exact h3 j m t hj f1 (by simpa using f2)
end
end Go.Sx
namespace Go.Sx
open Go.RowKit (Below)
theorem ot:∀(l:List Dr) (i k y:Nat),(∃d,l[k]? =some d/\y<d.new.length)->k<i->lens (l.take k)+y<lens (l.take i)
 | [],i,k,y,h,_=>by obtain⟨d,h,_⟩:=h;simp at h
 |d::l,0,k,y,_,h=>by omega
 |d::l,i+1,0,y,h,_=>by
  obtain⟨d',h1,h2⟩:=h;simp only[List.getElem?_cons_zero,Xm]at h1;subst h1;simp only[List.take_zero,lens,List.take_succ_cons];omega
 |d::l,i+1,k+1,y,h,hk=>by
  have:=ot l i k y (by simpa using h) (by omega)
  simp only[List.take_succ_cons,lens];omega
theorem uI {l:List Dr} {i x k y:Nat} (h:fL (l.take i) x=some (k,y)):k<i/\fL l x=some (k,y):=by
 rw[fm]at h⊢;obtain⟨⟨d,h1,h2⟩,h3⟩:=h;rw[List.getElem?_take]at h1;by_cases hk:k<i
 ·rw[Xv hk]at h1;rw[List.take_take,Nat.min_eq_left (by omega)]at h3
  exact⟨hk,⟨d,h1,h2⟩,h3⟩
 ·rw[Xu hk]at h1;simp at h1
theorem fN (res:List aA) (drs:List Dr) (p:Nat->Bool) (id:Nat):ar (res++gu p 0 drs) id=if id<res.length then ar res id else
  match fL drs (id-res.length)with
  |some (k,y)=>if p k then(match drs[k]? with|some d=>ar d.new y|none=> .yet)else .yet
  |none=> .yet:=by
 rw[bM];split
 ·rfl
 ·rw[yK];simp only[Nat.zero_add];all_goals(cases fL drs (id-res.length)<;>rfl)
theorem lQ {res:List aA} {drs:List Dr} {p:Nat->Bool} {id:Nat} (h:known (res++gu p 0 drs) id):KL res drs p id:=by
 unfold known at h;rw[fN]at h;by_cases hlt:id<res.length
 ·rw[Xv hlt]at h;exact .inl h
 ·rw[Xu hlt]at h;refine .inr ⟨by omega,?_⟩
  cases hl:fL drs (id-res.length)with
  |none=>simp[hl]at h
  |some q=>
   obtain⟨k,y⟩:=q;simp only[hl]at h;by_cases hp:p k=true
   ·exact⟨k,y,rfl,hp⟩
   ·rw[Xu hp]at h;exact absurd rfl h
theorem B5 {res:List aA} {drs:List Dr} {p L:Nat->Bool} {i:Nat} (hp:∀k,p k=true->L k=true) (id:Nat) (h:known (res++gu p 0 (drs.take i)) id):
  ar (res++gu p 0 (drs.take i)) id=ar (res++gu L 0 drs) id:=by
 unfold known at h;rw[fN]at h⊢;rw[fN];by_cases hlt:id<res.length
 ·rw[Xv hlt,Xv hlt]
 ·rw[Xu hlt]at h⊢;rw[Xu hlt];cases hl:fL (drs.take i) (id-res.length)with
  |none=>simp[hl]at h
  |some q=>
   obtain⟨k,y⟩:=q;obtain⟨hk,hl'⟩:=uI hl;simp only[hl]at h⊢;rw[hl'];by_cases hpk:p k=true
   ·simp only[Xv hpk,Xv (hp k hpk),List.getElem?_take,Xv hk]
   ·rw[Xu hpk]at h;exact absurd rfl h
def cU (p:Nat->Bool) (id:Nat):Nat->List Dr->Option aA
 |_,[]=>none
 |j,d::l=>match cU p id (j+1) l with
  |some r=>some r
  |none=>match d.up with
   |some u=>if p j&&u.1==id then some u.2 else none
   |none=>none
theorem ky (p:Nat->Bool):∀(l:List Dr) (j:Nat) (R:List aA),(FU p j l R).length=R.length
 | [],j,R=>rfl
 |d::l,j,R=>by
  simp only[FU];split
  ·exact ky p l _ R
  ·split
   ·rw[ky p l,b6]
   ·exact ky p l _ R
theorem nZ (p:Nat->Bool) (id:Nat):∀(l:List Dr) (j:Nat) (R:List aA),id<R.length->ar (FU p j l R) id=(cU p id j l).getD (ar R id)
 | [],j,R,h=>rfl
 |d::l,j,R,h=>by
  simp only[FU,cU];cases hu:d.up with
  |none=>
   simp only;rw[nZ p id l _ R h];cases cU p id (j+1) l<;>rfl
  |some u=>
   simp only;by_cases hp:p j=true
   ·rw[Xv hp,nZ p id l _ _ (by rw[b6];exact h)]
    cases cU p id (j+1) l with
    |some r=>rfl
    |none=>
     simp only[Option.getD_none,hp,Bool.true_and];by_cases e:u.1=id
     ·subst e;rw[bw _ _ _ _ h];simp
     ·by_cases hl:u.1<R.length
      ·rw[bw _ _ _ _ hl,Xu (Ne.symm e)];simp[e]
      ·rw[lq,List.set_eq_of_length_le (by omega)]
       simp[e]
   ·rw[Xu hp,nZ p id l _ R h];cases cU p id (j+1) l with
    |some r=>rfl
    |none=>simp[hp]
theorem jU {p L:Nat->Bool} {id:Nat}:∀(l:List Dr) (j m:Nat),(∀k d u,l[k]? =some d->d.up=some u->u.1=id->(L (j+k)=true↔k<m/\p (j+k)=true))->cU p id j (l.take m)=cU L id j l
 | [],j,m,h=>by simp[cU]
 |d::l,j,0,h=>by
  have h':=jU (p:=p) (L:=L) (id:=id) l (j+1) 0 fun k d' u h1 h2 h3=>by
   have:=h (k+1) d' u (by simpa using h1) h2 h3
   rw[show j+1+k=j+(k+1) by omega]
   constructor
   ·intro hh;exact absurd (this.1 hh).1 (by omega)
   ·intro hh;exact absurd hh.1 (by omega)
  simp only[List.take_zero,cU]at h'⊢;rw[<-h'];simp only;cases hu:d.up with
  |none=>rfl
  |some u=>
   simp only;rw[Xu];intro hh;simp only[Xo,Xq]at hh;exact absurd ((h 0 d u (by simp) hu hh.2).1 (by simpa using hh.1)).1 (by omega)
 |d::l,j,m+1,h=>by
  have h':=jU (p:=p) (L:=L) (id:=id) l (j+1) m fun k d' u h1 h2 h3=>by
   have:=h (k+1) d' u (by simpa using h1) h2 h3
   rw[show j+1+k=j+(k+1) by omega]
   constructor
   ·intro hh;exact⟨by have:=(this.1 hh).1;omega,(this.1 hh).2⟩
   ·intro hh;exact this.2 ⟨by omega,hh.2⟩
  simp only[List.take_succ_cons,cU,h'];cases cU L id (j+1) l with
  |some r=>rfl
  |none=>
   simp only;cases hu:d.up with
   |none=>rfl
   |some u=>
    simp only;by_cases e:u.1=id
    ·have:=h 0 d u (by simp) hu e
     simp only[Nat.add_zero]at this
     have hb:p j=L j:=by
      rw[Bool.eq_iff_iff];exact⟨fun hh=>this.2 ⟨by omega,hh⟩,fun hh=>(this.1 hh).2⟩
     rw[hb]
    ·simp[e]
theorem gG {p:Nat->Bool} {id:Nat} {r:aA}:∀(l:List Dr) (j:Nat),cU p id j l=some r->∃k d,l[k]? =some d/\d.up=some (id,r)/\p (j+k)=true
 | [],j,h=>by simp[cU]at h
 |d::l,j,h=>by
  simp only[cU]at h;split at h
  ·rename_i r' hr;simp only[Xm]at h;subst h;obtain⟨k,d',h1,h2,h3⟩:=gG l (j+1) hr;exact⟨k+1,d',by simpa using h1,h2,by rw[show j+(k+1)=j+1+k by omega];exact h3⟩
  ·split at h
   ·rename_i u hu;split at h
    ·rename_i hc;simp only[Xo,Xq]at hc;simp only[Xm]at h;subst h;exact⟨0,d,by simp,by rw[hu,<-hc.2],by simpa using hc.1⟩
    ·simp at h
   ·simp at h
theorem uU {p:Nat->Bool} {id:Nat} {r:aA}:∀(l:List Dr) (j s:Nat) (d:Dr),l[s]? =some d->d.up=some (id,r)->p (j+s)=true->(∀k d' u,s<k->l[k]? =some d'->d'.up=some u->u.1=id->p (j+k)=false)->cU p id j l=some r
 | [],j,s,d,h,_,_,_=>by simp at h
 |x::l,j,0,d,h,hu,hp,hn=>by
  simp only[List.getElem?_cons_zero,Xm]at h;subst h;simp only[cU]
  have:cU p id (j+1) l=none:=by
   cases hl:cU p id (j+1) l with
   |none=>rfl
   |some r'=>
    obtain⟨k,d',h1,h2,h3⟩:=gG l (j+1) hl;have:=hn (k+1) d' _ (by omega) (by simpa using h1) h2 rfl
    rw[show j+(k+1)=j+1+k by omega,h3]at this
    simp at this
  rw[this,hu];simp only[Nat.add_zero]at hp;simp[hp]
 |x::l,j,s+1,d,h,hu,hp,hn=>by
  simp only[cU]
  rw[uU l (j+1) s d (by simpa using h) hu (by rw[show j+1+s=j+(s+1) by omega];exact hp) fun k d' u h1 h2 h3 h4=>by
   rw[show j+1+k=j+(k+1) by omega]
   exact hn (k+1) d' u (by omega) (by simpa using h2) h3 h4]
theorem nG (ds:List (Option Nat×Nat)) (i:Nat):∀(h:List (Nat×Nat)) (R:List aA) (id:Nat),known (yt ds i h R) id->ar (yt ds i h R) id=ar R id/\known R id/\∀s,(s,id)∈h->s=i\/(aG ds i).testBit s=true\/(aG ds s).testBit i=true
 | [],R,id,hk=>⟨rfl,hk,by simp⟩
 |u::h,R,id,hk=>by
  unfold yt at hk⊢;split at hk
  ·rename_i hc;rw[Xv hc];obtain⟨a,b,c⟩:=nG ds i h R id hk;refine⟨a,b,fun s hs=>?_⟩
   rcases List.mem_cons.1 hs with rfl|hs
   ·simp only[Bool.or_eq_true,Xq]at hc;rcases hc with(hc|hc)|hc
    ·exact .inl hc
    ·exact .inr (.inl hc)
    ·exact .inr (.inr hc)
   ·exact c s hs
  ·rename_i hc;rw[Xu hc];obtain⟨a,b,c⟩:=nG ds i h _ id hk
   have hne:u.2≠id\/¬u.2<R.length:=by
    by_cases e:u.2=id
    ·right
     intro hl;unfold known at b;rw[bw _ _ _ _ hl,Xv e.symm]at b;exact b rfl
    ·exact .inl e
   have hr:ar (bD R u.2 .yet) id=ar R id:=by
    rcases hne with e|hl
    ·by_cases hl:u.2<R.length
     ·rw[bw _ _ _ _ hl,Xu (Ne.symm e)]
     ·rw[lq,List.set_eq_of_length_le (by omega)]
    ·rw[lq,List.set_eq_of_length_le (by omega)]
   have hkR:known R id:=by unfold known at b⊢;rw[<-hr];exact b
   refine⟨by rw[a,hr],hkR,fun s hs=>?_⟩
   rcases List.mem_cons.1 hs with rfl|hs
   ·exfalso
    rcases hne with e|hl
    ·exact e rfl
    ·exact hl (aF hkR)
   ·exact c s hs
def ins (L:Nat->Bool) (i:Nat) (k:Nat):Bool:=k==i||L k
theorem F7 {res:List aA} {drs:List Dr} {L:Nat->Bool} {i:Nat} {d:Dr} (hd:drs[i]? =some d) (hi:L i=false) (hnew:∀k,k<d.new.length->ar d.new k≠ .yet):
  Of (res++gu L 0 drs) (res++gu (ins L i) 0 drs) (res.length+lens (drs.take i)) d.new/\
  (∀id,KL res drs L id->¬fresh (res.length+lens (drs.take i)) d.new.length id)/\
  (∀id,KL res drs L id\/fresh (res.length+lens (drs.take i)) d.new.length id->KL res drs (ins L i) id):=by
 have hfr:∀id,fresh (res.length+lens (drs.take i)) d.new.length id↔res.length<=id/\∃y,fL drs (id-res.length)=some (i,y):=by
  intro id;constructor
  ·rintro⟨h1,h2⟩
   refine⟨by omega,id-res.length-lens (drs.take i),?_⟩
   rw[fm];exact⟨⟨d,hd,by omega⟩,by omega⟩
  ·rintro⟨h1,y,h2⟩
   rw[fm]at h2;obtain⟨⟨d',h3,h4⟩,h5⟩:=h2;rw[hd]at h3;simp only[Xm]at h3;subst h3;exact⟨by omega,by omega⟩
 have hKf:∀id,KL res drs L id->¬fresh (res.length+lens (drs.take i)) d.new.length id:=by
  rintro id (hk|⟨h1,j,y,h2,h3⟩) hf
  ·have:=aF hk;have:=((hfr id).1 hf).1;omega
  ·obtain⟨_,y',h4⟩:=(hfr id).1 hf;rw[h4]at h2;simp only[Xm,Xn]at h2;rw[<-h2.1,hi]at h3;simp at h3
 refine⟨⟨fun id hk=>⟨?_,hKf id (lQ hk)⟩,fun id hk=>?_,fun k hk=>?_⟩,hKf,?_⟩
 ·have h0:=lQ hk;rw[fN,fN];by_cases hlt:id<res.length
  ·rw[Xv hlt,Xv hlt]
  ·rw[Xu hlt,Xu hlt];rcases h0 with h0|⟨h1,j,y,h2,h3⟩
   ·exact absurd (aF h0) hlt
   ·simp only[h2,ins,h3,Bool.or_true,if_true]
 ·rcases lQ hk with h0|⟨h1,j,y,h2,h3⟩
  ·left
   unfold known;rw[fN,Xv (aF h0)];exact h0
  ·by_cases e:j=i
   ·subst e;exact .inr ((hfr id).2 ⟨h1,y,h2⟩)
   ·left
    have h3':L j=true:=by simpa[ins,e]using h3
    unfold known at hk⊢;rw[fN,Xu (by omega),h2]at hk⊢
    simp only[h3,h3',if_true]at hk⊢;exact hk
 ·rw[fN,Xu (by omega)]
  have:fL drs (res.length+lens (drs.take i)+k-res.length)=some (i,k):=by
   rw[fm];exact⟨⟨d,hd,hk⟩,by omega⟩
  rw[this];simp only[ins,beq_self_eq_true,Bool.true_or,if_true,hd]
 ·rintro id (h|h)
  ·rcases h with h|⟨h1,j,y,h2,h3⟩
   ·exact .inl h
   ·exact .inr ⟨h1,j,y,h2,by simp[ins,h3]⟩
  ·obtain⟨h1,y,h2⟩:=(hfr id).1 h;exact .inr ⟨h1,i,y,h2,by simp[ins]⟩
section
variable {C:Ctx} {opsA:Array Oper} {ds:List (Option Nat×Nat)} {sl:List S} {res:List aA} {drs:List Dr} {defs:List (Nat×List V×List V)} {ρ0 J:Env} {w0 w:World} {F0:Nat->Prop} {L:Nat->Bool} {fps:Nat->Nat->Prop} {a:Act}
theorem Inv.put (P:dN C opsA.toList ds sl res drs) (I:Inv ds sl res drs defs ρ0 w0 F0 L J fps a w) {i:Nat} {o:Oper} {d:Dr} (ho:opsA[i]? =some o) (hd:drs[i]? =some d) (hdst:Cv sl.length o.dst=true)
  {ρ':Env} {fps':Nat->Nat->Prop} {w':World} {x:Value} (hL:∀k,(aG ds i).testBit k=true->L k=true) (hK:∀id,KL res drs L id->KL res drs (ins L i) id) (hag:Env.aZ (KL res drs L) J ρ')
  (hH:aW ρ' fps' (AV res drs (ins L i)) (KL res drs (ins L i)) w0 F0 w') (hx:qV ρ' (KL res drs (ins L i)) x d) (hnew:∀y,y<d.new.length->ar d.new y≠ .yet):
  Inv ds sl res drs defs ρ0 w0 F0 (ins L i) ρ' fps' (a.put o.dst x) w':=by
 have hpi:=(P.at ho).1;have hsz:(a.put o.dst x).tmps.size=a.tmps.size:=by cases o.dst<;>simp[Act.put]
 have hold:∀t,o.dst≠some t->(a.put o.dst x).tmps.getD t undef=a.tmps.getD t undef:=by
  intro t ht;cases hdd:o.dst with
  |none=>simp[Act.put]
  |some e=>
   have:e≠t:=fun h=>ht (by rw[hdd,h])
   simp[Act.put,Array.getD_eq_getD_getElem?,Array.getElem?_setIfInBounds_ne this]
 refine⟨by rw[hsz];exact I.size,?_,?_,hH,?_,?_,?_,?_⟩
 ·intro t j m dj h1 h2 h3;by_cases e:o.dst=some t
  ·rw[e]at hpi;have:=ny P.dst h1 hpi;subst this;rw[hd]at h2;simp only[Xm]at h2;subst h2;rw[e]at hdst;have hlt:t<sl.length:=by simpa[Cv]using hdst
   have:(a.put o.dst x).tmps.getD t undef=x:=by
    rw[e];simp[Act.put,I.size,hlt]
   rw[this];exact hx
  ·rw[hold t e]
   have hji:j≠i:=fun hji=>by
    subst hji;rw[h1]at hpi;simp only[Xm,Xn]at hpi;exact e hpi.1.symm
   exact(I.done t j m dj h1 h2 (by simpa[ins,hji]using h3)).env hK hag
 ·intro t hall
  have e:o.dst≠some t:=fun e=>by
   rw[e]at hpi;have:=hall i _ hpi;simp[ins]at this
  rw[hold t e]
  exact(I.todo t fun j m hj=>by
   have:=hall j m hj;simp only[ins,Bool.or_eq_false_iff]at this;exact this.2).env hK hag
 ·intro j k hj hk;simp only[ins,Bool.or_eq_true,Xq]at hj⊢;rcases hj with rfl|hj
  ·exact .inr (hL k hk)
  ·exact .inr (I.down j k hj hk)
 ·have hag':Env.aZ (known res) J ρ':=hag.mono fun id h=> .inl h
  obtain⟨e1,e2⟩:=eF (ρ':=ρ') (K':=known res) I.defs.2 hag' fun _ h=>h
  exact⟨by rw[show(a.put o.dst x).defers=a.defers from put_defers _ _ _,I.defs.1];exact e1.symm,e2⟩
 ·exact I.aZ.trans (hag.mono fun id h=> .inl h) fun _ h=>h
 ·intro j dj h1 h2;by_cases e:j=i
  ·subst e;rw[hd]at h1;simp only[Xm]at h1;subst h1;exact hnew
  ·exact I.newk j dj h1 (by simpa[ins,e]using h2)
theorem vx {p q:Nat->Bool} (h:∀k,p k=true->q k=true) {id:Nat} (hk:KL res drs p id):KL res drs q id:=by
 rcases hk with h1|⟨h1,j,y,h2,h3⟩
 ·exact .inl h1
 ·exact .inr ⟨h1,j,y,h2,h j h3⟩
theorem P0 {p:Nat->Bool} {i id:Nat} (hk:KL res (drs.take i) p id):KL res drs p id:=by
 rcases hk with h1|⟨h1,j,y,h2,h3⟩
 ·exact .inl h1
 ·exact .inr ⟨h1,j,y,(uI h2).2,h3⟩
theorem nI:(AV res drs L).length=res.length+lens drs:=by unfold AV;rw[ky,List.length_append,lG]
theorem kV {id:Nat} (h:id<res.length+lens drs):ar (AV res drs L) id=(cU L id 0 drs).getD (ar (res++gu L 0 drs) id):=by
 unfold AV;rw[nZ _ _ _ _ _ (by rw[List.length_append,lG];exact h)]
theorem CZ {st:Bool} {hid:List (Nat×Nat)} (hpl:∀i d,drs[i]? =some d->∃o,opsA.toList[i]? =some o/\jQ C opsA.toList ds sl res st hid (drs.take i) i o=some d) {s:Nat} {d:Dr} {u:Nat×aA} (hd:drs[s]? =some d) (hu:d.up=some u):
  ∃o,opsA.toList[s]? =some o/\Cv sl.length o.dst=true/\wZ C (dO (aG ds s) s 0 ds (vj (drs.take s)) sl) (vw ds hid res (drs.take s) s) o=some d:=by
 obtain⟨o,ho,hp⟩:=hpl s d hd;unfold jQ at hp;split at hp
 case isFalse=>simp at hp
 rename_i hc;simp only[Xo]at hc;rcases nc hp with h|h
 ·rw[tD h]at hu;simp at hu
 ·exact⟨o,ho,hc.2,h⟩
theorem mQ (P:dN C opsA.toList ds sl res drs):∀(s:Nat) (d:Dr) (u:Nat×aA),drs[s]? =some d->d.up=some u->KL res drs (fun k=>(aG ds s).testBit k) u.1/\∃ty c,u.2= .blk ty c:=by
 obtain⟨st,hid,hpl,hhid⟩:=P.plan;intro s;induction s using Nat.strongRecOn with
 |_ s ih=>
  intro d u hd hu;obtain⟨o,ho,_,hp⟩:=CZ hpl hd hu;obtain⟨p1,p2,p3,p4⟩:=P.at (i:=s) (o:=o) (by simpa using ho)
  obtain⟨t,p,x,id,off,y,ty,c,c',_,_,_,_,_,_,_,hr,_,rfl⟩:=p6 hp;simp only[Xm]at hu;subst hu;refine⟨?_,ty,c',rfl⟩;have hk:known (vw ds hid res (drs.take s) s) id:=by unfold known;rw[hr];simp
  obtain⟨_,hk2,_⟩:=nG _ _ _ _ _ hk;have hlen:=aF hk2;rw[ky]at hlen;unfold known at hk2;rw[nZ _ _ _ _ _ hlen]at hk2;cases hl:cU (Nat.testBit (aG ds s)) id 0 (drs.take s)with
  |some r=>
   obtain⟨k,d',h1,h2,h3⟩:=gG _ _ hl;rw[List.getElem?_take]at h1;simp only[Nat.zero_add]at h3;have hks:=p2 k h3;rw[Xv hks]at h1;exact vx (fun q hq=>p4 k q h3 hq) (ih k hks d' _ h1 h2).1
  |none=>
   rw[hl]at hk2;rw[qa]at hk2;exact P0 (lQ hk2)
theorem AY (P:dN C opsA.toList ds sl res drs) (hdown:∀i k,L i=true->(aG ds i).testBit k=true->L k=true) {id:Nat} (hk:known (AV res drs L) id):KL res drs L id:=by
 have hlt:=aF hk;rw[nI]at hlt;unfold known at hk;rw[kV hlt]at hk;cases hl:cU L id 0 drs with
 |some r=>
  obtain⟨k,d',h1,h2,h3⟩:=gG _ _ hl;simp only[Nat.zero_add]at h3;exact vx (fun q hq=>hdown k q h3 hq) (mQ P k d' _ h1 h2).1
 |none=>
  rw[hl]at hk;exact lQ hk
theorem yB {hid:List (Nat×Nat)} (P:dN C opsA.toList ds sl res drs) (hhid:∀s d u,drs[s]? =some d->d.up=some u->(s,u.1)∈hid) {i:Nat} (hil:i<=drs.length) (hi:L i=false) (hL:∀k,(aG ds i).testBit k=true->L k=true)
  (hlt:∀k,(aG ds i).testBit k=true->k<i) (hdown:∀i k,L i=true->(aG ds i).testBit k=true->L k=true) {id:Nat} (hk:known (vw ds hid res (drs.take i) i) id):ar (vw ds hid res (drs.take i) i) id=ar (AV res drs L) id:=by
 obtain⟨h1,h2,h3⟩:=nG _ _ _ _ _ hk;have hlen:=aF h2;rw[ky]at hlen;unfold vw;rw[h1,nZ _ _ _ _ _ hlen]
 have hlen2:id<res.length+lens drs:=by
  rw[qa,List.length_append,lG]at hlen
  have:lens (drs.take i)<=lens drs:=by
   have:∀(l:List Dr) (n:Nat),lens (l.take n)<=lens l:=by
    intro l;induction l with
    |nil=>intro n;simp[lens]
    |cons d l ih=>
     intro n;cases n with
     |zero=>simp[lens]
     |succ n=>simp only[List.take_succ_cons,lens];have:=ih n;omega
   exact this drs i
  omega
 rw[kV hlen2]
 have hup:cU (Nat.testBit (aG ds i)) id 0 (drs.take i)=cU L id 0 drs:=by
  refine jU drs 0 i fun k d u e1 e2 e3=>?_
  simp only[Nat.zero_add];constructor
  ·intro hLk;have hm:=hhid k d u e1 e2;rw[e3]at hm;rcases h3 k hm with rfl|h|h
   ·rw[hi]at hLk;simp at hLk
   ·exact⟨hlt k h,h⟩
   ·rw[hdown k i hLk h]at hi;simp at hi
  ·rintro⟨_,h⟩
   exact hL k h
 rw[hup];cases hl:cU L id 0 drs with
 |some r=>rfl
 |none=>
  simp only[Option.getD_none];unfold known at h2;rw[nZ _ _ _ _ _ hlen,hup,hl]at h2;rw[qa]at h2⊢;exact B5 (fun k hk=>hL k hk) id h2
theorem zE (P:dN C opsA.toList ds sl res drs) (hdown:∀i k,L i=true->(aG ds i).testBit k=true->L k=true) {i:Nat} {d:Dr} (hd:drs[i]? =some d) (hi:L i=false) (hu:d.up=none) (hnew:∀k,k<d.new.length->ar d.new k≠ .yet):
  Of (AV res drs L) (AV res drs (ins L i)) (res.length+lens (drs.take i)) d.new/\
  (∀id,KL res drs L id->¬fresh (res.length+lens (drs.take i)) d.new.length id)/\
  (∀id,KL res drs L id\/fresh (res.length+lens (drs.take i)) d.new.length id->KL res drs (ins L i) id):=by
 obtain⟨⟨a1,a2,a3⟩,b,c⟩:=F7 (res:=res) hd hi hnew
 have hup:∀id,cU (ins L i) id 0 drs=cU L id 0 drs:=fun id=>by
  have:=jU (p:=ins L i) (L:=L) (id:=id) drs 0 drs.length fun k d' u e1 e2 e3=>by
   simp only[Nat.zero_add]
   have hk:k≠i:=fun e=>by
    subst e;rw[hd]at e1;simp only[Xm]at e1;subst e1;rw[hu]at e2;simp at e2
   have hkl:=(List.getElem?_eq_some_iff.1 e1).1;constructor
   ·intro h;exact⟨hkl,by simp[ins,h]⟩
   ·rintro⟨_,h⟩;simpa[ins,hk]using h
  rwa [List.take_length]at this
 have hnot:∀id,KL res drs L id->∀r,cU L id 0 drs=some r->r≠ .yet:=fun id _ r hr=>by
  obtain⟨k,d',h1,h2,_⟩:=gG _ _ hr;obtain⟨_,ty,c,e⟩:=mQ P k d' _ h1 h2;simp only at e;rw[e];simp
 refine⟨⟨fun id hk=>?_,fun id hk=>?_,fun k hk=>?_⟩,b,c⟩
 ·have hKL:=AY P hdown hk;have hlt:=aF hk;rw[nI]at hlt;refine⟨?_,b id hKL⟩;rw[kV hlt,kV hlt,hup];cases hl:cU L id 0 drs with
  |some r=>rfl
  |none=>
   simp only[Option.getD_none];unfold known at hk;rw[kV hlt,hl]at hk;exact(a1 id hk).1
 ·have hlt:=aF hk;rw[nI]at hlt;unfold known at hk⊢;rw[kV hlt,hup]at hk;rw[kV hlt];cases hl:cU L id 0 drs with
  |some r=>
   left
   rw[hl]at hk;exact hk
  |none=>
   rw[hl]at hk;exact a2 id hk
 ·have h3:=a3 k hk
  have hlt:res.length+lens (drs.take i)+k<res.length+lens drs:=by
   have:=ot drs drs.length i k ⟨d,hd,hk⟩ (List.getElem?_eq_some_iff.1 hd).1;rw[List.take_length]at this;omega
  rw[kV hlt,hup];have hfr:fresh (res.length+lens (drs.take i)) d.new.length (res.length+lens (drs.take i)+k):=⟨by omega,by omega⟩
  cases hl:cU L (res.length+lens (drs.take i)+k) 0 drs with
  |none=>exact h3
  |some r=>
   exfalso
   obtain⟨s,d',h1,h2,h4⟩:=gG _ _ hl;simp only[Nat.zero_add]at h4;exact b _ (vx (fun q hq=>hdown s q h4 hq) (mQ P s d' _ h1 h2).1) hfr
theorem Lh (P:dN C opsA.toList ds sl res drs) {hid:List (Nat×Nat)} (hhid:∀s d u,drs[s]? =some d->d.up=some u->(s,u.1)∈hid) (hdown:∀i k,L i=true->(aG ds i).testBit k=true->L k=true) {i:Nat} {d:Dr} {id:Nat} {r:aA} (hd:drs[i]? =some d)
  (hi:L i=false) (hu:d.up=some (id,r)) (hn:d.new= []) (hk:known (vw ds hid res (drs.take i) i) id) (hlt:∀k,(aG ds i).testBit k=true->k<i) (hkn:known (AV res drs L) id):
  (∀x,known (AV res drs (ins L i)) x->ar (AV res drs (ins L i)) x=ar (bD (AV res drs L) id r) x)/\∀x,KL res drs L x↔KL res drs (ins L i) x:=by
 have hKL:∀x,KL res drs L x↔KL res drs (ins L i) x:=fun x=>by
  constructor
  ·exact vx fun k hk=>by simp[ins,hk]
  ·rintro(h|⟨h1,j,y,h2,h3⟩)
   ·exact .inl h
   ·refine .inr ⟨h1,j,y,h2,?_⟩
    have hj:j≠i:=fun e=>by
     subst e;rw[fm]at h2;obtain⟨⟨d',e1,e2⟩,_⟩:=h2;rw[hd]at e1;simp only[Xm]at e1;subst e1;rw[hn]at e2;simp at e2
    simpa[ins,hj]using h3
 refine⟨fun x hx=>?_,hKL⟩
 have hxl:=aF hx;rw[nI]at hxl;have hidl:=aF hkn
 have hbase:ar (res++gu (ins L i) 0 drs) x=ar (res++gu L 0 drs) x:=by
  rw[fN,fN];split
  ·rfl
  ·cases hl:fL drs (x-res.length)with
   |none=>rfl
   |some q=>
    obtain⟨k,y⟩:=q;simp only
    have hj:k≠i:=fun e=>by
     subst e;rw[fm]at hl;obtain⟨⟨d',e1,e2⟩,_⟩:=hl;rw[hd]at e1;simp only[Xm]at e1;subst e1;rw[hn]at e2;simp at e2
    simp[ins,hj]
 rw[bw _ _ _ _ hidl,kV hxl];by_cases e:x=id
 ·subst e;rw[Xv rfl,uU drs 0 i d hd hu (by simp[ins]) fun k d' u h1 h2 h3 h4=>?_]
  ·rfl
  ·simp only[Nat.zero_add,ins,Bool.or_eq_false_iff,beq_eq_false_iff_ne];refine⟨by omega,?_⟩
   cases hLk:L k with
   |false=>rfl
   |true=>
    exfalso
    obtain⟨_,_,h5⟩:=nG _ _ _ _ _ hk;have hm:=hhid k d' u h2 h3;rw[h4]at hm;rcases h5 k hm with rfl|h|h
    ·omega
    ·have:=hlt k h;omega
    ·rw[hdown k i hLk h]at hi;simp at hi
 ·rw[Xu e,kV hxl,hbase]
  have hup:cU (ins L i) x 0 drs=cU L x 0 drs:=by
   have:=jU (p:=ins L i) (L:=L) (id:=x) drs 0 drs.length fun k d' u e1 e2 e3=>by
    simp only[Nat.zero_add]
    have hk:k≠i:=fun e'=>by
     subst e';rw[hd]at e1;simp only[Xm]at e1;subst e1;rw[hu]at e2;simp only[Xm]at e2;subst e2;exact e e3.symm
    have hkl:=(List.getElem?_eq_some_iff.1 e1).1;constructor
    ·intro h;exact⟨hkl,by simp[ins,h]⟩
    ·rintro⟨_,h⟩;simpa[ins,hk]using h
   rwa [List.take_length]at this
  rw[hup]
theorem Inv.step {ops:Array Oper} {K:Act->World->Prop} {Q:Exit->Act->World->Prop} {ro:Option Nat} (hops:ops=opsA) (hnd:ro≠none->∀o∈opsA.toList,dB o) (hC:C.Sound) (P:dN C opsA.toList ds sl res drs) (hq:∀(i:Nat) (d:Dr),drs[i]? =some d->(d.g=true->dv d.q))
  (I:Inv ds sl res drs defs ρ0 w0 F0 L J fps a w) {i:Nat} {d:Dr} (hd:drs[i]? =some d)
  (hi:L i=false) (hL:∀k,(aG ds i).testBit k=true->L k=true)
  (hn:∀ρ' fps' a' w',Inv ds sl res drs defs ρ0 w0 F0 (ins L i) ρ' fps' a' w'->K a' w'):wpOpIn (FF C.P ro) 0 C.P ops Q i K a w:=by
 subst hops;obtain⟨st,hid,hpl,hhid⟩:=P.plan;obtain⟨o,ho,hp⟩:=hpl i d hd;have ho':ops[i]? =some o:=by simpa using ho
 obtain⟨p1,p2,p3,p4⟩:=P.at ho';have hilt:i<drs.length:=(List.getElem?_eq_some_iff.1 hd).1
 have hview:gV J (KL res drs L) (dO (aG ds i) i 0 ds (vj (drs.take i)) sl) a:=by
  refine P.view I (by omega) (fun k hk=>⟨hL k hk,p2 k hk⟩) p4 fun k m t h1 h2 h3=>?_
  rcases h3 with rfl|h3
  ·exact hi
  ·cases hLk:L k with
   |false=>rfl
   |true=>
    have hm:aG ds k=m:=by simp[aG,h1]
    have:=I.down k i hLk (by rw[hm];exact h3)
    rw[hi]at this;exact absurd this (by simp)
 have hres:aW J fps (vw ds hid res (drs.take i) i) (KL res drs L) w0 F0 w:=I.heap.forget fun id hk=>yB P hhid (by omega) hi hL p2 I.down hk
 unfold wpOpIn;simp only[ho'];have hdo:ro≠none->dB o:=fun hr=>hnd hr o (by rw[<-Array.getElem?_toList]at ho';exact List.mem_of_getElem? ho')
 unfold jQ at hp;split at hp
 ·rename_i hc;simp only[Xo]at hc;rcases nc hp with hp|hp
  case inr=>
   obtain⟨t,px,x,id,off,y,ty,c,c',q1,q2,q3,q4,q5,q6,q7,q8,q9,rfl⟩:=p6 hp;rw[Xv (by simp[Region.wanted,q3])]
   have hkv:known (vw ds hid res (drs.take i) i) id:=by unfold known;rw[q8];simp
   have hav:ar (AV res drs L) id= .blk ty c:=by rw[<-yB P hhid (by omega) hi hL p2 I.down hkv];exact q8
   have hkn:known (AV res drs L) id:=by unfold known;rw[hav];simp
   obtain⟨e1,e2⟩:=fM hview rfl q4;obtain⟨e3,e4⟩:=fM hview rfl q5
   have hst:oh C.P (AV res drs L) t (.lp id off) y=some (bD (AV res drs L) id (.blk ty c')):=by
    unfold oh;rw[Xv (by rw[q6,q7];simp)]
    simp only[hav,q9,Option.map_some]
   obtain⟨w',s1,s2,s3⟩:=pJ I.heap hst e2 e4;have hrun:(execOp a.eval o).run C.P w= .ok .skip w':=by simp[execOp,q1,e1,e3,s1]
   refine dH hdo (fun f hf=>by unfold Oper.about at hf;rw[q1]at hf;simp at hf) ?_
   rw[hrun];obtain⟨t1,t2⟩:=Lh P hhid I.down hd hi rfl rfl hkv p2 hkn;have hH:aW J fps (AV res drs (ins L i)) (KL res drs (ins L i)) w0 F0 w':=(s2.sr fun id h=>(t2 id).1 h).forget t1
   exact hn _ _ _ _ (I.put P ho' hd hc.2 hL (fun id h=>(t2 id).1 h) (Env.aZ.refl _ _) hH (by simp[qV]) (by simp))
  have hun:=tD hp;unfold tC at hp
  have hsame:d.new= []->∀x,(∀ρ',ρ'=J->qV ρ' (KL res drs (ins L i)) x d)->Inv ds sl res drs defs ρ0 w0 F0 (ins L i) J fps (a.put o.dst x) w:=by
   intro hnew x hx;obtain⟨a1,a2,a3⟩:=zE P I.down hd hi hun (by rw[hnew];simp)
   obtain⟨fps',g1,g2⟩:=I.heap.grow (ρ':=J) a1 a2 a3 (by rw[hnew];exact mF.refl _ _ _ _ _ _)
   have hH:aW J fps (AV res drs (ins L i)) (KL res drs (ins L i)) w0 F0 w:=by
    refine(I.heap.sr fun id h=>a3 id (.inl h)).forget fun id hk=>?_
    rcases a1.2.1 id hk with h|h
    ·exact(a1.1 id h).1
    ·unfold fresh at h;rw[hnew]at h;simp at h;omega
   exact I.put P ho' hd hc.2 hL (fun id h=>a3 id (.inl h)) (Env.aZ.refl _ _) hH (hx J rfl) (by rw[hnew];simp)
  split at hp
  case isFalse=>simp at hp
  rename_i hab;have hab:=Ca hview hab w;split at hp
  ·simp at hp
  ·rename_i hch;simp only[Xm]at hp;rw[ll hview hch];simp only[uC,Bool.false_eq_true,if_false];refine⟨hab,?_⟩;exact hn _ _ _ _ (hsame (by rw[<-hp]) undef fun ρ' _=>by subst hp;simp[qV])
  ·rename_i ch hch;rw[ll hview hch];rw[show uC (dO (aG ds i) i 0 ds (vj (drs.take i)) sl) (some ch)=lE (dO (aG ds i) i 0 ds (vj (drs.take i)) sl) ch from rfl];split at hp
   ·rename_i q x new hop;cases ch with
    |nil=>
     simp only[Xm]at hp;subst hp;simp only[lE,if_true];refine dH hdo hab ?_;have hq':dv q:=hq i _ hd rfl
     have hnK:∀k,k<new.length->¬KL res drs L (res.length+lens (drs.take i)+k):=fun k hk h=>by
      have hfr:fresh (res.length+lens (drs.take i)) new.length (res.length+lens (drs.take i)+k):=⟨by omega,by omega⟩
      rcases h with h|⟨h1,j,y,h2,h3⟩
      ·have:=aF h;omega
      ·have h4:fL drs (res.length+lens (drs.take i)+k-res.length)=some (i,k):=by
        rw[fm];exact⟨⟨_,hd,hk⟩,by omega⟩
       rw[h4]at h2;simp only[Xm,Xn]at h2;rw[<-h2.1,hi]at h3;simp at h3
     obtain⟨hy,hnew⟩:=lI hC hop hview hres rfl hq' hnK;refine hy.wp fun v w' ⟨ρ',hg,hv,hx⟩=>?_
     obtain⟨a1,a2,a3⟩:=zE P I.down hd hi hun hnew;obtain⟨fps',g1,g2⟩:=I.heap.grow a1 a2 a3 hg;exact hn _ _ _ _ (I.put P ho' hd hc.2 hL (fun id h=>a3 id (.inl h)) g2 g1 ⟨hv,cN a3 _ hx⟩ hnew)
    |cons c0 c1=>
     simp only at hp;split at hp
     ·rename_i hne;have hne:new= []:=by simpa using hne
      subst hne;simp only[Xm]at hp;subst hp;by_cases hg:lE (dO (aG ds i) i 0 ds (vj (drs.take i)) sl) (c0::c1)=true
      ·rw[Xv hg];refine dH hdo hab ?_;have hq':dv q:=hq i _ hd hg;obtain⟨hy,_⟩:=lI hC hop hview hres hg hq' (fun k hk=>by simp at hk)
       refine hy.wp fun v w' ⟨ρ',hgr,hv,hx⟩=>?_
       obtain⟨a1,a2,a3⟩:=zE P I.down hd hi hun (by simp)
       obtain⟨fps',g1,g2⟩:=I.heap.grow a1 a2 a3 hgr;refine hn _ _ _ _ (I.put P ho' hd hc.2 hL (fun id h=>a3 id (.inl h)) g2 g1 ⟨fun _=>⟨hv,cN a3 _ hx⟩,fun h=>?_⟩ (by simp))
       simp only at h;rw[hg]at h;simp at h
      ·rw[Xu hg];refine⟨hab,?_⟩;exact hn _ _ _ _ (hsame rfl undef fun ρ' _=>⟨fun h=>absurd h hg,fun _=>rfl⟩)
     ·simp at hp
   ·simp at hp
 ·simp at hp
end
end Go.Sx
