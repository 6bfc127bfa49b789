import Derived.Test.YtlblcfaclmpekaaGreatSxD
set_option linter.unusedSimpArgs false
set_option linter.unusedVariables false
namespace Go.Sx
open Go.RowKit (Below)
inductive Out where
 |norm
 |exit (i:Nat)
 |goto (l:Nat)
 |ret
 |pan (v:V)
def BA (J:Env) (res:List aC):Exit->Out->Prop
 | .normal,.norm=>True
 | .exit i,.exit j=>i=j
 | .goto i,.goto j=>i=j
 | .ret,.ret=>True
 | .panic chain,.pan v=>chain= [{v:=den J v,recovered:=false}]/\ok (known res) v
 |_,_=>False
def fA (ρ0:Env) (res0:List aC) (w0:World) (F0:Nat->Prop) (K:Out->St->Prop):Exit->Act->World->Prop:=fun e a w=>
 ∃out U J fps,BA J U.res e out/\K out U/\jS J fps U w0 F0 a w/\Good ρ0 res0 J U.res
theorem fA.DP {ρ0:Env} {res0:List aC} {w0:World} {F0:Nat->Prop} {K:Out->St->Prop}:¬LetsOut (fA ρ0 res0 w0 F0 K):=by
 rintro⟨a,w,out,U,J,fps,h1,_⟩
 cases out<;>exact h1
theorem fA.mono {ρ0:Env} {res0:List aC} {w0:World} {F0:Nat->Prop} {K K':Out->St->Prop} {e:Exit} {a:Act} {w:World} (h:fA ρ0 res0 w0 F0 K e a w) (hK:∀o U,K o U->K' o U):
  fA ρ0 res0 w0 F0 K' e a w:=
 let ⟨o,U,J,fps,h1,h2,h3,h4⟩:=h
 ⟨o,U,J,fps,h1,hK _ _ h2,h3,h4⟩
def aJ (ds:List (Option Nat×Nat)) (i:Nat):Nat:=
 match ds[i]? with
 |some p=>p.2
 |none=>0
def iD (ds:List (Option Nat×Nat)) (es:List Edge):Nat:=
 match es with
 | []=>0
 |e::l=>if Region.binds .any e then(2^e.on ||| aJ ds e.on) ||| iD ds l else iD ds l
def LZ:List Oper->List (Option Nat×Nat)->List (Option Nat×Nat)
 | [],acc=>acc
 |o::l,acc=>LZ l (acc++ [(o.dst,iD acc o.after.toList)])
def JS:Option Nat->Option Nat->Bool
 |some a,some b=> !(a==b)
 |_,_=>true
def qy:List (Option Nat×Nat)->Bool
 | []=>true
 |p::l=>l.all (fun q=>JS p.1 q.1)&&qy l
def Br (ds:List (Option Nat×Nat)):Nat->List Oper->List (Option Nat×Nat)->Bool
 |i,o::l,d::m=>(match o.dst,d.1 with|none,none=>true|some a,some b=>a==b|_,_=>false)&&iD ds o.after.toList==d.2&&Nat.ble (d.2+1) (2^i)
  &&(List.range i).all (fun j=> !(Nat.testBit d.2 j)||((aJ ds j ||| d.2)==d.2))&&Br ds (i+1) l m
 |_,[],[]=>true
 |_,_,_=>false
def dO (anc i:Nat):Nat->List (Option Nat×Nat)->List S->List S->List S
 |j,(some d,_)::ds,s::done,sl=>dO anc i (j+1) ds done (sset sl d (if Nat.testBit anc j then s else .und))
 |j,(some d,m)::ds,[],sl=>if j==i||Nat.testBit m i then dO anc i (j+1) ds [] sl else dO anc i (j+1) ds [] (sset sl d .und)
 |j,(none,_)::ds,done,sl=>dO anc i (j+1) ds done.tail sl
 |_,[],_,sl=>sl
structure Dr where
 s:S
 g:Bool
 q:Option Prop
 new:List aC
 up:Option (Nat×aC):=none
def uO:List aC->List aC
 | []=> []
 |_::l=> .yet::uO l
def gn (p:Nat->Bool):Nat->List Dr->List aC
 |_,[]=> []
 |j,d::l=>match d.new with
  | []=>gn p (j+1) l
  |r::n=>(if p j then r::n else .yet::uO n)++gn p (j+1) l
def lens:List Dr->Nat
 | []=>0
 |d::l=>d.new.length+lens l
def uQ:List Dr->List S
 | []=> []
 |d::l=>d.s::uQ l
def Ej (m:Nat):Option (Nat×Bool)->Bool
 |none=>true
 |some (j,_)=>Nat.testBit m j
def tf (C:Ctx) (ops:List Oper) (D:List S) (R:List aC) (nid:Nat) (o:Oper):Option Dr:=
 if TP C.P D o then match p5 D ops o.guard with
 |none=>none
 |some none=>some {s:= .ud,g:=false,q:=none,new:= []}
 |some (some ch)=>match Ag C D R nid ch o.op with
  |some (q,x,new)=>match ch with
   | []=>some {s:= .v x,g:=true,q:=q,new:=new}
   |c::ch=>if new.isEmpty then some {s:= .gv (c::ch) x,g:=lz D (c::ch),q:=q,new:= []}else none
  |none=>none
 else none
def BB (n:Nat):Option Nat->Bool
 |none=>true
 |some d=>Nat.blt d n
def Gv (p:Nat->Bool):Nat->List Dr->List aC->List aC
 |_,[],R=>R
 |j,d::l,R=>match d.up with
  |none=>Gv p (j+1) l R
  |some u=>if p j then Gv p (j+1) l (bw R u.1 u.2)else Gv p (j+1) l R
def yF (ds:List (Option Nat×Nat)) (i:Nat):List (Nat×Nat)->List aC->List aC
 | [],R=>R
 |u::h,R=>if u.1==i||Nat.testBit (aJ ds i) u.1||Nat.testBit (aJ ds u.1) i then yF ds i h R else yF ds i h (bw R u.2 .yet)
def vw (ds:List (Option Nat×Nat)) (hid:List (Nat×Nat)) (res:List aC) (done:List Dr) (i:Nat):List aC:=
 yF ds i hid (Gv (Nat.testBit (aJ ds i)) 0 done (mQ res (gn (Nat.testBit (aJ ds i)) 0 done)))
def sq:Nat->List Dr->List (Nat×Nat)
 |_,[]=> []
 |j,d::l=>match d.up with
  |none=>sq (j+1) l
  |some u=>(j,u.1)::sq (j+1) l
def xT:List (Nat×Nat)->List (Nat×Nat)->Bool
 | [],[]=>true
 |a::l,b::m=>a.1==b.1&&a.2==b.2&&xT l m
 |_,_=>false
def wM (C:Ctx) (D:List S) (R:List aC) (o:Oper):Option Dr:=
 match o.op with
 | .store t p x=>match o.dst with
   |none=>match o.guard with
    |none=>match dY D [] p with
     |some pv=>match pv with
      | .lp id off=>match dY D [] x with
        |some y=>if m9 C.P t==some (dP y)&& !bO y then match ar R id with
         | .blk ty c=>match setAt 8 c off y with
           |some c'=>some {s:= .und,g:=true,q:=none,new:= [],up:=some (id,.blk ty c')}
           |none=>none
         |_=>none
         else none
        |none=>none
      |_=>none
     |none=>none
    |some _=>none
   |some _=>none
 |_=>none
def ru (C:Ctx) (ops:List Oper) (st:Bool) (D:List S) (R:List aC) (nid:Nat) (o:Oper):Option Dr:=
 match tf C ops D R nid o with
 |some d=>some d
 |none=>if st then wM C D R o else none
def jK (C:Ctx) (ops:List Oper) (ds:List (Option Nat×Nat)) (sl:List S) (res:List aC) (st:Bool) (hid:List (Nat×Nat)) (done:List Dr) (i:Nat) (o:Oper):Option Dr:=
 if Ej (aJ ds i) o.guard&&BB sl.length o.dst then
  ru C ops st (dO (aJ ds i) i 0 ds (uQ done) sl) (vw ds hid res done i) (res.length+lens done) o
 else none
def lZ (C:Ctx) (ops:List Oper) (ds:List (Option Nat×Nat)) (sl:List S) (res:List aC) (st:Bool) (hid:List (Nat×Nat)):Nat->List Oper->List Dr->List Dr×List Oper
 |_,[],done=>(done,[])
 |i,o::l,done=>match jK C ops ds sl res st hid done i o with
  |some d=>lZ C ops ds sl res st hid (i+1) l (done++ [d])
  |none=>(done,o::l)
def tV:List Dr->Prop->Prop
 | [],k=>k
 |d::l,k=>match d.s with
  | .gv _ _=>Rd d.g d.q (tV l k)
  |_=>A3 d.q (tV l k)
def jh (n:Nat):Nat:=2^n-1
def yp (C:Ctx) (ops:List Oper) (ds:List (Option Nat×Nat)) (sl:List S) (res:List aC) (st:Bool) (hid:List (Nat×Nat)):Nat->List Oper->List Dr->(List Dr->List Oper->Prop)->Prop
 |_,[],done,k=>k done []
 |i,o::l,done,k=>vF (dO (aJ ds i) i 0 ds (uQ done) sl) fun D=>
  match (if Ej (aJ ds i) o.guard&&BB sl.length o.dst then ru C ops st D (vw ds hid res done i) (res.length+lens done) o else none)with
  |some d=>yp C ops ds sl res st hid (i+1) l (done++ [d]) k
  |none=>k done (o::l)
theorem rV (C:Ctx) (ops:List Oper) (ds:List (Option Nat×Nat)) (sl:List S) (res:List aC) (st:Bool) (hid:List (Nat×Nat)):∀(l:List Oper) (i:Nat) (done:List Dr) (k:List Dr->List Oper->Prop),
  yp C ops ds sl res st hid i l done k=k (lZ C ops ds sl res st hid i l done).1 (lZ C ops ds sl res st hid i l done).2
 | [],_,_,_=>rfl
 |o::l,i,done,k=>by
  simp only[yp,lZ,rM,jK];split
  ·rename_i d hd;exact rV C ops ds sl res st hid l (i+1) (done++ [d]) k
  ·rename_i hd;rfl
def oD (C:Ctx) (H:Handler) (Y:cK) (ops:List Oper):List Oper->St->(Out->St->Prop)->Prop
 | [],U,K=>kU U.slots fun sl=>K .norm {U with slots:=sl}
 |o::l,U,K=>wh C H Y ops o U (fun σ'=>oD C H Y ops l σ' K) (fun v σ'=>K (.pan v) σ')
def nQ (ds:List (Option Nat×Nat)):Nat->List Oper->Bool
 |_,[]=>true
 |i,_::l=>aJ ds i==jh i&&nQ ds (i+1) l
def QE (m n:Nat):Option Nat:=(List.range n).find? fun e=> !(Nat.testBit m e)&&(m ||| 2^e)==jh n
def sB (o:Operand) (d:Nat):Bool:=
 match o with
 | .tmp s=> !(s==d)
 |_=>true
def sF (ops:List Oper) (ds:List (Option Nat×Nat)) (n:Nat) (o:Oper) (l:List Oper):Bool:=
 match o.op with
 | .store _ p x=>match o.dst with
   |none=>match o.guard with
    |none=>match QE (aJ ds n) n with
     |some e=>match ops[e]? with
      |some oe=>match oe.op with
       | .extract y _=>match oe.dst with
         |some d=>match oe.guard with
          |none=>sB p d&&sB x d&&sB y d&&nQ ds (n+1) l
          |some _=>false
         |none=>false
       |_=>false
      |none=>false
     |none=>false
    |some _=>false
   |some _=>false
 |_=>false
def sj (o:Oper):Option Operand:=
 match o.op with
 | .move x=>some x
 | .assign x=>some x
 | .extract x _=>some x
 |_=>none
def pj (o:Oper):Bool:=
 match o.guard with
 |none=>match o.dst with
  |some _=>(sj o).isSome
  |none=>false
 |some _=>false
def apart (x y:Oper):Bool:=
 match sj x,x.dst,sj y,y.dst with
 |some sx,some dx,some sy,some dy=>sB sy dx&&sB sx dy&& !(dx==dy)
 |_,_,_,_=>false
def uX (ds:List (Option Nat×Nat)) (j:Nat) (x:Oper):Nat->List Oper->Bool
 |_,[]=>true
 |i,y::l=>(Nat.testBit (aJ ds i) j||apart x y)&&uX ds j x (i+1) l
def xg (ds:List (Option Nat×Nat)) (n:Nat):Nat->List Oper->Bool
 |_,[]=>true
 |i,x::l=>pj x&&(aJ ds i ||| jh (n+1))==aJ ds i&&uX ds i x (i+1) l&&xg ds n (i+1) l
def wN (ds:List (Option Nat×Nat)) (n:Nat) (l:List Oper):Bool:=aJ ds n==jh n&&xg ds n (n+1) l
def rZ (res:List aC) (drs:List Dr):List aC:=Gv (fun _=>true) 0 drs (mQ res (gn (fun _=>true) 0 drs))
def O1 (ops:List Oper) (ds:List (Option Nat×Nat)) (n:Nat):List Oper->Bool
 | []=>true
 |o::l=>nQ ds n (o::l)||sF ops ds n o l||wN ds n l
def uZ (C:Ctx) (H:Handler) (Y:cK) (ops:List Oper) (ds:List (Option Nat×Nat)) (U:St) (K:Out->St->Prop) (drs:List Dr) (rest:List Oper):Prop:=
 tV drs (match rest with
  | []=>vF (dO (jh drs.length) drs.length 0 ds (uQ drs) (clean U.slots)) fun sl=>kU sl fun sl=>K .norm {U with slots:=sl,res:=rZ U.res drs}
  |o::l=>if nQ ds drs.length (o::l)||sF ops ds drs.length o l||wN ds drs.length l then
    vF (dO (jh drs.length) drs.length 0 ds (uQ drs) (clean U.slots)) fun sl=>oD C H Y ops (o::l) {U with slots:=sl,res:=rZ U.res drs} K
   else False)
def Hr (C:Ctx) (H:Handler) (Y:cK) (ops:List Oper) (ds:List (Option Nat×Nat)) (U:St) (K:Out->St->Prop) (alt:Prop):Prop:=
 if Br ds 0 ops ds&&qy ds then
  kU U.slots fun sl=>yp C ops ds sl U.res false [] 0 ops [] fun drs rest=>
   if O1 ops ds drs.length rest then uZ C H Y ops ds U K drs rest
   else yp C ops ds sl U.res true [] 0 ops [] fun drs1 _=>yp C ops ds sl U.res true (sq 0 drs1) 0 ops [] fun drs2 rest2=>
    if xT (sq 0 drs2) (sq 0 drs1)&&O1 ops ds drs2.length rest2 then uZ C H Y ops ds U K drs2 rest2 else alt
 else False
def HG (C:Ctx) (H:Handler) (Y:cK) (ops:List Oper) (U:St) (K:Out->St->Prop) (alt:Prop):Prop:=Hr C H Y ops (LZ ops []) U K alt
theorem lv {ds:List (Option Nat×Nat)} {k:Nat}:∀{es:List Edge},(iD ds es).testBit k=true↔ ∃e∈es,Region.binds .any e=true/\(e.on=k\/(aJ ds e.on).testBit k=true)
 | []=>by simp[iD]
 |e::l=>by
  have ih:=lv (ds:=ds) (k:=k) (es:=l);simp only[iD,List.mem_cons,exists_eq_or_imp];split
  ·rename_i h;simp only[Nat.testBit_or,Bool.or_eq_true,ih,h,true_and,Nat.testBit_two_pow,VL]
  ·rename_i h;simp[ih,h]
theorem iK (anc i:Nat):∀(ds:List (Option Nat×Nat)) (j:Nat) (done sl:List S),(dO anc i j ds done sl).length=sl.length
 | [],j,done,sl=>by simp[dO]
 | (none,m)::ds,j,done,sl=>by simp only[dO];exact iK anc i ds _ _ _
 | (some d,m)::ds,j,s::done,sl=>by simp only[dO];rw[iK anc i ds _ _ _,fN]
 | (some d,m)::ds,j,[],sl=>by
   simp only[dO];split
   ·exact iK anc i ds _ _ _
   ·rw[iK anc i ds _ _ _,fN]
theorem jx (anc i t:Nat):∀(ds:List (Option Nat×Nat)) (j:Nat) (done sl:List S),
  bF (dO anc i j ds done sl) t= .und\/
  (∃k m s,ds[k]? =some (some t,m)/\done[k]? =some s/\anc.testBit (j+k)=true/\bF (dO anc i j ds done sl) t=s)\/
  (bF (dO anc i j ds done sl) t=bF sl t/\∀k m,ds[k]? =some (some t,m)->done.length<=k/\(j+k=i\/m.testBit i=true))
 | [],j,done,sl=> .inr (.inr ⟨by simp[dO],by simp⟩)
 | (none,m)::ds,j,done,sl=>by
   simp only[dO];rcases jx anc i t ds (j+1) done.tail sl with h|⟨k,m',s,h1,h2,h3,h4⟩|⟨h1,h2⟩
   ·exact .inl h
   ·refine .inr (.inl ⟨k+1,m',s,by simpa using h1,?_,by rw[show j+(k+1)=j+1+k by omega];exact h3,h4⟩)
    cases done<;>first| (simp at h2;done)|simpa using h2
   ·refine .inr (.inr ⟨h1,fun k m' hk=>?_⟩)
    cases k with
    |zero=>simp at hk
    |succ k=>
     obtain⟨a,b⟩:=h2 k m' (by simpa using hk)
     refine⟨?_,by rw[show j+(k+1)=j+1+k by omega];exact b⟩
     cases done with
     |nil=>simp
     |cons x l=>simpa using a
 | (some d,m)::ds,j,s::done,sl=>by
   simp only[dO];rcases jx anc i t ds (j+1) done (sset sl d (if anc.testBit j=true then s else .und))with h|⟨k,m',s',h1,h2,h3,h4⟩|⟨h1,h2⟩
   ·exact .inl h
   ·exact .inr (.inl ⟨k+1,m',s',by simpa using h1,by simpa using h2,by rw[show j+(k+1)=j+1+k by omega];exact h3,h4⟩)
   ·rw[eQ]at h1;by_cases e:t=d/\d<sl.length
    ·rw[VR e]at h1;obtain⟨rfl,hd⟩:=e;by_cases hb:anc.testBit j=true
     ·rw[VR hb]at h1;exact .inr (.inl ⟨0,m,s,by simp,by simp,by simpa using hb,by rw[VR hb];exact h1⟩)
     ·rw[VQ hb]at h1;exact .inl (by rw[VQ hb];exact h1)
    ·rw[VQ e]at h1;by_cases e':t=d
     ·subst e';have hl:¬t<sl.length:=fun hh=>e ⟨rfl,hh⟩
      refine .inl ?_;rw[h1,ji,VP,List.getElem?_eq_none (by omega)];rfl
     ·refine .inr (.inr ⟨h1,fun k m' hk=>?_⟩)
      cases k with
      |zero=>simp only[List.getElem?_cons_zero,VI,VJ]at hk;exact absurd hk.1.symm e'
      |succ k=>
       obtain⟨a,b⟩:=h2 k m' (by simpa using hk)
       exact⟨by simpa using a,by rw[show j+(k+1)=j+1+k by omega];exact b⟩
 | (some d,m)::ds,j,[],sl=>by
   simp only[dO];split
   ·rename_i hc;rcases jx anc i t ds (j+1) [] sl with h|⟨k,m',s',h1,h2,h3,h4⟩|⟨h1,h2⟩
    ·exact .inl h
    ·simp at h2
    ·refine .inr (.inr ⟨h1,fun k m' hk=>⟨by simp,?_⟩⟩)
     cases k with
     |zero=>
      simp only[List.getElem?_cons_zero,VI,VJ]at hk;obtain⟨_,rfl⟩:=hk;simpa using hc
     |succ k=>
      obtain⟨a,b⟩:=h2 k m' (by simpa using hk)
      rw[show j+(k+1)=j+1+k by omega];exact b
   ·rename_i hc;rcases jx anc i t ds (j+1) [] (sset sl d .und)with h|⟨k,m',s',h1,h2,h3,h4⟩|⟨h1,h2⟩
    ·exact .inl h
    ·simp at h2
    ·rw[eQ]at h1;by_cases e:t=d/\d<sl.length
     ·rw[VR e]at h1;exact .inl h1
     ·rw[VQ e]at h1;by_cases e':t=d
      ·subst e';have hl:¬t<sl.length:=fun hh=>e ⟨rfl,hh⟩
       refine .inl ?_;rw[h1,ji,VP,List.getElem?_eq_none (by omega)];rfl
      ·refine .inr (.inr ⟨h1,fun k m' hk=>⟨by simp,?_⟩⟩)
       cases k with
       |zero=>simp only[List.getElem?_cons_zero,VI,VJ]at hk;exact absurd hk.1.symm e'
       |succ k=>
        obtain⟨a,b⟩:=h2 k m' (by simpa using hk)
        rw[show j+(k+1)=j+1+k by omega];exact b
theorem vX {a b:Option Nat} (h:JS a b=true) {t:Nat} (ha:a=some t) (hb:b=some t):False:=by
 subst ha;subst hb;simp[JS]at h
theorem na:∀{ds:List (Option Nat×Nat)},qy ds=true->∀{j k t m m':Nat},ds[j]? =some (some t,m)->ds[k]? =some (some t,m')->j=k
 | [],_,j,k,t,m,m',h,_=>by simp at h
 |p::l,hd,j,k,t,m,m',hj,hk=>by
  simp only[qy,VK,List.all_eq_true]at hd;cases j with
  |zero=>
   cases k with
   |zero=>rfl
   |succ k=>
    simp only[List.getElem?_cons_zero,VI]at hj;have:=hd.1 _ (List.mem_of_getElem? (by simpa using hk))
    exact(vX this (by rw[hj]) rfl).elim
  |succ j=>
   cases k with
   |zero=>
    simp only[List.getElem?_cons_zero,VI]at hk;have:=hd.1 _ (List.mem_of_getElem? (by simpa using hj))
    exact(vX this (by rw[hk]) rfl).elim
   |succ k=>exact congrArg (· +1) (na hd.2 (t:=t) (m:=m) (m':=m') (by simpa using hj) (by simpa using hk))
theorem rY {anc i t:Nat}:∀{ds:List (Option Nat×Nat)} (_:qy ds=true) {j:Nat} {done sl:List S} {k m:Nat} {s:S},ds[k]? =some (some t,m)->done[k]? =some s->anc.testBit (j+k)=true->
  t<sl.length->bF (dO anc i j ds done sl) t=s
 | (none,m0)::ds,hd,j,done,sl,k,m,s,h1,h2,h3,ht=>by
   simp only[qy,VK]at hd;cases k with
   |zero=>simp at h1
   |succ k=>
    simp only[dO];refine rY hd.2 (k:=k) (by simpa using h1) ?_ (by rw[show j+1+k=j+(k+1) by omega];exact h3) ht
    cases done<;>first| (simp at h2;done)|simpa using h2
 | (some d,m0)::ds,hd,j,[],sl,k,m,s,h1,h2,h3,ht=>by simp at h2
 | (some d,m0)::ds,hd,j,x::done,sl,k,m,s,h1,h2,h3,ht=>by
   have hd':=hd;simp only[qy,VK]at hd;cases k with
   |succ k=>
    simp only[dO];exact rY hd.2 (k:=k) (by simpa using h1) (by simpa using h2) (by rw[show j+1+k=j+(k+1) by omega];exact h3) (by rw[fN];exact ht)
   |zero=>
    simp only[List.getElem?_cons_zero,VI,VJ]at h1 h2;obtain⟨rfl,rfl⟩:=h1;subst h2;simp only[dO];simp only[Nat.add_zero]at h3
    have hno:∀(k m':Nat),ds[k]? =some (some d,m')->False:=fun k m' hk=>by
     have:=na hd' (j:=0) (k:=k+1) (t:=d) (m:=m0) (m':=m') (by simp) (by simpa using hk)
     omega
    have key:∀(ds:List (Option Nat×Nat)) (j:Nat) (done sl:List S),(∀(k m':Nat),ds[k]? =some (some d,m')->False)->bF (dO anc i j ds done sl) d=bF sl d:=by
     intro ds;induction ds with
     |nil=>intro j done sl _;simp[dO]
     |cons p ds ih=>
      intro j done sl hn;have hn':∀(k m':Nat),ds[k]? =some (some d,m')->False:=fun k m' hk=>hn (k+1) m' (by simpa using hk)
      obtain⟨a,b⟩:=p;cases a with
      |none=>simp only[dO];exact ih _ _ _ hn'
      |some e=>
       have hne:d≠e:=fun he=>hn 0 b (by simp[he])
       have hss:∀(sl:List S) (y:S),bF (sset sl e y) d=bF sl d:=fun sl y=>by rw[eQ,VQ fun h=>hne h.1]
       cases done with
       |nil=>
        simp only[dO];split
        ·exact ih _ _ _ hn'
        ·rw[ih _ _ _ hn',hss]
       |cons y done=>simp only[dO];rw[ih _ _ _ hn',hss]
    rw[key _ _ _ _ hno,eQ,VR ⟨rfl,ht⟩,VR h3]
 | [],_,j,done,sl,k,m,s,h1,h2,h3,ht=>by simp at h1
theorem yL {anc i t:Nat} {ds:List (Option Nat×Nat)} {j:Nat} {done sl:List S} (ht:¬t<sl.length):bF (dO anc i j ds done sl) t= .und:=by
 rw[ji,VP,List.getElem?_eq_none (by rw[iK];omega)];rfl
def fD:List Dr->Nat->Option (Nat×Nat)
 | [],_=>none
 |d::l,x=>if x<d.new.length then some (0,x)else(fD l (x-d.new.length)).map fun p=>(p.1+1,p.2)
theorem pH:∀l,(uO l).length=l.length
 | []=>rfl
 |_::l=>by simp[uO,pH l]
theorem yu:∀(l:List aC) (x:Nat),ar (uO l) x= .yet
 | [],x=>by simp[uO,ar]
 |_::l,0=>by simp[uO,ar]
 |_::l,x+1=>by simp[uO,ar,yu l x]
theorem oi (p:Nat->Bool) (j:Nat) (d:Dr) (l:List Dr):gn p j (d::l)=(if p j then d.new else uO d.new)++gn p (j+1) l:=by
 simp only[gn];cases h:d.new with
 |nil=>simp[uO]
 |cons r n=>simp[uO]
theorem x9 (p:Nat->Bool):∀(l:List Dr) (j x:Nat),ar (gn p j l) x=match fD l x with
  |some (k,y)=>if p (j+k)then(match l[k]? with|some d=>ar d.new y|none=> .yet)else .yet
  |none=> .yet
 | [],j,x=>by simp[gn,fD,ar]
 |d::l,j,x=>by
  rw[oi,bL];have hlen:(if p j=true then d.new else uO d.new).length=d.new.length:=by split<;>simp[pH]
  rw[hlen];simp only[fD];split
  ·simp only[Nat.add_zero,List.getElem?_cons_zero];split<;>simp[yu]
  ·rw[x9 p l (j+1) (x-d.new.length)];cases hl:fD l (x-d.new.length)with
   |none=>simp
   |some q=>
    obtain⟨k,y⟩:=q;simp only[Option.map_some,List.getElem?_cons_succ];rw[show j+1+k=j+(k+1) by omega]
theorem k7 (p:Nat->Bool):∀(l:List Dr) (j:Nat),(gn p j l).length=lens l
 | [],j=>by simp[gn,lens]
 |d::l,j=>by
  rw[oi,List.length_append,k7 p l,lens];split<;>simp[pH]
theorem fj:∀(l:List Dr) (x k y:Nat),fD l x=some (k,y)↔(∃d,l[k]? =some d/\y<d.new.length)/\x=lens (l.take k)+y
 | [],x,k,y=>by simp[fD]
 |d::l,x,k,y=>by
  simp only[fD];cases k with
  |zero=>
   simp only[List.getElem?_cons_zero,VI,exists_eq_left',List.take_zero,lens,Nat.zero_add];split
   ·simp only[VI,VJ,true_and];exact⟨fun h=>⟨by omega,h⟩,fun h=>h.2⟩
   ·rename_i hx;constructor
    ·intro h;cases hl:fD l (x-d.new.length)<;>simp[hl]at h
    ·intro h;omega
  |succ k=>
   simp only[List.getElem?_cons_succ,List.take_succ_cons,lens];split
   ·rename_i hx;simp only[VI,VJ];constructor
    ·intro h;omega
    ·rintro⟨_,h⟩;omega
   ·rename_i hx;have ih:=fj l (x-d.new.length) k y;constructor
    ·intro h;cases hl:fD l (x-d.new.length)with
     |none=>simp[hl]at h
     |some q=>
      obtain⟨a,b⟩:=q;simp only[hl,Option.map_some,VI,VJ]at h;have:fD l (x-d.new.length)=some (k,y):=by rw[hl];simp;omega
      obtain⟨g1,g2⟩:=ih.1 this;exact⟨g1,by omega⟩
    ·rintro⟨g1,g2⟩
     rw[ih.2 ⟨g1,by omega⟩];rfl
end Go.Sx
namespace Go.Sx
open Go.RowKit (Below)
theorem tA {ds:List (Option Nat×Nat)}:∀{ops:List Oper} {i0:Nat} {dd:List (Option Nat×Nat)},Br ds i0 ops dd=true->ops.length=dd.length/\∀(i:Nat) (o:Oper),ops[i]? =some o->
  ∃m,dd[i]? =some (o.dst,m)/\iD ds o.after.toList=m/\m<2^(i0+i)/\∀j,m.testBit j=true->(aJ ds j ||| m)=m
 | [],i0,[],_=>⟨rfl,by simp⟩
 | [],_,_::_,h=>by simp[Br]at h
 |_::_,_,[],h=>by simp[Br]at h
 |o::l,i0,d::dd,h=>by
  simp only[Br,VK,VM,List.all_eq_true,List.mem_range,Bool.or_eq_true,Bool.not_eq_true',Nat.ble_eq]at h;obtain⟨⟨⟨⟨h1,h2⟩,h3⟩,h4⟩,h5⟩:=h;obtain⟨i1,i2⟩:=tA h5;refine⟨by simp[i1],fun i p hp=>?_⟩
  cases i with
  |zero=>
   simp only[List.getElem?_cons_zero,VI]at hp;subst hp;refine⟨d.2,?_,h2,by rw[Nat.add_zero];exact h3,fun j hj=>?_⟩
   ·obtain⟨d1,d2⟩:=d;simp only[List.getElem?_cons_zero,VI,VJ,and_true];simp only at h1;split at h1<;>simp_all
   ·have hlt:j<i0:=by
     rcases Nat.lt_or_ge j i0 with h|h
     ·exact h
     ·have:=Nat.testBit_lt_two_pow (x:=d.2) (i:=j) (Nat.lt_of_lt_of_le (by omega) (Nat.pow_le_pow_right (by omega) h))
      rw[this]at hj;simp at hj
    rcases h4 j hlt with h|h
    ·rw[h]at hj;simp at hj
    ·exact h
  |succ i=>
   obtain⟨m,a,b,c,e⟩:=i2 i p (by simpa using hp)
   exact⟨m,by simpa using a,b,by rw[show i0+(i+1)=i0+1+i by omega];exact c,e⟩
structure dL (C:Ctx) (ops:List Oper) (ds:List (Option Nat×Nat)) (sl:List S) (res:List aC) (drs:List Dr):Prop where
 okk:Br ds 0 ops ds=true
 dst:qy ds=true
 cl:∀t,(∃x,bF sl t= .v x)\/bF sl t= .und
 plan:∃st hid,(∀i d,drs[i]? =some d->∃o,ops[i]? =some o/\jK C ops ds sl res st hid (drs.take i) i o=some d)/\∀s d u,drs[s]? =some d->d.up=some u->(s,u.1)∈hid
theorem pI {C:Ctx} {D:List S} {R:List aC} {o:Oper} {d:Dr} (h:wM C D R o=some d):∃t p x id off y ty c c',o.op= .store t p x/\o.dst=none/\o.guard=none/\dY D [] p=some (.lp id off)/\dY D [] x=some y/\
  m9 C.P t=some (dP y)/\bO y=false/\ar R id= .blk ty c/\setAt 8 c off y=some c'/\d= {s:= .und,g:=true,q:=none,new:= [],up:=some (id,.blk ty c')}:=by
 unfold wM at h;split at h
 case h_2=>simp at h
 rename_i t p x hop;split at h
 case h_2=>simp at h
 rename_i hd;split at h
 case h_2=>simp at h
 rename_i hg;split at h
 case h_2=>simp at h
 rename_i pv hp;split at h
 case h_2=>simp at h
 rename_i id off;split at h
 case h_2=>simp at h
 rename_i y hy;split at h
 case isFalse=>simp at h
 rename_i hc;simp only[VK,VM,Bool.not_eq_true']at hc;split at h
 case h_2=>simp at h
 rename_i ty c hr;split at h
 case h_2=>simp at h
 rename_i c' hs;simp only[VI]at h;exact⟨t,p,x,id,off,y,ty,c,c',hop,hd,hg,hp,hy,hc.1,hc.2,hr,hs,h.symm⟩
theorem mS {C:Ctx} {ops:List Oper} {st:Bool} {D:List S} {R:List aC} {nid:Nat} {o:Oper} {d:Dr} (h:ru C ops st D R nid o=some d):tf C ops D R nid o=some d\/wM C D R o=some d:=by
 unfold ru at h;split at h
 ·rename_i d' hd;rw[hd];exact .inl h
 ·split at h
  ·exact .inr h
  ·simp at h
theorem th {C:Ctx} {ops:List Oper} {D:List S} {R:List aC} {nid:Nat} {o:Oper} {d:Dr} (h:tf C ops D R nid o=some d):d.up=none:=by
 unfold tf at h;split at h
 case isFalse=>simp at h
 split at h
 ·simp at h
 ·simp only[VI]at h;subst h;rfl
 ·split at h
  ·split at h
   ·simp only[VI]at h;subst h;rfl
   ·split at h
    ·simp only[VI]at h;subst h;rfl
    ·simp at h
  ·simp at h
theorem rQ:∀(l:List Dr) (i:Nat),(uQ l)[i]? =(l[i]?).map Dr.s
 | [],i=>by simp[uQ]
 |d::l,0=>by simp[uQ]
 |d::l,i+1=>by simp[uQ,rQ l i]
theorem Da (l:List Dr):(uQ l).length=l.length:=by
 induction l with
 |nil=>rfl
 |cons d l ih=>simp[uQ,ih]
theorem xI {sl sl':List S}:∀{ch:List (Nat×Bool)},(∀p∈ch,bF sl p.1=bF sl' p.1)->lz sl ch=lz sl' ch
 | [],_=>rfl
 | (s,w)::c,h=>by
   rw[gO,gO,h (s,w) (by simp),xI fun p hp=>h p (by simp[hp])]
section
variable {C:Ctx} {opsA:Array Oper} {ds:List (Option Nat×Nat)} {sl:List S} {res:List aC} {drs:List Dr}
theorem dL.at (P:dL C opsA.toList ds sl res drs) {i:Nat} {o:Oper} (h:opsA[i]? =some o):
  ds[i]? =some (o.dst,aJ ds i)/\(∀k,(aJ ds i).testBit k=true->k<i)/\
  (∀k,(aJ ds i).testBit k=true↔ ∃e∈o.after,Region.binds .any e=true/\(e.on=k\/(aJ ds e.on).testBit k=true))/\
  ∀k r,(aJ ds i).testBit k=true->(aJ ds k).testBit r=true->(aJ ds i).testBit r=true:=by
 obtain⟨m,h1,h2,h3,h4⟩:=(tA P.okk).2 i o (by simpa using h)
 have hm:aJ ds i=m:=by simp[aJ,h1]
 rw[hm];refine⟨h1,fun k hk=>?_,fun k=>?_,fun k r hk hr=>?_⟩
 ·rcases Nat.lt_or_ge k i with h|h
  ·exact h
  ·have:=Nat.testBit_lt_two_pow (x:=m) (i:=k) (Nat.lt_of_lt_of_le h3 (Nat.pow_le_pow_right (by omega) (by omega)))
   rw[this]at hk;simp at hk
 ·rw[<-h2,lv];simp only[Array.mem_toList_iff]
 ·rw[<-h4 k hk,Nat.testBit_or,hr];rfl
def U9 (opsA:Array Oper) (ds:List (Option Nat×Nat)):Prop:=∀i o,opsA[i]? =some o->(∀k,(aJ ds i).testBit k=true->k<i)/\
    (∀k,(aJ ds i).testBit k=true->∃e∈o.after,Region.binds .any e=true/\(e.on=k\/(aJ ds e.on).testBit k=true))/\∀e∈o.after,Region.binds .any e=true->e.on<i
theorem dL.Ud (P:dL C opsA.toList ds sl res drs):U9 opsA ds:=fun i o h=>by
 obtain⟨_,p2,p3,_⟩:=P.at h;exact⟨p2,fun k hk=>(p3 k).1 hk,fun e he hb=>p2 _ ((p3 e.on).2 ⟨e,he,hb,.inl rfl⟩)⟩
theorem dL.len (P:dL C opsA.toList ds sl res drs):ds.length=opsA.size:=by
 have:=(tA P.okk).1;simpa using this.symm
def UL (ds:List (Option Nat×Nat)) (sl:List S) (drs:List Dr) (i:Nat):List S:=dO (aJ ds i) i 0 ds (uQ (drs.take i)) sl
def S8 (ds:List (Option Nat×Nat)) (m:Nat) (ch:List (Nat×Bool)):Prop:=∀p∈ch,∃k m',m.testBit k=true/\ds[k]? =some (some p.1,m')
theorem dL.chain (P:dL C opsA.toList ds sl res drs):∀(i:Nat) (d:Dr),drs[i]? =some d->∀ch x,d.s= .gv ch x->d.g=lz (UL ds sl drs i) ch/\S8 ds (aJ ds i) ch:=by
 intro i;induction i using Nat.strongRecOn with
 |_ i ih=>
  intro d hd ch x hs;obtain⟨st,hid,hpl,_⟩:=P.plan;obtain⟨o,ho,hp⟩:=hpl i d hd;obtain⟨p1,p2,p3,p4⟩:=P.at (i:=i) (o:=o) (by simpa using ho)
  unfold jK at hp;split at hp
  ·rename_i hc;simp only[VK]at hc;rcases mS hp with hp|hp
   case inr=>
    obtain⟨_,_,_,_,_,_,_,_,_,_,_,_,_,_,_,_,_,_,rfl⟩:=pI hp;simp at hs
   unfold tf at hp;split at hp
   case isFalse=>simp at hp
   split at hp
   ·simp at hp
   ·simp only[VI]at hp;subst hp;simp at hs
   ·rename_i ch' hch;split at hp
    ·rename_i q y new hop;cases ch' with
     |nil=>simp only[VI]at hp;subst hp;simp at hs
     |cons c0 c1=>
      simp only at hp;split at hp
      ·simp only[VI]at hp;subst hp;simp only[S.gv.injEq]at hs;obtain⟨rfl,rfl⟩:=hs;refine⟨rfl,?_⟩;unfold p5 at hch;split at hch
       ·simp at hch
       ·rename_i j w hg;split at hch
        ·simp at hch
        ·rename_i s hsd;have hjb:(aJ ds i).testBit j=true:=by have:=hc.1;rw[hg]at this;exact this
         have hj:∃m',ds[j]? =some (some s,m'):=by
          cases hoj:opsA.toList[j]? with
          |none=>simp[hoj]at hsd
          |some oj=>
           simp only[hoj,Option.bind_some]at hsd;have:=(P.at (i:=j) (o:=oj) (by simpa using hoj)).1
           rw[hsd]at this;exact⟨_,this⟩
         have hsub:∀c y,bF (dO (aJ ds i) i 0 ds (uQ (drs.take i)) sl) s= .gv c y->S8 ds (aJ ds i) c:=by
          intro c y hy;rcases jx (aJ ds i) i s ds 0 (uQ (drs.take i)) sl with h|⟨k,m',s',h1,h2,h3,h4⟩|⟨h1,h2⟩
          ·rw[h]at hy;simp at hy
          ·rw[h4]at hy;simp only[Nat.zero_add]at h3;have hki:=p2 k h3;rw[rQ,List.getElem?_take,VR hki]at h2;cases hdk:drs[k]? with
           |none=>simp[hdk]at h2
           |some dk=>
            simp only[hdk,Option.map_some,VI]at h2;obtain⟨_,g2⟩:=ih k hki dk hdk c y (by rw[h2];exact hy)
            exact fun p hp=>let ⟨r,m'',e1,e2⟩:=g2 p hp;⟨r,m'',p4 k r h3 e1,e2⟩
          ·rw[h1]at hy;rcases P.cl s with⟨z,hz⟩|hz<;>rw[hz]at hy<;>simp at hy
         have hhead:∃(k m':Nat),(aJ ds i).testBit k=true/\ds[k]? =some (some s,m'):=let ⟨m',h⟩:=hj;⟨j,m',hjb,h⟩;clear hop;split at hch<;>(try split at hch)<;>simp only[VI,reduceCtorEq,List.cons.injEq]at hch
         ·obtain⟨rfl,rfl⟩:=hch;intro p hp;simp only[List.mem_singleton]at hp;subst hp;exact hhead
         ·rename_i c b hv;obtain⟨rfl,rfl⟩:=hch;intro p hp;rcases List.mem_cons.1 hp with rfl|hp
          ·exact hhead
          ·exact hsub _ _ hv p hp
         ·rename_i c b hv _;subst hch;exact hsub _ _ hv
      ·simp at hp
    ·simp at hp
  ·simp at hp
theorem dL.Iy (P:dL C opsA.toList ds sl res drs) {k:Nat} {d:Dr} (hd:drs[k]? =some d) {ch:List (Nat×Bool)} {x:V} (hs:d.s= .gv ch x) {anc i:Nat} (hi:k<i)
  (hsub:∀r,(aJ ds k).testBit r=true->anc.testBit r=true):lz (dO anc i 0 ds (uQ (drs.take i)) sl) ch=d.g:=by
 obtain⟨h1,h2⟩:=P.chain k d hd ch x hs;rw[h1];obtain⟨st,hid,hpl,_⟩:=P.plan;obtain⟨o,ho,_⟩:=hpl k d hd;obtain⟨p1,p2,p3,p4⟩:=P.at (i:=k) (o:=o) (by simpa using ho)
 have hklt:k<drs.length:=(List.getElem?_eq_some_iff.1 hd).1;refine xI fun p hp=>?_
 obtain⟨r,m',e1,e2⟩:=h2 p hp;have hr:=p2 r e1;by_cases ht:p.1<sl.length
 ·have hdr:drs[r]? =some (drs[r]'(by omega)):=List.getElem?_eq_getElem (by omega)
  rw[rY P.dst (k:=r) e2 (s:=(drs[r]'(by omega)).s) (by rw[rQ,List.getElem?_take,VR (by omega),hdr];rfl) (by simpa using hsub r e1) ht]
  unfold UL;rw[rY P.dst (k:=r) e2 (s:=(drs[r]'(by omega)).s) (by rw[rQ,List.getElem?_take,VR hr,hdr];rfl) (by simpa using e1) ht]
 ·rw[yL ht];unfold UL;rw[yL ht]
def qJ (J:Env) (K:Nat->Prop) (x:Value) (d:Dr):Prop:=
 match d.s with
 | .und=>True
 | .ud=>x=undef
 | .v y=>x=den J y/\ok K y
 | .gv _ y=>(d.g=true->x=den J y/\ok K y)/\(d.g=false->x=undef)
theorem qJ.env {J ρ':Env} {K K':Nat->Prop} {x:Value} {d:Dr} (h:qJ J K x d) (hK:∀i,K i->K' i) (ha:Env.bg K J ρ'):qJ ρ' K' x d:=by
 unfold qJ at h⊢;split
 ·trivial
 ·rename_i hs;rw[hs]at h;exact h
 ·rename_i y hs;rw[hs]at h;exact⟨by rw[eE ha y h.2];exact h.1,cL hK y h.2⟩
 ·rename_i c y hs;rw[hs]at h;exact⟨fun hg=>⟨by rw[eE ha y (h.1 hg).2];exact(h.1 hg).1,cL hK y (h.1 hg).2⟩,h.2⟩
def AV (res:List aC) (drs:List Dr) (L:Nat->Bool):List aC:=Gv L 0 drs (res++gn L 0 drs)
def KL (res:List aC) (drs:List Dr) (L:Nat->Bool) (id:Nat):Prop:=known res id\/(res.length<=id/\∃j y,fD drs (id-res.length)=some (j,y)/\L j=true)
structure Inv (ds:List (Option Nat×Nat)) (sl:List S) (res:List aC) (drs:List Dr) (defs:List (Nat×List V×List V)) (ρ0:Env) (w0:World) (F0:Nat->Prop) (L:Nat->Bool) (J:Env) (fps:Nat->Nat->Prop) (a:Act) (w:World):Prop where
 size:a.tmps.size=sl.length
 done:∀t j m d,ds[j]? =some (some t,m)->drs[j]? =some d->L j=true->qJ J (KL res drs L) (a.tmps.getD t undef) d
 todo:∀t,(∀j m,ds[j]? =some (some t,m)->L j=false)->fF J (KL res drs L) [] (a.tmps.getD t undef) (bF sl t)
 heap:ba J fps (AV res drs L) (KL res drs L) w0 F0 w
 down:∀i k,L i=true->(aJ ds i).testBit k=true->L k=true
 defs:a.defers=defs.flatMap (j5 J)/\∀d∈defs,eH (known res) d.2.1/\eH (known res) d.2.2
 bg:Env.bg (known res) ρ0 J
 newk:∀j d,drs[j]? =some d->L j=true->∀y,y<d.new.length->ar d.new y≠ .yet
theorem fF.plain {J:Env} {K:Nat->Prop} {sl sl':List S} {x:Value} {s:S} (hs:(∃y,s= .v y)\/s= .und) (h:fF J K sl x s):fF J K sl' x s:=by
 rcases hs with⟨y,rfl⟩|rfl
 ·exact h
 ·trivial
theorem dL.view {defs:List (Nat×List V×List V)} {ρ0 J:Env} {w0 w:World} {F0:Nat->Prop} {L:Nat->Bool} {fps:Nat->Nat->Prop} {a:Act} (P:dL C opsA.toList ds sl res drs) (I:Inv ds sl res drs defs ρ0 w0 F0 L J fps a w)
  {anc i:Nat} (h0:i<=drs.length) (h1:∀k,anc.testBit k=true->L k=true/\k<i) (h2:∀k r,anc.testBit k=true->(aJ ds k).testBit r=true->anc.testBit r=true)
  (h3:∀k m t,ds[k]? =some (some t,m)->i<=k->(k=i\/m.testBit i=true)->L k=false):gL J (KL res drs L) (dO anc i 0 ds (uQ (drs.take i)) sl) a:=by
 refine⟨by rw[iK];exact I.size,fun t=>?_⟩
 rcases jx anc i t ds 0 (uQ (drs.take i)) sl with h|⟨k,m',s',e1,e2,e3,e4⟩|⟨e1,e2⟩
 ·rw[h];trivial
 ·simp only[Nat.zero_add]at e3;obtain⟨l1,l2⟩:=h1 k e3;rw[rQ,List.getElem?_take,VR l2]at e2;cases hdk:drs[k]? with
  |none=>simp[hdk]at e2
  |some dk=>
   simp only[hdk,Option.map_some,VI]at e2;have hG:=I.done t k m' dk e1 hdk l1;rw[e4,<-e2];unfold qJ at hG;cases hds:dk.s with
   |und=>trivial
   |ud=>rw[hds]at hG;exact hG
   |v y=>rw[hds]at hG;exact hG
   |gv c y=>
    rw[hds]at hG;have:=P.Iy hdk hds (anc:=anc) (i:=i) l2 (fun r hr=>h2 k r e3 hr)
    exact⟨fun hg=>hG.1 (by rw[<-this];exact hg),fun hg=>hG.2 (by rw[<-this];exact hg)⟩
 ·rw[e1];refine fF.plain (P.cl t) (I.todo t fun j m hj=>?_)
  obtain⟨f1,f2⟩:=e2 j m hj;rw[Da,List.length_take,Nat.min_eq_left h0]at f1;exact h3 j m t hj f1 (by simpa using f2)
end
end Go.Sx
namespace Go.Sx
open Go.RowKit (Below)
theorem nT:∀(l:List Dr) (i k y:Nat),(∃d,l[k]? =some d/\y<d.new.length)->k<i->lens (l.take k)+y<lens (l.take i)
 | [],i,k,y,h,_=>by obtain⟨d,h,_⟩:=h;simp at h
 |d::l,0,k,y,_,h=>by omega
 |d::l,i+1,0,y,h,_=>by
  obtain⟨d',h1,h2⟩:=h;simp only[List.getElem?_cons_zero,VI]at h1;subst h1;simp only[List.take_zero,lens,List.take_succ_cons];omega
 |d::l,i+1,k+1,y,h,hk=>by
  have:=nT l i k y (by simpa using h) (by omega)
  simp only[List.take_succ_cons,lens];omega
theorem uv {l:List Dr} {i x k y:Nat} (h:fD (l.take i) x=some (k,y)):k<i/\fD l x=some (k,y):=by
 rw[fj]at h⊢;obtain⟨⟨d,h1,h2⟩,h3⟩:=h;rw[List.getElem?_take]at h1;by_cases hk:k<i
 ·rw[VR hk]at h1;rw[List.take_take,Nat.min_eq_left (by omega)]at h3
  exact⟨hk,⟨d,h1,h2⟩,h3⟩
 ·rw[VQ hk]at h1;simp at h1
theorem fI (res:List aC) (drs:List Dr) (p:Nat->Bool) (id:Nat):ar (res++gn p 0 drs) id=if id<res.length then ar res id else
  match fD drs (id-res.length)with
  |some (k,y)=>if p k then(match drs[k]? with|some d=>ar d.new y|none=> .yet)else .yet
  |none=> .yet:=by
 rw[bL];split
 ·rfl
 ·rw[x9];simp only[Nat.zero_add];all_goals(cases fD drs (id-res.length)<;>rfl)
theorem lR {res:List aC} {drs:List Dr} {p:Nat->Bool} {id:Nat} (h:known (res++gn p 0 drs) id):KL res drs p id:=by
 unfold known at h;rw[fI]at h;by_cases hlt:id<res.length
 ·rw[VR hlt]at h;exact .inl h
 ·rw[VQ hlt]at h;refine .inr ⟨by omega,?_⟩
  cases hl:fD drs (id-res.length)with
  |none=>simp[hl]at h
  |some q=>
   obtain⟨k,y⟩:=q;simp only[hl]at h;by_cases hp:p k=true
   ·exact⟨k,y,rfl,hp⟩
   ·rw[VQ hp]at h;exact absurd rfl h
theorem B8 {res:List aC} {drs:List Dr} {p L:Nat->Bool} {i:Nat} (hp:∀k,p k=true->L k=true) (id:Nat) (h:known (res++gn p 0 (drs.take i)) id):
  ar (res++gn p 0 (drs.take i)) id=ar (res++gn L 0 drs) id:=by
 unfold known at h;rw[fI]at h⊢;rw[fI];by_cases hlt:id<res.length
 ·rw[VR hlt,VR hlt]
 ·rw[VQ hlt]at h⊢;rw[VQ hlt];cases hl:fD (drs.take i) (id-res.length)with
  |none=>simp[hl]at h
  |some q=>
   obtain⟨k,y⟩:=q;obtain⟨hk,hl'⟩:=uv hl;simp only[hl]at h⊢;rw[hl'];by_cases hpk:p k=true
   ·simp only[VR hpk,VR (hp k hpk),List.getElem?_take,VR hk]
   ·rw[VQ hpk]at h;exact absurd rfl h
def cW (p:Nat->Bool) (id:Nat):Nat->List Dr->Option aC
 |_,[]=>none
 |j,d::l=>match cW p id (j+1) l with
  |some r=>some r
  |none=>match d.up with
   |some u=>if p j&&u.1==id then some u.2 else none
   |none=>none
theorem kf (p:Nat->Bool):∀(l:List Dr) (j:Nat) (R:List aC),(Gv p j l R).length=R.length
 | [],j,R=>rfl
 |d::l,j,R=>by
  simp only[Gv];split
  ·exact kf p l _ R
  ·split
   ·rw[kf p l,bS]
   ·exact kf p l _ R
theorem nL (p:Nat->Bool) (id:Nat):∀(l:List Dr) (j:Nat) (R:List aC),id<R.length->ar (Gv p j l R) id=(cW p id j l).getD (ar R id)
 | [],j,R,h=>rfl
 |d::l,j,R,h=>by
  simp only[Gv,cW];cases hu:d.up with
  |none=>
   simp only;rw[nL p id l _ R h];cases cW p id (j+1) l<;>rfl
  |some u=>
   simp only;by_cases hp:p j=true
   ·rw[VR hp,nL p id l _ _ (by rw[bS];exact h)]
    cases cW p id (j+1) l with
    |some r=>rfl
    |none=>
     simp only[Option.getD_none,hp,Bool.true_and];by_cases e:u.1=id
     ·subst e;rw[bq _ _ _ _ h];simp
     ·by_cases hl:u.1<R.length
      ·rw[bq _ _ _ _ hl,VQ (Ne.symm e)];simp[e]
      ·rw[jl,List.set_eq_of_length_le (by omega)]
       simp[e]
   ·rw[VQ hp,nL p id l _ R h];cases cW p id (j+1) l with
    |some r=>rfl
    |none=>simp[hp]
theorem jP {p L:Nat->Bool} {id:Nat}:∀(l:List Dr) (j m:Nat),(∀k d u,l[k]? =some d->d.up=some u->u.1=id->(L (j+k)=true↔k<m/\p (j+k)=true))->cW p id j (l.take m)=cW L id j l
 | [],j,m,h=>by simp[cW]
 |d::l,j,0,h=>by
  have h':=jP (p:=p) (L:=L) (id:=id) l (j+1) 0 fun k d' u h1 h2 h3=>by
   have:=h (k+1) d' u (by simpa using h1) h2 h3
   rw[show j+1+k=j+(k+1) by omega]
   constructor
   ·intro hh;exact absurd (this.1 hh).1 (by omega)
   ·intro hh;exact absurd hh.1 (by omega)
  simp only[List.take_zero,cW]at h'⊢;rw[<-h'];simp only;cases hu:d.up with
  |none=>rfl
  |some u=>
   simp only;rw[VQ];intro hh;simp only[VK,VM]at hh;exact absurd ((h 0 d u (by simp) hu hh.2).1 (by simpa using hh.1)).1 (by omega)
 |d::l,j,m+1,h=>by
  have h':=jP (p:=p) (L:=L) (id:=id) l (j+1) m fun k d' u h1 h2 h3=>by
   have:=h (k+1) d' u (by simpa using h1) h2 h3
   rw[show j+1+k=j+(k+1) by omega]
   constructor
   ·intro hh;exact⟨by have:=(this.1 hh).1;omega,(this.1 hh).2⟩
   ·intro hh;exact this.2 ⟨by omega,hh.2⟩
  simp only[List.take_succ_cons,cW,h'];cases cW L id (j+1) l with
  |some r=>rfl
  |none=>
   simp only;cases hu:d.up with
   |none=>rfl
   |some u=>
    simp only;by_cases e:u.1=id
    ·have:=h 0 d u (by simp) hu e
     simp only[Nat.add_zero]at this
     have hb:p j=L j:=by
      rw[Bool.eq_iff_iff];exact⟨fun hh=>this.2 ⟨by omega,hh⟩,fun hh=>(this.1 hh).2⟩
     rw[hb]
    ·simp[e]
theorem gy {p:Nat->Bool} {id:Nat} {r:aC}:∀(l:List Dr) (j:Nat),cW p id j l=some r->∃k d,l[k]? =some d/\d.up=some (id,r)/\p (j+k)=true
 | [],j,h=>by simp[cW]at h
 |d::l,j,h=>by
  simp only[cW]at h;split at h
  ·rename_i r' hr;simp only[VI]at h;subst h;obtain⟨k,d',h1,h2,h3⟩:=gy l (j+1) hr;exact⟨k+1,d',by simpa using h1,h2,by rw[show j+(k+1)=j+1+k by omega];exact h3⟩
  ·split at h
   ·rename_i u hu;split at h
    ·rename_i hc;simp only[VK,VM]at hc;simp only[VI]at h;subst h;exact⟨0,d,by simp,by rw[hu,<-hc.2],by simpa using hc.1⟩
    ·simp at h
   ·simp at h
theorem uH {p:Nat->Bool} {id:Nat} {r:aC}:∀(l:List Dr) (j s:Nat) (d:Dr),l[s]? =some d->d.up=some (id,r)->p (j+s)=true->(∀k d' u,s<k->l[k]? =some d'->d'.up=some u->u.1=id->p (j+k)=false)->cW p id j l=some r
 | [],j,s,d,h,_,_,_=>by simp at h
 |x::l,j,0,d,h,hu,hp,hn=>by
  simp only[List.getElem?_cons_zero,VI]at h;subst h;simp only[cW]
  have:cW p id (j+1) l=none:=by
   cases hl:cW p id (j+1) l with
   |none=>rfl
   |some r'=>
    obtain⟨k,d',h1,h2,h3⟩:=gy l (j+1) hl;have:=hn (k+1) d' _ (by omega) (by simpa using h1) h2 rfl
    rw[show j+(k+1)=j+1+k by omega,h3]at this
    simp at this
  rw[this,hu];simp only[Nat.add_zero]at hp;simp[hp]
 |x::l,j,s+1,d,h,hu,hp,hn=>by
  simp only[cW]
  rw[uH l (j+1) s d (by simpa using h) hu (by rw[show j+1+s=j+(s+1) by omega];exact hp) fun k d' u h1 h2 h3 h4=>by
   rw[show j+1+k=j+(k+1) by omega]
   exact hn (k+1) d' u (by omega) (by simpa using h2) h3 h4]
theorem nk (ds:List (Option Nat×Nat)) (i:Nat):∀(h:List (Nat×Nat)) (R:List aC) (id:Nat),known (yF ds i h R) id->ar (yF ds i h R) id=ar R id/\known R id/\∀s,(s,id)∈h->s=i\/(aJ ds i).testBit s=true\/(aJ ds s).testBit i=true
 | [],R,id,hk=>⟨rfl,hk,by simp⟩
 |u::h,R,id,hk=>by
  unfold yF at hk⊢;split at hk
  ·rename_i hc;rw[VR hc];obtain⟨a,b,c⟩:=nk ds i h R id hk;refine⟨a,b,fun s hs=>?_⟩
   rcases List.mem_cons.1 hs with rfl|hs
   ·simp only[Bool.or_eq_true,VM]at hc;rcases hc with(hc|hc)|hc
    ·exact .inl hc
    ·exact .inr (.inl hc)
    ·exact .inr (.inr hc)
   ·exact c s hs
  ·rename_i hc;rw[VQ hc];obtain⟨a,b,c⟩:=nk ds i h _ id hk
   have hne:u.2≠id\/¬u.2<R.length:=by
    by_cases e:u.2=id
    ·right
     intro hl;unfold known at b;rw[bq _ _ _ _ hl,VR e.symm]at b;exact b rfl
    ·exact .inl e
   have hr:ar (bw R u.2 .yet) id=ar R id:=by
    rcases hne with e|hl
    ·by_cases hl:u.2<R.length
     ·rw[bq _ _ _ _ hl,VQ (Ne.symm e)]
     ·rw[jl,List.set_eq_of_length_le (by omega)]
    ·rw[jl,List.set_eq_of_length_le (by omega)]
   have hkR:known R id:=by unfold known at b⊢;rw[<-hr];exact b
   refine⟨by rw[a,hr],hkR,fun s hs=>?_⟩
   rcases List.mem_cons.1 hs with rfl|hs
   ·exfalso
    rcases hne with e|hl
    ·exact e rfl
    ·exact hl (aG hkR)
   ·exact c s hs
def ins (L:Nat->Bool) (i:Nat) (k:Nat):Bool:=k==i||L k
theorem FE {res:List aC} {drs:List Dr} {L:Nat->Bool} {i:Nat} {d:Dr} (hd:drs[i]? =some d) (hi:L i=false) (hnew:∀k,k<d.new.length->ar d.new k≠ .yet):
  MC (res++gn L 0 drs) (res++gn (ins L i) 0 drs) (res.length+lens (drs.take i)) d.new/\
  (∀id,KL res drs L id->¬fresh (res.length+lens (drs.take i)) d.new.length id)/\
  (∀id,KL res drs L id\/fresh (res.length+lens (drs.take i)) d.new.length id->KL res drs (ins L i) id):=by
 have hfr:∀id,fresh (res.length+lens (drs.take i)) d.new.length id↔res.length<=id/\∃y,fD drs (id-res.length)=some (i,y):=by
  intro id;constructor
  ·rintro⟨h1,h2⟩
   refine⟨by omega,id-res.length-lens (drs.take i),?_⟩
   rw[fj];exact⟨⟨d,hd,by omega⟩,by omega⟩
  ·rintro⟨h1,y,h2⟩
   rw[fj]at h2;obtain⟨⟨d',h3,h4⟩,h5⟩:=h2;rw[hd]at h3;simp only[VI]at h3;subst h3;exact⟨by omega,by omega⟩
 have hKf:∀id,KL res drs L id->¬fresh (res.length+lens (drs.take i)) d.new.length id:=by
  rintro id (hk|⟨h1,j,y,h2,h3⟩) hf
  ·have:=aG hk;have:=((hfr id).1 hf).1;omega
  ·obtain⟨_,y',h4⟩:=(hfr id).1 hf;rw[h4]at h2;simp only[VI,VJ]at h2;rw[<-h2.1,hi]at h3;simp at h3
 refine⟨⟨fun id hk=>⟨?_,hKf id (lR hk)⟩,fun id hk=>?_,fun k hk=>?_⟩,hKf,?_⟩
 ·have h0:=lR hk;rw[fI,fI];by_cases hlt:id<res.length
  ·rw[VR hlt,VR hlt]
  ·rw[VQ hlt,VQ hlt];rcases h0 with h0|⟨h1,j,y,h2,h3⟩
   ·exact absurd (aG h0) hlt
   ·simp only[h2,ins,h3,Bool.or_true,if_true]
 ·rcases lR hk with h0|⟨h1,j,y,h2,h3⟩
  ·left
   unfold known;rw[fI,VR (aG h0)];exact h0
  ·by_cases e:j=i
   ·subst e;exact .inr ((hfr id).2 ⟨h1,y,h2⟩)
   ·left
    have h3':L j=true:=by simpa[ins,e]using h3
    unfold known at hk⊢;rw[fI,VQ (by omega),h2]at hk⊢
    simp only[h3,h3',if_true]at hk⊢;exact hk
 ·rw[fI,VQ (by omega)]
  have:fD drs (res.length+lens (drs.take i)+k-res.length)=some (i,k):=by
   rw[fj];exact⟨⟨d,hd,hk⟩,by omega⟩
  rw[this];simp only[ins,beq_self_eq_true,Bool.true_or,if_true,hd]
 ·rintro id (h|h)
  ·rcases h with h|⟨h1,j,y,h2,h3⟩
   ·exact .inl h
   ·exact .inr ⟨h1,j,y,h2,by simp[ins,h3]⟩
  ·obtain⟨h1,y,h2⟩:=(hfr id).1 h;exact .inr ⟨h1,i,y,h2,by simp[ins]⟩
section
variable {C:Ctx} {opsA:Array Oper} {ds:List (Option Nat×Nat)} {sl:List S} {res:List aC} {drs:List Dr} {defs:List (Nat×List V×List V)} {ρ0 J:Env} {w0 w:World} {F0:Nat->Prop} {L:Nat->Bool} {fps:Nat->Nat->Prop} {a:Act}
theorem Inv.put (P:dL C opsA.toList ds sl res drs) (I:Inv ds sl res drs defs ρ0 w0 F0 L J fps a w) {i:Nat} {o:Oper} {d:Dr} (ho:opsA[i]? =some o) (hd:drs[i]? =some d) (hdst:BB sl.length o.dst=true)
  {ρ':Env} {fps':Nat->Nat->Prop} {w':World} {x:Value} (hL:∀k,(aJ ds i).testBit k=true->L k=true) (hK:∀id,KL res drs L id->KL res drs (ins L i) id) (hag:Env.bg (KL res drs L) J ρ')
  (hH:ba ρ' fps' (AV res drs (ins L i)) (KL res drs (ins L i)) w0 F0 w') (hx:qJ ρ' (KL res drs (ins L i)) x d) (hnew:∀y,y<d.new.length->ar d.new y≠ .yet):
  Inv ds sl res drs defs ρ0 w0 F0 (ins L i) ρ' fps' (a.put o.dst x) w':=by
 have hpi:=(P.at ho).1;have hsz:(a.put o.dst x).tmps.size=a.tmps.size:=by cases o.dst<;>simp[Act.put]
 have hold:∀t,o.dst≠some t->(a.put o.dst x).tmps.getD t undef=a.tmps.getD t undef:=by
  intro t ht;cases hdd:o.dst with
  |none=>simp[Act.put]
  |some e=>
   have:e≠t:=fun h=>ht (by rw[hdd,h])
   simp[Act.put,Array.getD_eq_getD_getElem?,Array.getElem?_setIfInBounds_ne this]
 refine⟨by rw[hsz];exact I.size,?_,?_,hH,?_,?_,?_,?_⟩
 ·intro t j m dj h1 h2 h3;by_cases e:o.dst=some t
  ·rw[e]at hpi;have:=na P.dst h1 hpi;subst this;rw[hd]at h2;simp only[VI]at h2;subst h2;rw[e]at hdst;have hlt:t<sl.length:=by simpa[BB]using hdst
   have:(a.put o.dst x).tmps.getD t undef=x:=by
    rw[e];simp[Act.put,I.size,hlt]
   rw[this];exact hx
  ·rw[hold t e]
   have hji:j≠i:=fun hji=>by
    subst hji;rw[h1]at hpi;simp only[VI,VJ]at hpi;exact e hpi.1.symm
   exact(I.done t j m dj h1 h2 (by simpa[ins,hji]using h3)).env hK hag
 ·intro t hall
  have e:o.dst≠some t:=fun e=>by
   rw[e]at hpi;have:=hall i _ hpi;simp[ins]at this
  rw[hold t e]
  exact(I.todo t fun j m hj=>by
   have:=hall j m hj;simp only[ins,Bool.or_eq_false_iff]at this;exact this.2).env hK hag
 ·intro j k hj hk;simp only[ins,Bool.or_eq_true,VM]at hj⊢;rcases hj with rfl|hj
  ·exact .inr (hL k hk)
  ·exact .inr (I.down j k hj hk)
 ·have hag':Env.bg (known res) J ρ':=hag.mono fun id h=> .inl h
  obtain⟨e1,e2⟩:=eC (ρ':=ρ') (K':=known res) I.defs.2 hag' fun _ h=>h
  exact⟨by rw[show(a.put o.dst x).defers=a.defers from put_defers _ _ _,I.defs.1];exact e1.symm,e2⟩
 ·exact I.bg.trans (hag.mono fun id h=> .inl h) fun _ h=>h
 ·intro j dj h1 h2;by_cases e:j=i
  ·subst e;rw[hd]at h1;simp only[VI]at h1;subst h1;exact hnew
  ·exact I.newk j dj h1 (by simpa[ins,e]using h2)
theorem uU {p q:Nat->Bool} (h:∀k,p k=true->q k=true) {id:Nat} (hk:KL res drs p id):KL res drs q id:=by
 rcases hk with h1|⟨h1,j,y,h2,h3⟩
 ·exact .inl h1
 ·exact .inr ⟨h1,j,y,h2,h j h3⟩
theorem LM {p:Nat->Bool} {i id:Nat} (hk:KL res (drs.take i) p id):KL res drs p id:=by
 rcases hk with h1|⟨h1,j,y,h2,h3⟩
 ·exact .inl h1
 ·exact .inr ⟨h1,j,y,(uv h2).2,h3⟩
theorem nj:(AV res drs L).length=res.length+lens drs:=by unfold AV;rw[kf,List.length_append,k7]
theorem kT {id:Nat} (h:id<res.length+lens drs):ar (AV res drs L) id=(cW L id 0 drs).getD (ar (res++gn L 0 drs) id):=by
 unfold AV;rw[nL _ _ _ _ _ (by rw[List.length_append,k7];exact h)]
theorem Dy {st:Bool} {hid:List (Nat×Nat)} (hpl:∀i d,drs[i]? =some d->∃o,opsA.toList[i]? =some o/\jK C opsA.toList ds sl res st hid (drs.take i) i o=some d) {s:Nat} {d:Dr} {u:Nat×aC} (hd:drs[s]? =some d) (hu:d.up=some u):
  ∃o,opsA.toList[s]? =some o/\BB sl.length o.dst=true/\wM C (dO (aJ ds s) s 0 ds (uQ (drs.take s)) sl) (vw ds hid res (drs.take s) s) o=some d:=by
 obtain⟨o,ho,hp⟩:=hpl s d hd;unfold jK at hp;split at hp
 case isFalse=>simp at hp
 rename_i hc;simp only[VK]at hc;rcases mS hp with h|h
 ·rw[th h]at hu;simp at hu
 ·exact⟨o,ho,hc.2,h⟩
theorem mL (P:dL C opsA.toList ds sl res drs):∀(s:Nat) (d:Dr) (u:Nat×aC),drs[s]? =some d->d.up=some u->KL res drs (fun k=>(aJ ds s).testBit k) u.1/\∃ty c,u.2= .blk ty c:=by
 obtain⟨st,hid,hpl,hhid⟩:=P.plan;intro s;induction s using Nat.strongRecOn with
 |_ s ih=>
  intro d u hd hu;obtain⟨o,ho,_,hp⟩:=Dy hpl hd hu;obtain⟨p1,p2,p3,p4⟩:=P.at (i:=s) (o:=o) (by simpa using ho)
  obtain⟨t,p,x,id,off,y,ty,c,c',_,_,_,_,_,_,_,hr,_,rfl⟩:=pI hp;simp only[VI]at hu;subst hu;refine⟨?_,ty,c',rfl⟩;have hk:known (vw ds hid res (drs.take s) s) id:=by unfold known;rw[hr];simp
  obtain⟨_,hk2,_⟩:=nk _ _ _ _ _ hk;have hlen:=aG hk2;rw[kf]at hlen;unfold known at hk2;rw[nL _ _ _ _ _ hlen]at hk2;cases hl:cW (Nat.testBit (aJ ds s)) id 0 (drs.take s)with
  |some r=>
   obtain⟨k,d',h1,h2,h3⟩:=gy _ _ hl;rw[List.getElem?_take]at h1;simp only[Nat.zero_add]at h3;have hks:=p2 k h3;rw[VR hks]at h1;exact uU (fun q hq=>p4 k q h3 hq) (ih k hks d' _ h1 h2).1
  |none=>
   rw[hl]at hk2;rw[pX]at hk2;exact LM (lR hk2)
theorem Ba (P:dL C opsA.toList ds sl res drs) (hdown:∀i k,L i=true->(aJ ds i).testBit k=true->L k=true) {id:Nat} (hk:known (AV res drs L) id):KL res drs L id:=by
 have hlt:=aG hk;rw[nj]at hlt;unfold known at hk;rw[kT hlt]at hk;cases hl:cW L id 0 drs with
 |some r=>
  obtain⟨k,d',h1,h2,h3⟩:=gy _ _ hl;simp only[Nat.zero_add]at h3;exact uU (fun q hq=>hdown k q h3 hq) (mL P k d' _ h1 h2).1
 |none=>
  rw[hl]at hk;exact lR hk
theorem yD {hid:List (Nat×Nat)} (P:dL C opsA.toList ds sl res drs) (hhid:∀s d u,drs[s]? =some d->d.up=some u->(s,u.1)∈hid) {i:Nat} (hil:i<=drs.length) (hi:L i=false) (hL:∀k,(aJ ds i).testBit k=true->L k=true)
  (hlt:∀k,(aJ ds i).testBit k=true->k<i) (hdown:∀i k,L i=true->(aJ ds i).testBit k=true->L k=true) {id:Nat} (hk:known (vw ds hid res (drs.take i) i) id):ar (vw ds hid res (drs.take i) i) id=ar (AV res drs L) id:=by
 obtain⟨h1,h2,h3⟩:=nk _ _ _ _ _ hk;have hlen:=aG h2;rw[kf]at hlen;unfold vw;rw[h1,nL _ _ _ _ _ hlen]
 have hlen2:id<res.length+lens drs:=by
  rw[pX,List.length_append,k7]at hlen
  have:lens (drs.take i)<=lens drs:=by
   have:∀(l:List Dr) (n:Nat),lens (l.take n)<=lens l:=by
    intro l;induction l with
    |nil=>intro n;simp[lens]
    |cons d l ih=>
     intro n;cases n with
     |zero=>simp[lens]
     |succ n=>simp only[List.take_succ_cons,lens];have:=ih n;omega
   exact this drs i
  omega
 rw[kT hlen2]
 have hup:cW (Nat.testBit (aJ ds i)) id 0 (drs.take i)=cW L id 0 drs:=by
  refine jP drs 0 i fun k d u e1 e2 e3=>?_
  simp only[Nat.zero_add];constructor
  ·intro hLk;have hm:=hhid k d u e1 e2;rw[e3]at hm;rcases h3 k hm with rfl|h|h
   ·rw[hi]at hLk;simp at hLk
   ·exact⟨hlt k h,h⟩
   ·rw[hdown k i hLk h]at hi;simp at hi
  ·rintro⟨_,h⟩
   exact hL k h
 rw[hup];cases hl:cW L id 0 drs with
 |some r=>rfl
 |none=>
  simp only[Option.getD_none];unfold known at h2;rw[nL _ _ _ _ _ hlen,hup,hl]at h2;rw[pX]at h2⊢;exact B8 (fun k hk=>hL k hk) id h2
theorem zY (P:dL C opsA.toList ds sl res drs) (hdown:∀i k,L i=true->(aJ ds i).testBit k=true->L k=true) {i:Nat} {d:Dr} (hd:drs[i]? =some d) (hi:L i=false) (hu:d.up=none) (hnew:∀k,k<d.new.length->ar d.new k≠ .yet):
  MC (AV res drs L) (AV res drs (ins L i)) (res.length+lens (drs.take i)) d.new/\
  (∀id,KL res drs L id->¬fresh (res.length+lens (drs.take i)) d.new.length id)/\
  (∀id,KL res drs L id\/fresh (res.length+lens (drs.take i)) d.new.length id->KL res drs (ins L i) id):=by
 obtain⟨⟨a1,a2,a3⟩,b,c⟩:=FE (res:=res) hd hi hnew
 have hup:∀id,cW (ins L i) id 0 drs=cW L id 0 drs:=fun id=>by
  have:=jP (p:=ins L i) (L:=L) (id:=id) drs 0 drs.length fun k d' u e1 e2 e3=>by
   simp only[Nat.zero_add]
   have hk:k≠i:=fun e=>by
    subst e;rw[hd]at e1;simp only[VI]at e1;subst e1;rw[hu]at e2;simp at e2
   have hkl:=(List.getElem?_eq_some_iff.1 e1).1;constructor
   ·intro h;exact⟨hkl,by simp[ins,h]⟩
   ·rintro⟨_,h⟩;simpa[ins,hk]using h
  rwa [List.take_length]at this
 have hnot:∀id,KL res drs L id->∀r,cW L id 0 drs=some r->r≠ .yet:=fun id _ r hr=>by
  obtain⟨k,d',h1,h2,_⟩:=gy _ _ hr;obtain⟨_,ty,c,e⟩:=mL P k d' _ h1 h2;simp only at e;rw[e];simp
 refine⟨⟨fun id hk=>?_,fun id hk=>?_,fun k hk=>?_⟩,b,c⟩
 ·have hKL:=Ba P hdown hk;have hlt:=aG hk;rw[nj]at hlt;refine⟨?_,b id hKL⟩;rw[kT hlt,kT hlt,hup];cases hl:cW L id 0 drs with
  |some r=>rfl
  |none=>
   simp only[Option.getD_none];unfold known at hk;rw[kT hlt,hl]at hk;exact(a1 id hk).1
 ·have hlt:=aG hk;rw[nj]at hlt;unfold known at hk⊢;rw[kT hlt,hup]at hk;rw[kT hlt];cases hl:cW L id 0 drs with
  |some r=>
   left
   rw[hl]at hk;exact hk
  |none=>
   rw[hl]at hk;exact a2 id hk
 ·have h3:=a3 k hk
  have hlt:res.length+lens (drs.take i)+k<res.length+lens drs:=by
   have:=nT drs drs.length i k ⟨d,hd,hk⟩ (List.getElem?_eq_some_iff.1 hd).1;rw[List.take_length]at this;omega
  rw[kT hlt,hup];have hfr:fresh (res.length+lens (drs.take i)) d.new.length (res.length+lens (drs.take i)+k):=⟨by omega,by omega⟩
  cases hl:cW L (res.length+lens (drs.take i)+k) 0 drs with
  |none=>exact h3
  |some r=>
   exfalso
   obtain⟨s,d',h1,h2,h4⟩:=gy _ _ hl;simp only[Nat.zero_add]at h4;exact b _ (uU (fun q hq=>hdown s q h4 hq) (mL P s d' _ h1 h2).1) hfr
theorem Ke (P:dL C opsA.toList ds sl res drs) {hid:List (Nat×Nat)} (hhid:∀s d u,drs[s]? =some d->d.up=some u->(s,u.1)∈hid) (hdown:∀i k,L i=true->(aJ ds i).testBit k=true->L k=true) {i:Nat} {d:Dr} {id:Nat} {r:aC} (hd:drs[i]? =some d)
  (hi:L i=false) (hu:d.up=some (id,r)) (hn:d.new= []) (hk:known (vw ds hid res (drs.take i) i) id) (hlt:∀k,(aJ ds i).testBit k=true->k<i) (hkn:known (AV res drs L) id):
  (∀x,known (AV res drs (ins L i)) x->ar (AV res drs (ins L i)) x=ar (bw (AV res drs L) id r) x)/\∀x,KL res drs L x↔KL res drs (ins L i) x:=by
 have hKL:∀x,KL res drs L x↔KL res drs (ins L i) x:=fun x=>by
  constructor
  ·exact uU fun k hk=>by simp[ins,hk]
  ·rintro(h|⟨h1,j,y,h2,h3⟩)
   ·exact .inl h
   ·refine .inr ⟨h1,j,y,h2,?_⟩
    have hj:j≠i:=fun e=>by
     subst e;rw[fj]at h2;obtain⟨⟨d',e1,e2⟩,_⟩:=h2;rw[hd]at e1;simp only[VI]at e1;subst e1;rw[hn]at e2;simp at e2
    simpa[ins,hj]using h3
 refine⟨fun x hx=>?_,hKL⟩
 have hxl:=aG hx;rw[nj]at hxl;have hidl:=aG hkn
 have hbase:ar (res++gn (ins L i) 0 drs) x=ar (res++gn L 0 drs) x:=by
  rw[fI,fI];split
  ·rfl
  ·cases hl:fD drs (x-res.length)with
   |none=>rfl
   |some q=>
    obtain⟨k,y⟩:=q;simp only
    have hj:k≠i:=fun e=>by
     subst e;rw[fj]at hl;obtain⟨⟨d',e1,e2⟩,_⟩:=hl;rw[hd]at e1;simp only[VI]at e1;subst e1;rw[hn]at e2;simp at e2
    simp[ins,hj]
 rw[bq _ _ _ _ hidl,kT hxl];by_cases e:x=id
 ·subst e;rw[VR rfl,uH drs 0 i d hd hu (by simp[ins]) fun k d' u h1 h2 h3 h4=>?_]
  ·rfl
  ·simp only[Nat.zero_add,ins,Bool.or_eq_false_iff,beq_eq_false_iff_ne];refine⟨by omega,?_⟩
   cases hLk:L k with
   |false=>rfl
   |true=>
    exfalso
    obtain⟨_,_,h5⟩:=nk _ _ _ _ _ hk;have hm:=hhid k d' u h2 h3;rw[h4]at hm;rcases h5 k hm with rfl|h|h
    ·omega
    ·have:=hlt k h;omega
    ·rw[hdown k i hLk h]at hi;simp at hi
 ·rw[VQ e,kT hxl,hbase]
  have hup:cW (ins L i) x 0 drs=cW L x 0 drs:=by
   have:=jP (p:=ins L i) (L:=L) (id:=x) drs 0 drs.length fun k d' u e1 e2 e3=>by
    simp only[Nat.zero_add]
    have hk:k≠i:=fun e'=>by
     subst e';rw[hd]at e1;simp only[VI]at e1;subst e1;rw[hu]at e2;simp only[VI]at e2;subst e2;exact e e3.symm
    have hkl:=(List.getElem?_eq_some_iff.1 e1).1;constructor
    ·intro h;exact⟨hkl,by simp[ins,h]⟩
    ·rintro⟨_,h⟩;simpa[ins,hk]using h
   rwa [List.take_length]at this
  rw[hup]
theorem Inv.step {ops:Array Oper} {K:Act->World->Prop} {Q:Exit->Act->World->Prop} {ro:Option Nat} (hops:ops=opsA) (hnd:ro≠none->∀o∈opsA.toList,dz o) (hC:C.Sound) (P:dL C opsA.toList ds sl res drs) (hq:∀(i:Nat) (d:Dr),drs[i]? =some d->(d.g=true->dv d.q))
  (I:Inv ds sl res drs defs ρ0 w0 F0 L J fps a w) {i:Nat} {d:Dr} (hd:drs[i]? =some d)
  (hi:L i=false) (hL:∀k,(aJ ds i).testBit k=true->L k=true)
  (hn:∀ρ' fps' a' w',Inv ds sl res drs defs ρ0 w0 F0 (ins L i) ρ' fps' a' w'->K a' w'):wpOpIn (FF C.P ro) 0 C.P ops Q i K a w:=by
 subst hops;obtain⟨st,hid,hpl,hhid⟩:=P.plan;obtain⟨o,ho,hp⟩:=hpl i d hd;have ho':ops[i]? =some o:=by simpa using ho
 obtain⟨p1,p2,p3,p4⟩:=P.at ho';have hilt:i<drs.length:=(List.getElem?_eq_some_iff.1 hd).1
 have hview:gL J (KL res drs L) (dO (aJ ds i) i 0 ds (uQ (drs.take i)) sl) a:=by
  refine P.view I (by omega) (fun k hk=>⟨hL k hk,p2 k hk⟩) p4 fun k m t h1 h2 h3=>?_
  rcases h3 with rfl|h3
  ·exact hi
  ·cases hLk:L k with
   |false=>rfl
   |true=>
    have hm:aJ ds k=m:=by simp[aJ,h1]
    have:=I.down k i hLk (by rw[hm];exact h3)
    rw[hi]at this;exact absurd this (by simp)
 have hres:ba J fps (vw ds hid res (drs.take i) i) (KL res drs L) w0 F0 w:=I.heap.forget fun id hk=>yD P hhid (by omega) hi hL p2 I.down hk
 unfold wpOpIn;simp only[ho'];have hdo:ro≠none->dz o:=fun hr=>hnd hr o (by rw[<-Array.getElem?_toList]at ho';exact List.mem_of_getElem? ho')
 unfold jK at hp;split at hp
 ·rename_i hc;simp only[VK]at hc;rcases mS hp with hp|hp
  case inr=>
   obtain⟨t,px,x,id,off,y,ty,c,c',q1,q2,q3,q4,q5,q6,q7,q8,q9,rfl⟩:=pI hp;rw[VR (by simp[Region.wanted,q3])]
   have hkv:known (vw ds hid res (drs.take i) i) id:=by unfold known;rw[q8];simp
   have hav:ar (AV res drs L) id= .blk ty c:=by rw[<-yD P hhid (by omega) hi hL p2 I.down hkv];exact q8
   have hkn:known (AV res drs L) id:=by unfold known;rw[hav];simp
   obtain⟨e1,e2⟩:=fJ hview rfl q4;obtain⟨e3,e4⟩:=fJ hview rfl q5
   have hst:nZ C.P (AV res drs L) t (.lp id off) y=some (bw (AV res drs L) id (.blk ty c')):=by
    unfold nZ;rw[VR (by rw[q6,q7];simp)]
    simp only[hav,q9,Option.map_some]
   obtain⟨w',s1,s2,s3⟩:=oP I.heap hst e2 e4;have hrun:(execOp a.eval o).run C.P w= .ok .skip w':=by simp[execOp,q1,e1,e3,s1]
   refine dF hdo (fun f hf=>by unfold Oper.about at hf;rw[q1]at hf;simp at hf) ?_
   rw[hrun];obtain⟨t1,t2⟩:=Ke P hhid I.down hd hi rfl rfl hkv p2 hkn;have hH:ba J fps (AV res drs (ins L i)) (KL res drs (ins L i)) w0 F0 w':=(s2.sV fun id h=>(t2 id).1 h).forget t1
   exact hn _ _ _ _ (I.put P ho' hd hc.2 hL (fun id h=>(t2 id).1 h) (Env.bg.refl _ _) hH (by simp[qJ]) (by simp))
  have hun:=th hp;unfold tf at hp
  have hsame:d.new= []->∀x,(∀ρ',ρ'=J->qJ ρ' (KL res drs (ins L i)) x d)->Inv ds sl res drs defs ρ0 w0 F0 (ins L i) J fps (a.put o.dst x) w:=by
   intro hnew x hx;obtain⟨a1,a2,a3⟩:=zY P I.down hd hi hun (by rw[hnew];simp)
   obtain⟨fps',g1,g2⟩:=I.heap.grow (ρ':=J) a1 a2 a3 (by rw[hnew];exact my.refl _ _ _ _ _ _)
   have hH:ba J fps (AV res drs (ins L i)) (KL res drs (ins L i)) w0 F0 w:=by
    refine(I.heap.sV fun id h=>a3 id (.inl h)).forget fun id hk=>?_
    rcases a1.2.1 id hk with h|h
    ·exact(a1.1 id h).1
    ·unfold fresh at h;rw[hnew]at h;simp at h;omega
   exact I.put P ho' hd hc.2 hL (fun id h=>a3 id (.inl h)) (Env.bg.refl _ _) hH (hx J rfl) (by rw[hnew];simp)
  split at hp
  case isFalse=>simp at hp
  rename_i hab;have hab:=Bs hview hab w;split at hp
  ·simp at hp
  ·rename_i hch;simp only[VI]at hp;rw[kZ hview hch];simp only[sZ,Bool.false_eq_true,if_false];refine⟨hab,?_⟩;exact hn _ _ _ _ (hsame (by rw[<-hp]) undef fun ρ' _=>by subst hp;simp[qJ])
  ·rename_i ch hch;rw[kZ hview hch];rw[show sZ (dO (aJ ds i) i 0 ds (uQ (drs.take i)) sl) (some ch)=lz (dO (aJ ds i) i 0 ds (uQ (drs.take i)) sl) ch from rfl];split at hp
   ·rename_i q x new hop;cases ch with
    |nil=>
     simp only[VI]at hp;subst hp;simp only[lz,if_true];refine dF hdo hab ?_;have hq':dv q:=hq i _ hd rfl
     have hnK:∀k,k<new.length->¬KL res drs L (res.length+lens (drs.take i)+k):=fun k hk h=>by
      have hfr:fresh (res.length+lens (drs.take i)) new.length (res.length+lens (drs.take i)+k):=⟨by omega,by omega⟩
      rcases h with h|⟨h1,j,y,h2,h3⟩
      ·have:=aG h;omega
      ·have h4:fD drs (res.length+lens (drs.take i)+k-res.length)=some (i,k):=by
        rw[fj];exact⟨⟨_,hd,hk⟩,by omega⟩
       rw[h4]at h2;simp only[VI,VJ]at h2;rw[<-h2.1,hi]at h3;simp at h3
     obtain⟨hy,hnew⟩:=lF hC hop hview hres rfl hq' hnK;refine hy.wp fun v w' ⟨ρ',hg,hv,hx⟩=>?_
     obtain⟨a1,a2,a3⟩:=zY P I.down hd hi hun hnew;obtain⟨fps',g1,g2⟩:=I.heap.grow a1 a2 a3 hg;exact hn _ _ _ _ (I.put P ho' hd hc.2 hL (fun id h=>a3 id (.inl h)) g2 g1 ⟨hv,cL a3 _ hx⟩ hnew)
    |cons c0 c1=>
     simp only at hp;split at hp
     ·rename_i hne;have hne:new= []:=by simpa using hne
      subst hne;simp only[VI]at hp;subst hp;by_cases hg:lz (dO (aJ ds i) i 0 ds (uQ (drs.take i)) sl) (c0::c1)=true
      ·rw[VR hg];refine dF hdo hab ?_;have hq':dv q:=hq i _ hd hg;obtain⟨hy,_⟩:=lF hC hop hview hres hg hq' (fun k hk=>by simp at hk)
       refine hy.wp fun v w' ⟨ρ',hgr,hv,hx⟩=>?_
       obtain⟨a1,a2,a3⟩:=zY P I.down hd hi hun (by simp)
       obtain⟨fps',g1,g2⟩:=I.heap.grow a1 a2 a3 hgr;refine hn _ _ _ _ (I.put P ho' hd hc.2 hL (fun id h=>a3 id (.inl h)) g2 g1 ⟨fun _=>⟨hv,cL a3 _ hx⟩,fun h=>?_⟩ (by simp))
       simp only at h;rw[hg]at h;simp at h
      ·rw[VQ hg];refine⟨hab,?_⟩;exact hn _ _ _ _ (hsame rfl undef fun ρ' _=>⟨fun h=>absurd h hg,fun _=>rfl⟩)
     ·simp at hp
   ·simp at hp
 ·simp at hp
end
end Go.Sx
