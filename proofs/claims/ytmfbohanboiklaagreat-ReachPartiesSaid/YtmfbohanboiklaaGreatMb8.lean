import Derived.Test.YtmfbohanboiklaaGreatMb7
set_option linter.unusedSimpArgs false
set_option linter.unusedVariables false
namespace Go.Sx
open Go.RowKit (Below)
abbrev Ct:=List aQ->Nat->List V->RR
def dq[Fen](P:Program)(f:Nat)(g:Ct):Prop:=
 ∀J fps res K w0 F0 w nid args q x new,bn J fps res K w0 F0 w->fc K args->g res nid args=some (q,x,new)->cK q->
  (∀k,k<new.length->¬K (nid+k))->
  (CallsIn (FF P none) 0 P f (bI J args).toArray w fun e w'=>∃v,e= .returned v/\qO K J nid x new w0 F0 w v w')/\∀k,k<new.length->aN new k≠ .yet
def nT:List (Nat×Ct)->Nat->Option Ct
 | [],_=>none
 | (g,c)::l,f=>if f==g then some c else nT l f
theorem kx[Fen]{P:Program}:∀{l:List (Nat×Ct)},(∀p∈l,dq P p.1 p.2)->∀f g,nT l f=some g->dq P f g
 | [],_,f,g,h=>by simp[nT]at h
 | (k,c)::l,hl,f,g,h=>by
   simp only[nT]at h;split at h
   ·simp_all
   ·exact kx (fun p hp=>hl p (by simp[hp])) f g h
mutual
def jN:V->Bool
 | .lp _ _=>false
 | .lx _ _ _ _ _ _=>false
 | .sc _ _ _=>false
 | .so _ _=>false
 | .ap _ _ _ _=>false
 | .ax _ _ _ _ _ _ _ _=>false
 | .sa _=>false
 | .op _ _=>false
 | .yl _=>false
 | .mp _=>false
 | .ch _ _ _ _=>false
 | .bs _ _ _=>false
 | .ks _ _ _ _ _| .vw _ _ _ _=>false
 | .fn _ l=>lr l
 | .ic _ x=>jN x
 | .ag l=>lr l
 | .tp l=>lr l
 |_=>true
def lr:List V->Bool
 | []=>true
 |x::l=>jN x&&lr l
end
mutual
theorem ot{K K':Nat->Prop}:∀v,jN v=true->ok K v->ok K' v
 | .lp _ _,h,_| .lx _ _ _ _ _ _,h,_| .sc _ _ _,h,_| .so _ _,h,_| .ap _ _ _ _,h,_| .sa _,h,_| .op _ _,h,_| .yl _,h,_| .mp _,h,_| .ch _ _ _ _,h,_| .ax _ _ _ _ _ _ _ _,h,_| .bs _ _ _,h,_| .ks _ _ _ _ _,h,_| .vw _ _ _ _,h,_=>by simp[jN]at h
 | .fn _ l,h,hk=>oX l h hk
 | .ic _ x,h,hk=>ot x h hk
 | .ag l,h,hk=>⟨oX l h hk.1,hk.2⟩
 | .tp l,h,hk=>oX l h hk
 | .cb _,_,hk| .bo _,_,hk| .ci _ _,_,hk| .it _ _,_,hk| .bt _,_,hk| .st _,_,hk| .nl _,_,hk| .key _,_,hk| .sl _,_,hk| .by _,_,hk| .ob _,_,hk=>hk
theorem oX{K K':Nat->Prop}:∀l,lr l=true->fc K l->fc K' l
 | [],_,_=>trivial
 |x::l,h,hk=>by
  simp only[lr,af]at h;exact⟨ot x h.1 hk.1,oX l h.2 hk.2⟩
end
theorem pP{K:Nat->Prop}{v:V}(h:jN v=true)(hk:ok K v)(J ρ':Env):den ρ' v=den J v:=
 fL (N:=fun _=>False) (fun _ h=>h.elim) v (ot v h hk)
def qh(v:V)(v':V)(_:List aQ):Prop:=
 match ve v' v with
 |some l=>gT l
 |none=>False
def uZ(x v:V)(_:List aQ):Prop:=∀J K,sq J K v x
theorem dI{x v:V}{r:List aQ}(h:qh x v r):uZ x v r:=by
 unfold qh at h;split at h
 ·rename_i l hl;exact fun J K=>qt J K _ _ l hl h
 ·exact h.elim
theorem aL.mono[Fen]{P:Program}{f:Nat}{args:List V}{res:List aQ}{K K' KP KP':V->List aQ->Prop}(h:aL P f args res K KP)(hK:∀v r,K v r->K' v r)(hP:∀v r,KP v r->KP' v r):
  aL P f args res K' KP':=by
 intro J fps w0 F0 w hH ha;refine(h J fps w0 F0 w hH ha).mono fun e w' ⟨x,ρ',fps',res',g1,g2,g3,g4⟩=>⟨x,ρ',fps',res',g1,g2,g3,?_⟩
 rcases g4 with⟨e1,e2⟩|⟨e1,e2⟩
 ·exact .inl ⟨e1,hK _ _ e2⟩
 ·exact .inr ⟨e1,hP _ _ e2⟩
def ZJ(l m:List V):Prop:=(∀J,bI J l=bI J m)/\∀K,fc K l->fc (fun _=>False) m
theorem tD[Fen]{P:Program}{f:Nat}{g:Ct}(h:∀res nid args q x new,g res nid args=some (q,x,new)->new= []/\jN x=true/\
  ∃args',ZJ args args'/\(cK q->fc (fun _=>False) args'->aL P f args' [] (uZ x) (fun _ _=>False))):dq P f g:=by
 intro J fps res K w0 F0 w nid args q x new hH hargs hg hq hfr;obtain⟨rfl,hid,args',⟨s1,s2⟩,hc⟩:=h res nid args q x new hg;refine⟨?_,fun k hk=>by simp at hk⟩
 have hok:=s2 K hargs
 have hrep:bn J (fun _ _=>False) [] (known []) w (fun _=>False) w:=
  ⟨fun i hi=>hi,Nat.le_refl _,rfl,rfl,rfl,fun i hi=>by simp[known,aN]at hi,fun i b hi=>by simp[known,aN]at hi,fun i j b hi=>by simp[known,aN]at hi,fun i b hi=>by simp[known,aN]at hi,fun _ _ _=>rfl⟩
 have hcall:=hc hq hok J (fun _ _=>False) w (fun _=>False) w hrep (by rw[iH]at hok⊢;exact fun z hz=>fu (hok z hz))
 rw[s1 J];refine hcall.mono fun e w' ⟨y,ρ',fps',res',g1,g2,g3,g4⟩=>?_
 rcases g4 with⟨rfl,hK⟩|⟨_,hK⟩
 ·refine⟨_,rfl,J,?_,?_,?_⟩
  ·have hb:Below w.heap.size w w':=by
    refine⟨g1.os,g1.tape,g1.output,g1.old,fun b hb=>g1.same b hb (fun h=>h)⟩
   exact⟨hb,Env.agree.refl _ _,fun _ _=>False,fun k hk=>by simp at hk,fun k l b hk=>by simp at hk⟩
  ·obtain⟨e1,e2,_⟩:=hK ρ' (known res');rw[e1];exact pP hid (e2 g3) J ρ'
  ·obtain⟨e1,e2,_⟩:=hK ρ' (known res');exact ot x hid (e2 g3)
 ·exact hK.elim
def sm{α:Type}(r:V->Option α)(m:α->V):Prop:=∀v x,r v=some x->(∀J,den J v=den J (m x))/\∀K,ok K v->ok (fun _=>False) (m x)
def rI(k:IntKind)(v:V):Option Int:=
 match toInt v with
 |some (k',n)=>if k==k' then some n else none
 |none=>none
def rK(v:V):Option Key:=
 match v with
 | .key k=>some k
 | .ag l=>match l with
   | [a,b,c,d,e,f]=>match rI .i64 a with
     |some a=>match rI .i64 b with
      |some b=>match rI .i64 c with
       |some c=>match rI .i64 d with
        |some d=>match rI .i64 e with
         |some e=>match rI .i64 f with
          |some f=>some ⟨a,b,c,d,e,f⟩
          |none=>none
         |none=>none
        |none=>none
       |none=>none
      |none=>none
     |none=>none
   |_=>none
 |_=>none
def rO:V->Option Obj
 | .ob o=>some o
 |_=>none
theorem Lp:sm toBool V.bo:=by
 intro v x h;cases v<;>simp[toBool]at h<;>subst h<;>exact⟨fun _=>rfl,fun _ _=>trivial⟩
theorem gX(k:IntKind):sm (rI k) (V.it k):=by
 intro v x h;unfold rI at h;cases v<;>simp[toInt]at h<;>obtain⟨rfl,rfl⟩:=h
 ·exact⟨fun _=>rfl,fun _ hk=>hk⟩
 ·exact⟨fun _=>rfl,fun _ hk=>hk⟩
 ·rename_i b;refine⟨fun _=>rfl,fun _ _=>?_⟩
  have:=b.toNat_lt;simp only[ok,ck,QZ];omega
theorem gI:sm rK V.key:=by
 intro v x h;unfold rK at h;split at h
 ·simp only[aa]at h;subst h;exact⟨fun _=>rfl,fun _ hk=>hk⟩
 ·split at h
  case h_2=>simp at h
  split at h<;>try(simp at h;done)
  rename_i h1;split at h<;>try(simp at h;done)
  rename_i h2;split at h<;>try(simp at h;done)
  rename_i h3;split at h<;>try(simp at h;done)
  rename_i h4;split at h<;>try(simp at h;done)
  rename_i h5;split at h<;>simp only[aa,reduceCtorEq]at h
  rename_i h6;subst h;have e1:=gX .i64 _ _ h1;have e2:=gX .i64 _ _ h2;have e3:=gX .i64 _ _ h3;have e4:=gX .i64 _ _ h4;have e5:=gX .i64 _ _ h5;have e6:=gX .i64 _ _ h6;refine⟨fun J=>?_,fun K hK=>?_⟩
  ·simp only[den,bp,e1.1 J,e2.1 J,e3.1 J,e4.1 J,e5.1 J,e6.1 J];rfl
  ·obtain⟨⟨k1,k2,k3,k4,k5,k6,_⟩,_⟩:=hK;exact⟨e1.2 K k1,e2.2 K k2,e3.2 K k3,e4.2 K k4,e5.2 K k5,e6.2 K k6⟩
 ·simp at h
theorem ZM{v:V}{x:Key}(h:rK v=some x):cz v=false:=by
 cases v<;>first|rfl|simp[rK]at h
theorem yC:sm rO V.ob:=by
 intro v x h;cases v<;>simp[rO]at h<;>subst h<;>exact⟨fun _=>rfl,fun _ hk=>hk⟩
def X5(F:V):Ct:=fun _ _ xs=>match xs with
 | []=>some (none,F,[])
 |_=>none
def QN{α:Type}(r:V->Option α)(F:α->V):Ct:=fun _ _ xs=>match xs with
 | [a]=>match r a with
   |some x=>some (none,F x,[])
   |none=>none
 |_=>none
def Vu{α β:Type}(r:V->Option α)(s:V->Option β)(F:α->β->V):Ct:=fun _ _ xs=>match xs with
 | [a,b]=>match r a,s b with
   |some x,some y=>some (none,F x y,[])
   |_,_=>none
 |_=>none
def mk3{α β γ:Type}(r:V->Option α)(s:V->Option β)(t:V->Option γ)(F:α->β->γ->V):Ct:=fun _ _ xs=>match xs with
 | [a,b,c]=>match r a,s b,t c with
   |some x,some y,some z=>some (none,F x y z,[])
   |_,_,_=>none
 |_=>none
theorem V0[Fen]{P:Program}{f:Nat}{F:V}(hF:jN F=true)(h:aL P f [] [] (qh F) (fun _ _=>False)):dq P f (X5 F):=by
 refine tD fun res nid args q x new hg=>?_
 unfold X5 at hg;split at hg<;>simp only[aa,ae,reduceCtorEq]at hg
 obtain⟨rfl,rfl,rfl⟩:=hg;exact⟨rfl,hF,[],⟨fun _=>rfl,fun _ _=>trivial⟩,fun _ _=>h.mono (fun _ _=>dI) fun _ _ h=>h⟩
theorem VR[Fen]{P:Program}{f:Nat}{F:V}(hF:jN F=true)(h:aL P f [] [] (fun v _=>v=F) (fun _ _=>False)):dq P f (X5 F):=by
 refine tD fun res nid args q x new hg=>?_
 unfold X5 at hg;split at hg<;>simp only[aa,ae,reduceCtorEq]at hg
 obtain⟨rfl,rfl,rfl⟩:=hg;exact⟨rfl,hF,[],⟨fun _=>rfl,fun _ _=>trivial⟩,fun _ _=>h.mono (fun v _ e=>by subst e;exact fun J K=>sq.refl J K v) fun _ _ h=>h⟩
theorem qj[Fen]{P:Program}{f:Nat}{α:Type}{r:V->Option α}{m:α->V}{F:α->V}(hr:sm r m)(hF:∀x,jN (F x)=true)
  (h:∀x,ok (fun _=>False) (m x)->aL P f [m x] [] (qh (F x)) (fun _ _=>False)):dq P f (QN r F):=by
 refine tD fun res nid args q x new hg=>?_
 unfold QN at hg;split at hg<;>(try split at hg)<;>simp only[aa,ae,reduceCtorEq]at hg
 rename_i a x h1;obtain⟨rfl,rfl,rfl⟩:=hg;obtain⟨a1,a2⟩:=hr _ x h1;exact⟨rfl,hF x,[m x],⟨fun J=>by simp[bI,a1 J],fun K hK=>⟨a2 K hK.1,trivial⟩⟩,fun _ hok=>(h x hok.1).mono (fun _ _=>dI) fun _ _ h=>h⟩
theorem s7[Fen]{P:Program}{f:Nat}{α β:Type}{r:V->Option α}{s:V->Option β}{m:α->V}{n:β->V}{F:α->β->V}(hr:sm r m)(hs:sm s n)(hF:∀x y,jN (F x y)=true)
  (h:∀x y,ok (fun _=>False) (m x)->ok (fun _=>False) (n y)->aL P f [m x,n y] [] (qh (F x y)) (fun _ _=>False)):dq P f (Vu r s F):=by
 refine tD fun res nid args q x new hg=>?_
 unfold Vu at hg;split at hg<;>(try split at hg)<;>simp only[aa,ae,reduceCtorEq]at hg
 rename_i a b x y h1 h2;obtain⟨rfl,rfl,rfl⟩:=hg;obtain⟨a1,a2⟩:=hr _ x h1;obtain⟨b1,b2⟩:=hs _ y h2;exact⟨rfl,hF x y,[m x,n y],⟨fun J=>by simp[bI,a1 J,b1 J],fun K hK=>⟨a2 K hK.1,b2 K hK.2.1,trivial⟩⟩,fun _ hok=>(h x y hok.1 hok.2.1).mono (fun _ _=>dI) fun _ _ h=>h⟩
theorem Pm[Fen]{P:Program}{f:Nat}{α β γ:Type}{r:V->Option α}{s:V->Option β}{t:V->Option γ}{m:α->V}{n:β->V}{o:γ->V}{F:α->β->γ->V}(hr:sm r m)(hs:sm s n)(ht:sm t o)
  (hF:∀x y z,jN (F x y z)=true)
  (h:∀x y z,ok (fun _=>False) (m x)->ok (fun _=>False) (n y)->ok (fun _=>False) (o z)->aL P f [m x,n y,o z] [] (qh (F x y z)) (fun _ _=>False)):dq P f (mk3 r s t F):=by
 refine tD fun res nid args q x new hg=>?_
 unfold mk3 at hg;split at hg<;>(try split at hg)<;>simp only[aa,ae,reduceCtorEq]at hg
 rename_i a b c x y z h1 h2 h3;obtain⟨rfl,rfl,rfl⟩:=hg;obtain⟨a1,a2⟩:=hr _ x h1;obtain⟨b1,b2⟩:=hs _ y h2;obtain⟨c1,c2⟩:=ht _ z h3;exact⟨rfl,hF x y z,[m x,n y,o z],⟨fun J=>by simp[bI,a1 J,b1 J,c1 J],fun K hK=>⟨a2 K hK.1,b2 K hK.2.1,c2 K hK.2.2.1,trivial⟩⟩,fun _ hok=>(h x y z hok.1 hok.2.1 hok.2.2.1).mono (fun _ _=>dI) fun _ _ h=>h⟩
def Zk:List Nat->Nat->Bool
 | [],_=>false
 |x::l,i=>x==i||Zk l i
def YY:List (Nat×V)->Nat->Option V
 | [],_=>none
 | (j,v)::l,i=>if j==i then some v else YY l i
def Ko(ka:List Nat)(set:List (Nat×V)):Nat->List S->List S
 |_,[]=> []
 |i,s::l=>(match YY set i with
  |some v=> .v v
  |none=>if Zk ka i then s else .und)::Ko ka set (i+1) l
def lpI(ka:List Nat)(t:Nat)(inv:Int->Prop)(m:Int):cR:=
 {γ:=Int,head:=fun U g=> {U with slots:=Ko ka [(t,.it .i64 g)] 0 U.slots},inv:=inv,μ:=fun g=>mI (tQ m g)}
def X2(ka:List Nat)(set:Int->List (Nat×V))(inv:Int->Prop)(m:Int):cR:=
 {γ:=Int,head:=fun U g=> {U with slots:=Ko ka (set g) 0 U.slots},inv:=inv,μ:=fun g=>mI (tQ m g)}
def kb:List (Nat×Nat×cR)->Nat->Nat->Option cR
 | [],_,_=>none
 | (f,r,A)::l,f',r'=>if f==f'&&r==r' then some A else kb l f' r'
def bj(_ _:Nat):Option cR:=none
def cg(_:Nat):Bool:=false
def noH:Handler:=fun _ _ _ _ _=>False
end Go.Sx
namespace Go.Proofs.YtmfbohanboiklaaGreat
open Go.Sx
noncomputable def cf (l:List (Nat×Ct)) (inl:Nat->Bool) (ann:Nat->Nat->Option cR):Hs:= {P:=Tryz.prog,Z:=zeroOf,Γ:=nT l,H0:=noH,inl:=inl,ann:=ann,opn:=HL inl}
theorem Lz[Fen]{l:List (Nat×Ct)}{inl:Nat->Bool}{ann:Nat->Nat->Option cR}(hl:∀p∈l,dq Tryz.prog p.1 p.2):(cf l inl ann).toCtx.Sound:=
 ⟨vl mJ,Tryz.checked.mixed,fun f g hg=>kx hl f g hg,fun f ts te h=>by simp[cf]at h⟩
abbrev vc(l:List (Nat×Ct))(inl:Nat->Bool)(ann:Nat->Nat->Option cR)(f:Nat)(args:List V)(res:List aQ)(K KP:V->List aQ->Prop):Prop:=
 enter (cf l inl ann).toCtx (exec (cf l inl ann) 100 ⟨false,none⟩) (exec (cf l inl ann) 100 ⟨false,none⟩ f) f args res K KP
set_option maxRecDepth 100000 in
theorem bG[Fen]{l:List (Nat×Ct)}{inl:Nat->Bool}{ann:Nat->Nat->Option cR}(hl:∀p∈l,dq Tryz.prog p.1 p.2){f:Nat}{args:List V}{res:List aQ}{K KP:V->List aQ->Prop}
  {G:Prop} (hG:G) (h:G=vc l inl ann f args res K KP):aL Tryz.prog f args res K KP:=
 xd (C:=cf l inl ann) (n:=100) (Lz hl) (fun _ _ _ _ _ hh=>hh.elim) (fun(h:false=true)=>Bool.noConfusion h) (Eq.mp h hG)
end Go.Proofs.YtmfbohanboiklaaGreat
namespace Go.Sx
theorem aO[Fen]{P:Program}:∀p∈([]:List (Nat×Ct)),dq P p.1 p.2:=by simp
theorem aH[Fen]{P:Program}{f:Nat}{g:Ct}{l:List (Nat×Ct)}(h:dq P f g)(t:∀p∈l,dq P p.1 p.2):∀p∈(f,g)::l,dq P p.1 p.2:=by
 simp_all
open Go.RowKit (Below)
theorem bn.Be{J:Env}{fps:Nat->Nat->Prop}{res:List aQ}{K:Nat->Prop}{w0:World}{F0:Nat->Prop}{w:World}(h:bn J fps res K w0 F0 w){i:Nat}{r:aQ}
  (hr:cP res i=r) (hk:known res i):∃fp:Nat->Prop,r.holds K J i fp w0 F0 w/\∀b,fp b->fps i b\/(b<w0.heap.size/\¬F0 b):=by
 have hh:=h.holds i hk;unfold cP at hr;split at hr
 ·rename_i r' he;rw[he]at hh;subst hr;obtain⟨fp',h1,h2⟩:=hh;exact⟨fp',aQ.fz _ h1 fun b hb=>h.same b (h2 b hb).1 (h2 b hb).2,fun b hb=> .inr (h2 b hb)⟩
 ·subst hr;exact⟨fps i,hh,fun b hb=> .inl hb⟩
def fg(κ:Nat->Option Nat)(res:List aQ):List (Nat×Bool)->List aQ
 | []=> []
 | (p,o)::l=>(if o then gd κ (aN res p)else .ro (gd κ (cP res p)))::fg κ res l
def dJ:List (Nat×Bool)->List Nat
 | []=> []
 | (p,_)::l=>p::dJ l
def eO(res:List aQ):List (Nat×Bool)->Bool
 | []=>true
 | (p,_)::l=>iG res p&&eO res l
theorem mV:∀(l:List (Nat×Bool)) (i:Nat),(dJ l)[i]? =(l[i]?).map (·.1)
 | [],i=>by simp[dJ]
 | (p,o)::l,0=>by simp[dJ]
 | (p,o)::l,i+1=>by simp[dJ,mV l i]
theorem vr(κ:Nat->Option Nat)(res:List aQ):∀(l:List (Nat×Bool)) (i:Nat),aN (fg κ res l) i=match l[i]? with
  |some (p,o)=>if o then gd κ (aN res p)else .ro (gd κ (cP res p))
  |none=> .yet
 | [],i=>by simp[fg,aN]
 | (p,o)::l,0=>by simp[fg,aN]
 | (p,o)::l,i+1=>by simp[fg,aN,vr κ res l i]
theorem uQ(κ:Nat->Option Nat)(res:List aQ):∀(l:List (Nat×Bool)),(fg κ res l).length=l.length
 | []=>rfl
 | (p,o)::l=>by simp[fg,uQ κ res l]
theorem ec{res:List aQ}:∀{l:List (Nat×Bool)},eO res l=true->∀(i:Nat) (p:Nat) (o:Bool),l[i]? =some (p,o)->known res p
 | [],_,i,p,o,h=>by simp at h
 | (x,y)::l,hk,i,p,o,h=>by
   simp only[eO,af]at hk;cases i with
   |zero=>simp at h;obtain⟨rfl,_⟩:=h;exact cB.1 hk.1
   |succ i=>exact ec hk.2 i p o (by simpa using h)
theorem nh{p:Nat}:∀(l:List Nat) (m k:Nat),l.Nodup->l[k]? =some p->idxOf l m p=some (m+k)
 | [],m,k,_,h=>by simp at h
 |x::l,m,k,hnd,h=>by
  simp only[idxOf];cases k with
  |zero=>simp at h;subst h;simp
  |succ k=>
   simp at h
   have hne:(x==p)=false:=by
    grind
   rw[hne];simp only[Bool.false_eq_true,if_false];rw[nh l (m+1) k (List.nodup_cons.1 hnd).2 h];congr 1;omega
theorem Jx{l:List Nat}{p i:Nat}(h:kT 0 l p=some i):l[i]? =some p:=by
 unfold kT at h;split at h
 ·rename_i hb;simp at hb
 ·have:=iB h;simpa using this.2.2
theorem Bu{l:List Nat}{p i:Nat}(hnd:l.Nodup)(h:l[i]? =some p):kT 0 l p=some i:=by
 unfold kT;rw[aq (by simp),nh l 0 i hnd h];simp
def Frame(J:Env)(fps:Nat->Nat->Prop)(pl:List (Nat×Bool))(b:Nat):Prop:=∃(i p:Nat),pl[i]? =some (p,true)/\fps p b
section
variable {J:Env} {fps:Nat->Nat->Prop} {res:List aQ} {w0 w:World} {F0:Nat->Prop}
theorem bn.fg{K:Nat->Prop}(h:bn J fps res K w0 F0 w){pl:List (Nat×Bool)}(hk:eO res pl=true)(hnd:(dJ pl).Nodup):
  bn (J.pull (src 0 (dJ pl))) (fun i b=>∃p:Nat,pl[i]? =some (p,true)/\fps p b) (fg (kT 0 (dJ pl)) res pl) (known (fg (kT 0 (dJ pl)) res pl)) w (Frame J fps pl) w/\
   (∀i,i<pl.length->known (fg (kT 0 (dJ pl)) res pl) i)/\Env.via (kT 0 (dJ pl)) J (J.pull (src 0 (dJ pl)))/\∀p i,kT 0 (dJ pl) p=some i->K p->known (Sx.fg (kT 0 (dJ pl)) res pl) i:=by
 generalize hκ:kT 0 (dJ pl)=κ
 have hπ:∀p i,κ p=some i->src 0 (dJ pl) i=p:=fun p i hp=>by subst hκ;exact HZ hp
 have hv:Env.via κ J (J.pull (src 0 (dJ pl))):=uh hπ
 have hsome:∀i p o,pl[i]? =some (p,o)->κ p=some i:=fun i p o hi=>by
  subst hκ;exact Bu hnd (by rw[mV,hi];rfl)
 have hkn:∀i p o,pl[i]? =some (p,o)->known (Sx.fg κ res pl) i:=fun i p o hi=>by
  unfold known;rw[vr,hi];simp only;split
  ·exact fun e=>ec hk i p o hi (lS.1 e)
  ·simp
 have hget:∀i,known (Sx.fg κ res pl) i->∃p o,pl[i]? =some (p,o):=fun i hi=>by
  have:=aW hi;rw[uQ]at this;exact⟨pl[i].1,pl[i].2,by rw[List.getElem?_eq_getElem this]⟩
 have hN:∀p i,κ p=some i->K p->known (Sx.fg κ res pl) i:=fun p i hp _=>by
  subst hκ;have:=Jx hp;rw[mV]at this;cases hi:pl[i]? with
  |none=>rw[hi]at this;simp at this
  |some po=>exact hkn i po.1 po.2 hi
 have huniq:∀i j p o o',pl[i]? =some (p,o)->pl[j]? =some (p,o')->i=j:=fun i j p o o' hi hj=>by
  have a:=hsome i p o hi;rw[hsome j p o' hj]at a;simpa using a.symm
 have hfr:∀b,b<w0.heap.size->¬F0 b->w.heap[b]? =w0.heap[b]? /\¬Frame J fps pl b:=fun b hb hF=>by
  refine⟨h.same b hb hF,?_⟩;rintro⟨i,p,hi,hf⟩
  exact hF (h.inF p b (ec hk i p true hi) hf hb)
 refine⟨⟨fun i hi=>hi,Nat.le_refl _,rfl,rfl,rfl,fun i hi=>?_,?_,?_,?_,fun _ _ _=>rfl⟩,fun i hi=>hkn i pl[i].1 pl[i].2 (by rw[List.getElem?_eq_getElem hi]),hv,hN⟩
 ·obtain⟨p,o,hp⟩:=hget i hi;have hkp:=ec hk i p o hp;rw[vr,hp];simp only;cases o with
  |true=>
   simp only[if_true];have:=aQ.vR h.old hfr _ _ (h.holds p hkp);have:=iW hv hN (hsome i p true hp) _ _ _ this
   have e:(fun b=>∃p':Nat,some (p,true)=some (p',true)/\fps p' b)=fps p:=by
    funext b;simp
   rw[e];exact this
  |false=>
   simp only[Bool.false_eq_true,if_false];obtain⟨fp,g1,g2⟩:=h.Be rfl hkp;refine⟨fp,iW hv hN (hsome i p false hp) _ _ _ (aQ.vR h.old hfr _ _ g1),fun b hb=>?_⟩
   rcases g2 b hb with hf|⟨hl,hF⟩
   ·refine⟨h.lt p b hkp hf,?_⟩;rintro⟨j,p',hj,hf'⟩
    have hkp':=ec hk j p' true hj;refine h.disj p p' b hkp hkp' (fun e=>?_) hf hf'
    subst e;have:=huniq i j p false true hp hj;subst this;rw[hp]at hj;simp at hj
   ·exact⟨Nat.lt_of_lt_of_le hl h.old,(hfr b hl hF).2⟩
 ·rintro i b hi ⟨p,hp,hf⟩
  exact h.lt p b (ec hk i p true hp) hf
 ·rintro i j b hi hj hne ⟨p,hp,hf⟩ ⟨p',hp',hf'⟩
  refine h.disj p p' b (ec hk i p true hp) (ec hk j p' true hp') (fun e=>hne ?_) hf hf'
  subst e;exact huniq i j p true true hp hp'
 ·rintro i b hi ⟨p,hp,hf⟩ _
  exact⟨i,p,hp,hf⟩
def fF(κ2:Nat->Option Nat)(r':List aQ):Nat->List (Nat×Bool)->List aQ->List aQ
 |_,[],res=>res
 |i,(p,o)::l,res=>if o then fF κ2 r' (i+1) l (bQ res p (gd κ2 (aN r' i)))else fF κ2 r' (i+1) l res
def wI:List (Nat×Bool)->Nat->Option Nat
 | [],_=>none
 | (p,_)::_,0=>some p
 |_::l,i+1=>wI l i
def back(pl:List (Nat×Bool))(ext:List Nat)(n j:Nat):Option Nat:=
 match wI pl j with
 |some p=>some p
 |none=>idxOf ext n j
def merge(pl:List (Nat×Bool))(ext:List Nat)(r' res:List aQ):List aQ:=
 fF (back pl ext res.length) r' 0 pl res++gz (back pl ext res.length) r' ext
theorem xp:∀(l:List (Nat×Bool)) (i:Nat),wI l i=(l[i]?).map (·.1)
 | [],i=>by simp[wI]
 | (p,o)::l,0=>by simp[wI]
 | (p,o)::l,i+1=>by simp[wI,xp l i]
theorem mX(κ2:Nat->Option Nat)(r':List aQ):∀(l:List (Nat×Bool)) (i:Nat) (res:List aQ),(fF κ2 r' i l res).length=res.length
 | [],_,_=>rfl
 | (p,o)::l,i,res=>by
   simp only[fF];split
   ·rw[mX κ2 r' l,bX]
   ·exact mX κ2 r' l _ _
theorem lG(κ2:Nat->Option Nat)(r':List aQ):∀(l:List (Nat×Bool)) (i:Nat) (res:List aQ) (x:Nat),(∀k:Nat,l[k]? ≠some (x,true))->(∀(k p:Nat) (o:Bool),l[k]? =some (p,o)->p<res.length)->aN (fF κ2 r' i l res) x=aN res x
 | [],_,_,_,_,_=>rfl
 | (p,o)::l,i,res,x,h,hb=>by
   have hl:∀k:Nat,l[k]? ≠some (x,true):=fun k=>by have:=h (k+1);simpa using this
   have hb':∀(k p:Nat) (o:Bool),l[k]? =some (p,o)->p<res.length:=fun k p o hk=>hb (k+1) p o (by simpa using hk)
   simp only[fF];split
   ·rename_i ho;subst ho;have hne:x≠p:=fun e=>h 0 (by simp[e])
    rw[lG κ2 r' l _ _ x hl (fun k p o hk=>by rw[bX];exact hb' k p o hk),bJ _ _ _ _ (hb 0 p true (by simp)),aq hne]
   ·exact lG κ2 r' l _ _ x hl hb'
theorem qF(κ2:Nat->Option Nat)(r':List aQ):∀(l:List (Nat×Bool)) (i:Nat) (res:List aQ) (x k:Nat),l[k]? =some (x,true)->(dJ l).Nodup->(∀(k p:Nat) (o:Bool),l[k]? =some (p,o)->p<res.length)->
  aN (fF κ2 r' i l res) x=gd κ2 (aN r' (i+k))
 | [],_,_,_,_,h,_,_=>by simp at h
 | (p,o)::l,i,res,x,k,h,hnd,hb=>by
   have hb':∀(k p:Nat) (o:Bool),l[k]? =some (p,o)->p<res.length:=fun k p o hk=>hb (k+1) p o (by simpa using hk)
   have hnd':=List.nodup_cons.1 (show(p::dJ l).Nodup from hnd);simp only[fF];cases k with
   |zero=>
    simp at h;obtain⟨rfl,rfl⟩:=h;simp only[if_true,Nat.add_zero];rw[lG κ2 r' l _ _ p (fun k hk=>hnd'.1 (List.mem_of_getElem? (i:=k) (by rw[mV,hk];rfl))) (fun k p o hk=>by rw[bX];exact hb' k p o hk),bJ _ _ _ _ (hb 0 p true (by simp)),ar rfl]
   |succ k=>
    have h:l[k]? =some (x,true):=by simpa using h
    split
    ·rw[qF κ2 r' l _ _ x k h hnd'.2 (fun k p o hk=>by rw[bX];exact hb' k p o hk)]
     congr 2;omega
    ·rw[qF κ2 r' l _ _ x k h hnd'.2 hb'];congr 2;omega
def Env.join(n:Nat)(ext:List Nat)(J ρ2:Env):Env:=
 {num:=fun i=>if i<n then J.num i else ρ2.num (ext.getD (i-n) 0),cap:=fun i=>if i<n then J.cap i else ρ2.cap (ext.getD (i-n) 0),adr:=fun i=>if i<n then J.adr i else ρ2.adr (ext.getD (i-n) 0),
  sa:=fun i=>if i<n then J.sa i else ρ2.sa (ext.getD (i-n) 0),sn:=fun i=>if i<n then J.sn i else ρ2.sn (ext.getD (i-n) 0),ob:=fun i=>if i<n then J.ob i else ρ2.ob (ext.getD (i-n) 0)}
section
variable {J:Env} {fps:Nat->Nat->Prop} {res:List aQ} {w0 w:World} {F0:Nat->Prop}
theorem bn.merge(h:bn J fps res (known res) w0 F0 w){pl:List (Nat×Bool)}(hk:eO res pl=true)(hnd:(dJ pl).Nodup){ρ2:Env}{fps2:Nat->Nat->Prop}{r':List aQ}{w':World}
  (h2:bn ρ2 fps2 r' (known r') w (Frame J fps pl) w') (hg:Good (J.pull (src 0 (dJ pl))) (Sx.fg (kT 0 (dJ pl)) res pl) ρ2 r') {ext:List Nat} (he:jc pl.length r'.length ext=true)
  (ho1:∀(i p:Nat),pl[i]? =some (p,true)->jo (aN r' i)=true) (ho2:∀j,j∈ext->jo (aN r' j)=true):
  ∃ρ3 fps3,bn ρ3 fps3 (Sx.merge pl ext r' res) (known (Sx.merge pl ext r' res)) w0 F0 w'/\Good J res ρ3 (Sx.merge pl ext r' res)/\Env.via (back pl ext res.length) ρ2 ρ3/\
   ∀j i,back pl ext res.length j=some i->known r' j->known (Sx.merge pl ext r' res) i:=by
 obtain⟨_,hkr,_,_⟩:=h.fg hk hnd;obtain⟨e1,e2⟩:=pM he;have hlt:∀(k p:Nat) (o:Bool),pl[k]? =some (p,o)->p<res.length:=fun k p o hp=>aW (ec hk k p o hp)
 have hpll:∀(k p:Nat) (o:Bool),pl[k]? =some (p,o)->k<pl.length:=fun k p o hp=>(List.getElem?_eq_some_iff.1 hp).1
 have huniq:∀i j p o o',pl[i]? =some (p,o)->pl[j]? =some (p,o')->i=j:=fun i j p o o' hi hj=>by
  have a:=Bu hnd (show(dJ pl)[i]? =some p by rw[mV,hi];rfl)
  rw[Bu hnd (show(dJ pl)[j]? =some p by rw[mV,hj];rfl)]at a
  simpa using a.symm
 have huniqE:∀(a b j:Nat),ext[a]? =some j->ext[b]? =some j->a=b:=fun a b j ha hb=>by
  have x:=nh ext 0 a e2 ha;rw[nh ext 0 b e2 hb]at x;simpa using x.symm
 have hback1:∀k p o,pl[k]? =some (p,o)->back pl ext res.length k=some p:=fun k p o hp=>by
  unfold back;rw[xp,hp];rfl
 have hback2:∀a j,ext[a]? =some j->back pl ext res.length j=some (res.length+a):=fun a j ha=>by
  unfold back;have:=(e1 j (List.mem_of_getElem? ha)).1;rw[xp,List.getElem?_eq_none this];exact nh ext _ a e2 ha
 have hbackS:∀j i,back pl ext res.length j=some i->(∃o,pl[j]? =some (i,o))\/(∃a,ext[a]? =some j/\i=res.length+a):=fun j i hj=>by
  unfold back at hj;rw[xp]at hj;cases hp:pl[j]? with
  |some po=>rw[hp]at hj;simp at hj;exact .inl ⟨po.2,by rw[<-hj]⟩
  |none=>
   rw[hp]at hj;simp at hj;obtain⟨a1,a2,a3⟩:=iB hj;exact .inr ⟨i-res.length,a3,by omega⟩
 have hget:∀i,aN (Sx.merge pl ext r' res) i=if i<res.length then aN (fF (back pl ext res.length) r' 0 pl res) i else match ext[i-res.length]? with|some j=>gd (back pl ext res.length) (aN r' j)|none=> .yet:=fun i=>by
  unfold Sx.merge;rw[bZ,mX];by_cases hi:i<res.length
  ·rw[ar hi,ar hi]
  ·grind[qP]
 have hown:∀k p,pl[k]? =some (p,true)->aN (Sx.merge pl ext r' res) p=gd (back pl ext res.length) (aN r' k):=fun k p hp=>by
  rw[hget,ar (hlt k p true hp),qF _ r' pl 0 res p k hp hnd hlt,Nat.zero_add]
 have hother:∀i,i<res.length->(∀k,pl[k]? ≠some (i,true))->aN (Sx.merge pl ext r' res) i=aN res i:=fun i hi hno=>by
  rw[hget,ar hi,lG _ r' pl 0 res i hno hlt]
 have hext:∀a j,ext[a]? =some j->aN (Sx.merge pl ext r' res) (res.length+a)=gd (back pl ext res.length) (aN r' j):=fun a j ha=>by
  grind
 have hkr':∀k p o,pl[k]? =some (p,o)->known r' k:=fun k p o hp=>hg.2 k (hkr k (hpll k p o hp))
 have hN:∀j i,back pl ext res.length j=some i->known r' j->known (Sx.merge pl ext r' res) i:=fun j i hj hkj=>by
  rcases hbackS j i hj with⟨o,hp⟩|⟨a,ha,rfl⟩
  ·by_cases hT:∃k:Nat,pl[k]? =some (i,true)
   ·obtain⟨k,hk'⟩:=hT;unfold known;rw[hown k i hk'];exact fun e=>hkr' k i true hk' (lS.1 e)
   ·unfold known;rw[hother i (hlt j i o hp) fun k hk'=>hT ⟨k,hk'⟩]
    exact ec hk j i o hp
  ·unfold known;rw[hext a j ha];exact fun e=>hkj (lS.1 e)
 have hmono:∀i,known res i->known (Sx.merge pl ext r' res) i:=fun i hi=>by
  grind[known,aW]
 have hag:Env.agree (known res) J (Env.join res.length ext J ρ2):=fun i hi=>by
  have:=aW hi;simp[Env.join,this]
 have hvia:Env.via (back pl ext res.length) ρ2 (Env.join res.length ext J ρ2):=fun j i hj=>by
  rcases hbackS j i hj with⟨o,hp⟩|⟨a,ha,rfl⟩
  ·have hil:=hlt j i o hp;have hj':=hg.1 j (hkr j (hpll j i o hp))
   have hsrc:src 0 (dJ pl) j=i:=by
    grind[src,mV]
   simp only[Env.pull,hsrc]at hj';obtain⟨a1,a2,a3,a4,a5,a6⟩:=hj';simp[Env.join,hil,a1,a2,a3,a4,a5,a6]
  ·grind[Env.join]
 obtain⟨fps3,g⟩:=h.turn (res':=Sx.merge pl ext r' res) (K':=known (Sx.merge pl ext r' res)) (fun i=>∃k:Nat,pl[k]? =some (i,true)) (fun i=>(∃k:Nat,pl[k]? =some (i,true))\/res.length<=i)
  (fun i b=>(∃k:Nat,pl[k]? =some (i,true)/\fps2 k b)\/(res.length<=i/\∃j,ext[i-res.length]? =some j/\known r' j/\fps2 j b))
  (fun i hi=>hi) hmono hag
  (fun i hi hb=>by
   have hlt':i<res.length:=by
    rcases Nat.lt_or_ge i res.length with h|h
    ·exact h
    ·exact absurd (.inr h) hb
   have e:=hother i hlt' fun k hk'=>hb (.inl ⟨k,hk'⟩)
   exact⟨by unfold known at hi⊢;rw[e]at hi;exact hi,fun hT=>hb (.inl hT),e⟩)
  (fun i hi hb=>by
   have hfoot:∀k b,known r' k->fps2 k b->(∃t,(∃k:Nat,pl[k]? =some (t,true))/\known res t/\fps t b)\/(w.heap.size<=b/\b<w'.heap.size):=fun k b hk' hf=>by
    by_cases hbw:b<w.heap.size
    ·obtain⟨x,p,hp,hfp⟩:=h2.inF k b hk' hf hbw;exact .inl ⟨p,⟨x,hp⟩,ec hk x p true hp,hfp⟩
    ·exact .inr ⟨by omega,h2.lt k b hk' hf⟩
   by_cases hT:∃k:Nat,pl[k]? =some (i,true)
   ·obtain⟨k,hp⟩:=hT;have hkk:=hkr' k i true hp;have hil:=hlt k i true hp
    have e:(fun b=>(∃k:Nat,pl[k]? =some (i,true)/\fps2 k b)\/(res.length<=i/\∃j,ext[i-res.length]? =some j/\known r' j/\fps2 j b))=fps2 k:=by
     funext b
     apply propext
     constructor
     ·rintro(⟨k',hp',hf⟩|⟨hge,_⟩)
      ·rw[huniq k k' i true true hp hp'];exact hf
      ·omega
     ·exact fun hf=> .inl ⟨k,hp,hf⟩
    refine⟨?_,fun b hf=>hfoot k b hkk (by rw[<-e];exact hf)⟩
    rw[e,hown k i hp];exact iW hvia hN (hback1 k i true hp) _ _ _ (ll (ho1 k i hp) (h2.holds k hkk))
   ·have hge:res.length<=i:=hb.resolve_left hT
    have hj:∃j,ext[i-res.length]? =some j:=by
     unfold known at hi;rw[hget,aq (by omega)]at hi
     cases hx:ext[i-res.length]? with
     |none=>rw[hx]at hi;exact absurd rfl hi
     |some j=>exact⟨j,rfl⟩
    obtain⟨j,hj⟩:=hj
    have hkj:known r' j:=by
     unfold known at hi;rw[hget,aq (by omega),hj]at hi
     exact fun e=>hi (lS.2 e)
    have e:(fun b=>(∃k:Nat,pl[k]? =some (i,true)/\fps2 k b)\/(res.length<=i/\∃j,ext[i-res.length]? =some j/\known r' j/\fps2 j b))=fps2 j:=by
     grind
    refine⟨?_,fun b hf=>hfoot j b hkj (by rw[<-e];exact hf)⟩
    have hie:i=res.length+(i-res.length):=by omega
    have hb2:=hback2 _ j hj;rw[<-hie]at hb2;have hx:=hext _ j hj;rw[<-hie]at hx;rw[e,hx];exact iW hvia hN hb2 _ _ _ (ll (ho2 j (List.mem_of_getElem? hj)) (h2.holds j hkj)))
  (fun i j b hbi hbj hne hf hf'=>by
   have sel:∀x,((∃k:Nat,pl[k]? =some (x,true)/\fps2 k b)\/(res.length<=x/\∃j,ext[x-res.length]? =some j/\known r' j/\fps2 j b))->∃k,known r' k/\fps2 k b/\((pl[k]? =some (x,true))\/(res.length<=x/\ext[x-res.length]? =some k)):=by
    rintro x (⟨k,hp,hf⟩|⟨hge,j,hj,hkj,hf⟩)
    ·exact⟨k,hkr' k x true hp,hf,.inl hp⟩
    ·exact⟨j,hkj,hf,.inr ⟨hge,hj⟩⟩
   obtain⟨k,k1,k2,k3⟩:=sel i hf;obtain⟨l,l1,l2,l3⟩:=sel j hf';refine h2.disj k l b k1 l1 (fun e=>hne ?_) k2 l2
   subst e;rcases k3 with k3|⟨k3,k4⟩<;>rcases l3 with l3|⟨l3,l4⟩
   ·rw[k3]at l3;simp at l3;exact l3
   ·grind
   ·have:=(e1 k (List.mem_of_getElem? k4)).1;have:=hpll k j true l3;omega
   ·have:=huniqE _ _ _ k4 l4;omega)
  h2.os h2.tape h2.output h2.old
  (fun b hb hno=>h2.same b hb fun⟨i,p,hp,hf⟩=>hno p ⟨i,hp⟩ (ec hk i p true hp) hf)
 exact⟨_,fps3,g,⟨hag,hmono⟩,hvia,hN⟩
end
end
def lf(r':List aQ):Nat->List (Nat×Bool)->Bool
 |_,[]=>true
 |i,(_,o)::l=>(if o then jo (aN r' i)else true)&&lf r' (i+1) l
theorem we{r':List aQ}:∀{l:List (Nat×Bool)} {i:Nat},lf r' i l=true->∀k p:Nat,l[k]? =some (p,true)->jo (aN r' (i+k))=true
 | [],i,_,k,p,h=>by simp at h
 | (x,o)::l,i,ha,k,p,h=>by
   simp only[lf,af]at ha;cases k with
   |zero=>simp at h;obtain⟨_,rfl⟩:=h;simpa using ha.1
   |succ k=>
    have:=we ha.2 k p (by simpa using h)
    rwa [show i+(k+1)=i+1+k by omega]
def pQ(r':List aQ):List Nat->Bool
 | []=>true
 |j::l=>jo (aN r' j)&&pQ r' l
theorem uF{r':List aQ}:∀{l:List Nat},pQ r' l=true->∀j∈l,jo (aN r' j)=true
 | [],_,j,h=>by simp at h
 |x::l,ha,j,h=>by
  simp only[pQ,af]at ha;rcases List.mem_cons.1 h with rfl|h
  ·exact ha.1
  ·exact uF ha.2 j h
def jS(κ:Nat->Option Nat)(v v3:V):Prop:=∀(ρ2 ρ3:Env) (N N':Nat->Prop),Env.via κ ρ2 ρ3->(∀j i,κ j=some i->N j->N' i)->ok N v->den ρ3 v3=den ρ2 v/\ok N' v3
theorem jS.jN{κ:Nat->Option Nat}{v x:V}(h:uZ x v [])(hx:Sx.jN x=true):jS κ v x:=fun ρ2 ρ3 N N' _ _ hv=>by
 obtain⟨s1,s2,_⟩:=h ρ2 N;exact⟨by rw[s1];exact pP hx (s2 hv) ρ2 ρ3,ot x hx (s2 hv)⟩
def Xa(pl:List (Nat×Bool))(res:List aQ)(v:V)(r':List aQ)(K:V->List aQ->Prop):Prop:=
 ∃(ext:List Nat) (v3:V),jc pl.length r'.length ext=true/\lf r' 0 pl=true/\pQ r' ext=true/\jS (back pl ext res.length) v v3/\K v3 (merge pl ext r' res)
section
variable {P:Program}
theorem aL.frame[Fen]{f:Nat}{args args0:List V}{res:List aQ}{pl:List (Nat×Bool)}{K0 KP0 K KP:V->List aQ->Prop}(hk:eO res pl=true)(hnd:jc 0 res.length (dJ pl)=true)
  (ha:eF (kT 0 (dJ pl)) args=some args0) (hc:aL P f args0 (fg (kT 0 (dJ pl)) res pl) K0 KP0)
  (hK:∀v r',K0 v r'->Xa pl res v r' K) (hKP:∀v r',KP0 v r'->Xa pl res v r' KP):aL P f args res K KP:=by
 intro J fps w0 F0 w hH hargs;have hnd:=(pM hnd).2;obtain⟨g1,g2,g3,g4⟩:=hH.fg hk hnd;obtain⟨a1,_,a3,_⟩:=iI g3 g4 _ _ ha;rw[<-a1];refine(hc _ _ _ _ _ g1 (a3 hargs)).mono fun e w' ⟨x,ρ2,fps2,r',h1,h2,h3,h4⟩=>?_
 have fin:∀{K:V->List aQ->Prop},Xa pl res x r' K->∃x' ρ' fps' res',bn ρ' fps' res' (known res') w0 F0 w'/\Good J res ρ' res'/\ok (known res') x'/\den ρ' x'=den ρ2 x/\K x' res':=by
  rintro K ⟨ext,v3,b1,b2,b3,b4,b5⟩
  obtain⟨ρ3,fps3,m1,m2,m3,m4⟩:=hH.merge hk hnd h1 h2 b1 (fun i p hp=>by have:=we b2 i p hp;rwa [Nat.zero_add]at this) (uF b3)
  obtain⟨c1,c2⟩:=b4 ρ2 ρ3 _ _ m3 m4 h3;exact⟨v3,ρ3,fps3,_,m1,m2,c2,c1,b5⟩
 rcases h4 with⟨rfl,h4⟩|⟨rfl,h4⟩
 ·grind
 ·grind
def rG:aQ->Bool
 | .store _ _ _=>true
 | .arr _ _ _=>true
 |_=>false
theorem uL{κ:Nat->Option Nat}{r:aQ}(h:rG r=true):gd κ r=r:=by
 cases r<;>first|rfl|simp[rG]at h
def p7(res:List aQ)(p:Nat)(r:aQ):Prop:=known res p/\∀J fps K w0 F0 w,bn J fps res K w0 F0 w->
 ∃fp:Nat->Prop,r.holds K J p fp w0 F0 w/\∀b,fp b->(∃i,known res i/\fps i b)\/(b<w0.heap.size/\¬F0 b)
theorem p7.look{res:List aQ}{p:Nat}{r:aQ}(h:cP res p=r)(hne:r≠ .yet):p7 res p r:=by
 have hk:=ew h hne;refine⟨hk,fun J fps K w0 F0 w hH=>?_⟩
 obtain⟨fp,g1,g2⟩:=hH.Be h hk;exact⟨fp,g1,fun b hb=>(g2 b hb).elim (fun h=> .inl ⟨p,hk,h⟩) .inr⟩
def sw:List (Nat×aQ)->List aQ
 | []=> []
 | (_,r)::l=> .ro r::sw l
theorem xj:∀(l:List (Nat×aQ)) (i:Nat),aN (sw l) i=match l[i]? with|some p=> .ro p.2|none=> .yet
 | [],i=>by simp[sw,aN]
 | (p,r)::l,0=>by simp[sw,aN]
 | (p,r)::l,i+1=>by simp[sw,aN,xj l i]
theorem s6:∀l:List (Nat×aQ),(sw l).length=l.length
 | []=>rfl
 | (p,r)::l=>by simp[sw,s6 l]
def qH:List (Nat×aQ)->Nat->Nat
 | [],_=>0
 | (p,_)::_,0=>p
 |_::l,i+1=>qH l i
theorem uo:∀(l:List (Nat×aQ)) (i:Nat) (p:Nat×aQ),l[i]? =some p->qH l i=p.1
 | [],i,p,h=>by simp at h
 | (x,r)::l,0,p,h=>by simp at h;subst h;rfl
 | (x,r)::l,i+1,p,h=>by simp only[qH];exact uo l i p (by simpa using h)
theorem rP[Fen]{f:Nat}{g:Ct}(h:∀res nid args q x new,g res nid args=some (q,x,new)->new= []/\jN x=true/\
  ∃(pls:List (Nat×aQ)) (args0:List V),(∀p∈pls,p7 res p.1 p.2/\rG p.2=true)/\(∀(J:Env) K,fc K args->bI (J.pull (qH pls)) args0=bI J args)/\(∀K,fc K args->fc (known (sw pls)) args0)/\
   (cK q->fc (known (sw pls)) args0->aL P f args0 (sw pls) (uZ x) (fun _ _=>False))):dq P f g:=by
 intro J fps res K w0 F0 w nid args q x new hH hargs hg hq hfr;obtain⟨rfl,hid,pls,args0,hcl,hden,hok,hc⟩:=h res nid args q x new hg;refine⟨?_,fun k hk=>by simp at hk⟩
 have hfr:∀b,b<w0.heap.size->¬F0 b->w.heap[b]? =w0.heap[b]? /\¬(fun _:Nat=>False) b:=fun b hb hF=>⟨hH.same b hb hF,fun h=>h⟩
 have hrep:bn (J.pull (qH pls)) (fun _ _=>False) (sw pls) (known (sw pls)) w (fun _=>False) w:=by
  refine⟨fun i hi=>hi,Nat.le_refl _,rfl,rfl,rfl,fun i hi=>?_,fun i b hi h=>h.elim,fun i j b hi hj hne h=>h.elim,fun i b hi h=>h.elim,fun _ _ _=>rfl⟩
  have hlt:=aW hi;rw[s6]at hlt;have hp:pls[i]? =some pls[i]:=List.getElem?_eq_getElem hlt;generalize pls[i]=p at hp
  rw[xj,hp];simp only;obtain⟨hs,hcl⟩:=hcl p (List.mem_of_getElem? hp);obtain⟨fp,g1,g2⟩:=hs.2 J fps K w0 F0 w hH
  have hv:Env.via (fun x=>if x=p.1 then some i else none) J (J.pull (qH pls)):=uh fun x j hx=>by
   split at hx
   ·simp only[aa]at hx;subst hx;rename_i e;subst e;exact uo pls i p hp
   ·simp at hx
  have:=iW (N':=known (sw pls)) hv (fun x j hx _=>by
   split at hx
   ·simp only[aa]at hx;subst hx;exact hi
   ·simp at hx) (p:=p.1) (i:=i) (by simp) _ _ _ (aQ.vR hH.old hfr _ _ g1)
  rw[uL hcl]at this;refine⟨fp,this,fun b hb=>⟨?_,fun h=>h⟩⟩
  rcases g2 b hb with⟨j,hj,hf⟩|⟨hl,_⟩
  ·exact hH.lt j b hj hf
  ·exact Nat.lt_of_lt_of_le hl hH.old
 have hok0:=hok K hargs;rw[<-hden J K hargs];refine(hc hq hok0 _ _ _ _ _ hrep hok0).mono fun e w' ⟨y,ρ',fps',res',g1,g2,g3,g4⟩=>?_
 rcases g4 with⟨rfl,hK⟩|⟨_,hK⟩
 ·refine⟨_,rfl,J,?_,?_,?_⟩
  ·exact⟨⟨g1.os,g1.tape,g1.output,g1.old,fun b hb=>g1.same b hb (fun h=>h)⟩,Env.agree.refl _ _,fun _ _=>False,fun k hk=>by simp at hk,fun k l b hk=>by simp at hk⟩
  ·obtain⟨e1,e2,_⟩:=hK ρ' (known res');rw[e1];exact pP hid (e2 g3) J ρ'
  ·obtain⟨e1,e2,_⟩:=hK ρ' (known res');exact ot x hid (e2 g3)
 ·exact hK.elim
theorem aL.tE[Fen]{f:Nat}{args:List V}{res res1:List aQ}{K KP:V->List aQ->Prop}(h:aL P f args res1 K KP)
  (ho:∀J fps w0 F0 w,bn J fps res (known res) w0 F0 w->∃ρ' fps',bn ρ' fps' res1 (known res1) w0 F0 w/\Good J res ρ' res1):aL P f args res K KP:=by
 intro J fps w0 F0 w hH hargs;obtain⟨ρ',fps',h1,h2⟩:=ho J fps w0 F0 w hH;rw[<-fA h2.1 args hargs];refine(h ρ' fps' w0 F0 w h1 (cD h2.2 _ hargs)).mono fun e w' ⟨x,ρ2,fps2,r',g1,g2,g3,g4⟩=>⟨x,ρ2,fps2,r',g1,h2.trans g2,g3,g4⟩
theorem aL.jY[Fen]{f:Nat}{args:List V}{res:List aQ}{k t e:Nat}{L:List Obj}{K KP:V->List aQ->Prop}(hr:aN res k= .store t e L)(h:aL P f args (jY res k t e L) K KP):aL P f args res K KP:=
 h.tE fun _ _ _ _ _ hH=>zK hr hH
theorem aL.e9[Fen]{f:Nat}{args:List V}{res:List aQ}{k t e:Nat}{L:List Obj}{K KP:V->List aQ->Prop}(hr:aN res k= .ro (.store t e L))(h:aL P f args (e9 res k t e L) K KP):aL P f args res K KP:=
 h.tE fun _ _ _ _ _ hH=>xZ hr hH
theorem aL.shut[Fen]{f:Nat}{args:List V}{res:List aQ}{K0 KP K:V->List aQ->Prop}(h:aL P f args res K0 KP)(hK:∀v r,K0 v r->K v r\/∃k r',tx r k=some r'/\K v r'):aL P f args res K KP:=by
 intro J fps w0 F0 w hH hargs;refine(h J fps w0 F0 w hH hargs).mono fun e w' ⟨x,ρ2,fps2,r',g1,g2,g3,g4⟩=>?_
 rcases g4 with⟨rfl,hk⟩|g4
 ·rcases hK _ _ hk with hk|⟨k,r2,s1,s2⟩
  ·exact⟨x,ρ2,fps2,r',g1,g2,g3,.inl ⟨rfl,hk⟩⟩
  ·obtain⟨fps3,m1,m2⟩:=AE s1 g1;exact⟨x,ρ2,fps3,r2,m1,⟨g2.1,fun i hi=>m2 i (g2.2 i hi)⟩,cZ m2 _ g3,.inl ⟨rfl,s2⟩⟩
 ·exact⟨x,ρ2,fps2,r',g1,g2,g3,.inr g4⟩
theorem aL.An[Fen]{f:Nat}{args:List V}{res res':List aQ}{k:Nat}{K KP:V->List aQ->Prop}(hr:Sx.An res k=some res')(h:aL P f args res' K KP):aL P f args res K KP:=
 h.tE fun _ _ _ _ _ hH=>AJ hr hH
theorem aL.wb[Fen]{f:Nat}{args:List V}{res:List aQ}{k e:Nat}{K0 KP K:V->List aQ->Prop}(h:aL P f args res K0 KP)(hK:∀v r,K0 v r->∃r',Sx.wb r k e=some r'/\K v r'):aL P f args res K KP:=by
 intro J fps w0 F0 w hH hargs;refine(h J fps w0 F0 w hH hargs).mono fun e' w' ⟨x,ρ2,fps2,r',g1,g2,g3,g4⟩=>?_
 rcases g4 with⟨rfl,hk⟩|g4
 ·obtain⟨r2,s1,s2⟩:=hK _ _ hk;obtain⟨fps3,m1,m2⟩:=zN s1 g1;exact⟨x,ρ2,fps3,r2,m1,⟨g2.1,fun i hi=>m2 i (g2.2 i hi)⟩,cZ m2 _ g3,.inl ⟨rfl,s2⟩⟩
 ·exact⟨x,ρ2,fps2,r',g1,g2,g3,.inr g4⟩
end
section
variable {P:Program}
theorem aL.fact[Fen]{f:Nat}{args:List V}{res:List aQ}{K KP:V->List aQ->Prop}{k t e:Nat}{L:List Obj}(hr:cP res k= .store t e L)
  (h:(∀o∈L,o.wf)->L.length<=9223372036854775807->aL P f args res K KP):aL P f args res K KP:=by
 intro J fps w0 F0 w hH hargs;obtain⟨fp,hh,_⟩:=hH.look hr (by simp)
 obtain⟨_,h1,h2,_⟩:=hh;exact h h1 h2 J fps w0 F0 w hH hargs
theorem aL.C5[Fen]{f:Nat}{args:List V}{res:List aQ}{K KP:V->List aQ->Prop}{k esz:Nat}{own:Option Nat}{L:List Obj}(hr:cP res k= .arr own esz (.ob L))
  (h:(∀o∈L,o.wf)->L.length<=9223372036854775807->aL P f args res K KP):aL P f args res K KP:=by
 intro J fps w0 F0 w hH hargs;obtain⟨fp,hh,_⟩:=hH.look hr (by simp)
 obtain⟨h1,_,h2,_⟩:=hh;refine h (fun o ho=>?_) h2 J fps w0 F0 w hH hargs
 obtain⟨i,hi,rfl⟩:=List.getElem_of_mem ho;have:=(h1 i hi).1;simpa[TL.get,aM,an,hi,ok]using this
theorem p7.open{res:List aQ}{p j t e q:Nat}{L:List Obj}(hp:cP res p= .blk t (.ag [.sa j]))(hj:cP res j= .obs e q L)(hte:t≠e):p7 res p (.store t e L):=by
 have hkp:=ew hp (by simp)
 have hkj:=ew hj (by simp)
 refine⟨hkp,fun J fps K w0 F0 w hH=>?_⟩
 obtain⟨fp1,⟨_,_,b3,b4⟩,g1⟩:=hH.Be hp hkp;obtain⟨fp2,⟨_,c1,c2,c3,c4,c5,c6,c7⟩,g2⟩:=hH.Be hj hkj
 have b4':w.heap[J.num p]? =some (.cells #[J.sl j] t (0,0)):=by
  rw[b4];have:den J (.sa j)=J.sl j:=rfl;simp[di,bp,this,Env.sl,Value.cells]
 refine⟨fun b=>fp1 b\/fp2 b,⟨.inl b3,c1,c3,J.sl j,J.ob q,b4',c6,fun b hb=>?_,fun x hx=>?_⟩,fun b hb=>?_⟩
 ·have hb':=hb;cases ha:J.sa j with
  |none=>simp[Env.sl,ha,Value.ownBlock]at hb
  |some a=>
   simp only[Env.sl,ha,Value.ownBlock,aa]at hb;subst hb;refine⟨.inr (c4 a ha).2,fun e'=>?_⟩
   rcases c6.2 with⟨hh,_⟩|⟨g,cap,cur,hh,_,h3,_⟩
   ·simp[Env.sl,ha]at hh
   ·rw[hh]at hb';simp only[Value.ownBlock,aa]at hb';rw[hb',e',b4']at h3;simp only[aa,Go.Obj.cells.injEq]at h3;exact hte h3.2.1
 ·grind[mY]
 ·grind
theorem p7.zero{res:List aQ}{p t e:Nat}(hp:cP res p= .blk t (.ag [.nl (.slice none 0 0)])):p7 res p (.store t e []):=by
 have hkp:=ew hp (by simp)
 refine⟨hkp,fun J fps K w0 F0 w hH=>?_⟩
 obtain⟨fp1,⟨_,_,b3,b4⟩,g1⟩:=hH.Be hp hkp;refine⟨fp1,⟨b3,by simp,by simp,.slice none 0 0,fun _=>0,?_,World.ownsRow_nil w 0 e 1,fun b hb=>by simp[Value.ownBlock]at hb,fun x hx=>by simp at hx⟩,fun b hb=>(g1 b hb).elim (fun h=> .inl ⟨p,hkp,h⟩) .inr⟩
 rw[b4];simp[di,bp,den,Value.cells]
def rS(t e:Nat)(res:List aQ)(v:V):Option (Option Nat×List Obj):=
 match v with
 | .nl v=>match v with
   | .pointer p=>match p with
     |none=>some (none,[])
     |some _=>none
   |_=>none
 | .lp k off=>if off==0 then match cP res k with
   | .store t' e' L=>if t'==t&&e'==e then some (some k,L)else none
   | .blk t' c=>if t'==t&& !(t==e)then match c with
     | .ag l=>match l with
       | [x]=>match x with
         | .sa j=>match cP res j with
           | .obs e' _ L=>if e'==e then some (some k,L)else none
           |_=>none
         | .nl v=>match v with
           | .slice none 0 0=>some (some k,[])
           |_=>none
         |_=>none
       |_=>none
     |_=>none
     else none
   |_=>none
   else none
 |_=>none
theorem tO{t e:Nat}{res:List aQ}{v:V}{o:Option Nat}{L:List Obj}(h:rS t e res v=some (o,L)):(o=none/\L= []/\v= .nl (.pointer none))\/∃k,o=some k/\v= .lp k 0/\p7 res k (.store t e L):=by
 unfold rS at h;split at h
 ·grind
 ·rename_i k off;split at h
  ·rename_i ho;have ho:=ai.1 ho;subst ho;split at h
   ·grind[p7.look]
   ·grind[p7.open,p7.zero]
   ·simp at h
  ·simp at h
 ·simp at h
def jZ:V:= .nl (.pointer none)
def XL(t e:Nat)(F:List Obj->V):Ct:=fun res _ xs=>match xs with
 | [a]=>match rS t e res a with
   |some (_,L)=>some (none,F L,[])
   |none=>none
 |_=>none
def Kb{α:Type}(t e:Nat)(r:V->Option α)(F:List Obj->α->V):Ct:=fun res _ xs=>match xs with
 | [a,b]=>match rS t e res a with
   |some (_,L)=>match r b with
    |some x=>some (none,F L x,[])
    |none=>none
   |none=>none
 |_=>none
theorem Ph[Fen]{f t e:Nat}{F:List Obj->V}(hF:∀L,jN (F L)=true)(h0:aL P f [jZ] [] (qh (F [])) (fun _ _=>False))
  (h1:∀L,(∀o∈L,o.wf)->L.length<=9223372036854775807->aL P f [.lp 0 0] [.ro (.blk t (.ag [.sa 1])),.ro (.obs e 2 L),.gen 1] (qh (F L)) (fun _ _=>False)):dq P f (XL t e F):=by
 refine rP fun res nid args q x new hg=>?_
 unfold XL at hg;split at hg<;>(try split at hg)<;>simp only[aa,ae,reduceCtorEq]at hg
 rename_i a o L hr;obtain⟨rfl,rfl,rfl⟩:=hg;rcases tO hr with⟨rfl,rfl,rfl⟩|⟨k,rfl,rfl,hs⟩
 ·exact⟨rfl,hF [],[],[jZ],by simp,fun J _ _=>rfl,fun K hK=>⟨hK.1,trivial⟩,fun _ _=>h0.mono (fun _ _=>dI) fun _ _ h=>h⟩
 ·refine⟨rfl,hF L,[(k,.store t e L)],[.lp 0 0],by simpa using⟨hs,rfl⟩,fun J _ _=>rfl,fun K hK=>⟨by simp[ok,known,sw,aN],trivial⟩,fun _ _=>?_⟩
  exact aL.fact (k:=0) rfl fun w1 w2=>(aL.e9 (res:=sw [(k,.store t e L)]) (k:=0) rfl (h1 L w1 w2)).mono (fun _ _=>dI) fun _ _ h=>h
theorem xq[Fen]{f t e:Nat}{α:Type}{r:V->Option α}{m:α->V}{F:List Obj->α->V}(hr:sm r m)(hF:∀L x,jN (F L x)=true)
  (h0:∀x,ok (fun _=>False) (m x)->aL P f [jZ,m x] [] (qh (F [] x)) (fun _ _=>False))
  (h1:∀L x,(∀o∈L,o.wf)->L.length<=9223372036854775807->ok (fun _=>False) (m x)->aL P f [.lp 0 0,m x] [.ro (.blk t (.ag [.sa 1])),.ro (.obs e 2 L),.gen 1] (qh (F L x)) (fun _ _=>False))
  (hid:∀x,jN (m x)=true):dq P f (Kb t e r F):=by
 refine rP fun res nid args q x new hg=>?_
 unfold Kb at hg;split at hg<;>(try split at hg)<;>(try split at hg)<;>simp only[aa,ae,reduceCtorEq]at hg
 rename_i a b _ o L hs _ x hb;obtain⟨rfl,rfl,rfl⟩:=hg;obtain⟨b1,b2⟩:=hr _ x hb;have hde:∀J ρ':Env,∀K,ok K b->den ρ' (m x)=den J b:=fun J ρ' K hk=>by rw[b1 J];exact pP (hid x) (b2 K hk) J ρ'
 rcases tO hs with⟨rfl,rfl,rfl⟩|⟨k,rfl,rfl,hse⟩
 ·refine⟨rfl,hF [] x,[],[jZ,m x],by simp,fun J K hK=>?_,fun K hK=>⟨hK.1,fu (b2 K hK.2.1),trivial⟩,fun _ hok=>?_⟩
  ·simp only[bI,hde J (J.pull (qH [])) K hK.2.1];rfl
  ·exact(h0 x (ot _ (hid x) hok.2.1)).mono (fun _ _=>dI) fun _ _ h=>h
 ·refine⟨rfl,hF L x,[(k,.store t e L)],[.lp 0 0,m x],by simpa using⟨hse,rfl⟩,fun J K hK=>?_,fun K hK=>⟨by simp[ok,known,sw,aN],fu (b2 K hK.2.1),trivial⟩,fun _ hok=>?_⟩
  ·simp only[bI,hde J (J.pull (qH [(k,.store t e L)])) K hK.2.1];rfl
  ·exact aL.fact (k:=0) rfl fun w1 w2=>(aL.e9 (res:=sw [(k,.store t e L)]) (k:=0) rfl (h1 L x w1 w2 (ot _ (hid x) hok.2.1))).mono (fun _ _=>dI) fun _ _ h=>h
theorem p7.arr{res:List aQ}{p esz:Nat}{own:Option Nat}{l:TL}(h:cP res p= .arr own esz l):p7 res p (.arr none esz l):=by
 have hk:=ew h (by simp)
 refine⟨hk,fun J fps K w0 F0 w hH=>?_⟩
 obtain⟨fp,⟨h1,h2,h3,h4,h5,h6,h7⟩,g2⟩:=hH.Be h hk;refine⟨fp,⟨h1,h2,h3,h4,h5,h6,?_⟩,fun b hb=>(g2 b hb).elim (fun h=> .inl ⟨p,hk,h⟩) .inr⟩
 rcases h7 with⟨e,h7⟩|⟨e,e1,e2⟩
 ·exact .inl ⟨rfl,h7⟩
 ·exact .inr ⟨e,by simp,e2⟩
def rA(res:List aQ)(v:V):Option (Nat×List Obj):=
 match v with
 | .sa k=>match cP res k with
   | .arr _ e l=>if e==163 then match l with
     | .ob l=>some (k,l)
     |_=>none
     else none
   |_=>none
 |_=>none
theorem xm{res:List aQ}{v:V}{k:Nat}{l:List Obj}(h:rA res v=some (k,l)):v= .sa k/\p7 res k (.arr none 163 (.ob l))/\∃own,cP res k= .arr own 163 (.ob l):=by
 unfold rA at h;split at h
 ·grind[p7.arr]
 ·simp at h
def mkA(F:List Obj->V):Ct:=fun res _ xs=>match xs with
 | [a]=>match rA res a with
   |some (_,L)=>some (none,F L,[])
   |none=>none
 |_=>none
def Qu{α:Type}(r:V->Option α)(F:List Obj->α->V):Ct:=fun res _ xs=>match xs with
 | [a,b]=>match rA res a with
   |some (_,L)=>match r b with
    |some x=>some (none,F L x,[])
    |none=>none
   |none=>none
 |_=>none
theorem HF{J:Env}{i k:Nat}{pls:List (Nat×aQ)}(h:qH pls i=k):den (J.pull (qH pls)) (.sa i)=den J (.sa k):=by
 simp only[den,Env.pull,h]
theorem Vd[Fen]{f:Nat}{F:List Obj->V}(hF:∀L,jN (F L)=true)
  (h1:∀L,(∀o∈L,o.wf)->L.length<=9223372036854775807->aL P f [.sa 0] [.ro (.arr none 163 (.ob L))] (qh (F L)) (fun _ _=>False)):dq P f (mkA F):=by
 refine rP fun res nid args q x new hg=>?_
 unfold mkA at hg;split at hg<;>(try split at hg)<;>simp only[aa,ae,reduceCtorEq]at hg
 rename_i a k L hr;obtain⟨rfl,rfl,rfl⟩:=hg;obtain⟨rfl,hs,_⟩:=xm hr
 exact⟨rfl,hF L,[(k,.arr none 163 (.ob L))],[.sa 0],by simpa using⟨hs,rfl⟩,fun J _ _=>by simp only[bI,HF (pls:= [(k,.arr none 163 (.ob L))]) (i:=0) (k:=k) rfl],fun K hK=>⟨by simp[ok,known,sw,aN],trivial⟩,
  fun _ _=>aL.C5 (k:=0) rfl fun w1 w2=>(h1 L w1 w2).mono (fun _ _=>dI) fun _ _ h=>h⟩
theorem GZ[Fen]{f:Nat}{α:Type}{r:V->Option α}{m:α->V}{F:List Obj->α->V}(hr:sm r m)(hF:∀L x,jN (F L x)=true)
  (h1:∀L x,(∀o∈L,o.wf)->L.length<=9223372036854775807->ok (fun _=>False) (m x)->aL P f [.sa 0,m x] [.ro (.arr none 163 (.ob L))] (qh (F L x)) (fun _ _=>False)) (hid:∀x,jN (m x)=true):dq P f (Qu r F):=by
 refine rP fun res nid args q x new hg=>?_
 unfold Qu at hg;split at hg<;>(try split at hg)<;>(try split at hg)<;>simp only[aa,ae,reduceCtorEq]at hg
 rename_i a b _ k L hs _ x hb;obtain⟨rfl,rfl,rfl⟩:=hg;obtain⟨rfl,hse,_⟩:=xm hs;obtain⟨b1,b2⟩:=hr _ x hb;have hde:∀J ρ':Env,∀K,ok K b->den ρ' (m x)=den J b:=fun J ρ' K hk=>by rw[b1 J];exact pP (hid x) (b2 K hk) J ρ'
 refine⟨rfl,hF L x,[(k,.arr none 163 (.ob L))],[.sa 0,m x],by simpa using⟨hse,rfl⟩,fun J K hK=>?_,fun K hK=>⟨by simp[ok,known,sw,aN],fu (b2 K hK.2.1),trivial⟩,fun _ hok=>?_⟩
 ·simp only[bI,hde J (J.pull (qH [(k,.arr none 163 (.ob L))])) K hK.2.1,HF (pls:= [(k,.arr none 163 (.ob L))]) (i:=0) (k:=k) rfl]
 ·exact aL.C5 (k:=0) rfl fun w1 w2=>(h1 L x w1 w2 (ot _ (hid x) hok.2.1)).mono (fun _ _=>dI) fun _ _ h=>h
def Wb(t e:Nat)(F:List Obj->List Obj->V):Ct:=fun res _ xs=>match xs with
 | [a,b]=>match rS t e res a with
   |some (_,L)=>match rA res b with
    |some (_,M)=>some (none,F L M,[])
    |none=>none
   |none=>none
 |_=>none
theorem Sf[Fen]{f t e:Nat}{F:List Obj->List Obj->V}(hF:∀L M,jN (F L M)=true)
  (h0:∀M,(∀o∈M,o.wf)->M.length<=9223372036854775807->aL P f [jZ,.sa 0] [.ro (.arr none 163 (.ob M))] (qh (F [] M)) (fun _ _=>False))
  (h1:∀L M,(∀o∈L,o.wf)->L.length<=9223372036854775807->(∀o∈M,o.wf)->M.length<=9223372036854775807->
   aL P f [.lp 0 0,.sa 1] [.ro (.blk t (.ag [.sa 2])),.ro (.arr none 163 (.ob M)),.ro (.obs e 3 L),.gen 2] (qh (F L M)) (fun _ _=>False)):dq P f (Wb t e F):=by
 refine rP fun res nid args q x new hg=>?_
 unfold Wb at hg;split at hg<;>(try split at hg)<;>(try split at hg)<;>simp only[aa,ae,reduceCtorEq]at hg
 rename_i a b _ o L hs _ j M hb;obtain⟨rfl,rfl,rfl⟩:=hg;obtain⟨rfl,hbe,_⟩:=xm hb;rcases tO hs with⟨rfl,rfl,rfl⟩|⟨k,rfl,rfl,hse⟩
 ·refine⟨rfl,hF [] M,[(j,.arr none 163 (.ob M))],[jZ,.sa 0],by simpa using⟨hbe,rfl⟩,fun J K hK=>?_,fun K hK=>⟨hK.1,by simp[ok,known,sw,aN],trivial⟩,fun _ hok=>?_⟩
  ·rfl
  ·exact aL.C5 (k:=0) rfl fun w1 w2=>(h0 M w1 w2).mono (fun _ _=>dI) fun _ _ h=>h
 ·refine⟨rfl,hF L M,[(k,.store t e L),(j,.arr none 163 (.ob M))],[.lp 0 0,.sa 1],by simpa using⟨⟨hse,rfl⟩,hbe,rfl⟩,fun J K hK=>?_,fun K hK=>⟨by simp[ok,known,sw,aN],by simp[ok,known,sw,aN],trivial⟩,fun _ hok=>?_⟩
  ·rfl
  ·exact aL.fact (k:=0) rfl fun w1 w2=>aL.C5 (k:=1) rfl fun w3 w4=>
    (aL.e9 (res:=sw [(k,.store t e L),(j,.arr none 163 (.ob M))]) (k:=0) rfl (h1 L M w1 w2 w3 w4)).mono (fun _ _=>dI) fun _ _ h=>h
end
abbrev kr:=List V->List aQ->(V->List aQ->Prop)->Prop
def k7[Fen](P:Program)(f:Nat)(h:kr):Prop:=∀args res K KP,h args res K->aL P f args res K KP
def zM:List (Nat×kr)->Handler
 | [],_,_,_,_,_=>False
 | (g,h)::l,f,args,res,K,KP=>if f==g then h args res K else zM l f args res K KP
theorem uz[Fen]{P:Program}:∀{l:List (Nat×kr)},(∀p∈l,k7 P p.1 p.2)->Handler.OK P (zM l)
 | [],_,f,args,res,K,KP,h=>h.elim
 | (g,x)::l,hl,f,args,res,K,KP,h=>by
   simp only[zM]at h;split at h
   ·rename_i e;have e:=ai.1 e;subst e;exact hl (f,x) (by simp) args res K KP h
   ·exact uz (fun p hp=>hl p (by simp[hp])) f args res K KP h
theorem aU[Fen]{P:Program}:∀p∈([]:List (Nat×kr)),k7 P p.1 p.2:=by simp
theorem aV[Fen]{P:Program}{f:Nat}{g:kr}{l:List (Nat×kr)}(h:k7 P f g)(t:∀p∈l,k7 P p.1 p.2):∀p∈(f,g)::l,k7 P p.1 p.2:=by
 simp_all
theorem tG{κ:Nat->Option Nat}:∀v,jN v=true->fy κ v=some v:=by
 intro v
 exact V.rec (motive_1:=fun v=>jN v=true->fy κ v=some v) (motive_2:=fun l=>lr l=true->eF κ l=some l)
  (fun b _=>rfl) (fun b _=>rfl) (fun k n _=>rfl) (fun k n _=>rfl) (fun b _=>rfl) (fun s _=>rfl) (fun v _=>rfl) (fun _ _ h=>by simp[jN]at h) (fun _ _ _ _ _ _ h=>by simp[jN]at h)
  (fun _ _ _ h=>by simp[jN]at h) (fun _ _ h=>by simp[jN]at h) (fun _ _ _ _ h=>by simp[jN]at h) (fun _ h=>by simp[jN]at h) (fun _ _ h=>by simp[jN]at h) (fun _ h=>by simp[jN]at h)
  (fun f l ih h=>by simp only[fy];rw[ih h]) (fun t x ih h=>by simp only[fy];rw[ih h]) (fun l ih h=>by simp only[fy];rw[ih h]) (fun l ih h=>by simp only[fy];rw[ih h])
  (fun _ _=>rfl) (fun _ _=>rfl) (fun _ _=>rfl) (fun _ _=>rfl) (fun _ h=>by simp[jN]at h) (fun _ _ _ _ _ _ h=>by simp[jN]at h) (fun _ _ _ _ _ _ _ _ h=>by simp[jN]at h) (fun _ _ _ _ h=>by simp[jN]at h) (fun _ _ _ _ _ _ h=>by simp[jN]at h) (fun _ _ _ _ h=>by simp[jN]at h) (fun _=>rfl)
  (fun x l ih1 ih2 h=>by simp only[lr,af]at h;simp only[eF];rw[ih1 h.1];simp only;rw[ih2 h.2]) v
theorem jJ{κ:Nat->Option Nat}:∀l,lr l=true->eF κ l=some l
 | [],_=>rfl
 |x::l,h=>by
  simp_all[lr,eF,tG,jJ]
def ff(l m:List V):Prop:=∀(J:Env) K,fc K l->bI J l=bI J m/\fc K m
theorem ff.nil:ff [] []:=fun _ _ _=>⟨rfl,trivial⟩
theorem ff.ka{x:V}{l m:List V}(h:ff l m):ff (x::l) (x::m):=fun J K hk=>⟨by simp only[bI,(h J K hk.2).1],hk.1,(h J K hk.2).2⟩
theorem ff.rd{α:Type}{r:V->Option α}{f:α->V}(hr:sm r f){a:V}{x:α}(hx:r a=some x){l m:List V}(h:ff l m):ff (a::l) (f x::m):=fun J K hk=>by
 obtain⟨a1,a2⟩:=hr a x hx;exact⟨by simp only[bI,(h J K hk.2).1,a1],fu (a2 K hk.1),(h J K hk.2).2⟩
section
variable {P:Program}
theorem aL.args[Fen]{f:Nat}{args args':List V}{res:List aQ}{K KP:V->List aQ->Prop}(h:ff args args')(hc:aL P f args' res K KP):aL P f args res K KP:=by
 intro J fps w0 F0 w hH hargs;obtain⟨h1,h2⟩:=h J _ hargs;rw[h1];exact hc J fps w0 F0 w hH h2
theorem aL.XQ[Fen]{f:Nat}{args:List V}{res:List aQ}{K KP:V->List aQ->Prop}(h:fc (known res) args->aL P f args res K KP):aL P f args res K KP:=by
 intro J fps w0 F0 w hH hargs;exact h hargs J fps w0 F0 w hH hargs
theorem aL.BA[Fen]{f:Nat}{rest:List V}{res:List aQ}{K KP:V->List aQ->Prop}{k t e:Nat}{L M:List Obj}{x:V}(hr:aN res k= .store t e L)(hid:lr rest=true)(hx:jN x=true)
  (h:aL P f (.lp 0 0::rest) [.store t e L] (fun v r=>uZ x v r/\aN r 0= .store t e M) (fun _ _=>False)) (hK:K x (bQ res k (.store t e M))):aL P f (.lp k 0::rest) res K KP:=by
 have hk:known res k:=by unfold known;rw[hr];simp
 have hlt:=aW hk;refine aL.frame (pl:= [(k,true)]) (args0:= .lp 0 0::rest) (K0:=fun v r=>uZ x v r/\aN r 0= .store t e M) (KP0:=fun _ _=>False) (by simp[eO,cB.2 hk]) (by simpa[jc,dJ,pb]using hlt) ?_ ?_ (fun v r hv=>?_) (fun _ _ h=>h.elim)
 ·simp only[eF,fy,kT,idxOf,dJ];rw[jJ rest hid];simp
 ·simp_all[fg,kT,dJ,gd]
 ·obtain⟨h1,h2⟩:=hv;have hm:merge [(k,true)] [] r res=bQ res k (.store t e M):=by simp[merge,fF,h2,gd,gz]
  exact⟨[],x,rfl,by simp[lf,h2,jo],rfl,jS.jN h1 hx,by rw[hm];exact hK⟩
theorem aL.pure[Fen]{f:Nat}{args:List V}{res:List aQ}{K KP:V->List aQ->Prop}{x:V}(hid:lr args=true)(hx:jN x=true)
  (h:aL P f args [] (fun v _=>uZ x v []) (fun _ _=>False)) (hK:K x res):aL P f args res K KP:=by
 refine aL.frame (pl:= []) (args0:=args) (K0:=fun v _=>uZ x v []) (KP0:=fun _ _=>False) rfl rfl (jJ args hid) h (fun v r hv=>?_) (fun _ _ h=>h.elim)
 have hm:merge [] [] r res=res:=by simp[merge,fF,gz]
 exact⟨[],x,rfl,rfl,rfl,jS.jN hv hx,by rw[hm];exact hK⟩
theorem aL.M7[Fen]{f:Nat}{rest:List V}{res:List aQ}{K KP:V->List aQ->Prop}{k:Nat}{r0:aQ}{x:V}(hr:cP res k=r0)(hne:r0≠ .yet)(hren:∀κ,gd κ r0=r0)(hid:lr rest=true)(hx:jN x=true)
  (h:aL P f (.lp 0 0::rest) [.ro r0] (fun v _=>uZ x v []) (fun _ _=>False)) (hK:K x res):aL P f (.lp k 0::rest) res K KP:=by
 have hk:=ew hr hne;have hlt:=aW hk;refine aL.frame (pl:= [(k,false)]) (args0:= .lp 0 0::rest) (K0:=fun v _=>uZ x v []) (KP0:=fun _ _=>False) (by simp[eO,cB.2 hk]) (by simpa[jc,dJ,pb]using hlt) ?_ ?_ (fun v r hv=>?_) (fun _ _ h=>h.elim)
 ·simp only[eF,fy,kT,idxOf,dJ];rw[jJ rest hid];simp
 ·simp_all[fg,kT,dJ]
 ·have hm:merge [(k,false)] [] r res=res:=by simp[merge,fF,gz]
  exact⟨[],x,rfl,by simp[lf],rfl,jS.jN hv hx,by rw[hm];exact hK⟩
theorem bn.weaken{J:Env}{fps:Nat->Nat->Prop}{res res':List aQ}{w0 w:World}{F0:Nat->Prop}(h:bn J fps res (known res) w0 F0 w)
  (hk:∀i,known res' i->known res i/\∀fp,(aN res i).holds (known res) J i fp w0 F0 w->(aN res' i).holds (known res') J i fp w0 F0 w):bn J fps res' (known res') w0 F0 w:=
 ⟨fun i hi=>hi,h.old,h.os,h.tape,h.output,fun i hi=>(hk i hi).2 _ (h.holds i (hk i hi).1),fun i b hi=>h.lt i b (hk i hi).1,fun i j b hi hj=>h.disj i j b (hk i hi).1 (hk j hj).1,fun i b hi=>h.inF i b (hk i hi).1,h.same⟩
theorem Mf{K K':Nat->Prop}{J:Env}{i:Nat}{fp:Nat->Prop}{w0 w:World}{F0:Nat->Prop}{own:Option Nat}{e:Nat}{l:TL}(h:(aQ.arr own e l).holds K J i fp w0 F0 w):(aQ.arr none e l).holds K' J i fp w0 F0 w:=by
 obtain⟨h1,h2,h3,h4,h5,h6,h7⟩:=h;refine⟨h1,h2,h3,h4,h5,h6,?_⟩;rcases h7 with⟨e,h7⟩|⟨e,e1,e2⟩
 ·exact .inl ⟨rfl,h7⟩
 ·exact .inr ⟨e,by simp,e2⟩
theorem aL.YV[Fen]{f:Nat}{args:List V}{K KP:V->List aQ->Prop}{own:Option Nat}{e:Nat}{l:TL}(h:aL P f args [.ro (.arr none e l)] K KP):aL P f args [.ro (.arr own e l)] K KP:=by
 have hk:∀i (own:Option Nat),known [.ro (.arr own e l)] i↔i=0:=fun i own=>by
  unfold known;cases i with
  |zero=>simp[aN]
  |succ i=>simp[aN]
 refine h.tE fun J fps w0 F0 w hH=>⟨J,fps,hH.weaken fun i hi=>?_,Env.agree.refl _ _,fun i hi=>(hk i _).2 ((hk i _).1 hi)⟩
 have:=(hk i _).1 hi;subst this;refine⟨(hk 0 _).2 rfl,fun fp hh=>?_⟩
 obtain⟨fp',g1,g2⟩:=hh;exact⟨fp',Mf g1,g2⟩
theorem aL.Lc[Fen]{f:Nat}{rest:List V}{res:List aQ}{K KP:V->List aQ->Prop}{t e k esz:Nat}{own:Option Nat}{l:TL}{M:List Obj}{F:Nat->V}(hr:cP res k= .arr own esz l)(hid:lr rest=true)
  (h:aL P f (.sa 0::rest) [.ro (.arr own esz l)] (fun v r=>∃j,1<=j/\aN r j= .store t e M/\(∀(κ:Nat->Option Nat) (i:Nat),κ j=some i->jS κ v (F i))) (fun _ _=>False)) (hK:K (F res.length) (res++ [.store t e M])):aL P f (.sa k::rest) res K KP:=by
 have hk:=ew hr (by simp)
 have hlt:=aW hk;refine aL.frame (pl:= [(k,false)]) (args0:= .sa 0::rest) (K0:=fun v r=>∃j,1<=j/\aN r j= .store t e M/\(∀(κ:Nat->Option Nat) (i:Nat),κ j=some i->jS κ v (F i))) (KP0:=fun _ _=>False) (by simp[eO,cB.2 hk]) (by simpa[jc,dJ,pb]using hlt) ?_ ?_ (fun v r hv=>?_) (fun _ _ h=>h.elim)
 ·simp only[eF,fy,kT,idxOf,dJ];rw[jJ rest hid];simp
 ·have:fg (kT 0 (dJ [(k,false)])) res [(k,false)]= [.ro (.arr own esz l)]:=by simp[fg,hr,gd]
  rw[this];exact h
 ·obtain⟨j,hj1,hj,hv⟩:=hv;have hjl:j<r.length:=aW (by rw[hj];simp)
  have hm:merge [(k,false)] [j] r res=res++ [.store t e M]:=by simp[merge,fF,gz,hj,gd]
  refine⟨[j],F res.length,by simpa[jc,pb]using⟨hj1,hjl⟩,by simp[lf],by simp[pQ,hj,jo],hv _ _ ?_,by rw[hm];exact hK⟩
  obtain⟨m,rfl⟩:∃m,j=m+1:=⟨j-1,by omega⟩
  simp[back,wI,idxOf]
theorem aL.Zi[Fen]{f:Nat}{rest:List V}{res:List aQ}{K KP:V->List aQ->Prop}{k esz:Nat}{own:Option Nat}{l:TL}{x:V}(hr:cP res k= .arr own esz l)(hid:lr rest=true)(hx:jN x=true)
  (h:aL P f (.sa 0::rest) [.ro (.arr own esz l)] (fun v _=>uZ x v []) (fun _ _=>False)) (hK:K x res):aL P f (.sa k::rest) res K KP:=by
 have hk:=ew hr (by simp)
 have hlt:=aW hk;refine aL.frame (pl:= [(k,false)]) (args0:= .sa 0::rest) (K0:=fun v _=>uZ x v []) (KP0:=fun _ _=>False) (by simp[eO,cB.2 hk]) (by simpa[jc,dJ,pb]using hlt) ?_ ?_ (fun v r hv=>?_) (fun _ _ h=>h.elim)
 ·simp only[eF,fy,kT,idxOf,dJ];rw[jJ rest hid];simp
 ·have:fg (kT 0 (dJ [(k,false)])) res [(k,false)]= [.ro (.arr own esz l)]:=by simp[fg,hr,gd]
  rw[this];exact h
 ·have hm:merge [(k,false)] [] r res=res:=by simp[merge,fF,gz]
  exact⟨[],x,rfl,by simp[lf],rfl,jS.jN hv hx,by rw[hm];exact hK⟩
theorem sM(κ2:Nat->Option Nat)(r':List aQ):∀(l:List (Nat×Bool)) (i:Nat) (res:List aQ),(∀p∈l,p.2=false)->fF κ2 r' i l res=res
 | [],_,_,_=>rfl
 | (p,o)::l,i,res,h=>by
   simp_all[fF,sM]
theorem vi(r':List aQ):∀(l:List (Nat×Bool)) (i:Nat),(∀p∈l,p.2=false)->lf r' i l=true
 | [],_,_=>rfl
 | (p,o)::l,i,h=>by
   simp_all[lf,vi]
theorem Bb:∀(l:List (Nat×Bool)) (j:Nat),l.length<=j->wI l j=none
 | [],_,_=>rfl
 | (p,o)::l,0,h=>by simp at h
 | (p,o)::l,j+1,h=>by simp only[wI];exact Bb l j (by simpa using h)
theorem aL.Yq[Fen]{f:Nat}{args args0:List V}{res:List aQ}{K KP:V->List aQ->Prop}{pl:List (Nat×Bool)}{new:aQ}{F:Nat->V}(hk:eO res pl=true)(hnd:jc 0 res.length (dJ pl)=true)(hro:∀p∈pl,p.2=false)
  (ha:eF (kT 0 (dJ pl)) args=some args0) (hnew:jo new=true) (hne:new≠ .yet) (hren:∀κ,gd κ new=new)
  (h:aL P f args0 (fg (kT 0 (dJ pl)) res pl) (fun v r=>∃j,pl.length<=j/\aN r j=new/\(∀(κ:Nat->Option Nat) (i:Nat),κ j=some i->jS κ v (F i))) (fun _ _=>False))
  (hK:K (F res.length) (res++ [new])):aL P f args res K KP:=by
 refine aL.frame hk hnd ha h (fun v r hv=>?_) (fun _ _ h=>h.elim)
 obtain⟨j,hj1,hj,hv⟩:=hv;have hjl:j<r.length:=aW (by rw[hj];exact hne)
 have hm:merge pl [j] r res=res++ [new]:=by simp[merge,sM _ _ pl 0 res hro,gz,hj,hren]
 refine⟨[j],F res.length,by simpa[jc,pb]using⟨hj1,hjl⟩,vi _ _ _ hro,by simp[pQ,hj,hnew],hv _ _ ?_,by rw[hm];exact hK⟩
 simp[back,Bb pl j hj1,idxOf]
theorem aL.Xs[Fen]{f:Nat}{args args0:List V}{res:List aQ}{K KP:V->List aQ->Prop}{pl:List (Nat×Bool)}{x:V}(hk:eO res pl=true)(hnd:jc 0 res.length (dJ pl)=true)(hro:∀p∈pl,p.2=false)
  (ha:eF (kT 0 (dJ pl)) args=some args0) (hx:jN x=true)
  (h:aL P f args0 (fg (kT 0 (dJ pl)) res pl) (fun v _=>uZ x v []) (fun _ _=>False)) (hK:K x res):aL P f args res K KP:=by
 refine aL.frame hk hnd ha h (fun v r hv=>?_) (fun _ _ h=>h.elim)
 have hm:merge pl [] r res=res:=by simp[merge,sM _ _ pl 0 res hro,gz]
 exact⟨[],x,rfl,vi _ _ _ hro,rfl,jS.jN hv hx,by rw[hm];exact hK⟩
theorem Ac{r:List aQ}{k t e j:Nat}{L:List Obj}(h:Ek r k=some (t,e,j,L)):∃r',tx r k=some r'/\aN r' k= .store t e L:=by
 grind[tx,Ek,aW,bJ,bX]
def El(r:List aQ)(k:Nat):Option (Nat×Nat×List Obj):=
 match aN r k with
 | .store t e L=>some (t,e,L)
 |_=>match Ek r k with
  |some (t,e,_,L)=>some (t,e,L)
  |none=>none
theorem C4{r:List aQ}{k t e:Nat}{L:List Obj}(h:El r k=some (t,e,L)):aN r k= .store t e L\/∃r',tx r k=some r'/\aN r' k= .store t e L:=by
 grind[El,Ac]
theorem TP{a b c:V}(h:uZ c b []):uZ (.tp [a,c]) (.tp [a,b]) []:=fun J K=>by
 obtain⟨s1,s2,_⟩:=h J K;exact⟨by simp only[den,bI,s1],fun hk=>⟨hk.1,s2 hk.2.1,trivial⟩,rfl⟩
theorem aL.TE[Fen]{f:Nat}{args:List V}{res:List aQ}{K KP:V->List aQ->Prop}{t e:Nat}{M:List Obj}{F:Nat->V}(hid:lr args=true)
  (h:aL P f args [] (fun v r=>∃j,aN r j= .store t e M/\(∀(κ:Nat->Option Nat) (i:Nat),κ j=some i->jS κ v (F i))) (fun _ _=>False)) (hK:K (F res.length) (res++ [.store t e M])):aL P f args res K KP:=by
 refine aL.frame (pl:= []) (args0:=args) (K0:=fun v r=>∃j,aN r j= .store t e M/\(∀(κ:Nat->Option Nat) (i:Nat),κ j=some i->jS κ v (F i))) (KP0:=fun _ _=>False) rfl rfl (jJ args hid) h (fun v r hv=>?_) (fun _ _ h=>h.elim)
 obtain⟨j,hj,hv⟩:=hv;have hlt:j<r.length:=aW (by rw[hj];simp)
 have hm:merge [] [j] r res=res++ [.store t e M]:=by simp[merge,fF,gz,hj,gd]
 exact⟨[j],F res.length,by simpa[jc,pb]using hlt,rfl,by simp[pQ,hj,jo],hv _ _ (by simp[back,wI,idxOf]),by rw[hm];exact hK⟩
end
def ZD(v:V):Option Nat:=
 match v with
 | .sa j=>some j
 | .ag l=>match l with
   | [x]=>match x with
     | .sa j=>some j
     |_=>none
   |_=>none
 |_=>none
def XN(c:Nat)(U:St):Option (List Nat):=
 match aN U.res c with
 | .blk _ x=>match ZD x with
   |some j=>match aN U.res j with
    | .obs _ q _=>some [j,q]
    |_=>some [j]
   |none=>some []
 |_=>some []
def Vm(ka:List Nat)(set:Int->List (Nat×V))(k:Nat)(R:Int->aQ)(inv:Int->Prop)(m:Int):cR:=
 {γ:=Int,head:=fun U g=> {U with slots:=Ko ka (set g) 0 U.slots,res:=bQ U.res k (R g)},inv:=inv,μ:=fun g=>mI (tQ m g)}
def Lj:List (Nat×aQ)->List aQ->List aQ
 | [],r=>r
 | (k,x)::l,r=>Lj l (bQ r k x)
def lpT{γ:Type}(ka:List Nat)(set:γ->List (Nat×V))(rs:γ->List (Nat×aQ))(inv:γ->Prop)(μ:γ->Nat):cR:=
 {γ:=γ,head:=fun U g=> {U with slots:=Ko ka (set g) 0 U.slots,res:=Lj (rs g) U.res},inv:=inv,μ:=μ}
def TL.emp:TL->TL
 | .ob _=> .ob []
 | .key _=> .key []
 | .it k _=> .it k []
 | .bo _=> .bo []
 | .st _=> .st []
 | .qs n _=> .qs n []
 | .fn n g=> .fn n g
def Zt(t:Nat)(U:St):Option (List Nat):=
 match b9 U.slots t with
 | .v x=>match ZD x with
   |some j=>some [j]
   |none=>some []
 |_=>some []
def lpS(ka:List Nat)(set:Int->List (Nat×V))(t e esz:Nat)(L:Int->TL)(inv:Int->Prop)(m:Int):cR:=
 {γ:=Int,head:=fun U g=> {U with slots:=Ko ka ((t,.sa U.res.length)::set g) 0 U.slots,res:=U.res++ [.arr (some e) esz (L g)]},
  inv:=inv,μ:=fun g=>mI (tQ m g),pre:= [.sl t e esz (TL.emp (L 0))],ext:=Zt t}
def UM(n:Nat):cR:= {γ:=Unit,head:=fun U _=>U,inv:=fun _=>True,μ:=fun _=>0,unr:=some n}
def lpV(ka:List Nat)(set:Int->List (Nat×V))(c ty e esz:Nat)(L:Int->TL)(inv:Int->Prop)(m:Int):cR:=
 {γ:=Int,head:=fun U g=> {U with slots:=Ko ka (set g) 0 U.slots,res:=bQ U.res c (.blk ty (.sa U.res.length))++ [.arr (some e) esz (L g)]},
  inv:=inv,μ:=fun g=>mI (tQ m g),pre:= [.bv c e esz (TL.emp (L 0))],ext:=XN c}
def lpP{γ:Type}(ka:List Nat)(set:γ->List (Nat×V))(t:Nat)(R:γ->aQ)(inv:γ->Prop)(μ:γ->Nat):cR:=
 {γ:=γ,head:=fun U g=>match b9 U.slots t with
   | .v x=>match x with
     | .lp k _=> {U with slots:=Ko ka (set g) 0 U.slots,res:=bQ U.res k (R g)}
     |_=>U
   |_=>U,inv:=inv,μ:=μ}
def HR(sl:List S):List (Nat×aQ)->List aQ->List aQ
 | [],r=>r
 | (t,x)::l,r=>match b9 sl t with
   | .v y=>match y with
     | .lp k _=>HR sl l (bQ r k x)
     |_=>HR sl l r
   |_=>HR sl l r
mutual
def UY:V->List Nat
 | .lp i _=> [i]
 | .lx i _ _ _ _ _=> [i]
 | .sc i _ _=> [i]
 | .so i _=> [i]
 | .ap i _ _ _=> [i]
 | .ax i _ _ _ _ _ _ _=> [i]
 | .sa i=> [i]
 | .op i _=> [i]
 | .yl i=> [i]
 | .bs x _ _=>UY x
 | .ks x _ _ _ _=>UY x
 | .vw i _ _ _=> [i]
 | .fn _ l=>Xf l
 | .ic _ x=>UY x
 | .ag l=>Xf l
 | .tp l=>Xf l
 | .ch _ _ l y=>Xf l++UY y
 |_=> []
def Xf:List V->List Nat
 | []=> []
 |x::l=>UY x++Xf l
end
def plR:aQ->List Nat
 | .blk _ c=>UY c
 | .ro r=>match r with
   | .blk _ c=>UY c
   |_=> []
 |_=> []
def plS:List S->List Nat
 | []=> []
 |x::l=>(match x with| .v y=>UY y|_=> [])++plS l
def plD:List (Nat×List V×List V)->List Nat
 | []=> []
 |x::l=>Xf x.2.1++Xf x.2.2++plD l
def plN(res:List aQ):Nat->List Nat->List Nat
 |0,l=>l
 |n+1,l=>plN res n (l.foldr (fun i m=>(plR (aN res i)).foldr (fun j k=>if Zk k j then k else j::k) m) l)
def gcR(l:List Nat):Nat->List aQ->List aQ
 |_,[]=> []
 |i,x::r=>(match x with| .mp _ _ _=> .gone| .mq _ _=> .gone| .blk t c=>if Zk l i then .blk t c else .gone| .ro y=>(match y with| .blk t c=>if Zk l i then .ro (.blk t c)else .gone|y=> .ro y)|x=>x)::gcR l (i+1) r
def gcS(U:St):St:= {U with res:=gcR (plN U.res 4 (plS U.slots++plD U.defs)) 0 U.res}
def lpC{γ:Type}(ka:List Nat)(set:γ->List (Nat×V))(bl:γ->List (Nat×aQ))(rs:γ->List (Nat×aQ))(inv:γ->Prop):cR:=
 {γ:=γ,head:=fun U g=>gcS {U with slots:=Ko ka (set g) 0 U.slots,res:=Lj (rs g) (HR U.slots (bl g) U.res)},inv:=inv,μ:=fun _=>0}
def lpB(ka:List Nat)(set:Int->List (Nat×V))(c t e:Nat)(L:Int->List Obj)(inv:Int->Prop)(m:Int):cR:=
 {γ:=Int,head:=fun U g=> {U with slots:=Ko ka (set g) 0 U.slots,res:=bQ U.res c (.blk t (.ag [.sa U.res.length]))++ [.obs e (U.res.length+1) (L g),.gen U.res.length]},
  inv:=inv,μ:=fun g=>mI (tQ m g),pre:= [.bl c e],ext:=XN c}
end Go.Sx
namespace Go.Proofs.YtmfbohanboiklaaGreat
open Go.Sx
noncomputable def Ur (l:List (Nat×Ct)) (hl:List (Nat×kr)) (inl:Nat->Bool) (ann:Nat->Nat->Option cR):Hs:= {P:=Tryz.prog,Z:=zeroOf,Γ:=nT l,H0:=zM hl,inl:=inl,ann:=ann,opn:=HL inl}
theorem zU[Fen]{l:List (Nat×Ct)}{hl:List (Nat×kr)}{inl:Nat->Bool}{ann:Nat->Nat->Option cR}(h:∀p∈l,dq Tryz.prog p.1 p.2):(Ur l hl inl ann).toCtx.Sound:=
 ⟨vl mJ,Tryz.checked.mixed,fun f g hg=>kx h f g hg,fun f ts te h=>by simp[Ur]at h⟩
abbrev vch(l:List (Nat×Ct))(hl:List (Nat×kr))(inl:Nat->Bool)(ann:Nat->Nat->Option cR)(f:Nat)(args:List V)(res:List aQ)(K KP:V->List aQ->Prop):Prop:=
 enter (Ur l hl inl ann).toCtx (exec (Ur l hl inl ann) 100 ⟨false,none⟩) (exec (Ur l hl inl ann) 100 ⟨false,none⟩ f) f args res K KP
set_option maxRecDepth 100000 in
theorem bV[Fen]{l:List (Nat×Ct)}{hl:List (Nat×kr)}{inl:Nat->Bool}{ann:Nat->Nat->Option cR}(h:∀p∈l,dq Tryz.prog p.1 p.2)(hh:∀p∈hl,k7 Tryz.prog p.1 p.2){f:Nat}{args:List V}{res:List aQ}
  {K KP:V->List aQ->Prop} {G:Prop} (hG:G) (he:G=vch l hl inl ann f args res K KP):aL Tryz.prog f args res K KP:=
 xd (C:=Ur l hl inl ann) (n:=100) (zU h) (uz hh) (fun(h:false=true)=>Bool.noConfusion h) (Eq.mp he hG)
def Bc:List (Nat×Nat×Nat)->Nat->Option (Nat×Nat)
 | [],_=>none
 | (g,ts,te)::l,f=>if f==g then some (ts,te)else Bc l f
theorem xB[Fen]{P:Program}:∀{l:List (Nat×Nat×Nat)},(∀p∈l,sQ P p.1 p.2.1 p.2.2)->∀f ts te,Bc l f=some (ts,te)->sQ P f ts te
 | [],_,f,ts,te,h=>by simp[Bc]at h
 | (g,a,b)::l,hl,f,ts,te,h=>by
   simp only[Bc]at h;split at h
   ·simp_all
   ·exact xB (fun p hp=>hl p (by simp[hp])) f ts te h
noncomputable def Yc (l:List (Nat×Ct)) (hl:List (Nat×kr)) (dl:List (Nat×Nat×Nat)) (inl:Nat->Bool) (ann:Nat->Nat->Option cR):Hs:= {P:=Tryz.prog,Z:=zeroOf,Γ:=nT l,D:=Bc dl,H0:=zM hl,inl:=inl,ann:=ann,opn:=HL inl}
abbrev vcd(l:List (Nat×Ct))(hl:List (Nat×kr))(dl:List (Nat×Nat×Nat))(inl:Nat->Bool)(ann:Nat->Nat->Option cR)(f:Nat)(args:List V)(res:List aQ)(K KP:V->List aQ->Prop):Prop:=
 enter (Yc l hl dl inl ann).toCtx (exec (Yc l hl dl inl ann) 100 ⟨false,none⟩) (exec (Yc l hl dl inl ann) 100 ⟨false,none⟩ f) f args res K KP
set_option maxRecDepth 100000 in
theorem bk[Fen]{l:List (Nat×Ct)}{hl:List (Nat×kr)}{dl:List (Nat×Nat×Nat)}{inl:Nat->Bool}{ann:Nat->Nat->Option cR}(h:∀p∈l,dq Tryz.prog p.1 p.2)(hh:∀p∈hl,k7 Tryz.prog p.1 p.2)(hd:∀p∈dl,sQ Tryz.prog p.1 p.2.1 p.2.2){f:Nat}{args:List V}{res:List aQ}
  {K KP:V->List aQ->Prop} {G:Prop} (hG:G) (he:G=vcd l hl dl inl ann f args res K KP):aL Tryz.prog f args res K KP:=
 xd (C:=Yc l hl dl inl ann) (n:=100) ⟨vl mJ,Tryz.checked.mixed,fun f g hg=>kx h f g hg,xB hd⟩ (uz hh) (fun(h:false=true)=>Bool.noConfusion h) (Eq.mp he hG)
noncomputable def T6 (l:List (Nat×Ct)) (hl:List (Nat×kr)) (dl:List (Nat×Nat×Nat)) (inl:Nat->Bool) (ann:Nat->Nat->Option cR):Hs:= {P:=Tryz.prog,Z:=zeroOf,Γ:=nT l,D:=Bc dl,H0:=zM hl,inl:=inl,ann:=ann,opn:=HL inl,nr:=true}
abbrev aaw(l:List (Nat×Ct))(hl:List (Nat×kr))(dl:List (Nat×Nat×Nat))(inl:Nat->Bool)(ann:Nat->Nat->Option cR)(f:Nat)(args:List V)(res:List aQ)(K KP:V->List aQ->Prop):Prop:=
 enter (T6 l hl dl inl ann).toCtx (exec (T6 l hl dl inl ann) 100 ⟨false,none⟩) (exec (T6 l hl dl inl ann) 100 ⟨false,none⟩ f) f args res K KP
set_option maxRecDepth 100000 in
theorem JD[Fen](hn:Fen.nar){l:List (Nat×Ct)}{hl:List (Nat×kr)}{dl:List (Nat×Nat×Nat)}{inl:Nat->Bool}{ann:Nat->Nat->Option cR}(h:∀p∈l,dq Tryz.prog p.1 p.2)(hh:∀p∈hl,k7 Tryz.prog p.1 p.2)(hd:∀p∈dl,sQ Tryz.prog p.1 p.2.1 p.2.2){f:Nat}{args:List V}{res:List aQ}
  {K KP:V->List aQ->Prop} {G:Prop} (hG:G) (he:G=aaw l hl dl inl ann f args res K KP):aL Tryz.prog f args res K KP:=
 xd (C:=T6 l hl dl inl ann) (n:=100) ⟨vl mJ,Tryz.checked.mixed,fun f g hg=>kx h f g hg,xB hd⟩ (uz hh) (fun _=>hn) (Eq.mp he hG)
theorem aL.lift[Fen]{i j:Fen}(hj:¬j.nar){P:Program}{f:Nat}{args:List V}{res:List aQ}{K KP:V->List aQ->Prop}(h: @aL i P f args res K KP): @aL j P f args res K KP:=
 fun J fps w0 F0 w hH ha=> @MO j _ _ _ _ _ _ hj (@MV i _ _ _ _ _ _ _ (h J fps w0 F0 w hH ha))
theorem k7.lift[Fen]{i j:Fen}(hj:¬j.nar){P:Program}{f:Nat}{h:kr}(hh: @k7 i P f h): @k7 j P f h:=
 fun args res K KP hc=>aL.lift (i:=i) hj (hh args res K KP hc)
end Go.Proofs.YtmfbohanboiklaaGreat
namespace Go.Sx
open Go.RowKit (Below)
def IJ(κ:Nat->Option Nat)(r:List aQ):List Nat->Option (List aQ)
 | []=>some []
 |p::l=>if iG r p&&jo (aN r p)then match IJ κ r l with
   |some m=>some (gd κ (aN r p)::m)
   |none=>none
  else none
def xW(π:List Nat)(x:Nat->V)(new:Nat->List aQ)(v:V)(r:List aQ):Prop:=
 ∀nid,fy (idxOf π nid) v=some (x nid)/\IJ (idxOf π nid) r π=some (new nid)
def zR(x:Nat->V)(new:Nat->List aQ):Ct:=fun _ nid args=>match args with
 | []=>some (none,x nid,new nid)
 |_=>none
def Yo:List aQ->Bool
 | []=>true
 |r::l=>match r with
  | .yet=>false
  |_=>Yo l
theorem yL:∀{l:List aQ},Yo l=true->∀k,k<l.length->aN l k≠ .yet
 | [],_,k,hk=>by simp at hk
 |r::l,h,k,hk=>by
  simp only[Yo]at h;split at h
  ·simp at h
  ·rename_i hr;cases k with
   |zero=>exact hr
   |succ k=>exact yL h k (by simpa using hk)
theorem u4{κ:Nat->Option Nat}{r:List aQ}:∀{π:List Nat} {new:List aQ},IJ κ r π=some new->new.length=π.length/\
  ∀(k p:Nat),π[k]? =some p->known r p/\jo (aN r p)=true/\aN new k=gd κ (aN r p)
 | [],new,h=>by simp only[IJ,aa]at h;subst h;exact⟨rfl,fun k p h=>by simp at h⟩
 |q::π,new,h=>by
  simp only[IJ]at h;split at h
  ·rename_i hc;simp only[af]at hc;split at h<;>simp only[aa,reduceCtorEq]at h
   rename_i m hm;subst h;obtain⟨a,b⟩:=u4 hm;refine⟨by simp[a],fun k p hk=>?_⟩
   cases k with
   |zero=>simp at hk;subst hk;exact⟨cB.1 hc.1,hc.2,rfl⟩
   |succ k=>exact b k p (by simpa using hk)
  ·simp at h
theorem uy[Fen]{P:Program}{f:Nat}{π:List Nat}{x:Nat->V}{new:Nat->List aQ}(hnd:π.Nodup)(hy:∀nid,Yo (new nid)=true)(h:aL P f [] [] (xW π x new) (fun _ _=>False)):dq P f (zR x new):=by
 intro J fps res K w0 F0 w nid args q y new' hH hargs hg hq hfr;unfold zR at hg;split at hg<;>simp only[aa,ae,reduceCtorEq]at hg
 obtain⟨_,rfl,rfl⟩:=hg
 have hE:bn J (fun _ _=>False) [] (known []) w (fun _=>False) w:=
  ⟨fun i hi=>hi,Nat.le_refl _,rfl,rfl,rfl,fun i hi=>by simp[known,aN]at hi,fun i b hi=>by simp[known,aN]at hi,fun i j b hi=>by simp[known,aN]at hi,fun i b hi=>by simp[known,aN]at hi,fun _ _ _=>rfl⟩
 have hc:=h J _ w (fun _=>False) w hE trivial
 refine⟨?_,?_⟩
 ·refine hc.mono fun e w' ⟨v,ρ1,fps1,r,g1,g2,g3,g4⟩=>?_
  rcases g4 with⟨rfl,hN⟩|⟨_,hF⟩
  ·obtain⟨n1,n2⟩:=hN nid;obtain⟨l1,l2⟩:=u4 n2;refine⟨_,rfl,?_⟩
   let ρ':Env:=⟨fun i=>if i<nid then J.num i else if i<nid+π.length then ρ1.num (π.getD (i-nid) 0)else J.num i,fun i=>if i<nid then J.cap i else if i<nid+π.length then ρ1.cap (π.getD (i-nid) 0)else J.cap i,
    fun i=>if i<nid then J.adr i else if i<nid+π.length then ρ1.adr (π.getD (i-nid) 0)else J.adr i,fun i=>if i<nid then J.sa i else if i<nid+π.length then ρ1.sa (π.getD (i-nid) 0)else J.sa i,
    fun i=>if i<nid then J.sn i else if i<nid+π.length then ρ1.sn (π.getD (i-nid) 0)else J.sn i,fun i=>if i<nid then J.ob i else if i<nid+π.length then ρ1.ob (π.getD (i-nid) 0)else J.ob i⟩
   have hvia:Env.via (idxOf π nid) ρ1 ρ':=by
    intro p i hp;obtain⟨a1,a2,a3⟩:=iB hp;have:π.getD (i-nid) 0=p:=by simp[an,a3]
    simp[ρ',aq (show¬i<nid by omega),ar a2,a3]
   have hat:∀k,k<(new nid).length->∃p,π[k]? =some p/\idxOf π nid p=some (nid+k):=fun k hk=>by
    have hk':k<π.length:=by omega
    exact⟨π[k],by simp[hk'],nh π nid k hnd (by simp[hk'])⟩
   have hNN:∀p i,idxOf π nid p=some i->known r p->K i\/fresh nid (new nid).length i:=fun p i hp _=>by
    obtain⟨a1,a2,a3⟩:=iB hp;exact .inr ⟨a1,by omega⟩
   refine⟨ρ',⟨⟨g1.os,g1.tape,g1.output,g1.old,fun b hb=>g1.same b hb (by simp)⟩,fun i hi=>?_,fun k=>fps1 (π.getD k 0),fun k hk=>?_,fun k l b hk hl hne=>?_⟩,?_,?_⟩
   ·grind
   ·obtain⟨p,p1,p2⟩:=hat k hk;obtain⟨m1,m2,m3⟩:=l2 k p p1;have hgd:π.getD k 0=p:=by simp[an,p1]
    simp only[hgd];refine⟨?_,fun b hb=>⟨?_,g1.lt p b m1 hb⟩⟩
    ·rw[m3];exact iW hvia hNN p2 _ _ _ (ll m2 (g1.holds p m1))
    ·refine Nat.le_of_not_lt fun hlt=>?_
     exact g1.inF p b m1 hb hlt
   ·obtain⟨p,p1,p2⟩:=hat k hk;obtain⟨p',p1',p2'⟩:=hat l hl;have hgd:π.getD k 0=p:=by simp[an,p1]
    have hgd':π.getD l 0=p':=by simp[an,p1']
    simp only[hgd,hgd']
    have hpp:p≠p':=by
     grind
    exact g1.disj p p' b (l2 k p p1).1 (l2 l p' p1').1 hpp
   ·exact(jG hvia hNN _ _ n1).1.symm
   ·exact(jG hvia hNN _ _ n1).2.1 g3
  ·exact hF.elim
 ·intro k hk;exact yL (hy nid) k hk
structure Arg(α:Type) where
 rd:List aQ->V->Option (List (Nat×aQ)×α)
 cn:α->Nat->V
 pl:α->List aQ
structure ky(α:Type) where
 rd:List aQ->List V->Option (List (Nat×aQ)×α)
 cn:α->Nat->List V
 pl:α->List aQ
def mZ{α:Type}(A:Arg α):Prop:=∀res v pls a,A.rd res v=some (pls,a)->pls.map (·.2)=A.pl a/\(∀p∈pls,p7 res p.1 p.2/\rG p.2=true)/\cz (A.cn a 0)=cz v/\(∀n,cz (A.cn a n)=cz (A.cn a 0))/\
 ∀(pre post:List (Nat×aQ)),(∀J K,ok K v->den (J.pull (qH (pre++(pls++post)))) (A.cn a pre.length)=den J v)/\∀K,ok K v->ok (known (sw (pre++(pls++post)))) (A.cn a pre.length)
def iF{α:Type}(A:ky α):Prop:=∀res l pls a,A.rd res l=some (pls,a)->pls.map (·.2)=A.pl a/\(∀p∈pls,p7 res p.1 p.2/\rG p.2=true)/\(qg l->∀n,qg (A.cn a n))/\
 ∀(pre post:List (Nat×aQ)),(∀J K,fc K l->bI (J.pull (qH (pre++(pls++post)))) (A.cn a pre.length)=bI J l/\bp (J.pull (qH (pre++(pls++post)))) (A.cn a pre.length)=bp J l)/\∀K,fc K l->fc (known (sw (pre++(pls++post)))) (A.cn a pre.length)
def jx:ky Unit:=⟨fun _ l=>match l with| []=>some ([],())|_=>none,fun _ _=> [],fun _=> []⟩
def bM{α β:Type}(A:Arg α)(B:ky β):ky (α×β):=
 ⟨fun res l=>match l with
  |v::l=>match A.rd res v with
   |some (p,a)=>match B.rd res l with
    |some (q,b)=>some (p++q,(a,b))
    |none=>none
   |none=>none
  | []=>none,fun x n=>A.cn x.1 n::B.cn x.2 (n+(A.pl x.1).length),fun x=>A.pl x.1++B.pl x.2⟩
def CN{α:Type}(r:V->Option α)(m:α->V):Arg α:=⟨fun _ v=>match r v with|some x=>some ([],x)|none=>none,fun x _=>m x,fun _=> []⟩
def VI(t e:Nat):Arg (Option (List Obj)):=
 ⟨fun res v=>match rS t e res v with
  |some (o,L)=>match o with
   |none=>some ([],none)
   |some k=>some ([(k,.store t e L)],some L)
  |none=>none,fun o n=>match o with|none=>jZ|some _=> .lp n 0,fun o=>match o with|none=> []|some L=> [.store t e L]⟩
def Wl:Arg (List Obj):=
 ⟨fun res v=>match rA res v with
  |some (k,L)=>some ([(k,.arr none 163 (.ob L))],L)
  |none=>none,fun _ n=> .sa n,fun L=> [.arr none 163 (.ob L)]⟩
def XX{α:Type}(B:ky α):Arg α:=
 ⟨fun res v=>match v with
  | .ag l=>B.rd res l
  |_=>none,fun x n=> .ag (B.cn x n),B.pl⟩
theorem Dl{pre pls post:List (Nat×aQ)}{k:Nat}{r:aQ}:qH (pre++((k,r)::pls++post)) pre.length=k:=uo _ _ (k,r) (by simp)
theorem AR{pre pls post:List (Nat×aQ)}{k:Nat}{r:aQ}:known (sw (pre++((k,r)::pls++post))) pre.length:=by
 unfold known;rw[xj];simp
theorem dg:iF jx:=by
 intro res l pls a h;simp only[jx]at h;split at h<;>simp only[aa,ae,reduceCtorEq]at h
 obtain⟨rfl,_⟩:=h;exact⟨rfl,by simp,fun _ _=>trivial,fun pre post=>⟨fun _ _ _=>⟨rfl,rfl⟩,fun _ _=>trivial⟩⟩
theorem aZ{α β:Type}{A:Arg α}{B:ky β}(hA:mZ A)(hB:iF B):iF (bM A B):=by
 intro res l pls x h;simp only[bM]at h;split at h
 case h_2=>simp at h
 rename_i v l;split at h
 case h_2=>simp at h
 rename_i p a ha;split at h
 case h_2=>simp at h
 rename_i q b hb;simp only[aa,ae]at h;obtain⟨rfl,rfl⟩:=h;obtain⟨a1,a2,a3,a3',a4⟩:=hA _ _ _ _ ha;obtain⟨b1,b2,b3,b4⟩:=hB _ _ _ _ hb;refine⟨by simp[bM,a1,b1],fun p' hp'=>?_,fun hc n=>?_,fun pre post=>?_⟩
 ·grind
 ·grind[eh,bM]
 ·have hlen:(A.pl a).length=p.length:=by rw[<-a1];simp
  obtain⟨c1,c2⟩:=a4 pre (q++post);obtain⟨d1,d2⟩:=b4 (pre++p) post;have e1:pre++(p++q++post)=pre++(p++(q++post)):=by simp
  have e2:(pre++p)++(q++post)=pre++(p++(q++post)):=by simp
  have e3:(pre++p).length=pre.length+(A.pl a).length:=by simp[hlen]
  rw[e2,e3]at d1 d2;rw[e1];refine⟨fun J K hK=>?_,fun K hK=>?_⟩
  ·obtain⟨f1,f2⟩:=d1 J K hK.2;have f3:=c1 J K hK.1;simp only[bM];exact⟨by simp only[bI];rw[f3,f1],by simp only[bp];rw[f3,f2]⟩
  ·exact⟨c2 K hK.1,d2 K hK.2⟩
theorem rL{α:Type}{r:V->Option α}{m:α->V}(hr:sm r m)(hid:∀x,jN (m x)=true)(ht:∀v x,r v=some x->cz v=cz (m x)):mZ (CN r m):=by
 intro res v pls a h;simp only[CN]at h;split at h<;>simp only[aa,ae,reduceCtorEq]at h
 rename_i x hx;obtain⟨rfl,rfl⟩:=h;obtain⟨b1,b2⟩:=hr _ x hx;refine⟨rfl,by simp,(ht v x hx).symm,fun _=>rfl,fun pre post=>⟨fun J K hK=>?_,fun K hK=>fu (b2 K hK)⟩⟩
 show den _ (m x)=_
 rw[b1 J];exact pP (hid x) (b2 K hK) J _
theorem BQ(t e:Nat):mZ (VI t e):=by
 intro res v pls a h;simp only[VI]at h;split at h
 case h_2=>simp at h
 rename_i o L hs;rcases tO hs with⟨rfl,rfl,rfl⟩|⟨k,rfl,rfl,hse⟩<;>simp only[aa,ae]at h<;>obtain⟨rfl,rfl⟩:=h
 ·exact⟨rfl,by simp,rfl,fun _=>rfl,fun pre post=>⟨fun _ _ _=>rfl,fun _ _=>rfl⟩⟩
 ·refine⟨rfl,by simpa using⟨hse,rfl⟩,rfl,fun _=>rfl,fun pre post=>⟨fun J K hK=>?_,fun K hK=>AR (pls:= [])⟩⟩
  simp only[VI,den,Env.pull];rw[Dl (pls:= [])]
theorem Ft:mZ Wl:=by
 intro res v pls a h;simp only[Wl]at h;split at h<;>simp only[aa,ae,reduceCtorEq]at h
 rename_i k L hs;obtain⟨rfl,rfl⟩:=h;obtain⟨rfl,hse,_⟩:=xm hs;refine⟨rfl,by simpa using⟨hse,rfl⟩,rfl,fun _=>rfl,fun pre post=>⟨fun J K hK=>?_,fun K hK=>AR (pls:= [])⟩⟩
 simp only[Wl,den,Env.pull];rw[Dl (pls:= [])]
theorem Cl{α:Type}{B:ky α}(hB:iF B):mZ (XX B):=by
 intro res v pls a h;simp only[XX]at h;split at h
 case h_2=>simp at h
 rename_i l;obtain⟨b1,b2,b3,b4⟩:=hB _ _ _ _ h;refine⟨b1,b2,rfl,fun _=>rfl,fun pre post=>?_⟩
 obtain⟨c1,c2⟩:=b4 pre post;refine⟨fun J K hK=>?_,fun K hK=>⟨c2 K hK.1,b3 hK.2 _⟩⟩
 simp only[XX,den];rw[(c1 J K hK.1).2]
def EU{α:Type}(B:ky α)(Q:α->Option Prop)(F:α->V):Ct:=fun res _ xs=>match B.rd res xs with
 |some (_,a)=>some (Q a,F a,[])
 |none=>none
def nj(l:List aQ):List aQ:=l.map .ro
theorem F4(pls:List (Nat×aQ)):sw pls=nj (pls.map (·.2)):=by
 induction pls with
 |nil=>rfl
 |cons p l ih=>obtain⟨p,r⟩:=p;simp[sw,nj,ih]
theorem kf[Fen]{P:Program}{f:Nat}{α:Type}{B:ky α}{Q:α->Option Prop}{F:α->V}(hB:iF B)(hF:∀a,jN (F a)=true)
  (h:∀a,cK (Q a)->fc (known (nj (B.pl a))) (B.cn a 0)->aL P f (B.cn a 0) (nj (B.pl a)) (qh (F a)) (fun _ _=>False)):dq P f (EU B Q F):=by
 refine rP fun res nid args q x new hg=>?_
 unfold EU at hg;split at hg<;>simp only[aa,ae,reduceCtorEq]at hg
 rename_i pls a ha;obtain⟨rfl,rfl,rfl⟩:=hg;obtain⟨b1,b2,_,b4⟩:=hB _ _ _ _ ha;obtain⟨c1,c2⟩:=b4 [] [];simp only[List.nil_append,List.append_nil,List.length_nil]at c1 c2;refine⟨rfl,hF a,pls,B.cn a 0,b2,fun J K hK=>(c1 J K hK).1,c2,fun hq hok=>?_⟩
 rw[F4,b1]at hok⊢;exact(h a hq hok).mono (fun _ _=>dI) fun _ _ h=>h
def WJ{α:Type}(B:ky α)(Q:α->Option Prop)(x:α->Nat->V)(new:α->Nat->List aQ):Ct:=fun res nid xs=>match B.rd res xs with
 |some (_,a)=>some (Q a,x a nid,new a nid)
 |none=>none
theorem HN{J:Env}{fps:Nat->Nat->Prop}{res:List aQ}{K:Nat->Prop}{w0 w:World}{F0:Nat->Prop}(hH:bn J fps res K w0 F0 w){pls:List (Nat×aQ)}(hcl:∀p∈pls,p7 res p.1 p.2/\rG p.2=true):
  bn (J.pull (qH pls)) (fun _ _=>False) (sw pls) (known (sw pls)) w (fun _=>False) w:=by
 have hfr:∀b,b<w0.heap.size->¬F0 b->w.heap[b]? =w0.heap[b]? /\¬(fun _:Nat=>False) b:=fun b hb hF=>⟨hH.same b hb hF,fun h=>h⟩
 refine⟨fun i hi=>hi,Nat.le_refl _,rfl,rfl,rfl,fun i hi=>?_,fun i b hi h=>h.elim,fun i j b hi hj hne h=>h.elim,fun i b hi h=>h.elim,fun _ _ _=>rfl⟩
 have hlt:=aW hi;rw[s6]at hlt;have hp:pls[i]? =some pls[i]:=List.getElem?_eq_getElem hlt;generalize pls[i]=p at hp
 rw[xj,hp];simp only;obtain⟨hs,hcl⟩:=hcl p (List.mem_of_getElem? hp);obtain⟨fp,g1,g2⟩:=hs.2 J fps K w0 F0 w hH
 have hv:Env.via (fun x=>if x=p.1 then some i else none) J (J.pull (qH pls)):=uh fun x j hx=>by
  split at hx
  ·simp only[aa]at hx;subst hx;rename_i e;subst e;exact uo pls i p hp
  ·simp at hx
 have:=iW (N':=known (sw pls)) hv (fun x j hx _=>by
  split at hx
  ·simp only[aa]at hx;subst hx;exact hi
  ·simp at hx) (p:=p.1) (i:=i) (by simp) _ _ _ (aQ.vR hH.old hfr _ _ g1)
 rw[uL hcl]at this;refine⟨fp,this,fun b hb=>⟨?_,fun h=>h⟩⟩
 rcases g2 b hb with⟨j,hj,hf⟩|⟨hl,_⟩
 ·exact hH.lt j b hj hf
 ·exact Nat.lt_of_lt_of_le hl hH.old
theorem yx{J ρ1:Env}{K:Nat->Prop}{fps1:Nat->Nat->Prop}{r:List aQ}{w0 w w':World}{F0:Nat->Prop}{nid:Nat}{π:List Nat}{x:Nat->V}{new:Nat->List aQ}{v:V}(hnd:π.Nodup)
  (g1:bn ρ1 fps1 r (known r) w (fun _=>False) w') (g3:ok (known r) v) (hN:xW π x new v r):qO K J nid (x nid) (new nid) w0 F0 w (den ρ1 v) w':=by
 obtain⟨n1,n2⟩:=hN nid;obtain⟨l1,l2⟩:=u4 n2
 let ρ':Env:=⟨fun i=>if i<nid then J.num i else if i<nid+π.length then ρ1.num (π.getD (i-nid) 0)else J.num i,fun i=>if i<nid then J.cap i else if i<nid+π.length then ρ1.cap (π.getD (i-nid) 0)else J.cap i,
  fun i=>if i<nid then J.adr i else if i<nid+π.length then ρ1.adr (π.getD (i-nid) 0)else J.adr i,fun i=>if i<nid then J.sa i else if i<nid+π.length then ρ1.sa (π.getD (i-nid) 0)else J.sa i,
  fun i=>if i<nid then J.sn i else if i<nid+π.length then ρ1.sn (π.getD (i-nid) 0)else J.sn i,fun i=>if i<nid then J.ob i else if i<nid+π.length then ρ1.ob (π.getD (i-nid) 0)else J.ob i⟩
 have hvia:Env.via (idxOf π nid) ρ1 ρ':=by
  intro p i hp;obtain⟨a1,a2,a3⟩:=iB hp;simp[ρ',aq (show¬i<nid by omega),ar a2,a3]
 have hat:∀k,k<(new nid).length->∃p,π[k]? =some p/\idxOf π nid p=some (nid+k):=fun k hk=>by
  have hk':k<π.length:=by omega
  exact⟨π[k],by simp[hk'],nh π nid k hnd (by simp[hk'])⟩
 have hNN:∀p i,idxOf π nid p=some i->known r p->K i\/fresh nid (new nid).length i:=fun p i hp _=>by
  obtain⟨a1,a2,a3⟩:=iB hp;exact .inr ⟨a1,by omega⟩
 refine⟨ρ',⟨⟨g1.os,g1.tape,g1.output,g1.old,fun b hb=>g1.same b hb (by simp)⟩,fun i hi=>?_,fun k=>fps1 (π.getD k 0),fun k hk=>?_,fun k l b hk hl hne=>?_⟩,?_,?_⟩
 ·have:¬(nid<=i/\i<nid+π.length):=fun⟨a,b⟩=>hi ⟨a,by omega⟩
  by_cases hlt:i<nid
  ·simp[ρ',ar hlt]
  ·simp[ρ',aq hlt,aq (show¬i<nid+π.length by omega)]
 ·obtain⟨p,p1,p2⟩:=hat k hk;obtain⟨m1,m2,m3⟩:=l2 k p p1;have hgd:π.getD k 0=p:=by simp[an,p1]
  simp only[hgd];refine⟨?_,fun b hb=>⟨?_,g1.lt p b m1 hb⟩⟩
  ·rw[m3];exact iW hvia hNN p2 _ _ _ (ll m2 (g1.holds p m1))
  ·refine Nat.le_of_not_lt fun hlt=>?_
   exact g1.inF p b m1 hb hlt
 ·obtain⟨p,p1,p2⟩:=hat k hk;obtain⟨p',p1',p2'⟩:=hat l hl;have hgd:π.getD k 0=p:=by simp[an,p1]
  have hgd':π.getD l 0=p':=by simp[an,p1']
  simp only[hgd,hgd']
  have hpp:p≠p':=by
   rintro rfl
   rw[p2]at p2';simp at p2';omega
  exact g1.disj p p' b (l2 k p p1).1 (l2 l p' p1').1 hpp
 ·exact(jG hvia hNN _ _ n1).1.symm
 ·exact(jG hvia hNN _ _ n1).2.1 g3
theorem TA[Fen]{P:Program}{f:Nat}{α:Type}{B:ky α}{Q:α->Option Prop}{x:α->Nat->V}{new:α->Nat->List aQ}{π:α->List Nat}(hB:iF B)(hnd:∀a,(π a).Nodup)(hy:∀a nid,Yo (new a nid)=true)
  (h:∀a,cK (Q a)->fc (known (nj (B.pl a))) (B.cn a 0)->aL P f (B.cn a 0) (nj (B.pl a)) (fun v r=>xW (π a) (x a) (new a) v r) (fun _ _=>False)):dq P f (WJ B Q x new):=by
 intro J fps res K w0 F0 w nid args q y new' hH hargs hg hq hfr;unfold WJ at hg;split at hg<;>simp only[aa,ae,reduceCtorEq]at hg
 rename_i pls a ha;obtain⟨rfl,rfl,rfl⟩:=hg;obtain⟨b1,b2,_,b4⟩:=hB _ _ _ _ ha;obtain⟨c1,c2⟩:=b4 [] [];simp only[List.nil_append,List.append_nil,List.length_nil]at c1 c2;refine⟨?_,fun k hk=>yL (hy a nid) k hk⟩
 have hrep:=HN hH b2;have hok:=c2 K hargs;rw[<-(c1 J K hargs).1];have hro:sw pls=nj (B.pl a):=by rw[F4,b1]
 rw[hro]at hrep hok;refine(h a hq hok _ _ _ _ _ hrep hok).mono fun e w' ⟨v,ρ1,fps1,r,g1,g2,g3,g4⟩=>?_
 rcases g4 with⟨rfl,hN⟩|⟨_,hF⟩
 ·exact⟨_,rfl,yx (hnd a) g1 g3 hN⟩
 ·exact hF.elim
theorem aL.Hu[Fen]{P:Program}{f:Nat}{args:List V}{res:List aQ}{x:V}{new:List aQ}{K KP:V->List aQ->Prop}(hy:∀k,k<new.length->aN new k≠ .yet)
  (h:∀J fps w0 F0 w,bn J fps res (known res) w0 F0 w->fc (known res) args->CallsIn (FF P none) 0 P f (bI J args).toArray w fun e w'=>∃v,e= .returned v/\qO (known res) J res.length x new w0 F0 w v w') (hK:K x (res++new)):aL P f args res K KP:=by
 intro J fps w0 F0 w hH hargs;refine(h J fps w0 F0 w hH hargs).mono fun e w' ⟨v,he,ρ',hg,hv,hx⟩=>?_
 have hfr':∀i,known res i->¬fresh res.length new.length i:=fun i hi hf=>by have:=aW hi;unfold fresh at hf;omega
 have hK':∀i,known res i\/fresh res.length new.length i->known (res++new) i:=by
  intro i hi;obtain⟨b1,b2,b3⟩:=km res new;rcases hi with hi|⟨f1,f2⟩
  ·unfold known;rw[(b1 i hi).1];exact hi
  ·have:=b3 (i-res.length) (by omega)
   rw[show res.length+(i-res.length)=i by omega]at this
   unfold known;rw[this];exact hy _ (by omega)
 obtain⟨fps',g1,g2⟩:=hH.grow (res':=res++new) (km _ _) hfr' hK' hg;exact⟨x,ρ',fps',res++new,g1,⟨g2,fun i hi=>hK' i (.inl hi)⟩,cZ hK' _ hx,.inl ⟨by rw[he,hv],hK⟩⟩
def KO{α:Type}(B:ky α)(Q:α->Prop)(c:α->Bool)(F0:α->V)(F1:α->Nat->V)(new:α->aQ):kr:=fun args res K=>
 match B.rd res args with
 |some (_,a)=>Q a/\(c a=false->K (F0 a) res)/\(c a=true->K (F1 a res.length) (res++ [new a]))
 |none=>False
def Xx(c:Bool)(x0:V)(F1:Nat->V)(new:aQ)(p:Option Nat)(v:V)(r:List aQ):Prop:=
 match p with
 |some p=>c=true/\xW [p] F1 (fun _=> [new]) v r
 |none=>c=false/\qh x0 v r
def aaC(v:V):Option Nat:=
 match v with
 | .sa p=>some p
 | .lp p _=>some p
 | .tp l=>match l with
   |x::_=>match x with
    | .sa p=>some p
    | .lp p _=>some p
    |_=>none
   | []=>none
 |_=>none
def Bt(c:Bool)(x0:V)(F1:Nat->V)(new:aQ)(v:V)(r:List aQ):Prop:=Xx c x0 F1 new (aaC v) v r
theorem yZ[Fen]{P:Program}{f:Nat}{α:Type}{B:ky α}{Q:α->Prop}{c:α->Bool}{F0:α->V}{F1:α->Nat->V}{new:α->aQ}(hB:iF B)(hF:∀a,jN (F0 a)=true)(hn:∀a,new a≠ .yet)
  (h:∀a,Q a->fc (known (nj (B.pl a))) (B.cn a 0)->aL P f (B.cn a 0) (nj (B.pl a)) (Bt (c a) (F0 a) (F1 a) (new a)) (fun _ _=>False)):k7 P f (KO B Q c F0 F1 new):=by
 intro args res K KP hh;unfold KO at hh;split at hh
 case h_2=>exact hh.elim
 rename_i pls a ha;obtain⟨hQ,h0,h1⟩:=hh;obtain⟨b1,b2,_,b4⟩:=hB _ _ _ _ ha;obtain⟨c1,c2⟩:=b4 [] [];simp only[List.nil_append,List.append_nil,List.length_nil]at c1 c2;have hro:sw pls=nj (B.pl a):=by rw[F4,b1]
 have main:∀J fps w0 F0' w,bn J fps res (known res) w0 F0' w->fc (known res) args->CallsIn (FF P none) 0 P f (bI J args).toArray w fun e w'=>∃v ρ1 fps1 r,e= .returned (den ρ1 v)/\bn ρ1 fps1 r (known r) w (fun _=>False) w'/\ok (known r) v/\Bt (c a) (F0 a) (F1 a) (new a) v r:=by
  intro J fps w0 F0' w hH hargs;have hrep:=HN hH b2;have hok:=c2 _ hargs;rw[hro]at hrep hok;rw[<-(c1 J _ hargs).1];refine(h a hQ hok _ _ _ _ _ hrep hok).mono fun e w' ⟨v,ρ1,fps1,r,g1,g2,g3,g4⟩=>?_
  rcases g4 with⟨rfl,hN⟩|⟨_,hF⟩
  ·exact⟨v,ρ1,fps1,r,rfl,g1,g3,hN⟩
  ·exact hF.elim
 cases hc:c a with
 |true=>
  refine aL.Hu (x:=F1 a res.length) (new:= [new a]) (fun k hk=>by simp at hk;subst hk;exact hn a) (fun J fps w0 F0' w hH hargs=>?_) (h1 hc)
  refine(main J fps w0 F0' w hH hargs).mono fun e w' ⟨v,ρ1,fps1,r,he,g1,g3,hv⟩=>?_
  unfold Bt Xx at hv;split at hv
  ·exact⟨_,he,yx (new:=fun _=> [new a]) (by simp) g1 g3 hv.2⟩
  ·rw[hc]at hv;simp at hv
 |false=>
  have h0':=h0 hc;rw[<-List.append_nil res]at h0';refine aL.Hu (x:=F0 a) (new:= []) (fun k hk=>by simp at hk) (fun J fps w0 F0' w hH hargs=>?_) h0'
  refine(main J fps w0 F0' w hH hargs).mono fun e w' ⟨v,ρ1,fps1,r,he,g1,g3,hv⟩=>?_
  unfold Bt Xx at hv;split at hv
  ·rw[hc]at hv;simp at hv
  ·refine⟨_,he,J,⟨⟨g1.os,g1.tape,g1.output,g1.old,fun b hb=>g1.same b hb (fun h=>h)⟩,Env.agree.refl _ _,fun _ _=>False,fun k hk=>by simp at hk,fun k l b hk=>by simp at hk⟩,?_,?_⟩
   ·obtain⟨e1,e2,_⟩:=dI hv.2 ρ1 (known r);rw[e1];exact pP (hF a) (e2 g3) J ρ1
   ·obtain⟨e1,e2,_⟩:=dI hv.2 ρ1 (known r);exact ot _ (hF a) (e2 g3)
theorem aL.Y1[Fen]{P:Program}{f:Nat}{rest:List V}{res:List aQ}{K KP:V->List aQ->Prop}{k n e:Nat}{x:V}{L:List Obj}(hr:aN res k= .blk e x)(hl:IC x=some L)(hn:n=L.length)(hs:n<=1000)
  (h:aL P f (.sa res.length::rest) (bQ res k .gone++ [.arr (some e) 163 (.ob L)]) K KP):aL P f (.sc k n n::rest) res K KP:=by
 intro J fps w0 F0 w hH hargs;have hk:known res k:=by unfold known;rw[hr];simp
 have hnk:¬known res res.length:=fun hk=>by have:=aW hk;omega
 have hag:=pk (N:=known res) J (i:=res.length) (a:=some ⟨J.num k,0,none⟩) (n:=n) (cap:=n) hnk;obtain⟨fps',g1,g2,g3,g4⟩:=Dj hH hr hl hn hs;have hargs':fc (known (cq [k] res++ [.arr (some e) 163 (.ob L)])) (.sa res.length::rest):=⟨g4,cD g3 _ hargs.2⟩
 have hd:bI (J.fI res.length (some ⟨J.num k,0,none⟩) n n) (.sa res.length::rest)=bI J (.sc k n n::rest):=by
  simp only[bI,fA hag rest hargs.2];simp[den,Env.fI]
 have:=h _ fps' w0 F0 w g1 hargs';rw[hd]at this;refine this.mono fun en w' ⟨x,ρ'',fps'',res'',a1,a2,a3,a4⟩=>⟨x,ρ'',fps'',res'',a1,⟨g2.trans (a2.1.mono fun i hi=>g3 i hi) (fun _ h=>h),fun i hi=>a2.2 i (g3 i hi)⟩,a3,a4⟩
def Xq(h:kr):kr:=fun args res K=>
 match args with
 |a::rest=>match a with
  | .sc k n c=>match aN res k with
    | .blk e x=>match IC x with
      |some L=>if n==L.length&&c==n&&Nat.ble n 1000 then h (.sa res.length::rest) (bQ res k .gone++ [.arr (some e) 163 (.ob L)]) K else False
      |none=>False
    |_=>False
  |a=>h (a::rest) res K
 | []=>h [] res K
theorem Tq[Fen]{P:Program}{f:Nat}{h:kr}(hh:k7 P f h):k7 P f (Xq h):=by
 intro args res K KP hc;unfold Xq at hc;split at hc
 ·split at hc
  ·split at hc
   case h_2=>exact hc.elim
   rename_i e x hr;split at hc
   case h_2=>exact hc.elim
   rename_i L hL;split at hc
   case isFalse=>exact hc.elim
   rename_i hb;simp only[af,ai,Nat.ble_eq]at hb;obtain⟨⟨h1,rfl⟩,h2⟩:=hb;exact aL.Y1 hr hL h1 h2 (hh _ _ _ _ hc)
  ·exact hh _ _ _ _ hc
 ·exact hh _ _ _ _ hc
end Go.Sx
