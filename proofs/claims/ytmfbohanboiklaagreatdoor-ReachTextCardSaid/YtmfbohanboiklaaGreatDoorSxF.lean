import Derived.Test.YtmfbohanboiklaaGreatDoorCfg
set_option linter.unusedSimpArgs false
set_option linter.unusedVariables false
namespace Go.Sx
open Go.RowKit (Below)
abbrev Ct:=List aI->Nat->List V->RR
def cI[Fen](P:Program)(f:Nat)(g:Ct):Prop:=
 ∀J fps res K w0 F0 w nid args q x new,aQ J fps res K w0 F0 w->cm K args->g res nid args=some (q,x,new)->bq q->
  (∀k,k<new.length->¬K (nid+k))->
  (CallsIn (FF P none) 0 P f (aV J args).toArray w fun e w'=>∃v,e= .returned v/\kh K J nid x new w0 F0 w v w')/\∀k,k<new.length->aH new k≠ .yet
def lJ:List (Nat×Ct)->Nat->Option Ct
 | [],_=>none
 | (g,c)::l,f=>if f==g then some c else lJ l f
theorem jY[Fen]{P:Program}:∀{l:List (Nat×Ct)},(∀p∈l,cI P p.1 p.2)->∀f g,lJ l f=some g->cI P f g
 | [],_,f,g,h=>by simp[lJ]at h
 | (k,c)::l,hl,f,g,h=>by
   simp only[lJ]at h;split at h
   ·simp_all
   ·exact jY (fun p hp=>hl p (by simp[hp])) f g h
mutual
def hU:V->Bool
 | .lp _ _=>false
 | .lx _ _ _ _ _ _=>false
 | .sc _ _ _=>false
 | .so _ _=>false
 | .ap _ _ _ _=>false
 | .ax _ _ _ _ _ _ _ _=>false
 | .sa _=>false
 | .op _ _=>false
 | .yl _=>false
 | .mp _=>false
 | .ch _ _ _ _=>false
 | .bs _ _ _=>false
 | .ks _ _ _ _ _| .vw _ _ _ _=>false
 | .fn _ l=>jg l
 | .ic _ x=>hU x
 | .ag l=>jg l
 | .tp l=>jg l
 |_=>true
def jg:List V->Bool
 | []=>true
 |x::l=>hU x&&jg l
end
mutual
theorem jH{K K':Nat->Prop}:∀v,hU v=true->ok K v->ok K' v
 | .lp _ _,h,_| .lx _ _ _ _ _ _,h,_| .sc _ _ _,h,_| .so _ _,h,_| .ap _ _ _ _,h,_| .sa _,h,_| .op _ _,h,_| .yl _,h,_| .mp _,h,_| .ch _ _ _ _,h,_| .ax _ _ _ _ _ _ _ _,h,_| .bs _ _ _,h,_| .ks _ _ _ _ _,h,_| .vw _ _ _ _,h,_=>by simp[hU]at h
 | .fn _ l,h,hk=>jM l h hk
 | .ic _ x,h,hk=>jH x h hk
 | .ag l,h,hk=>⟨jM l h hk.1,hk.2⟩
 | .tp l,h,hk=>jM l h hk
 | .cb _,_,hk| .bo _,_,hk| .ci _ _,_,hk| .it _ _,_,hk| .bt _,_,hk| .st _,_,hk| .nl _,_,hk| .key _,_,hk| .sl _,_,hk| .by _,_,hk| .ob _,_,hk=>hk
theorem jM{K K':Nat->Prop}:∀l,jg l=true->cm K l->cm K' l
 | [],_,_=>trivial
 |x::l,h,hk=>by
  simp only[jg,ah]at h;exact⟨jH x h.1 hk.1,jM l h.2 hk.2⟩
end
theorem lE{K:Nat->Prop}{v:V}(h:hU v=true)(hk:ok K v)(J ρ':Env):den ρ' v=den J v:=
 cJ (N:=fun _=>False) (fun _ h=>h.elim) v (jH v h hk)
def pz(v:V)(v':V)(_:List aI):Prop:=
 match pd v' v with
 |some l=>dJ l
 |none=>False
def tn(x v:V)(_:List aI):Prop:=∀J K,nA J K v x
theorem dn{x v:V}{r:List aI}(h:pz x v r):tn x v r:=by
 unfold pz at h;split at h
 ·rename_i l hl;exact fun J K=>lB J K _ _ l hl h
 ·exact h.elim
theorem aJ.mono[Fen]{P:Program}{f:Nat}{args:List V}{res:List aI}{K K' KP KP':V->List aI->Prop}(h:aJ P f args res K KP)(hK:∀v r,K v r->K' v r)(hP:∀v r,KP v r->KP' v r):
  aJ P f args res K' KP':=by
 intro J fps w0 F0 w hH ha;refine(h J fps w0 F0 w hH ha).mono fun e w' ⟨x,ρ',fps',res',g1,g2,g3,g4⟩=>⟨x,ρ',fps',res',g1,g2,g3,?_⟩
 rcases g4 with⟨e1,e2⟩|⟨e1,e2⟩
 ·exact .inl ⟨e1,hK _ _ e2⟩
 ·exact .inr ⟨e1,hP _ _ e2⟩
def JW(l m:List V):Prop:=(∀J,aV J l=aV J m)/\∀K,cm K l->cm (fun _=>False) m
theorem nm[Fen]{P:Program}{f:Nat}{g:Ct}(h:∀res nid args q x new,g res nid args=some (q,x,new)->new= []/\hU x=true/\
  ∃args',JW args args'/\(bq q->cm (fun _=>False) args'->aJ P f args' [] (tn x) (fun _ _=>False))):cI P f g:=by
 intro J fps res K w0 F0 w nid args q x new hH hargs hg hq hfr;obtain⟨rfl,hid,args',⟨s1,s2⟩,hc⟩:=h res nid args q x new hg;refine⟨?_,fun k hk=>by simp at hk⟩
 have hok:=s2 K hargs
 have hrep:aQ J (fun _ _=>False) [] (known []) w (fun _=>False) w:=
  ⟨fun i hi=>hi,Nat.le_refl _,rfl,rfl,rfl,fun i hi=>by simp[known,aH]at hi,fun i b hi=>by simp[known,aH]at hi,fun i j b hi=>by simp[known,aH]at hi,fun i b hi=>by simp[known,aH]at hi,fun _ _ _=>rfl⟩
 have hcall:=hc hq hok J (fun _ _=>False) w (fun _=>False) w hrep (by rw[dZ]at hok⊢;exact fun z hz=>de (hok z hz))
 rw[s1 J];refine hcall.mono fun e w' ⟨y,ρ',fps',res',g1,g2,g3,g4⟩=>?_
 rcases g4 with⟨rfl,hK⟩|⟨_,hK⟩
 ·refine⟨_,rfl,J,?_,?_,?_⟩
  ·have hb:Below w.heap.size w w':=by
    refine⟨g1.os,g1.tape,g1.output,g1.old,fun b hb=>g1.same b hb (fun h=>h)⟩
   exact⟨hb,Env.agree.refl _ _,fun _ _=>False,fun k hk=>by simp at hk,fun k l b hk=>by simp at hk⟩
  ·obtain⟨e1,e2,_⟩:=hK ρ' (known res');rw[e1];exact lE hid (e2 g3) J ρ'
  ·obtain⟨e1,e2,_⟩:=hK ρ' (known res');exact jH x hid (e2 g3)
 ·exact hK.elim
def nY{α:Type}(r:V->Option α)(m:α->V):Prop:=∀v x,r v=some x->(∀J,den J v=den J (m x))/\∀K,ok K v->ok (fun _=>False) (m x)
def rI(k:IntKind)(v:V):Option Int:=
 match toInt v with
 |some (k',n)=>if k==k' then some n else none
 |none=>none
def rK(v:V):Option Key:=
 match v with
 | .key k=>some k
 | .ag l=>match l with
   | [a,b,c,d,e,f]=>match rI .i64 a with
     |some a=>match rI .i64 b with
      |some b=>match rI .i64 c with
       |some c=>match rI .i64 d with
        |some d=>match rI .i64 e with
         |some e=>match rI .i64 f with
          |some f=>some ⟨a,b,c,d,e,f⟩
          |none=>none
         |none=>none
        |none=>none
       |none=>none
      |none=>none
     |none=>none
   |_=>none
 |_=>none
def rO:V->Option Obj
 | .ob o=>some o
 |_=>none
theorem BM:nY toBool V.bo:=by
 intro v x h;cases v<;>simp[toBool]at h<;>subst h<;>exact⟨fun _=>rfl,fun _ _=>trivial⟩
theorem gd(k:IntKind):nY (rI k) (V.it k):=by
 intro v x h;unfold rI at h;cases v<;>simp[toInt]at h<;>obtain⟨rfl,rfl⟩:=h
 ·exact⟨fun _=>rfl,fun _ hk=>hk⟩
 ·exact⟨fun _=>rfl,fun _ hk=>hk⟩
 ·rename_i b;refine⟨fun _=>rfl,fun _ _=>?_⟩
  have:=b.toNat_lt;simp only[ok,bU,Ku];omega
theorem ju:nY rK V.key:=by
 intro v x h;unfold rK at h;split at h
 ·simp only[aa]at h;subst h;exact⟨fun _=>rfl,fun _ hk=>hk⟩
 ·split at h
  case h_2=>simp at h
  split at h<;>try(simp at h;done)
  rename_i h1;split at h<;>try(simp at h;done)
  rename_i h2;split at h<;>try(simp at h;done)
  rename_i h3;split at h<;>try(simp at h;done)
  rename_i h4;split at h<;>try(simp at h;done)
  rename_i h5;split at h<;>simp only[aa,reduceCtorEq]at h
  rename_i h6;subst h;have e1:=gd .i64 _ _ h1;have e2:=gd .i64 _ _ h2;have e3:=gd .i64 _ _ h3;have e4:=gd .i64 _ _ h4;have e5:=gd .i64 _ _ h5;have e6:=gd .i64 _ _ h6;refine⟨fun J=>?_,fun K hK=>?_⟩
  ·simp only[den,aR,e1.1 J,e2.1 J,e3.1 J,e4.1 J,e5.1 J,e6.1 J];rfl
  ·obtain⟨⟨k1,k2,k3,k4,k5,k6,_⟩,_⟩:=hK;exact⟨e1.2 K k1,e2.2 K k2,e3.2 K k3,e4.2 K k4,e5.2 K k5,e6.2 K k6⟩
 ·simp at h
theorem J6{v:V}{x:Key}(h:rK v=some x):bp v=false:=by
 cases v<;>first|rfl|simp[rK]at h
theorem zQ:nY rO V.ob:=by
 intro v x h;cases v<;>simp[rO]at h<;>subst h<;>exact⟨fun _=>rfl,fun _ hk=>hk⟩
def Jh(F:V):Ct:=fun _ _ xs=>match xs with
 | []=>some (none,F,[])
 |_=>none
def Is{α:Type}(r:V->Option α)(F:α->V):Ct:=fun _ _ xs=>match xs with
 | [a]=>match r a with
   |some x=>some (none,F x,[])
   |none=>none
 |_=>none
def HA{α β:Type}(r:V->Option α)(s:V->Option β)(F:α->β->V):Ct:=fun _ _ xs=>match xs with
 | [a,b]=>match r a,s b with
   |some x,some y=>some (none,F x y,[])
   |_,_=>none
 |_=>none
def LO{α β γ:Type}(r:V->Option α)(s:V->Option β)(t:V->Option γ)(F:α->β->γ->V):Ct:=fun _ _ xs=>match xs with
 | [a,b,c]=>match r a,s b,t c with
   |some x,some y,some z=>some (none,F x y z,[])
   |_,_,_=>none
 |_=>none
theorem H3[Fen]{P:Program}{f:Nat}{F:V}(hF:hU F=true)(h:aJ P f [] [] (pz F) (fun _ _=>False)):cI P f (Jh F):=by
 refine nm fun res nid args q x new hg=>?_
 unfold Jh at hg;split at hg<;>simp only[aa,ae,reduceCtorEq]at hg
 obtain⟨rfl,rfl,rfl⟩:=hg;exact⟨rfl,hF,[],⟨fun _=>rfl,fun _ _=>trivial⟩,fun _ _=>h.mono (fun _ _=>dn) fun _ _ h=>h⟩
theorem H8[Fen]{P:Program}{f:Nat}{F:V}(hF:hU F=true)(h:aJ P f [] [] (fun v _=>v=F) (fun _ _=>False)):cI P f (Jh F):=by
 refine nm fun res nid args q x new hg=>?_
 unfold Jh at hg;split at hg<;>simp only[aa,ae,reduceCtorEq]at hg
 obtain⟨rfl,rfl,rfl⟩:=hg;exact⟨rfl,hF,[],⟨fun _=>rfl,fun _ _=>trivial⟩,fun _ _=>h.mono (fun v _ e=>by subst e;exact fun J K=>nA.refl J K v) fun _ _ h=>h⟩
theorem oW[Fen]{P:Program}{f:Nat}{α:Type}{r:V->Option α}{m:α->V}{F:α->V}(hr:nY r m)(hF:∀x,hU (F x)=true)
  (h:∀x,ok (fun _=>False) (m x)->aJ P f [m x] [] (pz (F x)) (fun _ _=>False)):cI P f (Is r F):=by
 refine nm fun res nid args q x new hg=>?_
 unfold Is at hg;split at hg<;>(try split at hg)<;>simp only[aa,ae,reduceCtorEq]at hg
 rename_i a x h1;obtain⟨rfl,rfl,rfl⟩:=hg;obtain⟨a1,a2⟩:=hr _ x h1;exact⟨rfl,hF x,[m x],⟨fun J=>by simp[aV,a1 J],fun K hK=>⟨a2 K hK.1,trivial⟩⟩,fun _ hok=>(h x hok.1).mono (fun _ _=>dn) fun _ _ h=>h⟩
theorem pg[Fen]{P:Program}{f:Nat}{α β:Type}{r:V->Option α}{s:V->Option β}{m:α->V}{n:β->V}{F:α->β->V}(hr:nY r m)(hs:nY s n)(hF:∀x y,hU (F x y)=true)
  (h:∀x y,ok (fun _=>False) (m x)->ok (fun _=>False) (n y)->aJ P f [m x,n y] [] (pz (F x y)) (fun _ _=>False)):cI P f (HA r s F):=by
 refine nm fun res nid args q x new hg=>?_
 unfold HA at hg;split at hg<;>(try split at hg)<;>simp only[aa,ae,reduceCtorEq]at hg
 rename_i a b x y h1 h2;obtain⟨rfl,rfl,rfl⟩:=hg;obtain⟨a1,a2⟩:=hr _ x h1;obtain⟨b1,b2⟩:=hs _ y h2;exact⟨rfl,hF x y,[m x,n y],⟨fun J=>by simp[aV,a1 J,b1 J],fun K hK=>⟨a2 K hK.1,b2 K hK.2.1,trivial⟩⟩,fun _ hok=>(h x y hok.1 hok.2.1).mono (fun _ _=>dn) fun _ _ h=>h⟩
theorem HF[Fen]{P:Program}{f:Nat}{α β γ:Type}{r:V->Option α}{s:V->Option β}{t:V->Option γ}{m:α->V}{n:β->V}{o:γ->V}{F:α->β->γ->V}(hr:nY r m)(hs:nY s n)(ht:nY t o)
  (hF:∀x y z,hU (F x y z)=true)
  (h:∀x y z,ok (fun _=>False) (m x)->ok (fun _=>False) (n y)->ok (fun _=>False) (o z)->aJ P f [m x,n y,o z] [] (pz (F x y z)) (fun _ _=>False)):cI P f (LO r s t F):=by
 refine nm fun res nid args q x new hg=>?_
 unfold LO at hg;split at hg<;>(try split at hg)<;>simp only[aa,ae,reduceCtorEq]at hg
 rename_i a b c x y z h1 h2 h3;obtain⟨rfl,rfl,rfl⟩:=hg;obtain⟨a1,a2⟩:=hr _ x h1;obtain⟨b1,b2⟩:=hs _ y h2;obtain⟨c1,c2⟩:=ht _ z h3;exact⟨rfl,hF x y z,[m x,n y,o z],⟨fun J=>by simp[aV,a1 J,b1 J,c1 J],fun K hK=>⟨a2 K hK.1,b2 K hK.2.1,c2 K hK.2.2.1,trivial⟩⟩,fun _ hok=>(h x y z hok.1 hok.2.1 hok.2.2.1).mono (fun _ _=>dn) fun _ _ h=>h⟩
def L4:List Nat->Nat->Bool
 | [],_=>false
 |x::l,i=>x==i||L4 l i
def JB:List (Nat×V)->Nat->Option V
 | [],_=>none
 | (j,v)::l,i=>if j==i then some v else JB l i
def Jb(mh:List Nat)(set:List (Nat×V)):Nat->List S->List S
 |_,[]=> []
 |i,s::l=>(match JB set i with
  |some v=> .v v
  |none=>if L4 mh i then s else .und)::Jb mh set (i+1) l
def Jw(mh:List Nat)(set:Int->List (Nat×V))(inv:Int->Prop)(m:Int):cj:=
 {γ:=Int,head:=fun U g=> {U with slots:=Jb mh (set g) 0 U.slots},inv:=inv,μ:=fun g=>gX (sK m g)}
def qJ:List (Nat×Nat×cj)->Nat->Nat->Option cj
 | [],_,_=>none
 | (f,r,A)::l,f',r'=>if f==f'&&r==r' then some A else qJ l f' r'
def cH(_ _:Nat):Option cj:=none
def cq(_:Nat):Bool:=false
def Mf:Handler:=fun _ _ _ _ _=>False
end Go.Sx
namespace Go.Proofs.YtmfbohanboiklaaGreatDoor
open Go.Sx
noncomputable def cf (l:List (Nat×Ct)) (inl:Nat->Bool) (ann:Nat->Nat->Option cj):Bv:= {P:=Tryz.prog,Z:=zeroOf,Γ:=lJ l,H0:=Mf,inl:=inl,ann:=ann,opn:=GW inl}
theorem Dw[Fen]{l:List (Nat×Ct)}{inl:Nat->Bool}{ann:Nat->Nat->Option cj}(hl:∀p∈l,cI Tryz.prog p.1 p.2):(cf l inl ann).toCtx.Sound:=
 ⟨Dz uq,Tryz.checked.mixed,fun f g hg=>jY hl f g hg,fun f ts te h=>by simp[cf]at h⟩
abbrev vc(l:List (Nat×Ct))(inl:Nat->Bool)(ann:Nat->Nat->Option cj)(f:Nat)(args:List V)(res:List aI)(K KP:V->List aI->Prop):Prop:=
 enter (cf l inl ann).toCtx (exec (cf l inl ann) 100 ⟨false,none⟩) (exec (cf l inl ann) 100 ⟨false,none⟩ f) f args res K KP
set_option maxRecDepth 100000 in
theorem bG[Fen]{l:List (Nat×Ct)}{inl:Nat->Bool}{ann:Nat->Nat->Option cj}(hl:∀p∈l,cI Tryz.prog p.1 p.2){f:Nat}{args:List V}{res:List aI}{K KP:V->List aI->Prop}
  {G:Prop} (hG:G) (h:G=vc l inl ann f args res K KP):aJ Tryz.prog f args res K KP:=
 zF (C:=cf l inl ann) (n:=100) (Dw hl) (fun _ _ _ _ _ hh=>hh.elim) (fun(h:false=true)=>Bool.noConfusion h) (Eq.mp h hG)
end Go.Proofs.YtmfbohanboiklaaGreatDoor
namespace Go.Sx
theorem bf[Fen]{P:Program}:∀p∈([]:List (Nat×Ct)),cI P p.1 p.2:=by simp
theorem aS[Fen]{P:Program}{f:Nat}{g:Ct}{l:List (Nat×Ct)}(h:cI P f g)(t:∀p∈l,cI P p.1 p.2):∀p∈(f,g)::l,cI P p.1 p.2:=by
 simp_all
end Go.Sx
namespace Go.Sx
open Go.RowKit (Below)
theorem aQ.ry{J:Env}{fps:Nat->Nat->Prop}{res:List aI}{K:Nat->Prop}{w0:World}{F0:Nat->Prop}{w:World}(h:aQ J fps res K w0 F0 w){i:Nat}{r:aI}
  (hr:bD res i=r) (hk:known res i):∃fp:Nat->Prop,r.holds K J i fp w0 F0 w/\∀b,fp b->fps i b\/(b<w0.heap.size/\¬F0 b):=by
 have hh:=h.holds i hk;unfold bD at hr;split at hr
 ·rename_i r' he;rw[he]at hh;subst hr;obtain⟨fp',h1,h2⟩:=hh;exact⟨fp',aI.cy _ h1 fun b hb=>h.same b (h2 b hb).1 (h2 b hb).2,fun b hb=> .inr (h2 b hb)⟩
 ·subst hr;exact⟨fps i,hh,fun b hb=> .inl hb⟩
def dM(κ:Nat->Option Nat)(res:List aI):List (Nat×Bool)->List aI
 | []=> []
 | (p,o)::l=>(if o then dU κ (aH res p)else .ro (dU κ (bD res p)))::dM κ res l
def dB:List (Nat×Bool)->List Nat
 | []=> []
 | (p,_)::l=>p::dB l
def eJ(res:List aI):List (Nat×Bool)->Bool
 | []=>true
 | (p,_)::l=>ez res p&&eJ res l
theorem ie:∀(l:List (Nat×Bool)) (i:Nat),(dB l)[i]? =(l[i]?).map (·.1)
 | [],i=>by simp[dB]
 | (p,o)::l,0=>by simp[dB]
 | (p,o)::l,i+1=>by simp[dB,ie l i]
theorem oZ(κ:Nat->Option Nat)(res:List aI):∀(l:List (Nat×Bool)) (i:Nat),aH (dM κ res l) i=match l[i]? with
  |some (p,o)=>if o then dU κ (aH res p)else .ro (dU κ (bD res p))
  |none=> .yet
 | [],i=>by simp[dM,aH]
 | (p,o)::l,0=>by simp[dM,aH]
 | (p,o)::l,i+1=>by simp[dM,aH,oZ κ res l i]
theorem nU(κ:Nat->Option Nat)(res:List aI):∀(l:List (Nat×Bool)),(dM κ res l).length=l.length
 | []=>rfl
 | (p,o)::l=>by simp[dM,nU κ res l]
theorem bV{res:List aI}:∀{l:List (Nat×Bool)},eJ res l=true->∀(i:Nat) (p:Nat) (o:Bool),l[i]? =some (p,o)->known res p
 | [],_,i,p,o,h=>by simp at h
 | (x,y)::l,hk,i,p,o,h=>by
   simp only[eJ,ah]at hk;cases i with
   |zero=>simp at h;obtain⟨rfl,_⟩:=h;exact ck.1 hk.1
   |succ i=>exact bV hk.2 i p o (by simpa using h)
theorem im{p:Nat}:∀(l:List Nat) (m k:Nat),l.Nodup->l[k]? =some p->idxOf l m p=some (m+k)
 | [],m,k,_,h=>by simp at h
 |x::l,m,k,hnd,h=>by
  simp only[idxOf];cases k with
  |zero=>simp at h;subst h;simp
  |succ k=>
   simp at h
   have hne:(x==p)=false:=by
    grind
   rw[hne];simp only[Bool.false_eq_true,if_false];rw[im l (m+1) k (List.nodup_cons.1 hnd).2 h];congr 1;omega
theorem Bd{l:List Nat}{p i:Nat}(h:kP 0 l p=some i):l[i]? =some p:=by
 unfold kP at h;split at h
 ·rename_i hb;simp at hb
 ·have:=dV h;simpa using this.2.2
theorem uH{l:List Nat}{p i:Nat}(hnd:l.Nodup)(h:l[i]? =some p):kP 0 l p=some i:=by
 unfold kP;rw[ar (by simp),im l 0 i hnd h];simp
def Frame(J:Env)(fps:Nat->Nat->Prop)(pl:List (Nat×Bool))(b:Nat):Prop:=∃(i p:Nat),pl[i]? =some (p,true)/\fps p b
section
variable {J:Env} {fps:Nat->Nat->Prop} {res:List aI} {w0 w:World} {F0:Nat->Prop}
theorem aQ.dM{K:Nat->Prop}(h:aQ J fps res K w0 F0 w){pl:List (Nat×Bool)}(hk:eJ res pl=true)(hnd:(dB pl).Nodup):
  aQ (J.pull (src 0 (dB pl))) (fun i b=>∃p:Nat,pl[i]? =some (p,true)/\fps p b) (dM (kP 0 (dB pl)) res pl) (known (dM (kP 0 (dB pl)) res pl)) w (Frame J fps pl) w/\
   (∀i,i<pl.length->known (dM (kP 0 (dB pl)) res pl) i)/\Env.via (kP 0 (dB pl)) J (J.pull (src 0 (dB pl)))/\∀p i,kP 0 (dB pl) p=some i->K p->known (Sx.dM (kP 0 (dB pl)) res pl) i:=by
 generalize hκ:kP 0 (dB pl)=κ
 have hπ:∀p i,κ p=some i->src 0 (dB pl) i=p:=fun p i hp=>by subst hκ;exact zO hp
 have hv:Env.via κ J (J.pull (src 0 (dB pl))):=oy hπ
 have hsome:∀i p o,pl[i]? =some (p,o)->κ p=some i:=fun i p o hi=>by
  subst hκ;exact uH hnd (by rw[ie,hi];rfl)
 have hkn:∀i p o,pl[i]? =some (p,o)->known (Sx.dM κ res pl) i:=fun i p o hi=>by
  unfold known;rw[oZ,hi];simp only;split
  ·exact fun e=>bV hk i p o hi (gf.1 e)
  ·simp
 have hget:∀i,known (Sx.dM κ res pl) i->∃p o,pl[i]? =some (p,o):=fun i hi=>by
  have:=aK hi;rw[nU]at this;exact⟨pl[i].1,pl[i].2,by rw[List.getElem?_eq_getElem this]⟩
 have hN:∀p i,κ p=some i->K p->known (Sx.dM κ res pl) i:=fun p i hp _=>by
  subst hκ;have:=Bd hp;rw[ie]at this;cases hi:pl[i]? with
  |none=>rw[hi]at this;simp at this
  |some po=>exact hkn i po.1 po.2 hi
 have huniq:∀i j p o o',pl[i]? =some (p,o)->pl[j]? =some (p,o')->i=j:=fun i j p o o' hi hj=>by
  have a:=hsome i p o hi;rw[hsome j p o' hj]at a;simpa using a.symm
 have hfr:∀b,b<w0.heap.size->¬F0 b->w.heap[b]? =w0.heap[b]? /\¬Frame J fps pl b:=fun b hb hF=>by
  refine⟨h.same b hb hF,?_⟩;rintro⟨i,p,hi,hf⟩
  exact hF (h.inF p b (bV hk i p true hi) hf hb)
 refine⟨⟨fun i hi=>hi,Nat.le_refl _,rfl,rfl,rfl,fun i hi=>?_,?_,?_,?_,fun _ _ _=>rfl⟩,fun i hi=>hkn i pl[i].1 pl[i].2 (by rw[List.getElem?_eq_getElem hi]),hv,hN⟩
 ·obtain⟨p,o,hp⟩:=hget i hi;have hkp:=bV hk i p o hp;rw[oZ,hp];simp only;cases o with
  |true=>
   simp only[if_true];have:=aI.oF h.old hfr _ _ (h.holds p hkp);have:=ev hv hN (hsome i p true hp) _ _ _ this
   have e:(fun b=>∃p':Nat,some (p,true)=some (p',true)/\fps p' b)=fps p:=by
    funext b;simp
   rw[e];exact this
  |false=>
   simp only[Bool.false_eq_true,if_false];obtain⟨fp,g1,g2⟩:=h.ry rfl hkp;refine⟨fp,ev hv hN (hsome i p false hp) _ _ _ (aI.oF h.old hfr _ _ g1),fun b hb=>?_⟩
   rcases g2 b hb with hf|⟨hl,hF⟩
   ·refine⟨h.lt p b hkp hf,?_⟩;rintro⟨j,p',hj,hf'⟩
    have hkp':=bV hk j p' true hj;refine h.disj p p' b hkp hkp' (fun e=>?_) hf hf'
    subst e;have:=huniq i j p false true hp hj;subst this;rw[hp]at hj;simp at hj
   ·exact⟨Nat.lt_of_lt_of_le hl h.old,(hfr b hl hF).2⟩
 ·rintro i b hi ⟨p,hp,hf⟩
  exact h.lt p b (bV hk i p true hp) hf
 ·rintro i j b hi hj hne ⟨p,hp,hf⟩ ⟨p',hp',hf'⟩
  refine h.disj p p' b (bV hk i p true hp) (bV hk j p' true hp') (fun e=>hne ?_) hf hf'
  subst e;exact huniq i j p true true hp hp'
 ·rintro i b hi ⟨p,hp,hf⟩ _
  exact⟨i,p,hp,hf⟩
def dw(κ2:Nat->Option Nat)(r':List aI):Nat->List (Nat×Bool)->List aI->List aI
 |_,[],res=>res
 |i,(p,o)::l,res=>if o then dw κ2 r' (i+1) l (bd res p (dU κ2 (aH r' i)))else dw κ2 r' (i+1) l res
def uR:List (Nat×Bool)->Nat->Option Nat
 | [],_=>none
 | (p,_)::_,0=>some p
 |_::l,i+1=>uR l i
def back(pl:List (Nat×Bool))(ext:List Nat)(n j:Nat):Option Nat:=
 match uR pl j with
 |some p=>some p
 |none=>idxOf ext n j
def merge(pl:List (Nat×Bool))(ext:List Nat)(r' res:List aI):List aI:=
 dw (back pl ext res.length) r' 0 pl res++ey (back pl ext res.length) r' ext
theorem qn:∀(l:List (Nat×Bool)) (i:Nat),uR l i=(l[i]?).map (·.1)
 | [],i=>by simp[uR]
 | (p,o)::l,0=>by simp[uR]
 | (p,o)::l,i+1=>by simp[uR,qn l i]
theorem ij(κ2:Nat->Option Nat)(r':List aI):∀(l:List (Nat×Bool)) (i:Nat) (res:List aI),(dw κ2 r' i l res).length=res.length
 | [],_,_=>rfl
 | (p,o)::l,i,res=>by
   simp only[dw];split
   ·rw[ij κ2 r' l,a8]
   ·exact ij κ2 r' l _ _
theorem fX(κ2:Nat->Option Nat)(r':List aI):∀(l:List (Nat×Bool)) (i:Nat) (res:List aI) (x:Nat),(∀k:Nat,l[k]? ≠some (x,true))->(∀(k p:Nat) (o:Bool),l[k]? =some (p,o)->p<res.length)->aH (dw κ2 r' i l res) x=aH res x
 | [],_,_,_,_,_=>rfl
 | (p,o)::l,i,res,x,h,hb=>by
   have hl:∀k:Nat,l[k]? ≠some (x,true):=fun k=>by have:=h (k+1);simpa using this
   have hb':∀(k p:Nat) (o:Bool),l[k]? =some (p,o)->p<res.length:=fun k p o hk=>hb (k+1) p o (by simpa using hk)
   simp only[dw];split
   ·rename_i ho;subst ho;have hne:x≠p:=fun e=>h 0 (by simp[e])
    rw[fX κ2 r' l _ _ x hl (fun k p o hk=>by rw[a8];exact hb' k p o hk),aY _ _ _ _ (hb 0 p true (by simp)),ar hne]
   ·exact fX κ2 r' l _ _ x hl hb'
theorem kF(κ2:Nat->Option Nat)(r':List aI):∀(l:List (Nat×Bool)) (i:Nat) (res:List aI) (x k:Nat),l[k]? =some (x,true)->(dB l).Nodup->(∀(k p:Nat) (o:Bool),l[k]? =some (p,o)->p<res.length)->
  aH (dw κ2 r' i l res) x=dU κ2 (aH r' (i+k))
 | [],_,_,_,_,h,_,_=>by simp at h
 | (p,o)::l,i,res,x,k,h,hnd,hb=>by
   have hb':∀(k p:Nat) (o:Bool),l[k]? =some (p,o)->p<res.length:=fun k p o hk=>hb (k+1) p o (by simpa using hk)
   have hnd':=List.nodup_cons.1 (show(p::dB l).Nodup from hnd);simp only[dw];cases k with
   |zero=>
    simp at h;obtain⟨rfl,rfl⟩:=h;simp only[if_true,Nat.add_zero];rw[fX κ2 r' l _ _ p (fun k hk=>hnd'.1 (List.mem_of_getElem? (i:=k) (by rw[ie,hk];rfl))) (fun k p o hk=>by rw[a8];exact hb' k p o hk),aY _ _ _ _ (hb 0 p true (by simp)),au rfl]
   |succ k=>
    have h:l[k]? =some (x,true):=by simpa using h
    split
    ·rw[kF κ2 r' l _ _ x k h hnd'.2 (fun k p o hk=>by rw[a8];exact hb' k p o hk)]
     congr 2;omega
    ·rw[kF κ2 r' l _ _ x k h hnd'.2 hb'];congr 2;omega
def Env.join(n:Nat)(ext:List Nat)(J ρ2:Env):Env:=
 {num:=fun i=>if i<n then J.num i else ρ2.num (ext.getD (i-n) 0),cap:=fun i=>if i<n then J.cap i else ρ2.cap (ext.getD (i-n) 0),adr:=fun i=>if i<n then J.adr i else ρ2.adr (ext.getD (i-n) 0),
  sa:=fun i=>if i<n then J.sa i else ρ2.sa (ext.getD (i-n) 0),sn:=fun i=>if i<n then J.sn i else ρ2.sn (ext.getD (i-n) 0),ob:=fun i=>if i<n then J.ob i else ρ2.ob (ext.getD (i-n) 0)}
section
variable {J:Env} {fps:Nat->Nat->Prop} {res:List aI} {w0 w:World} {F0:Nat->Prop}
theorem aQ.merge(h:aQ J fps res (known res) w0 F0 w){pl:List (Nat×Bool)}(hk:eJ res pl=true)(hnd:(dB pl).Nodup){ρ2:Env}{fps2:Nat->Nat->Prop}{r':List aI}{w':World}
  (h2:aQ ρ2 fps2 r' (known r') w (Frame J fps pl) w') (hg:Good (J.pull (src 0 (dB pl))) (Sx.dM (kP 0 (dB pl)) res pl) ρ2 r') {ext:List Nat} (he:iU pl.length r'.length ext=true)
  (ho1:∀(i p:Nat),pl[i]? =some (p,true)->eV (aH r' i)=true) (ho2:∀j,j∈ext->eV (aH r' j)=true):
  ∃ρ3 fps3,aQ ρ3 fps3 (Sx.merge pl ext r' res) (known (Sx.merge pl ext r' res)) w0 F0 w'/\Good J res ρ3 (Sx.merge pl ext r' res)/\Env.via (back pl ext res.length) ρ2 ρ3/\
   ∀j i,back pl ext res.length j=some i->known r' j->known (Sx.merge pl ext r' res) i:=by
 obtain⟨_,hkr,_,_⟩:=h.dM hk hnd;obtain⟨e1,e2⟩:=jT he;have hlt:∀(k p:Nat) (o:Bool),pl[k]? =some (p,o)->p<res.length:=fun k p o hp=>aK (bV hk k p o hp)
 have hpll:∀(k p:Nat) (o:Bool),pl[k]? =some (p,o)->k<pl.length:=fun k p o hp=>(List.getElem?_eq_some_iff.1 hp).1
 have huniq:∀i j p o o',pl[i]? =some (p,o)->pl[j]? =some (p,o')->i=j:=fun i j p o o' hi hj=>by
  have a:=uH hnd (show(dB pl)[i]? =some p by rw[ie,hi];rfl)
  rw[uH hnd (show(dB pl)[j]? =some p by rw[ie,hj];rfl)]at a
  simpa using a.symm
 have huniqE:∀(a b j:Nat),ext[a]? =some j->ext[b]? =some j->a=b:=fun a b j ha hb=>by
  have x:=im ext 0 a e2 ha;rw[im ext 0 b e2 hb]at x;simpa using x.symm
 have hback1:∀k p o,pl[k]? =some (p,o)->back pl ext res.length k=some p:=fun k p o hp=>by
  unfold back;rw[qn,hp];rfl
 have hback2:∀a j,ext[a]? =some j->back pl ext res.length j=some (res.length+a):=fun a j ha=>by
  unfold back;have:=(e1 j (List.mem_of_getElem? ha)).1;rw[qn,List.getElem?_eq_none this];exact im ext _ a e2 ha
 have hbackS:∀j i,back pl ext res.length j=some i->(∃o,pl[j]? =some (i,o))\/(∃a,ext[a]? =some j/\i=res.length+a):=fun j i hj=>by
  unfold back at hj;rw[qn]at hj;cases hp:pl[j]? with
  |some po=>rw[hp]at hj;simp at hj;exact .inl ⟨po.2,by rw[<-hj]⟩
  |none=>
   rw[hp]at hj;simp at hj;obtain⟨a1,a2,a3⟩:=dV hj;exact .inr ⟨i-res.length,a3,by omega⟩
 have hget:∀i,aH (Sx.merge pl ext r' res) i=if i<res.length then aH (dw (back pl ext res.length) r' 0 pl res) i else match ext[i-res.length]? with|some j=>dU (back pl ext res.length) (aH r' j)|none=> .yet:=fun i=>by
  unfold Sx.merge;rw[bc,ij];by_cases hi:i<res.length
  ·rw[au hi,au hi]
  ·grind[lh]
 have hown:∀k p,pl[k]? =some (p,true)->aH (Sx.merge pl ext r' res) p=dU (back pl ext res.length) (aH r' k):=fun k p hp=>by
  rw[hget,au (hlt k p true hp),kF _ r' pl 0 res p k hp hnd hlt,Nat.zero_add]
 have hother:∀i,i<res.length->(∀k,pl[k]? ≠some (i,true))->aH (Sx.merge pl ext r' res) i=aH res i:=fun i hi hno=>by
  rw[hget,au hi,fX _ r' pl 0 res i hno hlt]
 have hext:∀a j,ext[a]? =some j->aH (Sx.merge pl ext r' res) (res.length+a)=dU (back pl ext res.length) (aH r' j):=fun a j ha=>by
  grind
 have hkr':∀k p o,pl[k]? =some (p,o)->known r' k:=fun k p o hp=>hg.2 k (hkr k (hpll k p o hp))
 have hN:∀j i,back pl ext res.length j=some i->known r' j->known (Sx.merge pl ext r' res) i:=fun j i hj hkj=>by
  rcases hbackS j i hj with⟨o,hp⟩|⟨a,ha,rfl⟩
  ·by_cases hT:∃k:Nat,pl[k]? =some (i,true)
   ·obtain⟨k,hk'⟩:=hT;unfold known;rw[hown k i hk'];exact fun e=>hkr' k i true hk' (gf.1 e)
   ·unfold known;rw[hother i (hlt j i o hp) fun k hk'=>hT ⟨k,hk'⟩]
    exact bV hk j i o hp
  ·unfold known;rw[hext a j ha];exact fun e=>hkj (gf.1 e)
 have hmono:∀i,known res i->known (Sx.merge pl ext r' res) i:=fun i hi=>by
  grind[known,aK]
 have hag:Env.agree (known res) J (Env.join res.length ext J ρ2):=fun i hi=>by
  have:=aK hi;simp[Env.join,this]
 have hvia:Env.via (back pl ext res.length) ρ2 (Env.join res.length ext J ρ2):=fun j i hj=>by
  rcases hbackS j i hj with⟨o,hp⟩|⟨a,ha,rfl⟩
  ·have hil:=hlt j i o hp;have hj':=hg.1 j (hkr j (hpll j i o hp))
   have hsrc:src 0 (dB pl) j=i:=by
    grind[src,ie]
   simp only[Env.pull,hsrc]at hj';obtain⟨a1,a2,a3,a4,a5,a6⟩:=hj';simp[Env.join,hil,a1,a2,a3,a4,a5,a6]
  ·grind[Env.join]
 obtain⟨fps3,g⟩:=h.turn (res':=Sx.merge pl ext r' res) (K':=known (Sx.merge pl ext r' res)) (fun i=>∃k:Nat,pl[k]? =some (i,true)) (fun i=>(∃k:Nat,pl[k]? =some (i,true))\/res.length<=i)
  (fun i b=>(∃k:Nat,pl[k]? =some (i,true)/\fps2 k b)\/(res.length<=i/\∃j,ext[i-res.length]? =some j/\known r' j/\fps2 j b))
  (fun i hi=>hi) hmono hag
  (fun i hi hb=>by
   have hlt':i<res.length:=by
    rcases Nat.lt_or_ge i res.length with h|h
    ·exact h
    ·exact absurd (.inr h) hb
   have e:=hother i hlt' fun k hk'=>hb (.inl ⟨k,hk'⟩)
   exact⟨by unfold known at hi⊢;rw[e]at hi;exact hi,fun hT=>hb (.inl hT),e⟩)
  (fun i hi hb=>by
   have hfoot:∀k b,known r' k->fps2 k b->(∃t,(∃k:Nat,pl[k]? =some (t,true))/\known res t/\fps t b)\/(w.heap.size<=b/\b<w'.heap.size):=fun k b hk' hf=>by
    by_cases hbw:b<w.heap.size
    ·obtain⟨x,p,hp,hfp⟩:=h2.inF k b hk' hf hbw;exact .inl ⟨p,⟨x,hp⟩,bV hk x p true hp,hfp⟩
    ·exact .inr ⟨by omega,h2.lt k b hk' hf⟩
   by_cases hT:∃k:Nat,pl[k]? =some (i,true)
   ·obtain⟨k,hp⟩:=hT;have hkk:=hkr' k i true hp;have hil:=hlt k i true hp
    have e:(fun b=>(∃k:Nat,pl[k]? =some (i,true)/\fps2 k b)\/(res.length<=i/\∃j,ext[i-res.length]? =some j/\known r' j/\fps2 j b))=fps2 k:=by
     funext b
     apply propext
     constructor
     ·rintro(⟨k',hp',hf⟩|⟨hge,_⟩)
      ·rw[huniq k k' i true true hp hp'];exact hf
      ·omega
     ·exact fun hf=> .inl ⟨k,hp,hf⟩
    refine⟨?_,fun b hf=>hfoot k b hkk (by rw[<-e];exact hf)⟩
    rw[e,hown k i hp];exact ev hvia hN (hback1 k i true hp) _ _ _ (fK (ho1 k i hp) (h2.holds k hkk))
   ·have hge:res.length<=i:=hb.resolve_left hT
    have hj:∃j,ext[i-res.length]? =some j:=by
     unfold known at hi;rw[hget,ar (by omega)]at hi
     cases hx:ext[i-res.length]? with
     |none=>rw[hx]at hi;exact absurd rfl hi
     |some j=>exact⟨j,rfl⟩
    obtain⟨j,hj⟩:=hj
    have hkj:known r' j:=by
     unfold known at hi;rw[hget,ar (by omega),hj]at hi
     exact fun e=>hi (gf.2 e)
    have e:(fun b=>(∃k:Nat,pl[k]? =some (i,true)/\fps2 k b)\/(res.length<=i/\∃j,ext[i-res.length]? =some j/\known r' j/\fps2 j b))=fps2 j:=by
     grind
    refine⟨?_,fun b hf=>hfoot j b hkj (by rw[<-e];exact hf)⟩
    have hie:i=res.length+(i-res.length):=by omega
    have hb2:=hback2 _ j hj;rw[<-hie]at hb2;have hx:=hext _ j hj;rw[<-hie]at hx;rw[e,hx];exact ev hvia hN hb2 _ _ _ (fK (ho2 j (List.mem_of_getElem? hj)) (h2.holds j hkj)))
  (fun i j b hbi hbj hne hf hf'=>by
   have sel:∀x,((∃k:Nat,pl[k]? =some (x,true)/\fps2 k b)\/(res.length<=x/\∃j,ext[x-res.length]? =some j/\known r' j/\fps2 j b))->∃k,known r' k/\fps2 k b/\((pl[k]? =some (x,true))\/(res.length<=x/\ext[x-res.length]? =some k)):=by
    rintro x (⟨k,hp,hf⟩|⟨hge,j,hj,hkj,hf⟩)
    ·exact⟨k,hkr' k x true hp,hf,.inl hp⟩
    ·exact⟨j,hkj,hf,.inr ⟨hge,hj⟩⟩
   obtain⟨k,k1,k2,k3⟩:=sel i hf;obtain⟨l,l1,l2,l3⟩:=sel j hf';refine h2.disj k l b k1 l1 (fun e=>hne ?_) k2 l2
   subst e;rcases k3 with k3|⟨k3,k4⟩<;>rcases l3 with l3|⟨l3,l4⟩
   ·rw[k3]at l3;simp at l3;exact l3
   ·grind
   ·have:=(e1 k (List.mem_of_getElem? k4)).1;have:=hpll k j true l3;omega
   ·have:=huniqE _ _ _ k4 l4;omega)
  h2.os h2.tape h2.output h2.old
  (fun b hb hno=>h2.same b hb fun⟨i,p,hp,hf⟩=>hno p ⟨i,hp⟩ (bV hk i p true hp) hf)
 exact⟨_,fps3,g,⟨hag,hmono⟩,hvia,hN⟩
end
end
end Go.Sx
namespace Go.Sx
open Go.RowKit (Below)
def jI(r':List aI):Nat->List (Nat×Bool)->Bool
 |_,[]=>true
 |i,(_,o)::l=>(if o then eV (aH r' i)else true)&&jI r' (i+1) l
theorem pE{r':List aI}:∀{l:List (Nat×Bool)} {i:Nat},jI r' i l=true->∀k p:Nat,l[k]? =some (p,true)->eV (aH r' (i+k))=true
 | [],i,_,k,p,h=>by simp at h
 | (x,o)::l,i,ha,k,p,h=>by
   simp only[jI,ah]at ha;cases k with
   |zero=>simp at h;obtain⟨_,rfl⟩:=h;simpa using ha.1
   |succ k=>
    have:=pE ha.2 k p (by simpa using h)
    rwa [show i+(k+1)=i+1+k by omega]
def lD(r':List aI):List Nat->Bool
 | []=>true
 |j::l=>eV (aH r' j)&&lD r' l
theorem ow{r':List aI}:∀{l:List Nat},lD r' l=true->∀j∈l,eV (aH r' j)=true
 | [],_,j,h=>by simp at h
 |x::l,ha,j,h=>by
  simp only[lD,ah]at ha;rcases List.mem_cons.1 h with rfl|h
  ·exact ha.1
  ·exact ow ha.2 j h
def iJ(κ:Nat->Option Nat)(v v3:V):Prop:=∀(ρ2 ρ3:Env) (N N':Nat->Prop),Env.via κ ρ2 ρ3->(∀j i,κ j=some i->N j->N' i)->ok N v->den ρ3 v3=den ρ2 v/\ok N' v3
theorem iJ.hU{κ:Nat->Option Nat}{v x:V}(h:tn x v [])(hx:Sx.hU x=true):iJ κ v x:=fun ρ2 ρ3 N N' _ _ hv=>by
 obtain⟨s1,s2,_⟩:=h ρ2 N;exact⟨by rw[s1];exact lE hx (s2 hv) ρ2 ρ3,jH x hx (s2 hv)⟩
def IG(pl:List (Nat×Bool))(res:List aI)(v:V)(r':List aI)(K:V->List aI->Prop):Prop:=
 ∃(ext:List Nat) (v3:V),iU pl.length r'.length ext=true/\jI r' 0 pl=true/\lD r' ext=true/\iJ (back pl ext res.length) v v3/\K v3 (merge pl ext r' res)
section
variable {P:Program}
theorem aJ.frame[Fen]{f:Nat}{args args0:List V}{res:List aI}{pl:List (Nat×Bool)}{K0 KP0 K KP:V->List aI->Prop}(hk:eJ res pl=true)(hnd:iU 0 res.length (dB pl)=true)
  (ha:dC (kP 0 (dB pl)) args=some args0) (hc:aJ P f args0 (dM (kP 0 (dB pl)) res pl) K0 KP0)
  (hK:∀v r',K0 v r'->IG pl res v r' K) (hKP:∀v r',KP0 v r'->IG pl res v r' KP):aJ P f args res K KP:=by
 intro J fps w0 F0 w hH hargs;have hnd:=(jT hnd).2;obtain⟨g1,g2,g3,g4⟩:=hH.dM hk hnd;obtain⟨a1,_,a3,_⟩:=dW g3 g4 _ _ ha;rw[<-a1];refine(hc _ _ _ _ _ g1 (a3 hargs)).mono fun e w' ⟨x,ρ2,fps2,r',h1,h2,h3,h4⟩=>?_
 have fin:∀{K:V->List aI->Prop},IG pl res x r' K->∃x' ρ' fps' res',aQ ρ' fps' res' (known res') w0 F0 w'/\Good J res ρ' res'/\ok (known res') x'/\den ρ' x'=den ρ2 x/\K x' res':=by
  rintro K ⟨ext,v3,b1,b2,b3,b4,b5⟩
  obtain⟨ρ3,fps3,m1,m2,m3,m4⟩:=hH.merge hk hnd h1 h2 b1 (fun i p hp=>by have:=pE b2 i p hp;rwa [Nat.zero_add]at this) (ow b3)
  obtain⟨c1,c2⟩:=b4 ρ2 ρ3 _ _ m3 m4 h3;exact⟨v3,ρ3,fps3,_,m1,m2,c2,c1,b5⟩
 rcases h4 with⟨rfl,h4⟩|⟨rfl,h4⟩
 ·grind
 ·grind
def lX:aI->Bool
 | .store _ _ _=>true
 | .arr _ _ _=>true
 | .pin=>true
 |_=>false
theorem oD{κ:Nat->Option Nat}{r:aI}(h:lX r=true):dU κ r=r:=by
 cases r<;>first|rfl|simp[lX]at h
def kp(res:List aI)(p:Nat)(r:aI):Prop:=known res p/\∀J fps K w0 F0 w,aQ J fps res K w0 F0 w->
 ∃fp:Nat->Prop,r.holds K J p fp w0 F0 w/\∀b,fp b->(∃i,known res i/\fps i b)\/(b<w0.heap.size/\¬F0 b)
theorem kp.look{res:List aI}{p:Nat}{r:aI}(h:bD res p=r)(hne:r≠ .yet):kp res p r:=by
 have hk:=cw h hne;refine⟨hk,fun J fps K w0 F0 w hH=>?_⟩
 obtain⟨fp,g1,g2⟩:=hH.ry h hk;exact⟨fp,g1,fun b hb=>(g2 b hb).elim (fun h=> .inl ⟨p,hk,h⟩) .inr⟩
def oL:List (Nat×aI)->List aI
 | []=> []
 | (_,r)::l=> .ro r::oL l
theorem qA:∀(l:List (Nat×aI)) (i:Nat),aH (oL l) i=match l[i]? with|some p=> .ro p.2|none=> .yet
 | [],i=>by simp[oL,aH]
 | (p,r)::l,0=>by simp[oL,aH]
 | (p,r)::l,i+1=>by simp[oL,aH,qA l i]
theorem mI:∀l:List (Nat×aI),(oL l).length=l.length
 | []=>rfl
 | (p,r)::l=>by simp[oL,mI l]
def nv:List (Nat×aI)->Nat->Nat
 | [],_=>0
 | (p,_)::_,0=>p
 |_::l,i+1=>nv l i
theorem n0:∀(l:List (Nat×aI)) (i:Nat) (p:Nat×aI),l[i]? =some p->nv l i=p.1
 | [],i,p,h=>by simp at h
 | (x,r)::l,0,p,h=>by simp at h;subst h;rfl
 | (x,r)::l,i+1,p,h=>by simp only[nv];exact n0 l i p (by simpa using h)
theorem u9[Fen]{f:Nat}{g:Ct}(h:∀res nid args q x new,g res nid args=some (q,x,new)->new= []/\hU x=true/\
  ∃(pls:List (Nat×aI)) (args0:List V),(∀p∈pls,kp res p.1 p.2/\lX p.2=true)/\(∀(J:Env) K,cm K args->aV (J.pull (nv pls)) args0=aV J args)/\(∀K,cm K args->cm (known (oL pls)) args0)/\
   (bq q->cm (known (oL pls)) args0->aJ P f args0 (oL pls) (tn x) (fun _ _=>False))):cI P f g:=by
 intro J fps res K w0 F0 w nid args q x new hH hargs hg hq hfr;obtain⟨rfl,hid,pls,args0,hcl,hden,hok,hc⟩:=h res nid args q x new hg;refine⟨?_,fun k hk=>by simp at hk⟩
 have hfr:∀b,b<w0.heap.size->¬F0 b->w.heap[b]? =w0.heap[b]? /\¬(fun _:Nat=>False) b:=fun b hb hF=>⟨hH.same b hb hF,fun h=>h⟩
 have hrep:aQ (J.pull (nv pls)) (fun _ _=>False) (oL pls) (known (oL pls)) w (fun _=>False) w:=by
  refine⟨fun i hi=>hi,Nat.le_refl _,rfl,rfl,rfl,fun i hi=>?_,fun i b hi h=>h.elim,fun i j b hi hj hne h=>h.elim,fun i b hi h=>h.elim,fun _ _ _=>rfl⟩
  have hlt:=aK hi;rw[mI]at hlt;have hp:pls[i]? =some pls[i]:=List.getElem?_eq_getElem hlt;generalize pls[i]=p at hp
  rw[qA,hp];simp only;obtain⟨hs,hcl⟩:=hcl p (List.mem_of_getElem? hp);obtain⟨fp,g1,g2⟩:=hs.2 J fps K w0 F0 w hH
  have hv:Env.via (fun x=>if x=p.1 then some i else none) J (J.pull (nv pls)):=oy fun x j hx=>by
   split at hx
   ·simp only[aa]at hx;subst hx;rename_i e;subst e;exact n0 pls i p hp
   ·simp at hx
  have:=ev (N':=known (oL pls)) hv (fun x j hx _=>by
   split at hx
   ·simp only[aa]at hx;subst hx;exact hi
   ·simp at hx) (p:=p.1) (i:=i) (by simp) _ _ _ (aI.oF hH.old hfr _ _ g1)
  rw[oD hcl]at this;refine⟨fp,this,fun b hb=>⟨?_,fun h=>h⟩⟩
  rcases g2 b hb with⟨j,hj,hf⟩|⟨hl,_⟩
  ·exact hH.lt j b hj hf
  ·exact Nat.lt_of_lt_of_le hl hH.old
 have hok0:=hok K hargs;rw[<-hden J K hargs];refine(hc hq hok0 _ _ _ _ _ hrep hok0).mono fun e w' ⟨y,ρ',fps',res',g1,g2,g3,g4⟩=>?_
 rcases g4 with⟨rfl,hK⟩|⟨_,hK⟩
 ·refine⟨_,rfl,J,?_,?_,?_⟩
  ·exact⟨⟨g1.os,g1.tape,g1.output,g1.old,fun b hb=>g1.same b hb (fun h=>h)⟩,Env.agree.refl _ _,fun _ _=>False,fun k hk=>by simp at hk,fun k l b hk=>by simp at hk⟩
  ·obtain⟨e1,e2,_⟩:=hK ρ' (known res');rw[e1];exact lE hid (e2 g3) J ρ'
  ·obtain⟨e1,e2,_⟩:=hK ρ' (known res');exact jH x hid (e2 g3)
 ·exact hK.elim
theorem aJ.qc[Fen]{f:Nat}{args:List V}{res res1:List aI}{K KP:V->List aI->Prop}(h:aJ P f args res1 K KP)
  (ho:∀J fps w0 F0 w,aQ J fps res (known res) w0 F0 w->∃ρ' fps',aQ ρ' fps' res1 (known res1) w0 F0 w/\Good J res ρ' res1):aJ P f args res K KP:=by
 intro J fps w0 F0 w hH hargs;obtain⟨ρ',fps',h1,h2⟩:=ho J fps w0 F0 w hH;rw[<-cx h2.1 args hargs];refine(h ρ' fps' w0 F0 w h1 (br h2.2 _ hargs)).mono fun e w' ⟨x,ρ2,fps2,r',g1,g2,g3,g4⟩=>⟨x,ρ2,fps2,r',g1,h2.trans g2,g3,g4⟩
theorem aJ.fa[Fen]{f:Nat}{args:List V}{res:List aI}{k t e:Nat}{L:List Obj}{K KP:V->List aI->Prop}(hr:aH res k= .store t e L)(h:aJ P f args (fa res k t e L) K KP):aJ P f args res K KP:=
 h.qc fun _ _ _ _ _ hH=>uo hr hH
theorem aJ.dt[Fen]{f:Nat}{args:List V}{res:List aI}{k t e:Nat}{L:List Obj}{K KP:V->List aI->Prop}(hr:aH res k= .ro (.store t e L))(h:aJ P f args (dt res k t e L) K KP):aJ P f args res K KP:=
 h.qc fun _ _ _ _ _ hH=>sd hr hH
theorem aJ.shut[Fen]{f:Nat}{args:List V}{res:List aI}{K0 KP K:V->List aI->Prop}(h:aJ P f args res K0 KP)(hK:∀v r,K0 v r->K v r\/∃k r',pt r k=some r'/\K v r'):aJ P f args res K KP:=by
 intro J fps w0 F0 w hH hargs;refine(h J fps w0 F0 w hH hargs).mono fun e w' ⟨x,ρ2,fps2,r',g1,g2,g3,g4⟩=>?_
 rcases g4 with⟨rfl,hk⟩|g4
 ·rcases hK _ _ hk with hk|⟨k,r2,s1,s2⟩
  ·exact⟨x,ρ2,fps2,r',g1,g2,g3,.inl ⟨rfl,hk⟩⟩
  ·obtain⟨fps3,m1,m2⟩:=ug s1 g1;exact⟨x,ρ2,fps3,r2,m1,⟨g2.1,fun i hi=>m2 i (g2.2 i hi)⟩,bE m2 _ g3,.inl ⟨rfl,s2⟩⟩
 ·exact⟨x,ρ2,fps2,r',g1,g2,g3,.inr g4⟩
theorem aJ.tg[Fen]{f:Nat}{args:List V}{res res':List aI}{k:Nat}{K KP:V->List aI->Prop}(hr:Sx.tg res k=some res')(h:aJ P f args res' K KP):aJ P f args res K KP:=
 h.qc fun _ _ _ _ _ hH=>tY hr hH
theorem aJ.pV[Fen]{f:Nat}{args:List V}{res:List aI}{k e:Nat}{K0 KP K:V->List aI->Prop}(h:aJ P f args res K0 KP)(hK:∀v r,K0 v r->∃r',Sx.pV r k e=some r'/\K v r'):aJ P f args res K KP:=by
 intro J fps w0 F0 w hH hargs;refine(h J fps w0 F0 w hH hargs).mono fun e' w' ⟨x,ρ2,fps2,r',g1,g2,g3,g4⟩=>?_
 rcases g4 with⟨rfl,hk⟩|g4
 ·obtain⟨r2,s1,s2⟩:=hK _ _ hk;obtain⟨fps3,m1,m2⟩:=tA s1 g1;exact⟨x,ρ2,fps3,r2,m1,⟨g2.1,fun i hi=>m2 i (g2.2 i hi)⟩,bE m2 _ g3,.inl ⟨rfl,s2⟩⟩
 ·exact⟨x,ρ2,fps2,r',g1,g2,g3,.inr g4⟩
end
end Go.Sx
namespace Go.Sx
open Go.RowKit (Below)
section
variable {P:Program}
theorem aJ.fact[Fen]{f:Nat}{args:List V}{res:List aI}{K KP:V->List aI->Prop}{k t e:Nat}{L:List Obj}(hr:bD res k= .store t e L)
  (h:(∀o∈L,o.wf)->L.length<=9223372036854775807->aJ P f args res K KP):aJ P f args res K KP:=by
 intro J fps w0 F0 w hH hargs;obtain⟨fp,hh,_⟩:=hH.look hr (by simp)
 obtain⟨_,h1,h2,_⟩:=hh;exact h h1 h2 J fps w0 F0 w hH hargs
theorem aJ.Kl[Fen]{f:Nat}{args:List V}{res:List aI}{K KP:V->List aI->Prop}{k esz:Nat}{own:Option Nat}{L:List Obj}(hr:bD res k= .arr own esz (.ob L))
  (h:(∀o∈L,o.wf)->L.length<=9223372036854775807->aJ P f args res K KP):aJ P f args res K KP:=by
 intro J fps w0 F0 w hH hargs;obtain⟨fp,hh,_⟩:=hH.look hr (by simp)
 obtain⟨h1,_,h2,_⟩:=hh;refine h (fun o ho=>?_) h2 J fps w0 F0 w hH hargs
 obtain⟨i,hi,rfl⟩:=List.getElem_of_mem ho;have:=(h1 i hi).1;simpa[TL.get,aX,aq,hi,ok]using this
theorem kp.open{res:List aI}{p j t e q:Nat}{L:List Obj}(hp:bD res p= .blk t (.ag [.sa j]))(hj:bD res j= .obs e q L)(hte:t≠e):kp res p (.store t e L):=by
 have hkp:=cw hp (by simp)
 have hkj:=cw hj (by simp)
 refine⟨hkp,fun J fps K w0 F0 w hH=>?_⟩
 obtain⟨fp1,⟨_,_,b3,b4⟩,g1⟩:=hH.ry hp hkp;obtain⟨fp2,⟨_,c1,c2,c3,c4,c5,c6,c7⟩,g2⟩:=hH.ry hj hkj
 have b4':w.heap[J.num p]? =some (.cells #[J.sl j] t (0,0)):=by
  rw[b4];have:den J (.sa j)=J.sl j:=rfl;simp[bI,aR,this,Env.sl,Value.cells]
 refine⟨fun b=>fp1 b\/fp2 b,⟨.inl b3,c1,c3,J.sl j,J.ob q,b4',c6,fun b hb=>?_,fun x hx=>?_⟩,fun b hb=>?_⟩
 ·have hb':=hb;cases ha:J.sa j with
  |none=>simp[Env.sl,ha,Value.ownBlock]at hb
  |some a=>
   simp only[Env.sl,ha,Value.ownBlock,aa]at hb;subst hb;refine⟨.inr (c4 a ha).2,fun e'=>?_⟩
   rcases c6.2 with⟨hh,_⟩|⟨g,cap,cur,hh,_,h3,_⟩
   ·simp[Env.sl,ha]at hh
   ·rw[hh]at hb';simp only[Value.ownBlock,aa]at hb';rw[hb',e',b4']at h3;simp only[aa,Go.Obj.cells.injEq]at h3;exact hte h3.2.1
 ·grind[kN]
 ·grind
theorem kp.zero{res:List aI}{p t e:Nat}(hp:bD res p= .blk t (.ag [.nl (.slice none 0 0)])):kp res p (.store t e []):=by
 have hkp:=cw hp (by simp)
 refine⟨hkp,fun J fps K w0 F0 w hH=>?_⟩
 obtain⟨fp1,⟨_,_,b3,b4⟩,g1⟩:=hH.ry hp hkp;refine⟨fp1,⟨b3,by simp,by simp,.slice none 0 0,fun _=>0,?_,World.ownsRow_nil w 0 e 1,fun b hb=>by simp[Value.ownBlock]at hb,fun x hx=>by simp at hx⟩,fun b hb=>(g1 b hb).elim (fun h=> .inl ⟨p,hkp,h⟩) .inr⟩
 rw[b4];simp[bI,aR,den,Value.cells]
def rS(t e:Nat)(res:List aI)(v:V):Option (Option Nat×List Obj):=
 match v with
 | .nl v=>match v with
   | .pointer p=>match p with
     |none=>some (none,[])
     |some _=>none
   |_=>none
 | .lp k off=>if off==0 then match bD res k with
   | .store t' e' L=>if t'==t&&e'==e then some (some k,L)else none
   | .blk t' c=>if t'==t&& !(t==e)then match c with
     | .ag l=>match l with
       | [x]=>match x with
         | .sa j=>match bD res j with
           | .obs e' _ L=>if e'==e then some (some k,L)else none
           |_=>none
         | .nl v=>match v with
           | .slice none 0 0=>some (some k,[])
           |_=>none
         |_=>none
       |_=>none
     |_=>none
     else none
   |_=>none
   else none
 |_=>none
theorem uJ{t e:Nat}{res:List aI}{v:V}{o:Option Nat}{L:List Obj}(h:rS t e res v=some (o,L)):(o=none/\L= []/\v= .nl (.pointer none))\/∃k,o=some k/\v= .lp k 0/\kp res k (.store t e L):=by
 unfold rS at h;split at h
 ·grind
 ·rename_i k off;split at h
  ·rename_i ho;have ho:=aj.1 ho;subst ho;split at h
   ·grind[kp.look]
   ·grind[kp.open,kp.zero]
   ·simp at h
  ·simp at h
 ·simp at h
def vd:V:= .nl (.pointer none)
def Lw(t e:Nat)(F:List Obj->V):Ct:=fun res _ xs=>match xs with
 | [a]=>match rS t e res a with
   |some (_,L)=>some (none,F L,[])
   |none=>none
 |_=>none
def Af{α:Type}(t e:Nat)(r:V->Option α)(F:List Obj->α->V):Ct:=fun res _ xs=>match xs with
 | [a,b]=>match rS t e res a with
   |some (_,L)=>match r b with
    |some x=>some (none,F L x,[])
    |none=>none
   |none=>none
 |_=>none
theorem Ib[Fen]{f t e:Nat}{F:List Obj->V}(hF:∀L,hU (F L)=true)(h0:aJ P f [vd] [] (pz (F [])) (fun _ _=>False))
  (h1:∀L,(∀o∈L,o.wf)->L.length<=9223372036854775807->aJ P f [.lp 0 0] [.ro (.blk t (.ag [.sa 1])),.ro (.obs e 2 L),.gen 1] (pz (F L)) (fun _ _=>False)):cI P f (Lw t e F):=by
 refine u9 fun res nid args q x new hg=>?_
 unfold Lw at hg;split at hg<;>(try split at hg)<;>simp only[aa,ae,reduceCtorEq]at hg
 rename_i a o L hr;obtain⟨rfl,rfl,rfl⟩:=hg;rcases uJ hr with⟨rfl,rfl,rfl⟩|⟨k,rfl,rfl,hs⟩
 ·exact⟨rfl,hF [],[],[vd],by simp,fun J _ _=>rfl,fun K hK=>⟨hK.1,trivial⟩,fun _ _=>h0.mono (fun _ _=>dn) fun _ _ h=>h⟩
 ·refine⟨rfl,hF L,[(k,.store t e L)],[.lp 0 0],by simpa using⟨hs,rfl⟩,fun J _ _=>rfl,fun K hK=>⟨by simp[ok,known,oL,aH],trivial⟩,fun _ _=>?_⟩
  exact aJ.fact (k:=0) rfl fun w1 w2=>(aJ.dt (res:=oL [(k,.store t e L)]) (k:=0) rfl (h1 L w1 w2)).mono (fun _ _=>dn) fun _ _ h=>h
theorem ql[Fen]{f t e:Nat}{α:Type}{r:V->Option α}{m:α->V}{F:List Obj->α->V}(hr:nY r m)(hF:∀L x,hU (F L x)=true)
  (h0:∀x,ok (fun _=>False) (m x)->aJ P f [vd,m x] [] (pz (F [] x)) (fun _ _=>False))
  (h1:∀L x,(∀o∈L,o.wf)->L.length<=9223372036854775807->ok (fun _=>False) (m x)->aJ P f [.lp 0 0,m x] [.ro (.blk t (.ag [.sa 1])),.ro (.obs e 2 L),.gen 1] (pz (F L x)) (fun _ _=>False))
  (hid:∀x,hU (m x)=true):cI P f (Af t e r F):=by
 refine u9 fun res nid args q x new hg=>?_
 unfold Af at hg;split at hg<;>(try split at hg)<;>(try split at hg)<;>simp only[aa,ae,reduceCtorEq]at hg
 rename_i a b _ o L hs _ x hb;obtain⟨rfl,rfl,rfl⟩:=hg;obtain⟨b1,b2⟩:=hr _ x hb;have hde:∀J ρ':Env,∀K,ok K b->den ρ' (m x)=den J b:=fun J ρ' K hk=>by rw[b1 J];exact lE (hid x) (b2 K hk) J ρ'
 rcases uJ hs with⟨rfl,rfl,rfl⟩|⟨k,rfl,rfl,hse⟩
 ·refine⟨rfl,hF [] x,[],[vd,m x],by simp,fun J K hK=>?_,fun K hK=>⟨hK.1,de (b2 K hK.2.1),trivial⟩,fun _ hok=>?_⟩
  ·simp only[aV,hde J (J.pull (nv [])) K hK.2.1];rfl
  ·exact(h0 x (jH _ (hid x) hok.2.1)).mono (fun _ _=>dn) fun _ _ h=>h
 ·refine⟨rfl,hF L x,[(k,.store t e L)],[.lp 0 0,m x],by simpa using⟨hse,rfl⟩,fun J K hK=>?_,fun K hK=>⟨by simp[ok,known,oL,aH],de (b2 K hK.2.1),trivial⟩,fun _ hok=>?_⟩
  ·simp only[aV,hde J (J.pull (nv [(k,.store t e L)])) K hK.2.1];rfl
  ·exact aJ.fact (k:=0) rfl fun w1 w2=>(aJ.dt (res:=oL [(k,.store t e L)]) (k:=0) rfl (h1 L x w1 w2 (jH _ (hid x) hok.2.1))).mono (fun _ _=>dn) fun _ _ h=>h
theorem kp.arr{res:List aI}{p esz:Nat}{own:Option Nat}{l:TL}(h:bD res p= .arr own esz l):kp res p (.arr none esz l):=by
 have hk:=cw h (by simp)
 refine⟨hk,fun J fps K w0 F0 w hH=>?_⟩
 obtain⟨fp,⟨h1,h2,h3,h4,h5,h6,h7⟩,g2⟩:=hH.ry h hk;refine⟨fp,⟨h1,h2,h3,h4,h5,h6,?_⟩,fun b hb=>(g2 b hb).elim (fun h=> .inl ⟨p,hk,h⟩) .inr⟩
 rcases h7 with⟨e,h7⟩|⟨e,e1,e2⟩
 ·exact .inl ⟨rfl,h7⟩
 ·exact .inr ⟨e,by simp,e2⟩
end
end Go.Sx
namespace Go.Sx
open Go.RowKit (Below)
abbrev pb:=List V->List aI->(V->List aI->Prop)->Prop
def p7[Fen](P:Program)(f:Nat)(h:pb):Prop:=∀args res K KP,h args res K->aJ P f args res K KP
def yP:List (Nat×pb)->Handler
 | [],_,_,_,_,_=>False
 | (g,h)::l,f,args,res,K,KP=>if f==g then h args res K else yP l f args res K KP
theorem wN[Fen]{P:Program}:∀{l:List (Nat×pb)},(∀p∈l,p7 P p.1 p.2)->Handler.OK P (yP l)
 | [],_,f,args,res,K,KP,h=>h.elim
 | (g,x)::l,hl,f,args,res,K,KP,h=>by
   simp only[yP]at h;split at h
   ·rename_i e;have e:=aj.1 e;subst e;exact hl (f,x) (by simp) args res K KP h
   ·exact wN (fun p hp=>hl p (by simp[hp])) f args res K KP h
theorem eF[Fen]{P:Program}:∀p∈([]:List (Nat×pb)),p7 P p.1 p.2:=by simp
theorem cP[Fen]{P:Program}{f:Nat}{g:pb}{l:List (Nat×pb)}(h:p7 P f g)(t:∀p∈l,p7 P p.1 p.2):∀p∈(f,g)::l,p7 P p.1 p.2:=by
 simp_all
theorem CC{κ:Nat->Option Nat}:∀v,hU v=true->dR κ v=some v:=by
 intro v
 exact V.rec (motive_1:=fun v=>hU v=true->dR κ v=some v) (motive_2:=fun l=>jg l=true->dC κ l=some l)
  (fun b _=>rfl) (fun b _=>rfl) (fun k n _=>rfl) (fun k n _=>rfl) (fun b _=>rfl) (fun s _=>rfl) (fun v _=>rfl) (fun _ _ h=>by simp[hU]at h) (fun _ _ _ _ _ _ h=>by simp[hU]at h)
  (fun _ _ _ h=>by simp[hU]at h) (fun _ _ h=>by simp[hU]at h) (fun _ _ _ _ h=>by simp[hU]at h) (fun _ h=>by simp[hU]at h) (fun _ _ h=>by simp[hU]at h) (fun _ h=>by simp[hU]at h)
  (fun f l ih h=>by simp only[dR];rw[ih h]) (fun t x ih h=>by simp only[dR];rw[ih h]) (fun l ih h=>by simp only[dR];rw[ih h]) (fun l ih h=>by simp only[dR];rw[ih h])
  (fun _ _=>rfl) (fun _ _=>rfl) (fun _ _=>rfl) (fun _ _=>rfl) (fun _ h=>by simp[hU]at h) (fun _ _ _ _ _ _ h=>by simp[hU]at h) (fun _ _ _ _ _ _ _ _ h=>by simp[hU]at h) (fun _ _ _ _ h=>by simp[hU]at h) (fun _ _ _ _ _ _ h=>by simp[hU]at h) (fun _ _ _ _ h=>by simp[hU]at h) (fun _=>rfl)
  (fun x l ih1 ih2 h=>by simp only[jg,ah]at h;simp only[dC];rw[ih1 h.1];simp only;rw[ih2 h.2]) v
theorem fk{κ:Nat->Option Nat}:∀l,jg l=true->dC κ l=some l
 | [],_=>rfl
 |x::l,h=>by
  simp_all[jg,dC,CC,fk]
def ga(l m:List V):Prop:=∀(J:Env) K,cm K l->aV J l=aV J m/\cm K m
theorem ga.nil:ga [] []:=fun _ _ _=>⟨rfl,trivial⟩
theorem ga.mh{x:V}{l m:List V}(h:ga l m):ga (x::l) (x::m):=fun J K hk=>⟨by simp only[aV,(h J K hk.2).1],hk.1,(h J K hk.2).2⟩
theorem ga.rd{α:Type}{r:V->Option α}{f:α->V}(hr:nY r f){a:V}{x:α}(hx:r a=some x){l m:List V}(h:ga l m):ga (a::l) (f x::m):=fun J K hk=>by
 obtain⟨a1,a2⟩:=hr a x hx;exact⟨by simp only[aV,(h J K hk.2).1,a1],de (a2 K hk.1),(h J K hk.2).2⟩
section
variable {P:Program}
theorem aJ.args[Fen]{f:Nat}{args args':List V}{res:List aI}{K KP:V->List aI->Prop}(h:ga args args')(hc:aJ P f args' res K KP):aJ P f args res K KP:=by
 intro J fps w0 F0 w hH hargs;obtain⟨h1,h2⟩:=h J _ hargs;rw[h1];exact hc J fps w0 F0 w hH h2
theorem aJ.HO[Fen]{f:Nat}{args:List V}{res:List aI}{K KP:V->List aI->Prop}(h:cm (known res) args->aJ P f args res K KP):aJ P f args res K KP:=by
 intro J fps w0 F0 w hH hargs;exact h hargs J fps w0 F0 w hH hargs
theorem aJ.F7[Fen]{f:Nat}{rest:List V}{res:List aI}{K KP:V->List aI->Prop}{k t e:Nat}{L M:List Obj}{x:V}(hr:aH res k= .store t e L)(hid:jg rest=true)(hx:hU x=true)
  (h:aJ P f (.lp 0 0::rest) [.store t e L] (fun v r=>tn x v r/\aH r 0= .store t e M) (fun _ _=>False)) (hK:K x (bd res k (.store t e M))):aJ P f (.lp k 0::rest) res K KP:=by
 have hk:known res k:=by unfold known;rw[hr];simp
 have hlt:=aK hk;refine aJ.frame (pl:= [(k,true)]) (args0:= .lp 0 0::rest) (K0:=fun v r=>tn x v r/\aH r 0= .store t e M) (KP0:=fun _ _=>False) (by simp[eJ,ck.2 hk]) (by simpa[iU,dB,qa]using hlt) ?_ ?_ (fun v r hv=>?_) (fun _ _ h=>h.elim)
 ·simp only[dC,dR,kP,idxOf,dB];rw[fk rest hid];simp
 ·simp_all[dM,kP,dB,dU]
 ·obtain⟨h1,h2⟩:=hv;have hm:merge [(k,true)] [] r res=bd res k (.store t e M):=by simp[merge,dw,h2,dU,ey]
  exact⟨[],x,rfl,by simp[jI,h2,eV],rfl,iJ.hU h1 hx,by rw[hm];exact hK⟩
theorem aJ.pure[Fen]{f:Nat}{args:List V}{res:List aI}{K KP:V->List aI->Prop}{x:V}(hid:jg args=true)(hx:hU x=true)
  (h:aJ P f args [] (fun v _=>tn x v []) (fun _ _=>False)) (hK:K x res):aJ P f args res K KP:=by
 refine aJ.frame (pl:= []) (args0:=args) (K0:=fun v _=>tn x v []) (KP0:=fun _ _=>False) rfl rfl (fk args hid) h (fun v r hv=>?_) (fun _ _ h=>h.elim)
 have hm:merge [] [] r res=res:=by simp[merge,dw,ey]
 exact⟨[],x,rfl,rfl,rfl,iJ.hU hv hx,by rw[hm];exact hK⟩
theorem aJ.JV[Fen]{f:Nat}{rest:List V}{res:List aI}{K KP:V->List aI->Prop}{k:Nat}{r0:aI}{x:V}(hr:bD res k=r0)(hne:r0≠ .yet)(hren:∀κ,dU κ r0=r0)(hid:jg rest=true)(hx:hU x=true)
  (h:aJ P f (.lp 0 0::rest) [.ro r0] (fun v _=>tn x v []) (fun _ _=>False)) (hK:K x res):aJ P f (.lp k 0::rest) res K KP:=by
 have hk:=cw hr hne;have hlt:=aK hk;refine aJ.frame (pl:= [(k,false)]) (args0:= .lp 0 0::rest) (K0:=fun v _=>tn x v []) (KP0:=fun _ _=>False) (by simp[eJ,ck.2 hk]) (by simpa[iU,dB,qa]using hlt) ?_ ?_ (fun v r hv=>?_) (fun _ _ h=>h.elim)
 ·simp only[dC,dR,kP,idxOf,dB];rw[fk rest hid];simp
 ·simp_all[dM,kP,dB]
 ·have hm:merge [(k,false)] [] r res=res:=by simp[merge,dw,ey]
  exact⟨[],x,rfl,by simp[jI],rfl,iJ.hU hv hx,by rw[hm];exact hK⟩
theorem aQ.weaken{J:Env}{fps:Nat->Nat->Prop}{res res':List aI}{w0 w:World}{F0:Nat->Prop}(h:aQ J fps res (known res) w0 F0 w)
  (hk:∀i,known res' i->known res i/\∀fp,(aH res i).holds (known res) J i fp w0 F0 w->(aH res' i).holds (known res') J i fp w0 F0 w):aQ J fps res' (known res') w0 F0 w:=
 ⟨fun i hi=>hi,h.old,h.os,h.tape,h.output,fun i hi=>(hk i hi).2 _ (h.holds i (hk i hi).1),fun i b hi=>h.lt i b (hk i hi).1,fun i j b hi hj=>h.disj i j b (hk i hi).1 (hk j hj).1,fun i b hi=>h.inF i b (hk i hi).1,h.same⟩
theorem Ef{K K':Nat->Prop}{J:Env}{i:Nat}{fp:Nat->Prop}{w0 w:World}{F0:Nat->Prop}{own:Option Nat}{e:Nat}{l:TL}(h:(aI.arr own e l).holds K J i fp w0 F0 w):(aI.arr none e l).holds K' J i fp w0 F0 w:=by
 obtain⟨h1,h2,h3,h4,h5,h6,h7⟩:=h;refine⟨h1,h2,h3,h4,h5,h6,?_⟩;rcases h7 with⟨e,h7⟩|⟨e,e1,e2⟩
 ·exact .inl ⟨rfl,h7⟩
 ·exact .inr ⟨e,by simp,e2⟩
theorem aJ.Kk[Fen]{f:Nat}{args:List V}{K KP:V->List aI->Prop}{own:Option Nat}{e:Nat}{l:TL}(h:aJ P f args [.ro (.arr none e l)] K KP):aJ P f args [.ro (.arr own e l)] K KP:=by
 have hk:∀i (own:Option Nat),known [.ro (.arr own e l)] i↔i=0:=fun i own=>by
  unfold known;cases i with
  |zero=>simp[aH]
  |succ i=>simp[aH]
 refine h.qc fun J fps w0 F0 w hH=>⟨J,fps,hH.weaken fun i hi=>?_,Env.agree.refl _ _,fun i hi=>(hk i _).2 ((hk i _).1 hi)⟩
 have:=(hk i _).1 hi;subst this;refine⟨(hk 0 _).2 rfl,fun fp hh=>?_⟩
 obtain⟨fp',g1,g2⟩:=hh;exact⟨fp',Ef g1,g2⟩
theorem aJ.CY[Fen]{f:Nat}{rest:List V}{res:List aI}{K KP:V->List aI->Prop}{t e k esz:Nat}{own:Option Nat}{l:TL}{M:List Obj}{F:Nat->V}(hr:bD res k= .arr own esz l)(hid:jg rest=true)
  (h:aJ P f (.sa 0::rest) [.ro (.arr own esz l)] (fun v r=>∃j,1<=j/\aH r j= .store t e M/\(∀(κ:Nat->Option Nat) (i:Nat),κ j=some i->iJ κ v (F i))) (fun _ _=>False)) (hK:K (F res.length) (res++ [.store t e M])):aJ P f (.sa k::rest) res K KP:=by
 have hk:=cw hr (by simp)
 have hlt:=aK hk;refine aJ.frame (pl:= [(k,false)]) (args0:= .sa 0::rest) (K0:=fun v r=>∃j,1<=j/\aH r j= .store t e M/\(∀(κ:Nat->Option Nat) (i:Nat),κ j=some i->iJ κ v (F i))) (KP0:=fun _ _=>False) (by simp[eJ,ck.2 hk]) (by simpa[iU,dB,qa]using hlt) ?_ ?_ (fun v r hv=>?_) (fun _ _ h=>h.elim)
 ·simp only[dC,dR,kP,idxOf,dB];rw[fk rest hid];simp
 ·have:dM (kP 0 (dB [(k,false)])) res [(k,false)]= [.ro (.arr own esz l)]:=by simp[dM,hr,dU]
  rw[this];exact h
 ·obtain⟨j,hj1,hj,hv⟩:=hv;have hjl:j<r.length:=aK (by rw[hj];simp)
  have hm:merge [(k,false)] [j] r res=res++ [.store t e M]:=by simp[merge,dw,ey,hj,dU]
  refine⟨[j],F res.length,by simpa[iU,qa]using⟨hj1,hjl⟩,by simp[jI],by simp[lD,hj,eV],hv _ _ ?_,by rw[hm];exact hK⟩
  obtain⟨m,rfl⟩:∃m,j=m+1:=⟨j-1,by omega⟩
  simp[back,uR,idxOf]
theorem aJ.JL[Fen]{f:Nat}{rest:List V}{res:List aI}{K KP:V->List aI->Prop}{k esz:Nat}{own:Option Nat}{l:TL}{x:V}(hr:bD res k= .arr own esz l)(hid:jg rest=true)(hx:hU x=true)
  (h:aJ P f (.sa 0::rest) [.ro (.arr own esz l)] (fun v _=>tn x v []) (fun _ _=>False)) (hK:K x res):aJ P f (.sa k::rest) res K KP:=by
 have hk:=cw hr (by simp)
 have hlt:=aK hk;refine aJ.frame (pl:= [(k,false)]) (args0:= .sa 0::rest) (K0:=fun v _=>tn x v []) (KP0:=fun _ _=>False) (by simp[eJ,ck.2 hk]) (by simpa[iU,dB,qa]using hlt) ?_ ?_ (fun v r hv=>?_) (fun _ _ h=>h.elim)
 ·simp only[dC,dR,kP,idxOf,dB];rw[fk rest hid];simp
 ·have:dM (kP 0 (dB [(k,false)])) res [(k,false)]= [.ro (.arr own esz l)]:=by simp[dM,hr,dU]
  rw[this];exact h
 ·have hm:merge [(k,false)] [] r res=res:=by simp[merge,dw,ey]
  exact⟨[],x,rfl,by simp[jI],rfl,iJ.hU hv hx,by rw[hm];exact hK⟩
theorem uc{r:List aI}{k t e j:Nat}{L:List Obj}(h:wC r k=some (t,e,j,L)):∃r',pt r k=some r'/\aH r' k= .store t e L:=by
 grind[pt,wC,aK,aY,a8]
def yL(r:List aI)(k:Nat):Option (Nat×Nat×List Obj):=
 match aH r k with
 | .store t e L=>some (t,e,L)
 |_=>match wC r k with
  |some (t,e,_,L)=>some (t,e,L)
  |none=>none
theorem Bx{r:List aI}{k t e:Nat}{L:List Obj}(h:yL r k=some (t,e,L)):aH r k= .store t e L\/∃r',pt r k=some r'/\aH r' k= .store t e L:=by
 grind[yL,uc]
theorem EP{a b c:V}(h:tn c b []):tn (.tp [a,c]) (.tp [a,b]) []:=fun J K=>by
 obtain⟨s1,s2,_⟩:=h J K;exact⟨by simp only[den,aV,s1],fun hk=>⟨hk.1,s2 hk.2.1,trivial⟩,rfl⟩
theorem aJ.EK[Fen]{f:Nat}{args:List V}{res:List aI}{K KP:V->List aI->Prop}{t e:Nat}{M:List Obj}{F:Nat->V}(hid:jg args=true)
  (h:aJ P f args [] (fun v r=>∃j,aH r j= .store t e M/\(∀(κ:Nat->Option Nat) (i:Nat),κ j=some i->iJ κ v (F i))) (fun _ _=>False)) (hK:K (F res.length) (res++ [.store t e M])):aJ P f args res K KP:=by
 refine aJ.frame (pl:= []) (args0:=args) (K0:=fun v r=>∃j,aH r j= .store t e M/\(∀(κ:Nat->Option Nat) (i:Nat),κ j=some i->iJ κ v (F i))) (KP0:=fun _ _=>False) rfl rfl (fk args hid) h (fun v r hv=>?_) (fun _ _ h=>h.elim)
 obtain⟨j,hj,hv⟩:=hv;have hlt:j<r.length:=aK (by rw[hj];simp)
 have hm:merge [] [j] r res=res++ [.store t e M]:=by simp[merge,dw,ey,hj,dU]
 exact⟨[j],F res.length,by simpa[iU,qa]using hlt,rfl,by simp[lD,hj,eV],hv _ _ (by simp[back,uR,idxOf]),by rw[hm];exact hK⟩
end
def LQ(v:V):Option Nat:=
 match v with
 | .sa j=>some j
 | .ag l=>match l with
   | [x]=>match x with
     | .sa j=>some j
     |_=>none
   |_=>none
 |_=>none
def Jy(c:Nat)(U:St):Option (List Nat):=
 match aH U.res c with
 | .blk _ x=>match LQ x with
   |some j=>match aH U.res j with
    | .obs _ q _=>some [j,q]
    |_=>some [j]
   |none=>some []
 |_=>some []
def L0(mh:List Nat)(set:Int->List (Nat×V))(k:Nat)(R:Int->aI)(inv:Int->Prop)(m:Int):cj:=
 {γ:=Int,head:=fun U g=> {U with slots:=Jb mh (set g) 0 U.slots,res:=bd U.res k (R g)},inv:=inv,μ:=fun g=>gX (sK m g)}
def GG:List (Nat×aI)->List aI->List aI
 | [],r=>r
 | (k,x)::l,r=>GG l (bd r k x)
def L9{γ:Type}(mh:List Nat)(set:γ->List (Nat×V))(rs:γ->List (Nat×aI))(inv:γ->Prop)(μ:γ->Nat):cj:=
 {γ:=γ,head:=fun U g=> {U with slots:=Jb mh (set g) 0 U.slots,res:=GG (rs g) U.res},inv:=inv,μ:=μ}
def Me(mh:List Nat)(set:Int->List (Nat×V))(c t e:Nat)(L:Int->List Obj)(inv:Int->Prop)(m:Int):cj:=
 {γ:=Int,head:=fun U g=> {U with slots:=Jb mh (set g) 0 U.slots,res:=bd U.res c (.blk t (.ag [.sa U.res.length]))++ [.obs e (U.res.length+1) (L g),.gen U.res.length]},
  inv:=inv,μ:=fun g=>gX (sK m g),pre:= [.bl c e],ext:=Jy c}
end Go.Sx
namespace Go.Proofs.YtmfbohanboiklaaGreatDoor
open Go.Sx
noncomputable def Jm (l:List (Nat×Ct)) (hl:List (Nat×pb)) (inl:Nat->Bool) (ann:Nat->Nat->Option cj):Bv:= {P:=Tryz.prog,Z:=zeroOf,Γ:=lJ l,H0:=yP hl,inl:=inl,ann:=ann,opn:=GW inl}
theorem Av[Fen]{l:List (Nat×Ct)}{hl:List (Nat×pb)}{inl:Nat->Bool}{ann:Nat->Nat->Option cj}(h:∀p∈l,cI Tryz.prog p.1 p.2):(Jm l hl inl ann).toCtx.Sound:=
 ⟨Dz uq,Tryz.checked.mixed,fun f g hg=>jY h f g hg,fun f ts te h=>by simp[Jm]at h⟩
abbrev Mc(l:List (Nat×Ct))(hl:List (Nat×pb))(inl:Nat->Bool)(ann:Nat->Nat->Option cj)(f:Nat)(args:List V)(res:List aI)(K KP:V->List aI->Prop):Prop:=
 enter (Jm l hl inl ann).toCtx (exec (Jm l hl inl ann) 100 ⟨false,none⟩) (exec (Jm l hl inl ann) 100 ⟨false,none⟩ f) f args res K KP
set_option maxRecDepth 100000 in
theorem eH[Fen]{l:List (Nat×Ct)}{hl:List (Nat×pb)}{inl:Nat->Bool}{ann:Nat->Nat->Option cj}(h:∀p∈l,cI Tryz.prog p.1 p.2)(hh:∀p∈hl,p7 Tryz.prog p.1 p.2){f:Nat}{args:List V}{res:List aI}
  {K KP:V->List aI->Prop} {G:Prop} (hG:G) (he:G=Mc l hl inl ann f args res K KP):aJ Tryz.prog f args res K KP:=
 zF (C:=Jm l hl inl ann) (n:=100) (Av h) (wN hh) (fun(h:false=true)=>Bool.noConfusion h) (Eq.mp he hG)
theorem aJ.lift[Fen]{i j:Fen}(hj:¬j.nar){P:Program}{f:Nat}{args:List V}{res:List aI}{K KP:V->List aI->Prop}(h: @aJ i P f args res K KP): @aJ j P f args res K KP:=
 fun J fps w0 F0 w hH ha=> @rN j _ _ _ _ _ _ hj (@Cr i _ _ _ _ _ _ _ (h J fps w0 F0 w hH ha))
theorem p7.lift[Fen]{i j:Fen}(hj:¬j.nar){P:Program}{f:Nat}{h:pb}(hh: @p7 i P f h): @p7 j P f h:=
 fun args res K KP hc=>aJ.lift (i:=i) hj (hh args res K KP hc)
end Go.Proofs.YtmfbohanboiklaaGreatDoor
namespace Go.Sx
open Go.RowKit (Below)
def D7(κ:Nat->Option Nat)(r:List aI):List Nat->Option (List aI)
 | []=>some []
 |p::l=>if ez r p&&eV (aH r p)then match D7 κ r l with
   |some m=>some (dU κ (aH r p)::m)
   |none=>none
  else none
def yX(π:List Nat)(x:Nat->V)(new:Nat->List aI)(v:V)(r:List aI):Prop:=
 ∀nid,dR (idxOf π nid) v=some (x nid)/\D7 (idxOf π nid) r π=some (new nid)
def BR(x:Nat->V)(new:Nat->List aI):Ct:=fun _ nid args=>match args with
 | []=>some (none,x nid,new nid)
 |_=>none
def Kv:List aI->Bool
 | []=>true
 |r::l=>match r with
  | .yet=>false
  |_=>Kv l
theorem qQ:∀{l:List aI},Kv l=true->∀k,k<l.length->aH l k≠ .yet
 | [],_,k,hk=>by simp at hk
 |r::l,h,k,hk=>by
  simp only[Kv]at h;split at h
  ·simp at h
  ·rename_i hr;cases k with
   |zero=>exact hr
   |succ k=>exact qQ h k (by simpa using hk)
theorem pc{κ:Nat->Option Nat}{r:List aI}:∀{π:List Nat} {new:List aI},D7 κ r π=some new->new.length=π.length/\
  ∀(k p:Nat),π[k]? =some p->known r p/\eV (aH r p)=true/\aH new k=dU κ (aH r p)
 | [],new,h=>by simp only[D7,aa]at h;subst h;exact⟨rfl,fun k p h=>by simp at h⟩
 |q::π,new,h=>by
  simp only[D7]at h;split at h
  ·rename_i hc;simp only[ah]at hc;split at h<;>simp only[aa,reduceCtorEq]at h
   rename_i m hm;subst h;obtain⟨a,b⟩:=pc hm;refine⟨by simp[a],fun k p hk=>?_⟩
   cases k with
   |zero=>simp at hk;subst hk;exact⟨ck.1 hc.1,hc.2,rfl⟩
   |succ k=>exact b k p (by simpa using hk)
  ·simp at h
theorem BB[Fen]{P:Program}{f:Nat}{π:List Nat}{x:Nat->V}{new:Nat->List aI}(hnd:π.Nodup)(hy:∀nid,Kv (new nid)=true)(h:aJ P f [] [] (yX π x new) (fun _ _=>False)):cI P f (BR x new):=by
 intro J fps res K w0 F0 w nid args q y new' hH hargs hg hq hfr;unfold BR at hg;split at hg<;>simp only[aa,ae,reduceCtorEq]at hg
 obtain⟨_,rfl,rfl⟩:=hg
 have hE:aQ J (fun _ _=>False) [] (known []) w (fun _=>False) w:=
  ⟨fun i hi=>hi,Nat.le_refl _,rfl,rfl,rfl,fun i hi=>by simp[known,aH]at hi,fun i b hi=>by simp[known,aH]at hi,fun i j b hi=>by simp[known,aH]at hi,fun i b hi=>by simp[known,aH]at hi,fun _ _ _=>rfl⟩
 have hc:=h J _ w (fun _=>False) w hE trivial
 refine⟨?_,?_⟩
 ·refine hc.mono fun e w' ⟨v,ρ1,fps1,r,g1,g2,g3,g4⟩=>?_
  rcases g4 with⟨rfl,hN⟩|⟨_,hF⟩
  ·obtain⟨n1,n2⟩:=hN nid;obtain⟨l1,l2⟩:=pc n2;refine⟨_,rfl,?_⟩
   let ρ':Env:=⟨fun i=>if i<nid then J.num i else if i<nid+π.length then ρ1.num (π.getD (i-nid) 0)else J.num i,fun i=>if i<nid then J.cap i else if i<nid+π.length then ρ1.cap (π.getD (i-nid) 0)else J.cap i,
    fun i=>if i<nid then J.adr i else if i<nid+π.length then ρ1.adr (π.getD (i-nid) 0)else J.adr i,fun i=>if i<nid then J.sa i else if i<nid+π.length then ρ1.sa (π.getD (i-nid) 0)else J.sa i,
    fun i=>if i<nid then J.sn i else if i<nid+π.length then ρ1.sn (π.getD (i-nid) 0)else J.sn i,fun i=>if i<nid then J.ob i else if i<nid+π.length then ρ1.ob (π.getD (i-nid) 0)else J.ob i⟩
   have hvia:Env.via (idxOf π nid) ρ1 ρ':=by
    intro p i hp;obtain⟨a1,a2,a3⟩:=dV hp;have:π.getD (i-nid) 0=p:=by simp[aq,a3]
    simp[ρ',ar (show¬i<nid by omega),au a2,a3]
   have hat:∀k,k<(new nid).length->∃p,π[k]? =some p/\idxOf π nid p=some (nid+k):=fun k hk=>by
    have hk':k<π.length:=by omega
    exact⟨π[k],by simp[hk'],im π nid k hnd (by simp[hk'])⟩
   have hNN:∀p i,idxOf π nid p=some i->known r p->K i\/fresh nid (new nid).length i:=fun p i hp _=>by
    obtain⟨a1,a2,a3⟩:=dV hp;exact .inr ⟨a1,by omega⟩
   refine⟨ρ',⟨⟨g1.os,g1.tape,g1.output,g1.old,fun b hb=>g1.same b hb (by simp)⟩,fun i hi=>?_,fun k=>fps1 (π.getD k 0),fun k hk=>?_,fun k l b hk hl hne=>?_⟩,?_,?_⟩
   ·grind
   ·obtain⟨p,p1,p2⟩:=hat k hk;obtain⟨m1,m2,m3⟩:=l2 k p p1;have hgd:π.getD k 0=p:=by simp[aq,p1]
    simp only[hgd];refine⟨?_,fun b hb=>⟨?_,g1.lt p b m1 hb⟩⟩
    ·rw[m3];exact ev hvia hNN p2 _ _ _ (fK m2 (g1.holds p m1))
    ·refine Nat.le_of_not_lt fun hlt=>?_
     exact g1.inF p b m1 hb hlt
   ·obtain⟨p,p1,p2⟩:=hat k hk;obtain⟨p',p1',p2'⟩:=hat l hl;have hgd:π.getD k 0=p:=by simp[aq,p1]
    have hgd':π.getD l 0=p':=by simp[aq,p1']
    simp only[hgd,hgd']
    have hpp:p≠p':=by
     grind
    exact g1.disj p p' b (l2 k p p1).1 (l2 l p' p1').1 hpp
   ·exact(eQ hvia hNN _ _ n1).1.symm
   ·exact(eQ hvia hNN _ _ n1).2.1 g3
  ·exact hF.elim
 ·intro k hk;exact qQ (hy nid) k hk
end Go.Sx
namespace Go.Sx
open Go.RowKit (Below)
structure Arg(α:Type) where
 rd:List aI->V->Option (List (Nat×aI)×α)
 cn:α->Nat->V
 pl:α->List aI
structure jA(α:Type) where
 rd:List aI->List V->Option (List (Nat×aI)×α)
 cn:α->Nat->List V
 pl:α->List aI
def mw{α:Type}(A:Arg α):Prop:=∀res v pls a,A.rd res v=some (pls,a)->pls.map (·.2)=A.pl a/\(∀p∈pls,kp res p.1 p.2/\lX p.2=true)/\bp (A.cn a 0)=bp v/\(∀n,bp (A.cn a n)=bp (A.cn a 0))/\
 ∀(pre post:List (Nat×aI)),(∀J K,ok K v->den (J.pull (nv (pre++(pls++post)))) (A.cn a pre.length)=den J v)/\∀K,ok K v->ok (known (oL (pre++(pls++post)))) (A.cn a pre.length)
def hX{α:Type}(A:jA α):Prop:=∀res l pls a,A.rd res l=some (pls,a)->pls.map (·.2)=A.pl a/\(∀p∈pls,kp res p.1 p.2/\lX p.2=true)/\(oE l->∀n,oE (A.cn a n))/\
 ∀(pre post:List (Nat×aI)),(∀J K,cm K l->aV (J.pull (nv (pre++(pls++post)))) (A.cn a pre.length)=aV J l/\aR (J.pull (nv (pre++(pls++post)))) (A.cn a pre.length)=aR J l)/\∀K,cm K l->cm (known (oL (pre++(pls++post)))) (A.cn a pre.length)
def mj:jA Unit:=⟨fun _ l=>match l with| []=>some ([],())|_=>none,fun _ _=> [],fun _=> []⟩
def dH{α β:Type}(A:Arg α)(B:jA β):jA (α×β):=
 ⟨fun res l=>match l with
  |v::l=>match A.rd res v with
   |some (p,a)=>match B.rd res l with
    |some (q,b)=>some (p++q,(a,b))
    |none=>none
   |none=>none
  | []=>none,fun x n=>A.cn x.1 n::B.cn x.2 (n+(A.pl x.1).length),fun x=>A.pl x.1++B.pl x.2⟩
def Al{α:Type}(r:V->Option α)(m:α->V):Arg α:=⟨fun _ v=>match r v with|some x=>some ([],x)|none=>none,fun x _=>m x,fun _=> []⟩
def Kt(t e:Nat):Arg (Option (List Obj)):=
 ⟨fun res v=>match rS t e res v with
  |some (o,L)=>match o with
   |none=>some ([],none)
   |some k=>some ([(k,.store t e L)],some L)
  |none=>none,fun o n=>match o with|none=>vd|some _=> .lp n 0,fun o=>match o with|none=> []|some L=> [.store t e L]⟩
def KG{α:Type}(esz:Nat)(r:TL->Option α)(m:α->TL):Arg α:=
 ⟨fun res v=>match v with
  | .sa k=>match bD res k with
    | .arr _ e l=>if e==esz then match r l with
      |some x=>some ([(k,.arr none esz (m x))],x)
      |none=>none
      else none
    |_=>none
  |_=>none,fun _ n=> .sa n,fun x=> [.arr none esz (m x)]⟩
def KN{α:Type}(B:jA α):Arg α:=
 ⟨fun res v=>match v with
  | .ag l=>B.rd res l
  |_=>none,fun x n=> .ag (B.cn x n),B.pl⟩
theorem vq{pre pls post:List (Nat×aI)}{k:Nat}{r:aI}:nv (pre++((k,r)::pls++post)) pre.length=k:=n0 _ _ (k,r) (by simp)
theorem tk{pre pls post:List (Nat×aI)}{k:Nat}{r:aI}:known (oL (pre++((k,r)::pls++post))) pre.length:=by
 unfold known;rw[qA];simp
theorem ea:hX mj:=by
 intro res l pls a h;simp only[mj]at h;split at h<;>simp only[aa,ae,reduceCtorEq]at h
 obtain⟨rfl,_⟩:=h;exact⟨rfl,by simp,fun _ _=>trivial,fun pre post=>⟨fun _ _ _=>⟨rfl,rfl⟩,fun _ _=>trivial⟩⟩
theorem bL{α β:Type}{A:Arg α}{B:jA β}(hA:mw A)(hB:hX B):hX (dH A B):=by
 intro res l pls x h;simp only[dH]at h;split at h
 case h_2=>simp at h
 rename_i v l;split at h
 case h_2=>simp at h
 rename_i p a ha;split at h
 case h_2=>simp at h
 rename_i q b hb;simp only[aa,ae]at h;obtain⟨rfl,rfl⟩:=h;obtain⟨a1,a2,a3,a3',a4⟩:=hA _ _ _ _ ha;obtain⟨b1,b2,b3,b4⟩:=hB _ _ _ _ hb;refine⟨by simp[dH,a1,b1],fun p' hp'=>?_,fun hc n=>?_,fun pre post=>?_⟩
 ·grind
 ·grind[bX,dH]
 ·have hlen:(A.pl a).length=p.length:=by rw[<-a1];simp
  obtain⟨c1,c2⟩:=a4 pre (q++post);obtain⟨d1,d2⟩:=b4 (pre++p) post;have e1:pre++(p++q++post)=pre++(p++(q++post)):=by simp
  have e2:(pre++p)++(q++post)=pre++(p++(q++post)):=by simp
  have e3:(pre++p).length=pre.length+(A.pl a).length:=by simp[hlen]
  rw[e2,e3]at d1 d2;rw[e1];refine⟨fun J K hK=>?_,fun K hK=>?_⟩
  ·obtain⟨f1,f2⟩:=d1 J K hK.2;have f3:=c1 J K hK.1;simp only[dH];exact⟨by simp only[aV];rw[f3,f1],by simp only[aR];rw[f3,f2]⟩
  ·exact⟨c2 K hK.1,d2 K hK.2⟩
theorem qu{α:Type}{r:V->Option α}{m:α->V}(hr:nY r m)(hid:∀x,hU (m x)=true)(ht:∀v x,r v=some x->bp v=bp (m x)):mw (Al r m):=by
 intro res v pls a h;simp only[Al]at h;split at h<;>simp only[aa,ae,reduceCtorEq]at h
 rename_i x hx;obtain⟨rfl,rfl⟩:=h;obtain⟨b1,b2⟩:=hr _ x hx;refine⟨rfl,by simp,(ht v x hx).symm,fun _=>rfl,fun pre post=>⟨fun J K hK=>?_,fun K hK=>de (b2 K hK)⟩⟩
 show den _ (m x)=_
 rw[b1 J];exact lE (hid x) (b2 K hK) J _
theorem C8(t e:Nat):mw (Kt t e):=by
 intro res v pls a h;simp only[Kt]at h;split at h
 case h_2=>simp at h
 rename_i o L hs;rcases uJ hs with⟨rfl,rfl,rfl⟩|⟨k,rfl,rfl,hse⟩<;>simp only[aa,ae]at h<;>obtain⟨rfl,rfl⟩:=h
 ·exact⟨rfl,by simp,rfl,fun _=>rfl,fun pre post=>⟨fun _ _ _=>rfl,fun _ _=>rfl⟩⟩
 ·refine⟨rfl,by simpa using⟨hse,rfl⟩,rfl,fun _=>rfl,fun pre post=>⟨fun J K hK=>?_,fun K hK=>tk (pls:= [])⟩⟩
  simp only[Kt,den,Env.pull];rw[vq (pls:= [])]
theorem HZ{α:Type}{esz:Nat}{r:TL->Option α}{m:α->TL}(hr:∀l x,r l=some x->l=m x):mw (KG esz r m):=by
 intro res v pls a h;simp only[KG]at h;split at h
 case h_2=>simp at h
 rename_i k;split at h
 case h_2=>simp at h
 rename_i own e l hl;split at h
 case isFalse=>simp at h
 rename_i he;have he:=aj.1 he;subst he;split at h<;>simp only[aa,ae,reduceCtorEq]at h
 rename_i x hx;obtain⟨rfl,rfl⟩:=h;have:=hr _ _ hx;subst this;refine⟨rfl,by simpa using⟨kp.arr hl,rfl⟩,rfl,fun _=>rfl,fun pre post=>⟨fun J K hK=>?_,fun K hK=>tk (pls:= [])⟩⟩
 simp only[KG,den,Env.pull];rw[vq (pls:= [])]
theorem HP{α:Type}{B:jA α}(hB:hX B):mw (KN B):=by
 intro res v pls a h;simp only[KN]at h;split at h
 case h_2=>simp at h
 rename_i l;obtain⟨b1,b2,b3,b4⟩:=hB _ _ _ _ h;refine⟨b1,b2,rfl,fun _=>rfl,fun pre post=>?_⟩
 obtain⟨c1,c2⟩:=b4 pre post;refine⟨fun J K hK=>?_,fun K hK=>⟨c2 K hK.1,b3 hK.2 _⟩⟩
 simp only[KN,den];rw[(c1 J K hK.1).2]
def FA{α:Type}(B:jA α)(Q:α->Option Prop)(F:α->V):Ct:=fun res _ xs=>match B.rd res xs with
 |some (_,a)=>some (Q a,F a,[])
 |none=>none
def gR(l:List aI):List aI:=l.map .ro
theorem yG(pls:List (Nat×aI)):oL pls=gR (pls.map (·.2)):=by
 induction pls with
 |nil=>rfl
 |cons p l ih=>obtain⟨p,r⟩:=p;simp[oL,gR,ih]
theorem kT[Fen]{P:Program}{f:Nat}{α:Type}{B:jA α}{Q:α->Option Prop}{F:α->V}(hB:hX B)(hF:∀a,hU (F a)=true)
  (h:∀a,bq (Q a)->cm (known (gR (B.pl a))) (B.cn a 0)->aJ P f (B.cn a 0) (gR (B.pl a)) (pz (F a)) (fun _ _=>False)):cI P f (FA B Q F):=by
 refine u9 fun res nid args q x new hg=>?_
 unfold FA at hg;split at hg<;>simp only[aa,ae,reduceCtorEq]at hg
 rename_i pls a ha;obtain⟨rfl,rfl,rfl⟩:=hg;obtain⟨b1,b2,_,b4⟩:=hB _ _ _ _ ha;obtain⟨c1,c2⟩:=b4 [] [];simp only[List.nil_append,List.append_nil,List.length_nil]at c1 c2;refine⟨rfl,hF a,pls,B.cn a 0,b2,fun J K hK=>(c1 J K hK).1,c2,fun hq hok=>?_⟩
 rw[yG,b1]at hok⊢;exact(h a hq hok).mono (fun _ _=>dn) fun _ _ h=>h
def Hp{α:Type}(B:jA α)(Q:α->Option Prop)(x:α->Nat->V)(new:α->Nat->List aI):Ct:=fun res nid xs=>match B.rd res xs with
 |some (_,a)=>some (Q a,x a nid,new a nid)
 |none=>none
theorem zV{J:Env}{fps:Nat->Nat->Prop}{res:List aI}{K:Nat->Prop}{w0 w:World}{F0:Nat->Prop}(hH:aQ J fps res K w0 F0 w){pls:List (Nat×aI)}(hcl:∀p∈pls,kp res p.1 p.2/\lX p.2=true):
  aQ (J.pull (nv pls)) (fun _ _=>False) (oL pls) (known (oL pls)) w (fun _=>False) w:=by
 have hfr:∀b,b<w0.heap.size->¬F0 b->w.heap[b]? =w0.heap[b]? /\¬(fun _:Nat=>False) b:=fun b hb hF=>⟨hH.same b hb hF,fun h=>h⟩
 refine⟨fun i hi=>hi,Nat.le_refl _,rfl,rfl,rfl,fun i hi=>?_,fun i b hi h=>h.elim,fun i j b hi hj hne h=>h.elim,fun i b hi h=>h.elim,fun _ _ _=>rfl⟩
 have hlt:=aK hi;rw[mI]at hlt;have hp:pls[i]? =some pls[i]:=List.getElem?_eq_getElem hlt;generalize pls[i]=p at hp
 rw[qA,hp];simp only;obtain⟨hs,hcl⟩:=hcl p (List.mem_of_getElem? hp);obtain⟨fp,g1,g2⟩:=hs.2 J fps K w0 F0 w hH
 have hv:Env.via (fun x=>if x=p.1 then some i else none) J (J.pull (nv pls)):=oy fun x j hx=>by
  split at hx
  ·simp only[aa]at hx;subst hx;rename_i e;subst e;exact n0 pls i p hp
  ·simp at hx
 have:=ev (N':=known (oL pls)) hv (fun x j hx _=>by
  split at hx
  ·simp only[aa]at hx;subst hx;exact hi
  ·simp at hx) (p:=p.1) (i:=i) (by simp) _ _ _ (aI.oF hH.old hfr _ _ g1)
 rw[oD hcl]at this;refine⟨fp,this,fun b hb=>⟨?_,fun h=>h⟩⟩
 rcases g2 b hb with⟨j,hj,hf⟩|⟨hl,_⟩
 ·exact hH.lt j b hj hf
 ·exact Nat.lt_of_lt_of_le hl hH.old
theorem rC{J ρ1:Env}{K:Nat->Prop}{fps1:Nat->Nat->Prop}{r:List aI}{w0 w w':World}{F0:Nat->Prop}{nid:Nat}{π:List Nat}{x:Nat->V}{new:Nat->List aI}{v:V}(hnd:π.Nodup)
  (g1:aQ ρ1 fps1 r (known r) w (fun _=>False) w') (g3:ok (known r) v) (hN:yX π x new v r):kh K J nid (x nid) (new nid) w0 F0 w (den ρ1 v) w':=by
 obtain⟨n1,n2⟩:=hN nid;obtain⟨l1,l2⟩:=pc n2
 let ρ':Env:=⟨fun i=>if i<nid then J.num i else if i<nid+π.length then ρ1.num (π.getD (i-nid) 0)else J.num i,fun i=>if i<nid then J.cap i else if i<nid+π.length then ρ1.cap (π.getD (i-nid) 0)else J.cap i,
  fun i=>if i<nid then J.adr i else if i<nid+π.length then ρ1.adr (π.getD (i-nid) 0)else J.adr i,fun i=>if i<nid then J.sa i else if i<nid+π.length then ρ1.sa (π.getD (i-nid) 0)else J.sa i,
  fun i=>if i<nid then J.sn i else if i<nid+π.length then ρ1.sn (π.getD (i-nid) 0)else J.sn i,fun i=>if i<nid then J.ob i else if i<nid+π.length then ρ1.ob (π.getD (i-nid) 0)else J.ob i⟩
 have hvia:Env.via (idxOf π nid) ρ1 ρ':=by
  intro p i hp;obtain⟨a1,a2,a3⟩:=dV hp;simp[ρ',ar (show¬i<nid by omega),au a2,a3]
 have hat:∀k,k<(new nid).length->∃p,π[k]? =some p/\idxOf π nid p=some (nid+k):=fun k hk=>by
  have hk':k<π.length:=by omega
  exact⟨π[k],by simp[hk'],im π nid k hnd (by simp[hk'])⟩
 have hNN:∀p i,idxOf π nid p=some i->known r p->K i\/fresh nid (new nid).length i:=fun p i hp _=>by
  obtain⟨a1,a2,a3⟩:=dV hp;exact .inr ⟨a1,by omega⟩
 refine⟨ρ',⟨⟨g1.os,g1.tape,g1.output,g1.old,fun b hb=>g1.same b hb (by simp)⟩,fun i hi=>?_,fun k=>fps1 (π.getD k 0),fun k hk=>?_,fun k l b hk hl hne=>?_⟩,?_,?_⟩
 ·have:¬(nid<=i/\i<nid+π.length):=fun⟨a,b⟩=>hi ⟨a,by omega⟩
  by_cases hlt:i<nid
  ·simp[ρ',au hlt]
  ·simp[ρ',ar hlt,ar (show¬i<nid+π.length by omega)]
 ·obtain⟨p,p1,p2⟩:=hat k hk;obtain⟨m1,m2,m3⟩:=l2 k p p1;have hgd:π.getD k 0=p:=by simp[aq,p1]
  simp only[hgd];refine⟨?_,fun b hb=>⟨?_,g1.lt p b m1 hb⟩⟩
  ·rw[m3];exact ev hvia hNN p2 _ _ _ (fK m2 (g1.holds p m1))
  ·refine Nat.le_of_not_lt fun hlt=>?_
   exact g1.inF p b m1 hb hlt
 ·obtain⟨p,p1,p2⟩:=hat k hk;obtain⟨p',p1',p2'⟩:=hat l hl;have hgd:π.getD k 0=p:=by simp[aq,p1]
  have hgd':π.getD l 0=p':=by simp[aq,p1']
  simp only[hgd,hgd']
  have hpp:p≠p':=by
   rintro rfl
   rw[p2]at p2';simp at p2';omega
  exact g1.disj p p' b (l2 k p p1).1 (l2 l p' p1').1 hpp
 ·exact(eQ hvia hNN _ _ n1).1.symm
 ·exact(eQ hvia hNN _ _ n1).2.1 g3
theorem Fs[Fen]{P:Program}{f:Nat}{α:Type}{B:jA α}{Q:α->Option Prop}{x:α->Nat->V}{new:α->Nat->List aI}{π:α->List Nat}(hB:hX B)(hnd:∀a,(π a).Nodup)(hy:∀a nid,Kv (new a nid)=true)
  (h:∀a,bq (Q a)->cm (known (gR (B.pl a))) (B.cn a 0)->aJ P f (B.cn a 0) (gR (B.pl a)) (fun v r=>yX (π a) (x a) (new a) v r) (fun _ _=>False)):cI P f (Hp B Q x new):=by
 intro J fps res K w0 F0 w nid args q y new' hH hargs hg hq hfr;unfold Hp at hg;split at hg<;>simp only[aa,ae,reduceCtorEq]at hg
 rename_i pls a ha;obtain⟨rfl,rfl,rfl⟩:=hg;obtain⟨b1,b2,_,b4⟩:=hB _ _ _ _ ha;obtain⟨c1,c2⟩:=b4 [] [];simp only[List.nil_append,List.append_nil,List.length_nil]at c1 c2;refine⟨?_,fun k hk=>qQ (hy a nid) k hk⟩
 have hrep:=zV hH b2;have hok:=c2 K hargs;rw[<-(c1 J K hargs).1];have hro:oL pls=gR (B.pl a):=by rw[yG,b1]
 rw[hro]at hrep hok;refine(h a hq hok _ _ _ _ _ hrep hok).mono fun e w' ⟨v,ρ1,fps1,r,g1,g2,g3,g4⟩=>?_
 rcases g4 with⟨rfl,hN⟩|⟨_,hF⟩
 ·exact⟨_,rfl,rC (hnd a) g1 g3 hN⟩
 ·exact hF.elim
theorem aJ.om[Fen]{P:Program}{f:Nat}{args:List V}{res:List aI}{x:V}{new:List aI}{K KP:V->List aI->Prop}(hy:∀k,k<new.length->aH new k≠ .yet)
  (h:∀J fps w0 F0 w,aQ J fps res (known res) w0 F0 w->cm (known res) args->CallsIn (FF P none) 0 P f (aV J args).toArray w fun e w'=>∃v,e= .returned v/\kh (known res) J res.length x new w0 F0 w v w') (hK:K x (res++new)):aJ P f args res K KP:=by
 intro J fps w0 F0 w hH hargs;refine(h J fps w0 F0 w hH hargs).mono fun e w' ⟨v,he,ρ',hg,hv,hx⟩=>?_
 have hfr':∀i,known res i->¬fresh res.length new.length i:=fun i hi hf=>by have:=aK hi;unfold fresh at hf;omega
 have hK':∀i,known res i\/fresh res.length new.length i->known (res++new) i:=by
  intro i hi;obtain⟨b1,b2,b3⟩:=fj res new;rcases hi with hi|⟨f1,f2⟩
  ·unfold known;rw[(b1 i hi).1];exact hi
  ·have:=b3 (i-res.length) (by omega)
   rw[show res.length+(i-res.length)=i by omega]at this
   unfold known;rw[this];exact hy _ (by omega)
 obtain⟨fps',g1,g2⟩:=hH.grow (res':=res++new) (fj _ _) hfr' hK' hg;exact⟨x,ρ',fps',res++new,g1,⟨g2,fun i hi=>hK' i (.inl hi)⟩,bE hK' _ hx,.inl ⟨by rw[he,hv],hK⟩⟩
def LA{α:Type}(B:jA α)(Q:α->Prop)(c:α->Bool)(F0:α->V)(F1:α->Nat->V)(new:α->aI):pb:=fun args res K=>
 match B.rd res args with
 |some (_,a)=>Q a/\(c a=false->K (F0 a) res)/\(c a=true->K (F1 a res.length) (res++ [new a]))
 |none=>False
def IQ(c:Bool)(x0:V)(F1:Nat->V)(new:aI)(p:Option Nat)(v:V)(r:List aI):Prop:=
 match p with
 |some p=>c=true/\yX [p] F1 (fun _=> [new]) v r
 |none=>c=false/\pz x0 v r
def LN(v:V):Option Nat:=
 match v with
 | .sa p=>some p
 | .lp p _=>some p
 | .tp l=>match l with
   |x::_=>match x with
    | .sa p=>some p
    | .lp p _=>some p
    |_=>none
   | []=>none
 |_=>none
def Fq(c:Bool)(x0:V)(F1:Nat->V)(new:aI)(v:V)(r:List aI):Prop:=IQ c x0 F1 new (LN v) v r
theorem Hr[Fen]{P:Program}{f:Nat}{α:Type}{B:jA α}{Q:α->Prop}{c:α->Bool}{F0:α->V}{F1:α->Nat->V}{new:α->aI}(hB:hX B)(hF:∀a,hU (F0 a)=true)(hn:∀a,new a≠ .yet)
  (h:∀a,Q a->cm (known (gR (B.pl a))) (B.cn a 0)->aJ P f (B.cn a 0) (gR (B.pl a)) (Fq (c a) (F0 a) (F1 a) (new a)) (fun _ _=>False)):p7 P f (LA B Q c F0 F1 new):=by
 intro args res K KP hh;unfold LA at hh;split at hh
 case h_2=>exact hh.elim
 rename_i pls a ha;obtain⟨hQ,h0,h1⟩:=hh;obtain⟨b1,b2,_,b4⟩:=hB _ _ _ _ ha;obtain⟨c1,c2⟩:=b4 [] [];simp only[List.nil_append,List.append_nil,List.length_nil]at c1 c2;have hro:oL pls=gR (B.pl a):=by rw[yG,b1]
 have main:∀J fps w0 F0' w,aQ J fps res (known res) w0 F0' w->cm (known res) args->CallsIn (FF P none) 0 P f (aV J args).toArray w fun e w'=>∃v ρ1 fps1 r,e= .returned (den ρ1 v)/\aQ ρ1 fps1 r (known r) w (fun _=>False) w'/\ok (known r) v/\Fq (c a) (F0 a) (F1 a) (new a) v r:=by
  intro J fps w0 F0' w hH hargs;have hrep:=zV hH b2;have hok:=c2 _ hargs;rw[hro]at hrep hok;rw[<-(c1 J _ hargs).1];refine(h a hQ hok _ _ _ _ _ hrep hok).mono fun e w' ⟨v,ρ1,fps1,r,g1,g2,g3,g4⟩=>?_
  rcases g4 with⟨rfl,hN⟩|⟨_,hF⟩
  ·exact⟨v,ρ1,fps1,r,rfl,g1,g3,hN⟩
  ·exact hF.elim
 cases hc:c a with
 |true=>
  refine aJ.om (x:=F1 a res.length) (new:= [new a]) (fun k hk=>by simp at hk;subst hk;exact hn a) (fun J fps w0 F0' w hH hargs=>?_) (h1 hc)
  refine(main J fps w0 F0' w hH hargs).mono fun e w' ⟨v,ρ1,fps1,r,he,g1,g3,hv⟩=>?_
  unfold Fq IQ at hv;split at hv
  ·exact⟨_,he,rC (new:=fun _=> [new a]) (by simp) g1 g3 hv.2⟩
  ·rw[hc]at hv;simp at hv
 |false=>
  have h0':=h0 hc;rw[<-List.append_nil res]at h0';refine aJ.om (x:=F0 a) (new:= []) (fun k hk=>by simp at hk) (fun J fps w0 F0' w hH hargs=>?_) h0'
  refine(main J fps w0 F0' w hH hargs).mono fun e w' ⟨v,ρ1,fps1,r,he,g1,g3,hv⟩=>?_
  unfold Fq IQ at hv;split at hv
  ·rw[hc]at hv;simp at hv
  ·refine⟨_,he,J,⟨⟨g1.os,g1.tape,g1.output,g1.old,fun b hb=>g1.same b hb (fun h=>h)⟩,Env.agree.refl _ _,fun _ _=>False,fun k hk=>by simp at hk,fun k l b hk=>by simp at hk⟩,?_,?_⟩
   ·obtain⟨e1,e2,_⟩:=dn hv.2 ρ1 (known r);rw[e1];exact lE (hF a) (e2 g3) J ρ1
   ·obtain⟨e1,e2,_⟩:=dn hv.2 ρ1 (known r);exact jH _ (hF a) (e2 g3)
end Go.Sx
namespace Go.Sx
open Go.RowKit (Below)
theorem aJ.KD[Fen]{P:Program}{f:Nat}{rest:List V}{res:List aI}{K KP:V->List aI->Prop}{k n e:Nat}{x:V}{L:List Obj}(hr:aH res k= .blk e x)(hl:As x=some L)(hn:n=L.length)(hs:n<=1000)
  (h:aJ P f (.sa res.length::rest) (bd res k .gone++ [.arr (some e) 163 (.ob L)]) K KP):aJ P f (.sc k n n::rest) res K KP:=by
 intro J fps w0 F0 w hH hargs;have hk:known res k:=by unfold known;rw[hr];simp
 have hnk:¬known res res.length:=fun hk=>by have:=aK hk;omega
 have hag:=jF (N:=known res) J (i:=res.length) (a:=some ⟨J.num k,0,none⟩) (n:=n) (cap:=n) hnk;obtain⟨fps',g1,g2,g3,g4⟩:=wK hH hr hl hn hs;have hargs':cm (known (ba [k] res++ [.arr (some e) 163 (.ob L)])) (.sa res.length::rest):=⟨g4,br g3 _ hargs.2⟩
 have hd:aV (J.cz res.length (some ⟨J.num k,0,none⟩) n n) (.sa res.length::rest)=aV J (.sc k n n::rest):=by
  simp only[aV,cx hag rest hargs.2];simp[den,Env.cz]
 have:=h _ fps' w0 F0 w g1 hargs';rw[hd]at this;refine this.mono fun en w' ⟨x,ρ'',fps'',res'',a1,a2,a3,a4⟩=>⟨x,ρ'',fps'',res'',a1,⟨g2.trans (a2.1.mono fun i hi=>g3 i hi) (fun _ h=>h),fun i hi=>a2.2 i (g3 i hi)⟩,a3,a4⟩
def Ie(h:pb):pb:=fun args res K=>
 match args with
 |a::rest=>match a with
  | .sc k n c=>match aH res k with
    | .blk e x=>match As x with
      |some L=>if n==L.length&&c==n&&Nat.ble n 1000 then h (.sa res.length::rest) (bd res k .gone++ [.arr (some e) 163 (.ob L)]) K else False
      |none=>False
    |_=>False
  |a=>h (a::rest) res K
 | []=>h [] res K
theorem Fg[Fen]{P:Program}{f:Nat}{h:pb}(hh:p7 P f h):p7 P f (Ie h):=by
 intro args res K KP hc;unfold Ie at hc;split at hc
 ·split at hc
  ·split at hc
   case h_2=>exact hc.elim
   rename_i e x hr;split at hc
   case h_2=>exact hc.elim
   rename_i L hL;split at hc
   case isFalse=>exact hc.elim
   rename_i hb;simp only[ah,aj,Nat.ble_eq]at hb;obtain⟨⟨h1,rfl⟩,h2⟩:=hb;exact aJ.KD hr hL h1 h2 (hh _ _ _ _ hc)
  ·exact hh _ _ _ _ hc
 ·exact hh _ _ _ _ hc
end Go.Sx
