import Derived.Test.YtmfbohanboiklaaGreatMa7
set_option linter.unusedSimpArgs false
set_option linter.unusedVariables false
namespace Go.Sx
open Go.RowKit (Below)
abbrev Ct:=List aS->Nat->List V->RR
def dO[Fen](P:Program)(f:Nat)(g:Ct):Prop:=
 ∀J fps res K w0 F0 w nid args q x new,bp J fps res K w0 F0 w->fq K args->g res nid args=some (q,x,new)->cM q->
  (∀k,k<new.length->¬K (nid+k))->
  (CallsIn (FF P none) 0 P f (bG J args).toArray w fun e w'=>∃v,e= .returned v/\r8 K J nid x new w0 F0 w v w')/\∀k,k<new.length->aN new k≠ .yet
def oL:List (Nat×Ct)->Nat->Option Ct
 | [],_=>none
 | (g,c)::l,f=>if f==g then some c else oL l f
theorem lJ[Fen]{P:Program}:∀{l:List (Nat×Ct)},(∀p∈l,dO P p.1 p.2)->∀f g,oL l f=some g->dO P f g
 | [],_,f,g,h=>by simp[oL]at h
 | (k,c)::l,hl,f,g,h=>by
   simp only[oL]at h;split at h
   ·simp_all
   ·exact lJ (fun p hp=>hl p (by simp[hp])) f g h
mutual
def kR:V->Bool
 | .lp _ _=>false
 | .lx _ _ _ _ _ _=>false
 | .sc _ _ _=>false
 | .so _ _=>false
 | .ap _ _ _ _=>false
 | .ax _ _ _ _ _ _ _ _=>false
 | .sa _=>false
 | .op _ _=>false
 | .yl _=>false
 | .mp _=>false
 | .ch _ _ _ _=>false
 | .bs _ _ _=>false
 | .ks _ _ _ _ _| .vw _ _ _ _=>false
 | .fn _ l=>mc l
 | .ic _ x=>kR x
 | .ag l=>mc l
 | .tp l=>mc l
 |_=>true
def mc:List V->Bool
 | []=>true
 |x::l=>kR x&&mc l
end
mutual
theorem pU{K K':Nat->Prop}:∀v,kR v=true->ok K v->ok K' v
 | .lp _ _,h,_| .lx _ _ _ _ _ _,h,_| .sc _ _ _,h,_| .so _ _,h,_| .ap _ _ _ _,h,_| .sa _,h,_| .op _ _,h,_| .yl _,h,_| .mp _,h,_| .ch _ _ _ _,h,_| .ax _ _ _ _ _ _ _ _,h,_| .bs _ _ _,h,_| .ks _ _ _ _ _,h,_| .vw _ _ _ _,h,_=>by simp[kR]at h
 | .fn _ l,h,hk=>ql l h hk
 | .ic _ x,h,hk=>pU x h hk
 | .ag l,h,hk=>⟨ql l h hk.1,hk.2⟩
 | .tp l,h,hk=>ql l h hk
 | .cb _,_,hk| .bo _,_,hk| .ci _ _,_,hk| .it _ _,_,hk| .bt _,_,hk| .st _,_,hk| .nl _,_,hk| .key _,_,hk| .sl _,_,hk| .by _,_,hk| .ob _,_,hk=>hk
theorem ql{K K':Nat->Prop}:∀l,mc l=true->fq K l->fq K' l
 | [],_,_=>trivial
 |x::l,h,hk=>by
  simp only[mc,af]at h;exact⟨pU x h.1 hk.1,ql l h.2 hk.2⟩
end
theorem s9{K:Nat->Prop}{v:V}(h:kR v=true)(hk:ok K v)(J ρ':Env):den ρ' v=den J v:=
 gr (N:=fun _=>False) (fun _ h=>h.elim) v (pU v h hk)
def sX(v:V)(v':V)(_:List aS):Prop:=
 match wK v' v with
 |some l=>iD l
 |none=>False
def vZ(x v:V)(_:List aS):Prop:=∀J K,tn J K v x
theorem eC{x v:V}{r:List aS}(h:sX x v r):vZ x v r:=by
 unfold sX at h;split at h
 ·rename_i l hl;exact fun J K=>qY J K _ _ l hl h
 ·exact h.elim
theorem aM.mono[Fen]{P:Program}{f:Nat}{args:List V}{res:List aS}{K K' KP KP':V->List aS->Prop}(h:aM P f args res K KP)(hK:∀v r,K v r->K' v r)(hP:∀v r,KP v r->KP' v r):
  aM P f args res K' KP':=by
 intro J fps w0 F0 w hH ha;refine(h J fps w0 F0 w hH ha).mono fun e w' ⟨x,ρ',fps',res',g1,g2,g3,g4⟩=>⟨x,ρ',fps',res',g1,g2,g3,?_⟩
 rcases g4 with⟨e1,e2⟩|⟨e1,e2⟩
 ·exact .inl ⟨e1,hK _ _ e2⟩
 ·exact .inr ⟨e1,hP _ _ e2⟩
def abo(l m:List V):Prop:=(∀J,bG J l=bG J m)/\∀K,fq K l->fq (fun _=>False) m
theorem vd[Fen]{P:Program}{f:Nat}{g:Ct}(h:∀res nid args q x new,g res nid args=some (q,x,new)->new= []/\kR x=true/\
  ∃args',abo args args'/\(cM q->fq (fun _=>False) args'->aM P f args' [] (vZ x) (fun _ _=>False))):dO P f g:=by
 intro J fps res K w0 F0 w nid args q x new hH hargs hg hq hfr;obtain⟨rfl,hid,args',⟨s1,s2⟩,hc⟩:=h res nid args q x new hg;refine⟨?_,fun k hk=>by simp at hk⟩
 have hok:=s2 K hargs
 have hrep:bp J (fun _ _=>False) [] (known []) w (fun _=>False) w:=
  ⟨fun i hi=>hi,Nat.le_refl _,rfl,rfl,rfl,fun i hi=>by simp[known,aN]at hi,fun i b hi=>by simp[known,aN]at hi,fun i j b hi=>by simp[known,aN]at hi,fun i b hi=>by simp[known,aN]at hi,fun _ _ _=>rfl⟩
 have hcall:=hc hq hok J (fun _ _=>False) w (fun _=>False) w hrep (by rw[jn]at hok⊢;exact fun z hz=>gi (hok z hz))
 rw[s1 J];refine hcall.mono fun e w' ⟨y,ρ',fps',res',g1,g2,g3,g4⟩=>?_
 rcases g4 with⟨rfl,hK⟩|⟨_,hK⟩
 ·refine⟨_,rfl,J,?_,?_,?_⟩
  ·have hb:Below w.heap.size w w':=by
    refine⟨g1.os,g1.tape,g1.output,g1.old,fun b hb=>g1.same b hb (fun h=>h)⟩
   exact⟨hb,Env.agree.refl _ _,fun _ _=>False,fun k hk=>by simp at hk,fun k l b hk=>by simp at hk⟩
  ·obtain⟨e1,e2,_⟩:=hK ρ' (known res');rw[e1];exact s9 hid (e2 g3) J ρ'
  ·obtain⟨e1,e2,_⟩:=hK ρ' (known res');exact pU x hid (e2 g3)
 ·exact hK.elim
def tG{α:Type}(r:V->Option α)(m:α->V):Prop:=∀v x,r v=some x->(∀J,den J v=den J (m x))/\∀K,ok K v->ok (fun _=>False) (m x)
def rI(k:IntKind)(v:V):Option Int:=
 match toInt v with
 |some (k',n)=>if k==k' then some n else none
 |none=>none
def rK(v:V):Option Key:=
 match v with
 | .key k=>some k
 | .ag l=>match l with
   | [a,b,c,d,e,f]=>match rI .i64 a with
     |some a=>match rI .i64 b with
      |some b=>match rI .i64 c with
       |some c=>match rI .i64 d with
        |some d=>match rI .i64 e with
         |some e=>match rI .i64 f with
          |some f=>some ⟨a,b,c,d,e,f⟩
          |none=>none
         |none=>none
        |none=>none
       |none=>none
      |none=>none
     |none=>none
   |_=>none
 |_=>none
def rO:V->Option Obj
 | .ob o=>some o
 |_=>none
theorem N3:tG toBool V.bo:=by
 intro v x h;cases v<;>simp[toBool]at h<;>subst h<;>exact⟨fun _=>rfl,fun _ _=>trivial⟩
theorem iO(k:IntKind):tG (rI k) (V.it k):=by
 intro v x h;unfold rI at h;cases v<;>simp[toInt]at h<;>obtain⟨rfl,rfl⟩:=h
 ·exact⟨fun _=>rfl,fun _ hk=>hk⟩
 ·exact⟨fun _=>rfl,fun _ hk=>hk⟩
 ·rename_i b;refine⟨fun _=>rfl,fun _ _=>?_⟩
  have:=b.toNat_lt;simp only[ok,cB,WL];omega
theorem iF:tG rK V.key:=by
 intro v x h;unfold rK at h;split at h
 ·simp only[aa]at h;subst h;exact⟨fun _=>rfl,fun _ hk=>hk⟩
 ·split at h
  case h_2=>simp at h
  split at h<;>try(simp at h;done)
  rename_i h1;split at h<;>try(simp at h;done)
  rename_i h2;split at h<;>try(simp at h;done)
  rename_i h3;split at h<;>try(simp at h;done)
  rename_i h4;split at h<;>try(simp at h;done)
  rename_i h5;split at h<;>simp only[aa,reduceCtorEq]at h
  rename_i h6;subst h;have e1:=iO .i64 _ _ h1;have e2:=iO .i64 _ _ h2;have e3:=iO .i64 _ _ h3;have e4:=iO .i64 _ _ h4;have e5:=iO .i64 _ _ h5;have e6:=iO .i64 _ _ h6;refine⟨fun J=>?_,fun K hK=>?_⟩
  ·simp only[den,br,e1.1 J,e2.1 J,e3.1 J,e4.1 J,e5.1 J,e6.1 J];rfl
  ·obtain⟨⟨k1,k2,k3,k4,k5,k6,_⟩,_⟩:=hK;exact⟨e1.2 K k1,e2.2 K k2,e3.2 K k3,e4.2 K k4,e5.2 K k5,e6.2 K k6⟩
 ·simp at h
theorem ack{v:V}{x:Key}(h:rK v=some x):cE v=false:=by
 cases v<;>first|rfl|simp[rK]at h
theorem BG:tG rO V.ob:=by
 intro v x h;cases v<;>simp[rO]at h<;>subst h<;>exact⟨fun _=>rfl,fun _ hk=>hk⟩
def mk0(F:V):Ct:=fun _ _ xs=>match xs with
 | []=>some (none,F,[])
 |_=>none
def W5{α:Type}(r:V->Option α)(F:α->V):Ct:=fun _ _ xs=>match xs with
 | [a]=>match r a with
   |some x=>some (none,F x,[])
   |none=>none
 |_=>none
def Xm{α β:Type}(r:V->Option α)(s:V->Option β)(F:α->β->V):Ct:=fun _ _ xs=>match xs with
 | [a,b]=>match r a,s b with
   |some x,some y=>some (none,F x y,[])
   |_,_=>none
 |_=>none
def mk3{α β γ:Type}(r:V->Option α)(s:V->Option β)(t:V->Option γ)(F:α->β->γ->V):Ct:=fun _ _ xs=>match xs with
 | [a,b,c]=>match r a,s b,t c with
   |some x,some y,some z=>some (none,F x y z,[])
   |_,_,_=>none
 |_=>none
theorem aai[Fen]{P:Program}{f:Nat}{F:V}(hF:kR F=true)(h:aM P f [] [] (sX F) (fun _ _=>False)):dO P f (mk0 F):=by
 refine vd fun res nid args q x new hg=>?_
 unfold mk0 at hg;split at hg<;>simp only[aa,ae,reduceCtorEq]at hg
 obtain⟨rfl,rfl,rfl⟩:=hg;exact⟨rfl,hF,[],⟨fun _=>rfl,fun _ _=>trivial⟩,fun _ _=>h.mono (fun _ _=>eC) fun _ _ h=>h⟩
theorem XU[Fen]{P:Program}{f:Nat}{F:V}(hF:kR F=true)(h:aM P f [] [] (fun v _=>v=F) (fun _ _=>False)):dO P f (mk0 F):=by
 refine vd fun res nid args q x new hg=>?_
 unfold mk0 at hg;split at hg<;>simp only[aa,ae,reduceCtorEq]at hg
 obtain⟨rfl,rfl,rfl⟩:=hg;exact⟨rfl,hF,[],⟨fun _=>rfl,fun _ _=>trivial⟩,fun _ _=>h.mono (fun v _ e=>by subst e;exact fun J K=>tn.refl J K v) fun _ _ h=>h⟩
theorem tE[Fen]{P:Program}{f:Nat}{α:Type}{r:V->Option α}{m:α->V}{F:α->V}(hr:tG r m)(hF:∀x,kR (F x)=true)
  (h:∀x,ok (fun _=>False) (m x)->aM P f [m x] [] (sX (F x)) (fun _ _=>False)):dO P f (W5 r F):=by
 refine vd fun res nid args q x new hg=>?_
 unfold W5 at hg;split at hg<;>(try split at hg)<;>simp only[aa,ae,reduceCtorEq]at hg
 rename_i a x h1;obtain⟨rfl,rfl,rfl⟩:=hg;obtain⟨a1,a2⟩:=hr _ x h1;exact⟨rfl,hF x,[m x],⟨fun J=>by simp[bG,a1 J],fun K hK=>⟨a2 K hK.1,trivial⟩⟩,fun _ hok=>(h x hok.1).mono (fun _ _=>eC) fun _ _ h=>h⟩
theorem tZ[Fen]{P:Program}{f:Nat}{α β:Type}{r:V->Option α}{s:V->Option β}{m:α->V}{n:β->V}{F:α->β->V}(hr:tG r m)(hs:tG s n)(hF:∀x y,kR (F x y)=true)
  (h:∀x y,ok (fun _=>False) (m x)->ok (fun _=>False) (n y)->aM P f [m x,n y] [] (sX (F x y)) (fun _ _=>False)):dO P f (Xm r s F):=by
 refine vd fun res nid args q x new hg=>?_
 unfold Xm at hg;split at hg<;>(try split at hg)<;>simp only[aa,ae,reduceCtorEq]at hg
 rename_i a b x y h1 h2;obtain⟨rfl,rfl,rfl⟩:=hg;obtain⟨a1,a2⟩:=hr _ x h1;obtain⟨b1,b2⟩:=hs _ y h2;exact⟨rfl,hF x y,[m x,n y],⟨fun J=>by simp[bG,a1 J,b1 J],fun K hK=>⟨a2 K hK.1,b2 K hK.2.1,trivial⟩⟩,fun _ hok=>(h x y hok.1 hok.2.1).mono (fun _ _=>eC) fun _ _ h=>h⟩
theorem RU[Fen]{P:Program}{f:Nat}{α β γ:Type}{r:V->Option α}{s:V->Option β}{t:V->Option γ}{m:α->V}{n:β->V}{o:γ->V}{F:α->β->γ->V}(hr:tG r m)(hs:tG s n)(ht:tG t o)
  (hF:∀x y z,kR (F x y z)=true)
  (h:∀x y z,ok (fun _=>False) (m x)->ok (fun _=>False) (n y)->ok (fun _=>False) (o z)->aM P f [m x,n y,o z] [] (sX (F x y z)) (fun _ _=>False)):dO P f (mk3 r s t F):=by
 refine vd fun res nid args q x new hg=>?_
 unfold mk3 at hg;split at hg<;>(try split at hg)<;>simp only[aa,ae,reduceCtorEq]at hg
 rename_i a b c x y z h1 h2 h3;obtain⟨rfl,rfl,rfl⟩:=hg;obtain⟨a1,a2⟩:=hr _ x h1;obtain⟨b1,b2⟩:=hs _ y h2;obtain⟨c1,c2⟩:=ht _ z h3;exact⟨rfl,hF x y z,[m x,n y,o z],⟨fun J=>by simp[bG,a1 J,b1 J,c1 J],fun K hK=>⟨a2 K hK.1,b2 K hK.2.1,c2 K hK.2.2.1,trivial⟩⟩,fun _ hok=>(h x y z hok.1 hok.2.1 hok.2.2.1).mono (fun _ _=>eC) fun _ _ h=>h⟩
def inL:List Nat->Nat->Bool
 | [],_=>false
 |x::l,i=>x==i||inL l i
def abE:List (Nat×V)->Nat->Option V
 | [],_=>none
 | (j,v)::l,i=>if j==i then some v else abE l i
def M9(lq:List Nat)(set:List (Nat×V)):Nat->List S->List S
 |_,[]=> []
 |i,s::l=>(match abE set i with
  |some v=> .v v
  |none=>if inL lq i then s else .und)::M9 lq set (i+1) l
def lpI(lq:List Nat)(t:Nat)(inv:Int->Prop)(m:Int):di:=
 {γ:=Int,head:=fun U g=> {U with slots:=M9 lq [(t,.it .i64 g)] 0 U.slots},inv:=inv,μ:=fun g=>ny (u9 m g)}
def WX(lq:List Nat)(set:Int->List (Nat×V))(inv:Int->Prop)(m:Int):di:=
 {γ:=Int,head:=fun U g=> {U with slots:=M9 lq (set g) 0 U.slots},inv:=inv,μ:=fun g=>ny (u9 m g)}
def lf:List (Nat×Nat×di)->Nat->Nat->Option di
 | [],_,_=>none
 | (f,r,A)::l,f',r'=>if f==f'&&r==r' then some A else lf l f' r'
def bn(_ _:Nat):Option di:=none
def cH(_:Nat):Bool:=false
def noH:Handler:=fun _ _ _ _ _=>False
end Go.Sx
namespace Go.Proofs.YtmfbohanboiklaaGreat
open Go.Sx
noncomputable def cf (l:List (Nat×Ct)) (inl:Nat->Bool) (ann:Nat->Nat->Option di):JY:= {P:=Tryz.prog,Z:=zeroOf,Γ:=oL l,H0:=noH,inl:=inl,ann:=ann,opn:=I4 inl}
theorem NK[Fen]{l:List (Nat×Ct)}{inl:Nat->Bool}{ann:Nat->Nat->Option di}(hl:∀p∈l,dO Tryz.prog p.1 p.2):(cf l inl ann).toCtx.Sound:=
 ⟨wP nE,Tryz.checked.mixed,fun f g hg=>lJ hl f g hg,fun f ts te h=>by simp[cf]at h⟩
abbrev vc(l:List (Nat×Ct))(inl:Nat->Bool)(ann:Nat->Nat->Option di)(f:Nat)(args:List V)(res:List aS)(K KP:V->List aS->Prop):Prop:=
 enter (cf l inl ann).toCtx (exec (cf l inl ann) 100 ⟨false,none⟩) (exec (cf l inl ann) 100 ⟨false,none⟩ f) f args res K KP
set_option maxRecDepth 100000 in
theorem bP[Fen]{l:List (Nat×Ct)}{inl:Nat->Bool}{ann:Nat->Nat->Option di}(hl:∀p∈l,dO Tryz.prog p.1 p.2){f:Nat}{args:List V}{res:List aS}{K KP:V->List aS->Prop}
  {G:Prop} (hG:G) (h:G=vc l inl ann f args res K KP):aM Tryz.prog f args res K KP:=
 yB (C:=cf l inl ann) (n:=100) (NK hl) (fun _ _ _ _ _ hh=>hh.elim) (fun(h:false=true)=>Bool.noConfusion h) (Eq.mp h hG)
end Go.Proofs.YtmfbohanboiklaaGreat
namespace Go.Sx
theorem aP[Fen]{P:Program}:∀p∈([]:List (Nat×Ct)),dO P p.1 p.2:=by simp
theorem aH[Fen]{P:Program}{f:Nat}{g:Ct}{l:List (Nat×Ct)}(h:dO P f g)(t:∀p∈l,dO P p.1 p.2):∀p∈(f,g)::l,dO P p.1 p.2:=by
 simp_all
open Go.RowKit (Below)
theorem bp.B8{J:Env}{fps:Nat->Nat->Prop}{res:List aS}{K:Nat->Prop}{w0:World}{F0:Nat->Prop}{w:World}(h:bp J fps res K w0 F0 w){i:Nat}{r:aS}
  (hr:cC res i=r) (hk:known res i):∃fp:Nat->Prop,r.holds K J i fp w0 F0 w/\∀b,fp b->fps i b\/(b<w0.heap.size/\¬F0 b):=by
 have hh:=h.holds i hk;unfold cC at hr;split at hr
 ·rename_i r' he;rw[he]at hh;subst hr;obtain⟨fp',h1,h2⟩:=hh;exact⟨fp',aS.fU _ h1 fun b hb=>h.same b (h2 b hb).1 (h2 b hb).2,fun b hb=> .inr (h2 b hb)⟩
 ·subst hr;exact⟨fps i,hh,fun b hb=> .inl hb⟩
def fz(κ:Nat->Option Nat)(res:List aS):List (Nat×Bool)->List aS
 | []=> []
 | (p,o)::l=>(if o then gB κ (aN res p)else .ro (gB κ (cC res p)))::fz κ res l
def dS:List (Nat×Bool)->List Nat
 | []=> []
 | (p,_)::l=>p::dS l
def fj(res:List aS):List (Nat×Bool)->Bool
 | []=>true
 | (p,_)::l=>jl res p&&fj res l
theorem oe:∀(l:List (Nat×Bool)) (i:Nat),(dS l)[i]? =(l[i]?).map (·.1)
 | [],i=>by simp[dS]
 | (p,o)::l,0=>by simp[dS]
 | (p,o)::l,i+1=>by simp[dS,oe l i]
theorem wh(κ:Nat->Option Nat)(res:List aS):∀(l:List (Nat×Bool)) (i:Nat),aN (fz κ res l) i=match l[i]? with
  |some (p,o)=>if o then gB κ (aN res p)else .ro (gB κ (cC res p))
  |none=> .yet
 | [],i=>by simp[fz,aN]
 | (p,o)::l,0=>by simp[fz,aN]
 | (p,o)::l,i+1=>by simp[fz,aN,wh κ res l i]
theorem uZ(κ:Nat->Option Nat)(res:List aS):∀(l:List (Nat×Bool)),(fz κ res l).length=l.length
 | []=>rfl
 | (p,o)::l=>by simp[fz,uZ κ res l]
theorem ev{res:List aS}:∀{l:List (Nat×Bool)},fj res l=true->∀(i:Nat) (p:Nat) (o:Bool),l[i]? =some (p,o)->known res p
 | [],_,i,p,o,h=>by simp at h
 | (x,y)::l,hk,i,p,o,h=>by
   simp only[fj,af]at hk;cases i with
   |zero=>simp at h;obtain⟨rfl,_⟩:=h;exact cI.1 hk.1
   |succ i=>exact ev hk.2 i p o (by simpa using h)
theorem og{p:Nat}:∀(l:List Nat) (m k:Nat),l.Nodup->l[k]? =some p->idxOf l m p=some (m+k)
 | [],m,k,_,h=>by simp at h
 |x::l,m,k,hnd,h=>by
  simp only[idxOf];cases k with
  |zero=>simp at h;subst h;simp
  |succ k=>
   simp at h
   have hne:(x==p)=false:=by
    grind
   rw[hne];simp only[Bool.false_eq_true,if_false];rw[og l (m+1) k (List.nodup_cons.1 hnd).2 h];congr 1;omega
theorem KE{l:List Nat}{p i:Nat}(h:lL 0 l p=some i):l[i]? =some p:=by
 unfold lL at h;split at h
 ·rename_i hb;simp at hb
 ·have:=jj h;simpa using this.2.2
theorem DL{l:List Nat}{p i:Nat}(hnd:l.Nodup)(h:l[i]? =some p):lL 0 l p=some i:=by
 unfold lL;rw[aq (by simp),og l 0 i hnd h];simp
def Frame(J:Env)(fps:Nat->Nat->Prop)(pl:List (Nat×Bool))(b:Nat):Prop:=∃(i p:Nat),pl[i]? =some (p,true)/\fps p b
section
variable {J:Env} {fps:Nat->Nat->Prop} {res:List aS} {w0 w:World} {F0:Nat->Prop}
theorem bp.fz{K:Nat->Prop}(h:bp J fps res K w0 F0 w){pl:List (Nat×Bool)}(hk:fj res pl=true)(hnd:(dS pl).Nodup):
  bp (J.pull (src 0 (dS pl))) (fun i b=>∃p:Nat,pl[i]? =some (p,true)/\fps p b) (fz (lL 0 (dS pl)) res pl) (known (fz (lL 0 (dS pl)) res pl)) w (Frame J fps pl) w/\
   (∀i,i<pl.length->known (fz (lL 0 (dS pl)) res pl) i)/\Env.via (lL 0 (dS pl)) J (J.pull (src 0 (dS pl)))/\∀p i,lL 0 (dS pl) p=some i->K p->known (Sx.fz (lL 0 (dS pl)) res pl) i:=by
 generalize hκ:lL 0 (dS pl)=κ
 have hπ:∀p i,κ p=some i->src 0 (dS pl) i=p:=fun p i hp=>by subst hκ;exact JZ hp
 have hv:Env.via κ J (J.pull (src 0 (dS pl))):=rf hπ
 have hsome:∀i p o,pl[i]? =some (p,o)->κ p=some i:=fun i p o hi=>by
  subst hκ;exact DL hnd (by rw[oe,hi];rfl)
 have hkn:∀i p o,pl[i]? =some (p,o)->known (Sx.fz κ res pl) i:=fun i p o hi=>by
  unfold known;rw[wh,hi];simp only;split
  ·exact fun e=>ev hk i p o hi (mF.1 e)
  ·simp
 have hget:∀i,known (Sx.fz κ res pl) i->∃p o,pl[i]? =some (p,o):=fun i hi=>by
  have:=aY hi;rw[uZ]at this;exact⟨pl[i].1,pl[i].2,by rw[List.getElem?_eq_getElem this]⟩
 have hN:∀p i,κ p=some i->K p->known (Sx.fz κ res pl) i:=fun p i hp _=>by
  subst hκ;have:=KE hp;rw[oe]at this;cases hi:pl[i]? with
  |none=>rw[hi]at this;simp at this
  |some po=>exact hkn i po.1 po.2 hi
 have huniq:∀i j p o o',pl[i]? =some (p,o)->pl[j]? =some (p,o')->i=j:=fun i j p o o' hi hj=>by
  have a:=hsome i p o hi;rw[hsome j p o' hj]at a;simpa using a.symm
 have hfr:∀b,b<w0.heap.size->¬F0 b->w.heap[b]? =w0.heap[b]? /\¬Frame J fps pl b:=fun b hb hF=>by
  refine⟨h.same b hb hF,?_⟩;rintro⟨i,p,hi,hf⟩
  exact hF (h.inF p b (ev hk i p true hi) hf hb)
 refine⟨⟨fun i hi=>hi,Nat.le_refl _,rfl,rfl,rfl,fun i hi=>?_,?_,?_,?_,fun _ _ _=>rfl⟩,fun i hi=>hkn i pl[i].1 pl[i].2 (by rw[List.getElem?_eq_getElem hi]),hv,hN⟩
 ·obtain⟨p,o,hp⟩:=hget i hi;have hkp:=ev hk i p o hp;rw[wh,hp];simp only;cases o with
  |true=>
   simp only[if_true];have:=aS.tY h.old hfr _ _ (h.holds p hkp);have:=iN hv hN (hsome i p true hp) _ _ _ this
   have e:(fun b=>∃p':Nat,some (p,true)=some (p',true)/\fps p' b)=fps p:=by
    funext b;simp
   rw[e];exact this
  |false=>
   simp only[Bool.false_eq_true,if_false];obtain⟨fp,g1,g2⟩:=h.B8 rfl hkp;refine⟨fp,iN hv hN (hsome i p false hp) _ _ _ (aS.tY h.old hfr _ _ g1),fun b hb=>?_⟩
   rcases g2 b hb with hf|⟨hl,hF⟩
   ·refine⟨h.lt p b hkp hf,?_⟩;rintro⟨j,p',hj,hf'⟩
    have hkp':=ev hk j p' true hj;refine h.disj p p' b hkp hkp' (fun e=>?_) hf hf'
    subst e;have:=huniq i j p false true hp hj;subst this;rw[hp]at hj;simp at hj
   ·exact⟨Nat.lt_of_lt_of_le hl h.old,(hfr b hl hF).2⟩
 ·rintro i b hi ⟨p,hp,hf⟩
  exact h.lt p b (ev hk i p true hp) hf
 ·rintro i j b hi hj hne ⟨p,hp,hf⟩ ⟨p',hp',hf'⟩
  refine h.disj p p' b (ev hk i p true hp) (ev hk j p' true hp') (fun e=>hne ?_) hf hf'
  subst e;exact huniq i j p true true hp hp'
 ·rintro i b hi ⟨p,hp,hf⟩ _
  exact⟨i,p,hp,hf⟩
def gf(κ2:Nat->Option Nat)(r':List aS):Nat->List (Nat×Bool)->List aS->List aS
 |_,[],res=>res
 |i,(p,o)::l,res=>if o then gf κ2 r' (i+1) l (bR res p (gB κ2 (aN r' i)))else gf κ2 r' (i+1) l res
def xY:List (Nat×Bool)->Nat->Option Nat
 | [],_=>none
 | (p,_)::_,0=>some p
 |_::l,i+1=>xY l i
def back(pl:List (Nat×Bool))(ext:List Nat)(n j:Nat):Option Nat:=
 match xY pl j with
 |some p=>some p
 |none=>idxOf ext n j
def merge(pl:List (Nat×Bool))(ext:List Nat)(r' res:List aS):List aS:=
 gf (back pl ext res.length) r' 0 pl res++gZ (back pl ext res.length) r' ext
theorem yE:∀(l:List (Nat×Bool)) (i:Nat),xY l i=(l[i]?).map (·.1)
 | [],i=>by simp[xY]
 | (p,o)::l,0=>by simp[xY]
 | (p,o)::l,i+1=>by simp[xY,yE l i]
theorem n9(κ2:Nat->Option Nat)(r':List aS):∀(l:List (Nat×Bool)) (i:Nat) (res:List aS),(gf κ2 r' i l res).length=res.length
 | [],_,_=>rfl
 | (p,o)::l,i,res=>by
   simp only[gf];split
   ·rw[n9 κ2 r' l,bX]
   ·exact n9 κ2 r' l _ _
theorem my(κ2:Nat->Option Nat)(r':List aS):∀(l:List (Nat×Bool)) (i:Nat) (res:List aS) (x:Nat),(∀k:Nat,l[k]? ≠some (x,true))->(∀(k p:Nat) (o:Bool),l[k]? =some (p,o)->p<res.length)->aN (gf κ2 r' i l res) x=aN res x
 | [],_,_,_,_,_=>rfl
 | (p,o)::l,i,res,x,h,hb=>by
   have hl:∀k:Nat,l[k]? ≠some (x,true):=fun k=>by have:=h (k+1);simpa using this
   have hb':∀(k p:Nat) (o:Bool),l[k]? =some (p,o)->p<res.length:=fun k p o hk=>hb (k+1) p o (by simpa using hk)
   simp only[gf];split
   ·rename_i ho;subst ho;have hne:x≠p:=fun e=>h 0 (by simp[e])
    rw[my κ2 r' l _ _ x hl (fun k p o hk=>by rw[bX];exact hb' k p o hk),bI _ _ _ _ (hb 0 p true (by simp)),aq hne]
   ·exact my κ2 r' l _ _ x hl hb'
theorem sk(κ2:Nat->Option Nat)(r':List aS):∀(l:List (Nat×Bool)) (i:Nat) (res:List aS) (x k:Nat),l[k]? =some (x,true)->(dS l).Nodup->(∀(k p:Nat) (o:Bool),l[k]? =some (p,o)->p<res.length)->
  aN (gf κ2 r' i l res) x=gB κ2 (aN r' (i+k))
 | [],_,_,_,_,h,_,_=>by simp at h
 | (p,o)::l,i,res,x,k,h,hnd,hb=>by
   have hb':∀(k p:Nat) (o:Bool),l[k]? =some (p,o)->p<res.length:=fun k p o hk=>hb (k+1) p o (by simpa using hk)
   have hnd':=List.nodup_cons.1 (show(p::dS l).Nodup from hnd);simp only[gf];cases k with
   |zero=>
    simp at h;obtain⟨rfl,rfl⟩:=h;simp only[if_true,Nat.add_zero];rw[my κ2 r' l _ _ p (fun k hk=>hnd'.1 (List.mem_of_getElem? (i:=k) (by rw[oe,hk];rfl))) (fun k p o hk=>by rw[bX];exact hb' k p o hk),bI _ _ _ _ (hb 0 p true (by simp)),ar rfl]
   |succ k=>
    have h:l[k]? =some (x,true):=by simpa using h
    split
    ·rw[sk κ2 r' l _ _ x k h hnd'.2 (fun k p o hk=>by rw[bX];exact hb' k p o hk)]
     congr 2;omega
    ·rw[sk κ2 r' l _ _ x k h hnd'.2 hb'];congr 2;omega
def Env.join(n:Nat)(ext:List Nat)(J ρ2:Env):Env:=
 {num:=fun i=>if i<n then J.num i else ρ2.num (ext.getD (i-n) 0),cap:=fun i=>if i<n then J.cap i else ρ2.cap (ext.getD (i-n) 0),adr:=fun i=>if i<n then J.adr i else ρ2.adr (ext.getD (i-n) 0),
  sa:=fun i=>if i<n then J.sa i else ρ2.sa (ext.getD (i-n) 0),sn:=fun i=>if i<n then J.sn i else ρ2.sn (ext.getD (i-n) 0),ob:=fun i=>if i<n then J.ob i else ρ2.ob (ext.getD (i-n) 0)}
section
variable {J:Env} {fps:Nat->Nat->Prop} {res:List aS} {w0 w:World} {F0:Nat->Prop}
theorem bp.merge(h:bp J fps res (known res) w0 F0 w){pl:List (Nat×Bool)}(hk:fj res pl=true)(hnd:(dS pl).Nodup){ρ2:Env}{fps2:Nat->Nat->Prop}{r':List aS}{w':World}
  (h2:bp ρ2 fps2 r' (known r') w (Frame J fps pl) w') (hg:Good (J.pull (src 0 (dS pl))) (Sx.fz (lL 0 (dS pl)) res pl) ρ2 r') {ext:List Nat} (he:jH pl.length r'.length ext=true)
  (ho1:∀(i p:Nat),pl[i]? =some (p,true)->jY (aN r' i)=true) (ho2:∀j,j∈ext->jY (aN r' j)=true):
  ∃ρ3 fps3,bp ρ3 fps3 (Sx.merge pl ext r' res) (known (Sx.merge pl ext r' res)) w0 F0 w'/\Good J res ρ3 (Sx.merge pl ext r' res)/\Env.via (back pl ext res.length) ρ2 ρ3/\
   ∀j i,back pl ext res.length j=some i->known r' j->known (Sx.merge pl ext r' res) i:=by
 obtain⟨_,hkr,_,_⟩:=h.fz hk hnd;obtain⟨e1,e2⟩:=pX he;have hlt:∀(k p:Nat) (o:Bool),pl[k]? =some (p,o)->p<res.length:=fun k p o hp=>aY (ev hk k p o hp)
 have hpll:∀(k p:Nat) (o:Bool),pl[k]? =some (p,o)->k<pl.length:=fun k p o hp=>(List.getElem?_eq_some_iff.1 hp).1
 have huniq:∀i j p o o',pl[i]? =some (p,o)->pl[j]? =some (p,o')->i=j:=fun i j p o o' hi hj=>by
  have a:=DL hnd (show(dS pl)[i]? =some p by rw[oe,hi];rfl)
  rw[DL hnd (show(dS pl)[j]? =some p by rw[oe,hj];rfl)]at a
  simpa using a.symm
 have huniqE:∀(a b j:Nat),ext[a]? =some j->ext[b]? =some j->a=b:=fun a b j ha hb=>by
  have x:=og ext 0 a e2 ha;rw[og ext 0 b e2 hb]at x;simpa using x.symm
 have hback1:∀k p o,pl[k]? =some (p,o)->back pl ext res.length k=some p:=fun k p o hp=>by
  unfold back;rw[yE,hp];rfl
 have hback2:∀a j,ext[a]? =some j->back pl ext res.length j=some (res.length+a):=fun a j ha=>by
  unfold back;have:=(e1 j (List.mem_of_getElem? ha)).1;rw[yE,List.getElem?_eq_none this];exact og ext _ a e2 ha
 have hbackS:∀j i,back pl ext res.length j=some i->(∃o,pl[j]? =some (i,o))\/(∃a,ext[a]? =some j/\i=res.length+a):=fun j i hj=>by
  unfold back at hj;rw[yE]at hj;cases hp:pl[j]? with
  |some po=>rw[hp]at hj;simp at hj;exact .inl ⟨po.2,by rw[<-hj]⟩
  |none=>
   rw[hp]at hj;simp at hj;obtain⟨a1,a2,a3⟩:=jj hj;exact .inr ⟨i-res.length,a3,by omega⟩
 have hget:∀i,aN (Sx.merge pl ext r' res) i=if i<res.length then aN (gf (back pl ext res.length) r' 0 pl res) i else match ext[i-res.length]? with|some j=>gB (back pl ext res.length) (aN r' j)|none=> .yet:=fun i=>by
  unfold Sx.merge;rw[ca,n9];by_cases hi:i<res.length
  ·rw[ar hi,ar hi]
  ·grind[rE]
 have hown:∀k p,pl[k]? =some (p,true)->aN (Sx.merge pl ext r' res) p=gB (back pl ext res.length) (aN r' k):=fun k p hp=>by
  rw[hget,ar (hlt k p true hp),sk _ r' pl 0 res p k hp hnd hlt,Nat.zero_add]
 have hother:∀i,i<res.length->(∀k,pl[k]? ≠some (i,true))->aN (Sx.merge pl ext r' res) i=aN res i:=fun i hi hno=>by
  rw[hget,ar hi,my _ r' pl 0 res i hno hlt]
 have hext:∀a j,ext[a]? =some j->aN (Sx.merge pl ext r' res) (res.length+a)=gB (back pl ext res.length) (aN r' j):=fun a j ha=>by
  grind
 have hkr':∀k p o,pl[k]? =some (p,o)->known r' k:=fun k p o hp=>hg.2 k (hkr k (hpll k p o hp))
 have hN:∀j i,back pl ext res.length j=some i->known r' j->known (Sx.merge pl ext r' res) i:=fun j i hj hkj=>by
  rcases hbackS j i hj with⟨o,hp⟩|⟨a,ha,rfl⟩
  ·by_cases hT:∃k:Nat,pl[k]? =some (i,true)
   ·obtain⟨k,hk'⟩:=hT;unfold known;rw[hown k i hk'];exact fun e=>hkr' k i true hk' (mF.1 e)
   ·unfold known;rw[hother i (hlt j i o hp) fun k hk'=>hT ⟨k,hk'⟩]
    exact ev hk j i o hp
  ·unfold known;rw[hext a j ha];exact fun e=>hkj (mF.1 e)
 have hmono:∀i,known res i->known (Sx.merge pl ext r' res) i:=fun i hi=>by
  grind[known,aY]
 have hag:Env.agree (known res) J (Env.join res.length ext J ρ2):=fun i hi=>by
  have:=aY hi;simp[Env.join,this]
 have hvia:Env.via (back pl ext res.length) ρ2 (Env.join res.length ext J ρ2):=fun j i hj=>by
  rcases hbackS j i hj with⟨o,hp⟩|⟨a,ha,rfl⟩
  ·have hil:=hlt j i o hp;have hj':=hg.1 j (hkr j (hpll j i o hp))
   have hsrc:src 0 (dS pl) j=i:=by
    grind[src,oe]
   simp only[Env.pull,hsrc]at hj';obtain⟨a1,a2,a3,a4,a5,a6⟩:=hj';simp[Env.join,hil,a1,a2,a3,a4,a5,a6]
  ·grind[Env.join]
 obtain⟨fps3,g⟩:=h.turn (res':=Sx.merge pl ext r' res) (K':=known (Sx.merge pl ext r' res)) (fun i=>∃k:Nat,pl[k]? =some (i,true)) (fun i=>(∃k:Nat,pl[k]? =some (i,true))\/res.length<=i)
  (fun i b=>(∃k:Nat,pl[k]? =some (i,true)/\fps2 k b)\/(res.length<=i/\∃j,ext[i-res.length]? =some j/\known r' j/\fps2 j b))
  (fun i hi=>hi) hmono hag
  (fun i hi hb=>by
   have hlt':i<res.length:=by
    rcases Nat.lt_or_ge i res.length with h|h
    ·exact h
    ·exact absurd (.inr h) hb
   have e:=hother i hlt' fun k hk'=>hb (.inl ⟨k,hk'⟩)
   exact⟨by unfold known at hi⊢;rw[e]at hi;exact hi,fun hT=>hb (.inl hT),e⟩)
  (fun i hi hb=>by
   have hfoot:∀k b,known r' k->fps2 k b->(∃t,(∃k:Nat,pl[k]? =some (t,true))/\known res t/\fps t b)\/(w.heap.size<=b/\b<w'.heap.size):=fun k b hk' hf=>by
    by_cases hbw:b<w.heap.size
    ·obtain⟨x,p,hp,hfp⟩:=h2.inF k b hk' hf hbw;exact .inl ⟨p,⟨x,hp⟩,ev hk x p true hp,hfp⟩
    ·exact .inr ⟨by omega,h2.lt k b hk' hf⟩
   by_cases hT:∃k:Nat,pl[k]? =some (i,true)
   ·obtain⟨k,hp⟩:=hT;have hkk:=hkr' k i true hp;have hil:=hlt k i true hp
    have e:(fun b=>(∃k:Nat,pl[k]? =some (i,true)/\fps2 k b)\/(res.length<=i/\∃j,ext[i-res.length]? =some j/\known r' j/\fps2 j b))=fps2 k:=by
     funext b
     apply propext
     constructor
     ·rintro(⟨k',hp',hf⟩|⟨hge,_⟩)
      ·rw[huniq k k' i true true hp hp'];exact hf
      ·omega
     ·exact fun hf=> .inl ⟨k,hp,hf⟩
    refine⟨?_,fun b hf=>hfoot k b hkk (by rw[<-e];exact hf)⟩
    rw[e,hown k i hp];exact iN hvia hN (hback1 k i true hp) _ _ _ (l6 (ho1 k i hp) (h2.holds k hkk))
   ·have hge:res.length<=i:=hb.resolve_left hT
    have hj:∃j,ext[i-res.length]? =some j:=by
     unfold known at hi;rw[hget,aq (by omega)]at hi
     cases hx:ext[i-res.length]? with
     |none=>rw[hx]at hi;exact absurd rfl hi
     |some j=>exact⟨j,rfl⟩
    obtain⟨j,hj⟩:=hj
    have hkj:known r' j:=by
     unfold known at hi;rw[hget,aq (by omega),hj]at hi
     exact fun e=>hi (mF.2 e)
    have e:(fun b=>(∃k:Nat,pl[k]? =some (i,true)/\fps2 k b)\/(res.length<=i/\∃j,ext[i-res.length]? =some j/\known r' j/\fps2 j b))=fps2 j:=by
     grind
    refine⟨?_,fun b hf=>hfoot j b hkj (by rw[<-e];exact hf)⟩
    have hie:i=res.length+(i-res.length):=by omega
    have hb2:=hback2 _ j hj;rw[<-hie]at hb2;have hx:=hext _ j hj;rw[<-hie]at hx;rw[e,hx];exact iN hvia hN hb2 _ _ _ (l6 (ho2 j (List.mem_of_getElem? hj)) (h2.holds j hkj)))
  (fun i j b hbi hbj hne hf hf'=>by
   have sel:∀x,((∃k:Nat,pl[k]? =some (x,true)/\fps2 k b)\/(res.length<=x/\∃j,ext[x-res.length]? =some j/\known r' j/\fps2 j b))->∃k,known r' k/\fps2 k b/\((pl[k]? =some (x,true))\/(res.length<=x/\ext[x-res.length]? =some k)):=by
    rintro x (⟨k,hp,hf⟩|⟨hge,j,hj,hkj,hf⟩)
    ·exact⟨k,hkr' k x true hp,hf,.inl hp⟩
    ·exact⟨j,hkj,hf,.inr ⟨hge,hj⟩⟩
   obtain⟨k,k1,k2,k3⟩:=sel i hf;obtain⟨l,l1,l2,l3⟩:=sel j hf';refine h2.disj k l b k1 l1 (fun e=>hne ?_) k2 l2
   subst e;rcases k3 with k3|⟨k3,k4⟩<;>rcases l3 with l3|⟨l3,l4⟩
   ·rw[k3]at l3;simp at l3;exact l3
   ·grind
   ·have:=(e1 k (List.mem_of_getElem? k4)).1;have:=hpll k j true l3;omega
   ·have:=huniqE _ _ _ k4 l4;omega)
  h2.os h2.tape h2.output h2.old
  (fun b hb hno=>h2.same b hb fun⟨i,p,hp,hf⟩=>hno p ⟨i,hp⟩ (ev hk i p true hp) hf)
 exact⟨_,fps3,g,⟨hag,hmono⟩,hvia,hN⟩
end
end
def me(r':List aS):Nat->List (Nat×Bool)->Bool
 |_,[]=>true
 |i,(_,o)::l=>(if o then jY (aN r' i)else true)&&me r' (i+1) l
theorem xj{r':List aS}:∀{l:List (Nat×Bool)} {i:Nat},me r' i l=true->∀k p:Nat,l[k]? =some (p,true)->jY (aN r' (i+k))=true
 | [],i,_,k,p,h=>by simp at h
 | (x,o)::l,i,ha,k,p,h=>by
   simp only[me,af]at ha;cases k with
   |zero=>simp at h;obtain⟨_,rfl⟩:=h;simpa using ha.1
   |succ k=>
    have:=xj ha.2 k p (by simpa using h)
    rwa [show i+(k+1)=i+1+k by omega]
def pS(r':List aS):List Nat->Bool
 | []=>true
 |j::l=>jY (aN r' j)&&pS r' l
theorem vp{r':List aS}:∀{l:List Nat},pS r' l=true->∀j∈l,jY (aN r' j)=true
 | [],_,j,h=>by simp at h
 |x::l,ha,j,h=>by
  simp only[pS,af]at ha;rcases List.mem_cons.1 h with rfl|h
  ·exact ha.1
  ·exact vp ha.2 j h
def kJ(κ:Nat->Option Nat)(v v3:V):Prop:=∀(ρ2 ρ3:Env) (N N':Nat->Prop),Env.via κ ρ2 ρ3->(∀j i,κ j=some i->N j->N' i)->ok N v->den ρ3 v3=den ρ2 v/\ok N' v3
theorem kJ.kR{κ:Nat->Option Nat}{v x:V}(h:vZ x v [])(hx:Sx.kR x=true):kJ κ v x:=fun ρ2 ρ3 N N' _ _ hv=>by
 obtain⟨s1,s2,_⟩:=h ρ2 N;exact⟨by rw[s1];exact s9 hx (s2 hv) ρ2 ρ3,pU x hx (s2 hv)⟩
def aae(pl:List (Nat×Bool))(res:List aS)(v:V)(r':List aS)(K:V->List aS->Prop):Prop:=
 ∃(ext:List Nat) (v3:V),jH pl.length r'.length ext=true/\me r' 0 pl=true/\pS r' ext=true/\kJ (back pl ext res.length) v v3/\K v3 (merge pl ext r' res)
section
variable {P:Program}
theorem aM.frame[Fen]{f:Nat}{args args0:List V}{res:List aS}{pl:List (Nat×Bool)}{K0 KP0 K KP:V->List aS->Prop}(hk:fj res pl=true)(hnd:jH 0 res.length (dS pl)=true)
  (ha:eY (lL 0 (dS pl)) args=some args0) (hc:aM P f args0 (fz (lL 0 (dS pl)) res pl) K0 KP0)
  (hK:∀v r',K0 v r'->aae pl res v r' K) (hKP:∀v r',KP0 v r'->aae pl res v r' KP):aM P f args res K KP:=by
 intro J fps w0 F0 w hH hargs;have hnd:=(pX hnd).2;obtain⟨g1,g2,g3,g4⟩:=hH.fz hk hnd;obtain⟨a1,_,a3,_⟩:=jq g3 g4 _ _ ha;rw[<-a1];refine(hc _ _ _ _ _ g1 (a3 hargs)).mono fun e w' ⟨x,ρ2,fps2,r',h1,h2,h3,h4⟩=>?_
 have fin:∀{K:V->List aS->Prop},aae pl res x r' K->∃x' ρ' fps' res',bp ρ' fps' res' (known res') w0 F0 w'/\Good J res ρ' res'/\ok (known res') x'/\den ρ' x'=den ρ2 x/\K x' res':=by
  rintro K ⟨ext,v3,b1,b2,b3,b4,b5⟩
  obtain⟨ρ3,fps3,m1,m2,m3,m4⟩:=hH.merge hk hnd h1 h2 b1 (fun i p hp=>by have:=xj b2 i p hp;rwa [Nat.zero_add]at this) (vp b3)
  obtain⟨c1,c2⟩:=b4 ρ2 ρ3 _ _ m3 m4 h3;exact⟨v3,ρ3,fps3,_,m1,m2,c2,c1,b5⟩
 rcases h4 with⟨rfl,h4⟩|⟨rfl,h4⟩
 ·grind
 ·grind
def sK:aS->Bool
 | .store _ _ _=>true
 | .arr _ _ _=>true
 |_=>false
theorem vt{κ:Nat->Option Nat}{r:aS}(h:sK r=true):gB κ r=r:=by
 cases r<;>first|rfl|simp[sK]at h
def pB(res:List aS)(p:Nat)(r:aS):Prop:=known res p/\∀J fps K w0 F0 w,bp J fps res K w0 F0 w->
 ∃fp:Nat->Prop,r.holds K J p fp w0 F0 w/\∀b,fp b->(∃i,known res i/\fps i b)\/(b<w0.heap.size/\¬F0 b)
theorem pB.look{res:List aS}{p:Nat}{r:aS}(h:cC res p=r)(hne:r≠ .yet):pB res p r:=by
 have hk:=eZ h hne;refine⟨hk,fun J fps K w0 F0 w hH=>?_⟩
 obtain⟨fp,g1,g2⟩:=hH.B8 h hk;exact⟨fp,g1,fun b hb=>(g2 b hb).elim (fun h=> .inl ⟨p,hk,h⟩) .inr⟩
def v7:List (Nat×aS)->List aS
 | []=> []
 | (_,r)::l=> .ro r::v7 l
theorem yD:∀(l:List (Nat×aS)) (i:Nat),aN (v7 l) i=match l[i]? with|some p=> .ro p.2|none=> .yet
 | [],i=>by simp[v7,aN]
 | (p,r)::l,0=>by simp[v7,aN]
 | (p,r)::l,i+1=>by simp[v7,aN,yD l i]
theorem tR:∀l:List (Nat×aS),(v7 l).length=l.length
 | []=>rfl
 | (p,r)::l=>by simp[v7,tR l]
def th:List (Nat×aS)->Nat->Nat
 | [],_=>0
 | (p,_)::_,0=>p
 |_::l,i+1=>th l i
theorem vl:∀(l:List (Nat×aS)) (i:Nat) (p:Nat×aS),l[i]? =some p->th l i=p.1
 | [],i,p,h=>by simp at h
 | (x,r)::l,0,p,h=>by simp at h;subst h;rfl
 | (x,r)::l,i+1,p,h=>by simp only[th];exact vl l i p (by simpa using h)
theorem yo[Fen]{f:Nat}{g:Ct}(h:∀res nid args q x new,g res nid args=some (q,x,new)->new= []/\kR x=true/\
  ∃(pls:List (Nat×aS)) (args0:List V),(∀p∈pls,pB res p.1 p.2/\sK p.2=true)/\(∀(J:Env) K,fq K args->bG (J.pull (th pls)) args0=bG J args)/\(∀K,fq K args->fq (known (v7 pls)) args0)/\
   (cM q->fq (known (v7 pls)) args0->aM P f args0 (v7 pls) (vZ x) (fun _ _=>False))):dO P f g:=by
 intro J fps res K w0 F0 w nid args q x new hH hargs hg hq hfr;obtain⟨rfl,hid,pls,args0,hcl,hden,hok,hc⟩:=h res nid args q x new hg;refine⟨?_,fun k hk=>by simp at hk⟩
 have hfr:∀b,b<w0.heap.size->¬F0 b->w.heap[b]? =w0.heap[b]? /\¬(fun _:Nat=>False) b:=fun b hb hF=>⟨hH.same b hb hF,fun h=>h⟩
 have hrep:bp (J.pull (th pls)) (fun _ _=>False) (v7 pls) (known (v7 pls)) w (fun _=>False) w:=by
  refine⟨fun i hi=>hi,Nat.le_refl _,rfl,rfl,rfl,fun i hi=>?_,fun i b hi h=>h.elim,fun i j b hi hj hne h=>h.elim,fun i b hi h=>h.elim,fun _ _ _=>rfl⟩
  have hlt:=aY hi;rw[tR]at hlt;have hp:pls[i]? =some pls[i]:=List.getElem?_eq_getElem hlt;generalize pls[i]=p at hp
  rw[yD,hp];simp only;obtain⟨hs,hcl⟩:=hcl p (List.mem_of_getElem? hp);obtain⟨fp,g1,g2⟩:=hs.2 J fps K w0 F0 w hH
  have hv:Env.via (fun x=>if x=p.1 then some i else none) J (J.pull (th pls)):=rf fun x j hx=>by
   split at hx
   ·simp only[aa]at hx;subst hx;rename_i e;subst e;exact vl pls i p hp
   ·simp at hx
  have:=iN (N':=known (v7 pls)) hv (fun x j hx _=>by
   split at hx
   ·simp only[aa]at hx;subst hx;exact hi
   ·simp at hx) (p:=p.1) (i:=i) (by simp) _ _ _ (aS.tY hH.old hfr _ _ g1)
  rw[vt hcl]at this;refine⟨fp,this,fun b hb=>⟨?_,fun h=>h⟩⟩
  rcases g2 b hb with⟨j,hj,hf⟩|⟨hl,_⟩
  ·exact hH.lt j b hj hf
  ·exact Nat.lt_of_lt_of_le hl hH.old
 have hok0:=hok K hargs;rw[<-hden J K hargs];refine(hc hq hok0 _ _ _ _ _ hrep hok0).mono fun e w' ⟨y,ρ',fps',res',g1,g2,g3,g4⟩=>?_
 rcases g4 with⟨rfl,hK⟩|⟨_,hK⟩
 ·refine⟨_,rfl,J,?_,?_,?_⟩
  ·exact⟨⟨g1.os,g1.tape,g1.output,g1.old,fun b hb=>g1.same b hb (fun h=>h)⟩,Env.agree.refl _ _,fun _ _=>False,fun k hk=>by simp at hk,fun k l b hk=>by simp at hk⟩
  ·obtain⟨e1,e2,_⟩:=hK ρ' (known res');rw[e1];exact s9 hid (e2 g3) J ρ'
  ·obtain⟨e1,e2,_⟩:=hK ρ' (known res');exact pU x hid (e2 g3)
 ·exact hK.elim
theorem aM.vQ[Fen]{f:Nat}{args:List V}{res res1:List aS}{K KP:V->List aS->Prop}(h:aM P f args res1 K KP)
  (ho:∀J fps w0 F0 w,bp J fps res (known res) w0 F0 w->∃ρ' fps',bp ρ' fps' res1 (known res1) w0 F0 w/\Good J res ρ' res1):aM P f args res K KP:=by
 intro J fps w0 F0 w hH hargs;obtain⟨ρ',fps',h1,h2⟩:=ho J fps w0 F0 w hH;rw[<-fS h2.1 args hargs];refine(h ρ' fps' w0 F0 w h1 (cK h2.2 _ hargs)).mono fun e w' ⟨x,ρ2,fps2,r',g1,g2,g3,g4⟩=>⟨x,ρ2,fps2,r',g1,h2.trans g2,g3,g4⟩
theorem aM.kG[Fen]{f:Nat}{args:List V}{res:List aS}{k t e:Nat}{L:List Obj}{K KP:V->List aS->Prop}(hr:aN res k= .store t e L)(h:aM P f args (kG res k t e L) K KP):aM P f args res K KP:=
 h.vQ fun _ _ _ _ _ hH=>B1 hr hH
theorem aM.fG[Fen]{f:Nat}{args:List V}{res:List aS}{k t e:Nat}{L:List Obj}{K KP:V->List aS->Prop}(hr:aN res k= .ro (.store t e L))(h:aM P f args (fG res k t e L) K KP):aM P f args res K KP:=
 h.vQ fun _ _ _ _ _ hH=>z6 hr hH
theorem aM.shut[Fen]{f:Nat}{args:List V}{res:List aS}{K0 KP K:V->List aS->Prop}(h:aM P f args res K0 KP)(hK:∀v r,K0 v r->K v r\/∃k r',vI r k=some r'/\K v r'):aM P f args res K KP:=by
 intro J fps w0 F0 w hH hargs;refine(h J fps w0 F0 w hH hargs).mono fun e w' ⟨x,ρ2,fps2,r',g1,g2,g3,g4⟩=>?_
 rcases g4 with⟨rfl,hk⟩|g4
 ·rcases hK _ _ hk with hk|⟨k,r2,s1,s2⟩
  ·exact⟨x,ρ2,fps2,r',g1,g2,g3,.inl ⟨rfl,hk⟩⟩
  ·obtain⟨fps3,m1,m2⟩:=B7 s1 g1;exact⟨x,ρ2,fps3,r2,m1,⟨g2.1,fun i hi=>m2 i (g2.2 i hi)⟩,dt m2 _ g3,.inl ⟨rfl,s2⟩⟩
 ·exact⟨x,ρ2,fps2,r',g1,g2,g3,.inr g4⟩
theorem aM.BL[Fen]{f:Nat}{args:List V}{res res':List aS}{k:Nat}{K KP:V->List aS->Prop}(hr:Sx.BL res k=some res')(h:aM P f args res' K KP):aM P f args res K KP:=
 h.vQ fun _ _ _ _ _ hH=>CC hr hH
theorem aM.xG[Fen]{f:Nat}{args:List V}{res:List aS}{k e:Nat}{K0 KP K:V->List aS->Prop}(h:aM P f args res K0 KP)(hK:∀v r,K0 v r->∃r',Sx.xG r k e=some r'/\K v r'):aM P f args res K KP:=by
 intro J fps w0 F0 w hH hargs;refine(h J fps w0 F0 w hH hargs).mono fun e' w' ⟨x,ρ2,fps2,r',g1,g2,g3,g4⟩=>?_
 rcases g4 with⟨rfl,hk⟩|g4
 ·obtain⟨r2,s1,s2⟩:=hK _ _ hk;obtain⟨fps3,m1,m2⟩:=CJ s1 g1;exact⟨x,ρ2,fps3,r2,m1,⟨g2.1,fun i hi=>m2 i (g2.2 i hi)⟩,dt m2 _ g3,.inl ⟨rfl,s2⟩⟩
 ·exact⟨x,ρ2,fps2,r',g1,g2,g3,.inr g4⟩
end
section
variable {P:Program}
theorem aM.fact[Fen]{f:Nat}{args:List V}{res:List aS}{K KP:V->List aS->Prop}{k t e:Nat}{L:List Obj}(hr:cC res k= .store t e L)
  (h:(∀o∈L,o.wf)->L.length<=9223372036854775807->aM P f args res K KP):aM P f args res K KP:=by
 intro J fps w0 F0 w hH hargs;obtain⟨fp,hh,_⟩:=hH.look hr (by simp)
 obtain⟨_,h1,h2,_⟩:=hh;exact h h1 h2 J fps w0 F0 w hH hargs
theorem aM.Xe[Fen]{f:Nat}{args:List V}{res:List aS}{K KP:V->List aS->Prop}{k esz:Nat}{own:Option Nat}{L:List Obj}(hr:cC res k= .arr own esz (.ob L))
  (h:(∀o∈L,o.wf)->L.length<=9223372036854775807->aM P f args res K KP):aM P f args res K KP:=by
 intro J fps w0 F0 w hH hargs;obtain⟨fp,hh,_⟩:=hH.look hr (by simp)
 obtain⟨h1,_,h2,_⟩:=hh;refine h (fun o ho=>?_) h2 J fps w0 F0 w hH hargs
 obtain⟨i,hi,rfl⟩:=List.getElem_of_mem ho;have:=(h1 i hi).1;simpa[TL.get,aL,an,hi,ok]using this
theorem pB.open{res:List aS}{p j t e q:Nat}{L:List Obj}(hp:cC res p= .blk t (.ag [.sa j]))(hj:cC res j= .obs e q L)(hte:t≠e):pB res p (.store t e L):=by
 have hkp:=eZ hp (by simp)
 have hkj:=eZ hj (by simp)
 refine⟨hkp,fun J fps K w0 F0 w hH=>?_⟩
 obtain⟨fp1,⟨_,_,b3,b4⟩,g1⟩:=hH.B8 hp hkp;obtain⟨fp2,⟨_,c1,c2,c3,c4,c5,c6,c7⟩,g2⟩:=hH.B8 hj hkj
 have b4':w.heap[J.num p]? =some (.cells #[J.sl j] t (0,0)):=by
  rw[b4];have:den J (.sa j)=J.sl j:=rfl;simp[dF,br,this,Env.sl,Value.cells]
 refine⟨fun b=>fp1 b\/fp2 b,⟨.inl b3,c1,c3,J.sl j,J.ob q,b4',c6,fun b hb=>?_,fun x hx=>?_⟩,fun b hb=>?_⟩
 ·have hb':=hb;cases ha:J.sa j with
  |none=>simp[Env.sl,ha,Value.ownBlock]at hb
  |some a=>
   simp only[Env.sl,ha,Value.ownBlock,aa]at hb;subst hb;refine⟨.inr (c4 a ha).2,fun e'=>?_⟩
   rcases c6.2 with⟨hh,_⟩|⟨g,cap,cur,hh,_,h3,_⟩
   ·simp[Env.sl,ha]at hh
   ·rw[hh]at hb';simp only[Value.ownBlock,aa]at hb';rw[hb',e',b4']at h3;simp only[aa,Go.Obj.cells.injEq]at h3;exact hte h3.2.1
 ·grind[nU]
 ·grind
theorem pB.zero{res:List aS}{p t e:Nat}(hp:cC res p= .blk t (.ag [.nl (.slice none 0 0)])):pB res p (.store t e []):=by
 have hkp:=eZ hp (by simp)
 refine⟨hkp,fun J fps K w0 F0 w hH=>?_⟩
 obtain⟨fp1,⟨_,_,b3,b4⟩,g1⟩:=hH.B8 hp hkp;refine⟨fp1,⟨b3,by simp,by simp,.slice none 0 0,fun _=>0,?_,World.ownsRow_nil w 0 e 1,fun b hb=>by simp[Value.ownBlock]at hb,fun x hx=>by simp at hx⟩,fun b hb=>(g1 b hb).elim (fun h=> .inl ⟨p,hkp,h⟩) .inr⟩
 rw[b4];simp[dF,br,den,Value.cells]
def rS(t e:Nat)(res:List aS)(v:V):Option (Option Nat×List Obj):=
 match v with
 | .nl v=>match v with
   | .pointer p=>match p with
     |none=>some (none,[])
     |some _=>none
   |_=>none
 | .lp k off=>if off==0 then match cC res k with
   | .store t' e' L=>if t'==t&&e'==e then some (some k,L)else none
   | .blk t' c=>if t'==t&& !(t==e)then match c with
     | .ag l=>match l with
       | [x]=>match x with
         | .sa j=>match cC res j with
           | .obs e' _ L=>if e'==e then some (some k,L)else none
           |_=>none
         | .nl v=>match v with
           | .slice none 0 0=>some (some k,[])
           |_=>none
         |_=>none
       |_=>none
     |_=>none
     else none
   |_=>none
   else none
 |_=>none
theorem yb{t e:Nat}{res:List aS}{v:V}{o:Option Nat}{L:List Obj}(h:rS t e res v=some (o,L)):(o=none/\L= []/\v= .nl (.pointer none))\/∃k,o=some k/\v= .lp k 0/\pB res k (.store t e L):=by
 unfold rS at h;split at h
 ·grind
 ·rename_i k off;split at h
  ·rename_i ho;have ho:=ai.1 ho;subst ho;split at h
   ·grind[pB.look]
   ·grind[pB.open,pB.zero]
   ·simp at h
  ·simp at h
 ·simp at h
def lX:V:= .nl (.pointer none)
def mkS(t e:Nat)(F:List Obj->V):Ct:=fun res _ xs=>match xs with
 | [a]=>match rS t e res a with
   |some (_,L)=>some (none,F L,[])
   |none=>none
 |_=>none
def KS{α:Type}(t e:Nat)(r:V->Option α)(F:List Obj->α->V):Ct:=fun res _ xs=>match xs with
 | [a,b]=>match rS t e res a with
   |some (_,L)=>match r b with
    |some x=>some (none,F L x,[])
    |none=>none
   |none=>none
 |_=>none
theorem N9[Fen]{f t e:Nat}{F:List Obj->V}(hF:∀L,kR (F L)=true)(h0:aM P f [lX] [] (sX (F [])) (fun _ _=>False))
  (h1:∀L,(∀o∈L,o.wf)->L.length<=9223372036854775807->aM P f [.lp 0 0] [.ro (.blk t (.ag [.sa 1])),.ro (.obs e 2 L),.gen 1] (sX (F L)) (fun _ _=>False)):dO P f (mkS t e F):=by
 refine yo fun res nid args q x new hg=>?_
 unfold mkS at hg;split at hg<;>(try split at hg)<;>simp only[aa,ae,reduceCtorEq]at hg
 rename_i a o L hr;obtain⟨rfl,rfl,rfl⟩:=hg;rcases yb hr with⟨rfl,rfl,rfl⟩|⟨k,rfl,rfl,hs⟩
 ·exact⟨rfl,hF [],[],[lX],by simp,fun J _ _=>rfl,fun K hK=>⟨hK.1,trivial⟩,fun _ _=>h0.mono (fun _ _=>eC) fun _ _ h=>h⟩
 ·refine⟨rfl,hF L,[(k,.store t e L)],[.lp 0 0],by simpa using⟨hs,rfl⟩,fun J _ _=>rfl,fun K hK=>⟨by simp[ok,known,v7,aN],trivial⟩,fun _ _=>?_⟩
  exact aM.fact (k:=0) rfl fun w1 w2=>(aM.fG (res:=v7 [(k,.store t e L)]) (k:=0) rfl (h1 L w1 w2)).mono (fun _ _=>eC) fun _ _ h=>h
theorem yj[Fen]{f t e:Nat}{α:Type}{r:V->Option α}{m:α->V}{F:List Obj->α->V}(hr:tG r m)(hF:∀L x,kR (F L x)=true)
  (h0:∀x,ok (fun _=>False) (m x)->aM P f [lX,m x] [] (sX (F [] x)) (fun _ _=>False))
  (h1:∀L x,(∀o∈L,o.wf)->L.length<=9223372036854775807->ok (fun _=>False) (m x)->aM P f [.lp 0 0,m x] [.ro (.blk t (.ag [.sa 1])),.ro (.obs e 2 L),.gen 1] (sX (F L x)) (fun _ _=>False))
  (hid:∀x,kR (m x)=true):dO P f (KS t e r F):=by
 refine yo fun res nid args q x new hg=>?_
 unfold KS at hg;split at hg<;>(try split at hg)<;>(try split at hg)<;>simp only[aa,ae,reduceCtorEq]at hg
 rename_i a b _ o L hs _ x hb;obtain⟨rfl,rfl,rfl⟩:=hg;obtain⟨b1,b2⟩:=hr _ x hb;have hde:∀J ρ':Env,∀K,ok K b->den ρ' (m x)=den J b:=fun J ρ' K hk=>by rw[b1 J];exact s9 (hid x) (b2 K hk) J ρ'
 rcases yb hs with⟨rfl,rfl,rfl⟩|⟨k,rfl,rfl,hse⟩
 ·refine⟨rfl,hF [] x,[],[lX,m x],by simp,fun J K hK=>?_,fun K hK=>⟨hK.1,gi (b2 K hK.2.1),trivial⟩,fun _ hok=>?_⟩
  ·simp only[bG,hde J (J.pull (th [])) K hK.2.1];rfl
  ·exact(h0 x (pU _ (hid x) hok.2.1)).mono (fun _ _=>eC) fun _ _ h=>h
 ·refine⟨rfl,hF L x,[(k,.store t e L)],[.lp 0 0,m x],by simpa using⟨hse,rfl⟩,fun J K hK=>?_,fun K hK=>⟨by simp[ok,known,v7,aN],gi (b2 K hK.2.1),trivial⟩,fun _ hok=>?_⟩
  ·simp only[bG,hde J (J.pull (th [(k,.store t e L)])) K hK.2.1];rfl
  ·exact aM.fact (k:=0) rfl fun w1 w2=>(aM.fG (res:=v7 [(k,.store t e L)]) (k:=0) rfl (h1 L x w1 w2 (pU _ (hid x) hok.2.1))).mono (fun _ _=>eC) fun _ _ h=>h
theorem pB.arr{res:List aS}{p esz:Nat}{own:Option Nat}{l:TL}(h:cC res p= .arr own esz l):pB res p (.arr none esz l):=by
 have hk:=eZ h (by simp)
 refine⟨hk,fun J fps K w0 F0 w hH=>?_⟩
 obtain⟨fp,⟨h1,h2,h3,h4,h5,h6,h7⟩,g2⟩:=hH.B8 h hk;refine⟨fp,⟨h1,h2,h3,h4,h5,h6,?_⟩,fun b hb=>(g2 b hb).elim (fun h=> .inl ⟨p,hk,h⟩) .inr⟩
 rcases h7 with⟨e,h7⟩|⟨e,e1,e2⟩
 ·exact .inl ⟨rfl,h7⟩
 ·exact .inr ⟨e,by simp,e2⟩
def rA(res:List aS)(v:V):Option (Nat×List Obj):=
 match v with
 | .sa k=>match cC res k with
   | .arr _ e l=>if e==163 then match l with
     | .ob l=>some (k,l)
     |_=>none
     else none
   |_=>none
 |_=>none
theorem Kz{res:List aS}{v:V}{k:Nat}{l:List Obj}(h:rA res v=some (k,l)):v= .sa k/\pB res k (.arr none 163 (.ob l))/\∃own,cC res k= .arr own 163 (.ob l):=by
 unfold rA at h;split at h
 ·grind[pB.arr]
 ·simp at h
def mkA(F:List Obj->V):Ct:=fun res _ xs=>match xs with
 | [a]=>match rA res a with
   |some (_,L)=>some (none,F L,[])
   |none=>none
 |_=>none
theorem V7{J:Env}{i k:Nat}{pls:List (Nat×aS)}(h:th pls i=k):den (J.pull (th pls)) (.sa i)=den J (.sa k):=by
 simp only[den,Env.pull,h]
theorem YN[Fen]{f:Nat}{F:List Obj->V}(hF:∀L,kR (F L)=true)
  (h1:∀L,(∀o∈L,o.wf)->L.length<=9223372036854775807->aM P f [.sa 0] [.ro (.arr none 163 (.ob L))] (sX (F L)) (fun _ _=>False)):dO P f (mkA F):=by
 refine yo fun res nid args q x new hg=>?_
 unfold mkA at hg;split at hg<;>(try split at hg)<;>simp only[aa,ae,reduceCtorEq]at hg
 rename_i a k L hr;obtain⟨rfl,rfl,rfl⟩:=hg;obtain⟨rfl,hs,_⟩:=Kz hr
 exact⟨rfl,hF L,[(k,.arr none 163 (.ob L))],[.sa 0],by simpa using⟨hs,rfl⟩,fun J _ _=>by simp only[bG,V7 (pls:= [(k,.arr none 163 (.ob L))]) (i:=0) (k:=k) rfl],fun K hK=>⟨by simp[ok,known,v7,aN],trivial⟩,
  fun _ _=>aM.Xe (k:=0) rfl fun w1 w2=>(h1 L w1 w2).mono (fun _ _=>eC) fun _ _ h=>h⟩
end
abbrev lg:=List V->List aS->(V->List aS->Prop)->Prop
def l5[Fen](P:Program)(f:Nat)(h:lg):Prop:=∀args res K KP,h args res K->aM P f args res K KP
def BP:List (Nat×lg)->Handler
 | [],_,_,_,_,_=>False
 | (g,h)::l,f,args,res,K,KP=>if f==g then h args res K else BP l f args res K KP
theorem uy[Fen]{P:Program}:∀{l:List (Nat×lg)},(∀p∈l,l5 P p.1 p.2)->Handler.OK P (BP l)
 | [],_,f,args,res,K,KP,h=>h.elim
 | (g,x)::l,hl,f,args,res,K,KP,h=>by
   simp only[BP]at h;split at h
   ·rename_i e;have e:=ai.1 e;subst e;exact hl (f,x) (by simp) args res K KP h
   ·exact uy (fun p hp=>hl p (by simp[hp])) f args res K KP h
theorem aT[Fen]{P:Program}:∀p∈([]:List (Nat×lg)),l5 P p.1 p.2:=by simp
theorem aW[Fen]{P:Program}{f:Nat}{g:lg}{l:List (Nat×lg)}(h:l5 P f g)(t:∀p∈l,l5 P p.1 p.2):∀p∈(f,g)::l,l5 P p.1 p.2:=by
 simp_all
theorem uS{κ:Nat->Option Nat}:∀v,kR v=true->fP κ v=some v:=by
 intro v
 exact V.rec (motive_1:=fun v=>kR v=true->fP κ v=some v) (motive_2:=fun l=>mc l=true->eY κ l=some l)
  (fun b _=>rfl) (fun b _=>rfl) (fun k n _=>rfl) (fun k n _=>rfl) (fun b _=>rfl) (fun s _=>rfl) (fun v _=>rfl) (fun _ _ h=>by simp[kR]at h) (fun _ _ _ _ _ _ h=>by simp[kR]at h)
  (fun _ _ _ h=>by simp[kR]at h) (fun _ _ h=>by simp[kR]at h) (fun _ _ _ _ h=>by simp[kR]at h) (fun _ h=>by simp[kR]at h) (fun _ _ h=>by simp[kR]at h) (fun _ h=>by simp[kR]at h)
  (fun f l ih h=>by simp only[fP];rw[ih h]) (fun t x ih h=>by simp only[fP];rw[ih h]) (fun l ih h=>by simp only[fP];rw[ih h]) (fun l ih h=>by simp only[fP];rw[ih h])
  (fun _ _=>rfl) (fun _ _=>rfl) (fun _ _=>rfl) (fun _ _=>rfl) (fun _ h=>by simp[kR]at h) (fun _ _ _ _ _ _ h=>by simp[kR]at h) (fun _ _ _ _ _ _ _ _ h=>by simp[kR]at h) (fun _ _ _ _ h=>by simp[kR]at h) (fun _ _ _ _ _ _ h=>by simp[kR]at h) (fun _ _ _ _ h=>by simp[kR]at h) (fun _=>rfl)
  (fun x l ih1 ih2 h=>by simp only[mc,af]at h;simp only[eY];rw[ih1 h.1];simp only;rw[ih2 h.2]) v
theorem j9{κ:Nat->Option Nat}:∀l,mc l=true->eY κ l=some l
 | [],_=>rfl
 |x::l,h=>by
  simp_all[mc,eY,uS,j9]
def fw(l m:List V):Prop:=∀(J:Env) K,fq K l->bG J l=bG J m/\fq K m
theorem fw.nil:fw [] []:=fun _ _ _=>⟨rfl,trivial⟩
theorem fw.lq{x:V}{l m:List V}(h:fw l m):fw (x::l) (x::m):=fun J K hk=>⟨by simp only[bG,(h J K hk.2).1],hk.1,(h J K hk.2).2⟩
theorem fw.rd{α:Type}{r:V->Option α}{f:α->V}(hr:tG r f){a:V}{x:α}(hx:r a=some x){l m:List V}(h:fw l m):fw (a::l) (f x::m):=fun J K hk=>by
 obtain⟨a1,a2⟩:=hr a x hx;exact⟨by simp only[bG,(h J K hk.2).1,a1],gi (a2 K hk.1),(h J K hk.2).2⟩
section
variable {P:Program}
theorem aM.args[Fen]{f:Nat}{args args':List V}{res:List aS}{K KP:V->List aS->Prop}(h:fw args args')(hc:aM P f args' res K KP):aM P f args res K KP:=by
 intro J fps w0 F0 w hH hargs;obtain⟨h1,h2⟩:=h J _ hargs;rw[h1];exact hc J fps w0 F0 w hH h2
theorem aM.X3[Fen]{f:Nat}{args:List V}{res:List aS}{K KP:V->List aS->Prop}(h:fq (known res) args->aM P f args res K KP):aM P f args res K KP:=by
 intro J fps w0 F0 w hH hargs;exact h hargs J fps w0 F0 w hH hargs
theorem aM.CP[Fen]{f:Nat}{rest:List V}{res:List aS}{K KP:V->List aS->Prop}{k t e:Nat}{L M:List Obj}{x:V}(hr:aN res k= .store t e L)(hid:mc rest=true)(hx:kR x=true)
  (h:aM P f (.lp 0 0::rest) [.store t e L] (fun v r=>vZ x v r/\aN r 0= .store t e M) (fun _ _=>False)) (hK:K x (bR res k (.store t e M))):aM P f (.lp k 0::rest) res K KP:=by
 have hk:known res k:=by unfold known;rw[hr];simp
 have hlt:=aY hk;refine aM.frame (pl:= [(k,true)]) (args0:= .lp 0 0::rest) (K0:=fun v r=>vZ x v r/\aN r 0= .store t e M) (KP0:=fun _ _=>False) (by simp[fj,cI.2 hk]) (by simpa[jH,dS,qB]using hlt) ?_ ?_ (fun v r hv=>?_) (fun _ _ h=>h.elim)
 ·simp only[eY,fP,lL,idxOf,dS];rw[j9 rest hid];simp
 ·simp_all[fz,lL,dS,gB]
 ·obtain⟨h1,h2⟩:=hv;have hm:merge [(k,true)] [] r res=bR res k (.store t e M):=by simp[merge,gf,h2,gB,gZ]
  exact⟨[],x,rfl,by simp[me,h2,jY],rfl,kJ.kR h1 hx,by rw[hm];exact hK⟩
theorem aM.pure[Fen]{f:Nat}{args:List V}{res:List aS}{K KP:V->List aS->Prop}{x:V}(hid:mc args=true)(hx:kR x=true)
  (h:aM P f args [] (fun v _=>vZ x v []) (fun _ _=>False)) (hK:K x res):aM P f args res K KP:=by
 refine aM.frame (pl:= []) (args0:=args) (K0:=fun v _=>vZ x v []) (KP0:=fun _ _=>False) rfl rfl (j9 args hid) h (fun v r hv=>?_) (fun _ _ h=>h.elim)
 have hm:merge [] [] r res=res:=by simp[merge,gf,gZ]
 exact⟨[],x,rfl,rfl,rfl,kJ.kR hv hx,by rw[hm];exact hK⟩
theorem aM.Q7[Fen]{f:Nat}{rest:List V}{res:List aS}{K KP:V->List aS->Prop}{k:Nat}{r0:aS}{x:V}(hr:cC res k=r0)(hne:r0≠ .yet)(hren:∀κ,gB κ r0=r0)(hid:mc rest=true)(hx:kR x=true)
  (h:aM P f (.lp 0 0::rest) [.ro r0] (fun v _=>vZ x v []) (fun _ _=>False)) (hK:K x res):aM P f (.lp k 0::rest) res K KP:=by
 have hk:=eZ hr hne;have hlt:=aY hk;refine aM.frame (pl:= [(k,false)]) (args0:= .lp 0 0::rest) (K0:=fun v _=>vZ x v []) (KP0:=fun _ _=>False) (by simp[fj,cI.2 hk]) (by simpa[jH,dS,qB]using hlt) ?_ ?_ (fun v r hv=>?_) (fun _ _ h=>h.elim)
 ·simp only[eY,fP,lL,idxOf,dS];rw[j9 rest hid];simp
 ·simp_all[fz,lL,dS]
 ·have hm:merge [(k,false)] [] r res=res:=by simp[merge,gf,gZ]
  exact⟨[],x,rfl,by simp[me],rfl,kJ.kR hv hx,by rw[hm];exact hK⟩
theorem bp.weaken{J:Env}{fps:Nat->Nat->Prop}{res res':List aS}{w0 w:World}{F0:Nat->Prop}(h:bp J fps res (known res) w0 F0 w)
  (hk:∀i,known res' i->known res i/\∀fp,(aN res i).holds (known res) J i fp w0 F0 w->(aN res' i).holds (known res') J i fp w0 F0 w):bp J fps res' (known res') w0 F0 w:=
 ⟨fun i hi=>hi,h.old,h.os,h.tape,h.output,fun i hi=>(hk i hi).2 _ (h.holds i (hk i hi).1),fun i b hi=>h.lt i b (hk i hi).1,fun i j b hi hj=>h.disj i j b (hk i hi).1 (hk j hj).1,fun i b hi=>h.inF i b (hk i hi).1,h.same⟩
theorem QX{K K':Nat->Prop}{J:Env}{i:Nat}{fp:Nat->Prop}{w0 w:World}{F0:Nat->Prop}{own:Option Nat}{e:Nat}{l:TL}(h:(aS.arr own e l).holds K J i fp w0 F0 w):(aS.arr none e l).holds K' J i fp w0 F0 w:=by
 obtain⟨h1,h2,h3,h4,h5,h6,h7⟩:=h;refine⟨h1,h2,h3,h4,h5,h6,?_⟩;rcases h7 with⟨e,h7⟩|⟨e,e1,e2⟩
 ·exact .inl ⟨rfl,h7⟩
 ·exact .inr ⟨e,by simp,e2⟩
theorem aM.acs[Fen]{f:Nat}{args:List V}{K KP:V->List aS->Prop}{own:Option Nat}{e:Nat}{l:TL}(h:aM P f args [.ro (.arr none e l)] K KP):aM P f args [.ro (.arr own e l)] K KP:=by
 have hk:∀i (own:Option Nat),known [.ro (.arr own e l)] i↔i=0:=fun i own=>by
  unfold known;cases i with
  |zero=>simp[aN]
  |succ i=>simp[aN]
 refine h.vQ fun J fps w0 F0 w hH=>⟨J,fps,hH.weaken fun i hi=>?_,Env.agree.refl _ _,fun i hi=>(hk i _).2 ((hk i _).1 hi)⟩
 have:=(hk i _).1 hi;subst this;refine⟨(hk 0 _).2 rfl,fun fp hh=>?_⟩
 obtain⟨fp',g1,g2⟩:=hh;exact⟨fp',QX g1,g2⟩
theorem aM.SD[Fen]{f:Nat}{rest:List V}{res:List aS}{K KP:V->List aS->Prop}{t e k esz:Nat}{own:Option Nat}{l:TL}{M:List Obj}{F:Nat->V}(hr:cC res k= .arr own esz l)(hid:mc rest=true)
  (h:aM P f (.sa 0::rest) [.ro (.arr own esz l)] (fun v r=>∃j,1<=j/\aN r j= .store t e M/\(∀(κ:Nat->Option Nat) (i:Nat),κ j=some i->kJ κ v (F i))) (fun _ _=>False)) (hK:K (F res.length) (res++ [.store t e M])):aM P f (.sa k::rest) res K KP:=by
 have hk:=eZ hr (by simp)
 have hlt:=aY hk;refine aM.frame (pl:= [(k,false)]) (args0:= .sa 0::rest) (K0:=fun v r=>∃j,1<=j/\aN r j= .store t e M/\(∀(κ:Nat->Option Nat) (i:Nat),κ j=some i->kJ κ v (F i))) (KP0:=fun _ _=>False) (by simp[fj,cI.2 hk]) (by simpa[jH,dS,qB]using hlt) ?_ ?_ (fun v r hv=>?_) (fun _ _ h=>h.elim)
 ·simp only[eY,fP,lL,idxOf,dS];rw[j9 rest hid];simp
 ·have:fz (lL 0 (dS [(k,false)])) res [(k,false)]= [.ro (.arr own esz l)]:=by simp[fz,hr,gB]
  rw[this];exact h
 ·obtain⟨j,hj1,hj,hv⟩:=hv;have hjl:j<r.length:=aY (by rw[hj];simp)
  have hm:merge [(k,false)] [j] r res=res++ [.store t e M]:=by simp[merge,gf,gZ,hj,gB]
  refine⟨[j],F res.length,by simpa[jH,qB]using⟨hj1,hjl⟩,by simp[me],by simp[pS,hj,jY],hv _ _ ?_,by rw[hm];exact hK⟩
  obtain⟨m,rfl⟩:∃m,j=m+1:=⟨j-1,by omega⟩
  simp[back,xY,idxOf]
theorem aM.abT[Fen]{f:Nat}{rest:List V}{res:List aS}{K KP:V->List aS->Prop}{k esz:Nat}{own:Option Nat}{l:TL}{x:V}(hr:cC res k= .arr own esz l)(hid:mc rest=true)(hx:kR x=true)
  (h:aM P f (.sa 0::rest) [.ro (.arr own esz l)] (fun v _=>vZ x v []) (fun _ _=>False)) (hK:K x res):aM P f (.sa k::rest) res K KP:=by
 have hk:=eZ hr (by simp)
 have hlt:=aY hk;refine aM.frame (pl:= [(k,false)]) (args0:= .sa 0::rest) (K0:=fun v _=>vZ x v []) (KP0:=fun _ _=>False) (by simp[fj,cI.2 hk]) (by simpa[jH,dS,qB]using hlt) ?_ ?_ (fun v r hv=>?_) (fun _ _ h=>h.elim)
 ·simp only[eY,fP,lL,idxOf,dS];rw[j9 rest hid];simp
 ·have:fz (lL 0 (dS [(k,false)])) res [(k,false)]= [.ro (.arr own esz l)]:=by simp[fz,hr,gB]
  rw[this];exact h
 ·have hm:merge [(k,false)] [] r res=res:=by simp[merge,gf,gZ]
  exact⟨[],x,rfl,by simp[me],rfl,kJ.kR hv hx,by rw[hm];exact hK⟩
theorem ug(κ2:Nat->Option Nat)(r':List aS):∀(l:List (Nat×Bool)) (i:Nat) (res:List aS),(∀p∈l,p.2=false)->gf κ2 r' i l res=res
 | [],_,_,_=>rfl
 | (p,o)::l,i,res,h=>by
   simp_all[gf,ug]
theorem wR(r':List aS):∀(l:List (Nat×Bool)) (i:Nat),(∀p∈l,p.2=false)->me r' i l=true
 | [],_,_=>rfl
 | (p,o)::l,i,h=>by
   simp_all[me,wR]
theorem Cb:∀(l:List (Nat×Bool)) (j:Nat),l.length<=j->xY l j=none
 | [],_,_=>rfl
 | (p,o)::l,0,h=>by simp at h
 | (p,o)::l,j+1,h=>by simp only[xY];exact Cb l j (by simpa using h)
theorem aM.abi[Fen]{f:Nat}{args args0:List V}{res:List aS}{K KP:V->List aS->Prop}{pl:List (Nat×Bool)}{new:aS}{F:Nat->V}(hk:fj res pl=true)(hnd:jH 0 res.length (dS pl)=true)(hro:∀p∈pl,p.2=false)
  (ha:eY (lL 0 (dS pl)) args=some args0) (hnew:jY new=true) (hne:new≠ .yet) (hren:∀κ,gB κ new=new)
  (h:aM P f args0 (fz (lL 0 (dS pl)) res pl) (fun v r=>∃j,pl.length<=j/\aN r j=new/\(∀(κ:Nat->Option Nat) (i:Nat),κ j=some i->kJ κ v (F i))) (fun _ _=>False))
  (hK:K (F res.length) (res++ [new])):aM P f args res K KP:=by
 refine aM.frame hk hnd ha h (fun v r hv=>?_) (fun _ _ h=>h.elim)
 obtain⟨j,hj1,hj,hv⟩:=hv;have hjl:j<r.length:=aY (by rw[hj];exact hne)
 have hm:merge pl [j] r res=res++ [new]:=by simp[merge,ug _ _ pl 0 res hro,gZ,hj,hren]
 refine⟨[j],F res.length,by simpa[jH,qB]using⟨hj1,hjl⟩,wR _ _ _ hro,by simp[pS,hj,hnew],hv _ _ ?_,by rw[hm];exact hK⟩
 simp[back,Cb pl j hj1,idxOf]
theorem aM.Za[Fen]{f:Nat}{args args0:List V}{res:List aS}{K KP:V->List aS->Prop}{pl:List (Nat×Bool)}{x:V}(hk:fj res pl=true)(hnd:jH 0 res.length (dS pl)=true)(hro:∀p∈pl,p.2=false)
  (ha:eY (lL 0 (dS pl)) args=some args0) (hx:kR x=true)
  (h:aM P f args0 (fz (lL 0 (dS pl)) res pl) (fun v _=>vZ x v []) (fun _ _=>False)) (hK:K x res):aM P f args res K KP:=by
 refine aM.frame hk hnd ha h (fun v r hv=>?_) (fun _ _ h=>h.elim)
 have hm:merge pl [] r res=res:=by simp[merge,ug _ _ pl 0 res hro,gZ]
 exact⟨[],x,rfl,wR _ _ _ hro,rfl,kJ.kR hv hx,by rw[hm];exact hK⟩
theorem B0{r:List aS}{k t e j:Nat}{L:List Obj}(h:EB r k=some (t,e,j,L)):∃r',vI r k=some r'/\aN r' k= .store t e L:=by
 grind[vI,EB,aY,bI,bX]
def EY(r:List aS)(k:Nat):Option (Nat×Nat×List Obj):=
 match aN r k with
 | .store t e L=>some (t,e,L)
 |_=>match EB r k with
  |some (t,e,_,L)=>some (t,e,L)
  |none=>none
theorem EE{r:List aS}{k t e:Nat}{L:List Obj}(h:EY r k=some (t,e,L)):aN r k= .store t e L\/∃r',vI r k=some r'/\aN r' k= .store t e L:=by
 grind[EY,B0]
theorem TJ{a b c:V}(h:vZ c b []):vZ (.tp [a,c]) (.tp [a,b]) []:=fun J K=>by
 obtain⟨s1,s2,_⟩:=h J K;exact⟨by simp only[den,bG,s1],fun hk=>⟨hk.1,s2 hk.2.1,trivial⟩,rfl⟩
theorem aM.TN[Fen]{f:Nat}{args:List V}{res:List aS}{K KP:V->List aS->Prop}{t e:Nat}{M:List Obj}{F:Nat->V}(hid:mc args=true)
  (h:aM P f args [] (fun v r=>∃j,aN r j= .store t e M/\(∀(κ:Nat->Option Nat) (i:Nat),κ j=some i->kJ κ v (F i))) (fun _ _=>False)) (hK:K (F res.length) (res++ [.store t e M])):aM P f args res K KP:=by
 refine aM.frame (pl:= []) (args0:=args) (K0:=fun v r=>∃j,aN r j= .store t e M/\(∀(κ:Nat->Option Nat) (i:Nat),κ j=some i->kJ κ v (F i))) (KP0:=fun _ _=>False) rfl rfl (j9 args hid) h (fun v r hv=>?_) (fun _ _ h=>h.elim)
 obtain⟨j,hj,hv⟩:=hv;have hlt:j<r.length:=aY (by rw[hj];simp)
 have hm:merge [] [j] r res=res++ [.store t e M]:=by simp[merge,gf,gZ,hj,gB]
 exact⟨[j],F res.length,by simpa[jH,qB]using hlt,rfl,by simp[pS,hj,jY],hv _ _ (by simp[back,xY,idxOf]),by rw[hm];exact hK⟩
end
def abv(v:V):Option Nat:=
 match v with
 | .sa j=>some j
 | .ag l=>match l with
   | [x]=>match x with
     | .sa j=>some j
     |_=>none
   |_=>none
 |_=>none
def aac(c:Nat)(U:St):Option (List Nat):=
 match aN U.res c with
 | .blk _ x=>match abv x with
   |some j=>match aN U.res j with
    | .obs _ q _=>some [j,q]
    |_=>some [j]
   |none=>some []
 |_=>some []
def lpR(lq:List Nat)(set:Int->List (Nat×V))(k:Nat)(R:Int->aS)(inv:Int->Prop)(m:Int):di:=
 {γ:=Int,head:=fun U g=> {U with slots:=M9 lq (set g) 0 U.slots,res:=bR U.res k (R g)},inv:=inv,μ:=fun g=>ny (u9 m g)}
def Pj:List (Nat×aS)->List aS->List aS
 | [],r=>r
 | (k,x)::l,r=>Pj l (bR r k x)
def lpT{γ:Type}(lq:List Nat)(set:γ->List (Nat×V))(rs:γ->List (Nat×aS))(inv:γ->Prop)(μ:γ->Nat):di:=
 {γ:=γ,head:=fun U g=> {U with slots:=M9 lq (set g) 0 U.slots,res:=Pj (rs g) U.res},inv:=inv,μ:=μ}
def TL.emp:TL->TL
 | .ob _=> .ob []
 | .key _=> .key []
 | .it k _=> .it k []
 | .bo _=> .bo []
 | .st _=> .st []
 | .qs n _=> .qs n []
 | .fn n g=> .fn n g
def adw(t:Nat)(U:St):Option (List Nat):=
 match cm U.slots t with
 | .v x=>match abv x with
   |some j=>some [j]
   |none=>some []
 |_=>some []
def lpS(lq:List Nat)(set:Int->List (Nat×V))(t e esz:Nat)(L:Int->TL)(inv:Int->Prop)(m:Int):di:=
 {γ:=Int,head:=fun U g=> {U with slots:=M9 lq ((t,.sa U.res.length)::set g) 0 U.slots,res:=U.res++ [.arr (some e) esz (L g)]},
  inv:=inv,μ:=fun g=>ny (u9 m g),pre:= [.sl t e esz (TL.emp (L 0))],ext:=adw t}
def lpU(n:Nat):di:= {γ:=Unit,head:=fun U _=>U,inv:=fun _=>True,μ:=fun _=>0,unr:=some n}
def lpV(lq:List Nat)(set:Int->List (Nat×V))(c ty e esz:Nat)(L:Int->TL)(inv:Int->Prop)(m:Int):di:=
 {γ:=Int,head:=fun U g=> {U with slots:=M9 lq (set g) 0 U.slots,res:=bR U.res c (.blk ty (.sa U.res.length))++ [.arr (some e) esz (L g)]},
  inv:=inv,μ:=fun g=>ny (u9 m g),pre:= [.bv c e esz (TL.emp (L 0))],ext:=aac c}
def lpP{γ:Type}(lq:List Nat)(set:γ->List (Nat×V))(t:Nat)(R:γ->aS)(inv:γ->Prop)(μ:γ->Nat):di:=
 {γ:=γ,head:=fun U g=>match cm U.slots t with
   | .v x=>match x with
     | .lp k _=> {U with slots:=M9 lq (set g) 0 U.slots,res:=bR U.res k (R g)}
     |_=>U
   |_=>U,inv:=inv,μ:=μ}
def IL(sl:List S):List (Nat×aS)->List aS->List aS
 | [],r=>r
 | (t,x)::l,r=>match cm sl t with
   | .v y=>match y with
     | .lp k _=>IL sl l (bR r k x)
     |_=>IL sl l r
   |_=>IL sl l r
mutual
def Xj:V->List Nat
 | .lp i _=> [i]
 | .lx i _ _ _ _ _=> [i]
 | .sc i _ _=> [i]
 | .so i _=> [i]
 | .ap i _ _ _=> [i]
 | .ax i _ _ _ _ _ _ _=> [i]
 | .sa i=> [i]
 | .op i _=> [i]
 | .yl i=> [i]
 | .bs x _ _=>Xj x
 | .ks x _ _ _ _=>Xj x
 | .vw i _ _ _=> [i]
 | .fn _ l=>Yn l
 | .ic _ x=>Xj x
 | .ag l=>Yn l
 | .tp l=>Yn l
 | .ch _ _ l y=>Yn l++Xj y
 |_=> []
def Yn:List V->List Nat
 | []=> []
 |x::l=>Xj x++Yn l
end
def plR:aS->List Nat
 | .blk _ c=>Xj c
 | .ro r=>match r with
   | .blk _ c=>Xj c
   |_=> []
 |_=> []
def plS:List S->List Nat
 | []=> []
 |x::l=>(match x with| .v y=>Xj y|_=> [])++plS l
def plD:List (Nat×List V×List V)->List Nat
 | []=> []
 |x::l=>Yn x.2.1++Yn x.2.2++plD l
def plN(res:List aS):Nat->List Nat->List Nat
 |0,l=>l
 |n+1,l=>plN res n (l.foldr (fun i m=>(plR (aN res i)).foldr (fun j k=>if inL k j then k else j::k) m) l)
def gcR(l:List Nat):Nat->List aS->List aS
 |_,[]=> []
 |i,x::r=>(match x with| .mp _ _ _=> .gone| .mq _ _=> .gone| .blk t c=>if inL l i then .blk t c else .gone| .ro y=>(match y with| .blk t c=>if inL l i then .ro (.blk t c)else .gone|y=> .ro y)|x=>x)::gcR l (i+1) r
def gcS(U:St):St:= {U with res:=gcR (plN U.res 4 (plS U.slots++plD U.defs)) 0 U.res}
def lpC{γ:Type}(lq:List Nat)(set:γ->List (Nat×V))(bl:γ->List (Nat×aS))(rs:γ->List (Nat×aS))(inv:γ->Prop):di:=
 {γ:=γ,head:=fun U g=>gcS {U with slots:=M9 lq (set g) 0 U.slots,res:=Pj (rs g) (IL U.slots (bl g) U.res)},inv:=inv,μ:=fun _=>0}
def lpB(lq:List Nat)(set:Int->List (Nat×V))(c t e:Nat)(L:Int->List Obj)(inv:Int->Prop)(m:Int):di:=
 {γ:=Int,head:=fun U g=> {U with slots:=M9 lq (set g) 0 U.slots,res:=bR U.res c (.blk t (.ag [.sa U.res.length]))++ [.obs e (U.res.length+1) (L g),.gen U.res.length]},
  inv:=inv,μ:=fun g=>ny (u9 m g),pre:= [.bl c e],ext:=aac c}
end Go.Sx
namespace Go.Proofs.YtmfbohanboiklaaGreat
open Go.Sx
noncomputable def Xx (l:List (Nat×Ct)) (hl:List (Nat×lg)) (inl:Nat->Bool) (ann:Nat->Nat->Option di):JY:= {P:=Tryz.prog,Z:=zeroOf,Γ:=oL l,H0:=BP hl,inl:=inl,ann:=ann,opn:=I4 inl}
theorem Ca[Fen]{l:List (Nat×Ct)}{hl:List (Nat×lg)}{inl:Nat->Bool}{ann:Nat->Nat->Option di}(h:∀p∈l,dO Tryz.prog p.1 p.2):(Xx l hl inl ann).toCtx.Sound:=
 ⟨wP nE,Tryz.checked.mixed,fun f g hg=>lJ h f g hg,fun f ts te h=>by simp[Xx]at h⟩
abbrev vch(l:List (Nat×Ct))(hl:List (Nat×lg))(inl:Nat->Bool)(ann:Nat->Nat->Option di)(f:Nat)(args:List V)(res:List aS)(K KP:V->List aS->Prop):Prop:=
 enter (Xx l hl inl ann).toCtx (exec (Xx l hl inl ann) 100 ⟨false,none⟩) (exec (Xx l hl inl ann) 100 ⟨false,none⟩ f) f args res K KP
set_option maxRecDepth 100000 in
theorem bU[Fen]{l:List (Nat×Ct)}{hl:List (Nat×lg)}{inl:Nat->Bool}{ann:Nat->Nat->Option di}(h:∀p∈l,dO Tryz.prog p.1 p.2)(hh:∀p∈hl,l5 Tryz.prog p.1 p.2){f:Nat}{args:List V}{res:List aS}
  {K KP:V->List aS->Prop} {G:Prop} (hG:G) (he:G=vch l hl inl ann f args res K KP):aM Tryz.prog f args res K KP:=
 yB (C:=Xx l hl inl ann) (n:=100) (Ca h) (uy hh) (fun(h:false=true)=>Bool.noConfusion h) (Eq.mp he hG)
def Cq:List (Nat×Nat×Nat)->Nat->Option (Nat×Nat)
 | [],_=>none
 | (g,ts,te)::l,f=>if f==g then some (ts,te)else Cq l f
theorem zi[Fen]{P:Program}:∀{l:List (Nat×Nat×Nat)},(∀p∈l,tV P p.1 p.2.1 p.2.2)->∀f ts te,Cq l f=some (ts,te)->tV P f ts te
 | [],_,f,ts,te,h=>by simp[Cq]at h
 | (g,a,b)::l,hl,f,ts,te,h=>by
   simp only[Cq]at h;split at h
   ·simp_all
   ·exact zi (fun p hp=>hl p (by simp[hp])) f ts te h
noncomputable def cfd (l:List (Nat×Ct)) (hl:List (Nat×lg)) (dl:List (Nat×Nat×Nat)) (inl:Nat->Bool) (ann:Nat->Nat->Option di):JY:= {P:=Tryz.prog,Z:=zeroOf,Γ:=oL l,D:=Cq dl,H0:=BP hl,inl:=inl,ann:=ann,opn:=I4 inl}
abbrev vcd(l:List (Nat×Ct))(hl:List (Nat×lg))(dl:List (Nat×Nat×Nat))(inl:Nat->Bool)(ann:Nat->Nat->Option di)(f:Nat)(args:List V)(res:List aS)(K KP:V->List aS->Prop):Prop:=
 enter (cfd l hl dl inl ann).toCtx (exec (cfd l hl dl inl ann) 100 ⟨false,none⟩) (exec (cfd l hl dl inl ann) 100 ⟨false,none⟩ f) f args res K KP
set_option maxRecDepth 100000 in
theorem bm[Fen]{l:List (Nat×Ct)}{hl:List (Nat×lg)}{dl:List (Nat×Nat×Nat)}{inl:Nat->Bool}{ann:Nat->Nat->Option di}(h:∀p∈l,dO Tryz.prog p.1 p.2)(hh:∀p∈hl,l5 Tryz.prog p.1 p.2)(hd:∀p∈dl,tV Tryz.prog p.1 p.2.1 p.2.2){f:Nat}{args:List V}{res:List aS}
  {K KP:V->List aS->Prop} {G:Prop} (hG:G) (he:G=vcd l hl dl inl ann f args res K KP):aM Tryz.prog f args res K KP:=
 yB (C:=cfd l hl dl inl ann) (n:=100) ⟨wP nE,Tryz.checked.mixed,fun f g hg=>lJ h f g hg,zi hd⟩ (uy hh) (fun(h:false=true)=>Bool.noConfusion h) (Eq.mp he hG)
noncomputable def UT (l:List (Nat×Ct)) (hl:List (Nat×lg)) (dl:List (Nat×Nat×Nat)) (inl:Nat->Bool) (ann:Nat->Nat->Option di):JY:= {P:=Tryz.prog,Z:=zeroOf,Γ:=oL l,D:=Cq dl,H0:=BP hl,inl:=inl,ann:=ann,opn:=I4 inl,nr:=true}
abbrev ac8(l:List (Nat×Ct))(hl:List (Nat×lg))(dl:List (Nat×Nat×Nat))(inl:Nat->Bool)(ann:Nat->Nat->Option di)(f:Nat)(args:List V)(res:List aS)(K KP:V->List aS->Prop):Prop:=
 enter (UT l hl dl inl ann).toCtx (exec (UT l hl dl inl ann) 100 ⟨false,none⟩) (exec (UT l hl dl inl ann) 100 ⟨false,none⟩ f) f args res K KP
set_option maxRecDepth 100000 in
theorem L0[Fen](hn:Fen.nar){l:List (Nat×Ct)}{hl:List (Nat×lg)}{dl:List (Nat×Nat×Nat)}{inl:Nat->Bool}{ann:Nat->Nat->Option di}(h:∀p∈l,dO Tryz.prog p.1 p.2)(hh:∀p∈hl,l5 Tryz.prog p.1 p.2)(hd:∀p∈dl,tV Tryz.prog p.1 p.2.1 p.2.2){f:Nat}{args:List V}{res:List aS}
  {K KP:V->List aS->Prop} {G:Prop} (hG:G) (he:G=ac8 l hl dl inl ann f args res K KP):aM Tryz.prog f args res K KP:=
 yB (C:=UT l hl dl inl ann) (n:=100) ⟨wP nE,Tryz.checked.mixed,fun f g hg=>lJ h f g hg,zi hd⟩ (uy hh) (fun _=>hn) (Eq.mp he hG)
theorem aM.lift[Fen]{i j:Fen}(hj:¬j.nar){P:Program}{f:Nat}{args:List V}{res:List aS}{K KP:V->List aS->Prop}(h: @aM i P f args res K KP): @aM j P f args res K KP:=
 fun J fps w0 F0 w hH ha=> @SH j _ _ _ _ _ _ hj (@Mz i _ _ _ _ _ _ _ (h J fps w0 F0 w hH ha))
theorem l5.lift[Fen]{i j:Fen}(hj:¬j.nar){P:Program}{f:Nat}{h:lg}(hh: @l5 i P f h): @l5 j P f h:=
 fun args res K KP hc=>aM.lift (i:=i) hj (hh args res K KP hc)
end Go.Proofs.YtmfbohanboiklaaGreat
namespace Go.Sx
open Go.RowKit (Below)
def Mt(κ:Nat->Option Nat)(r:List aS):List Nat->Option (List aS)
 | []=>some []
 |p::l=>if jl r p&&jY (aN r p)then match Mt κ r l with
   |some m=>some (gB κ (aN r p)::m)
   |none=>none
  else none
def xy(π:List Nat)(x:Nat->V)(new:Nat->List aS)(v:V)(r:List aS):Prop:=
 ∀nid,fP (idxOf π nid) v=some (x nid)/\Mt (idxOf π nid) r π=some (new nid)
def BR(x:Nat->V)(new:Nat->List aS):Ct:=fun _ nid args=>match args with
 | []=>some (none,x nid,new nid)
 |_=>none
def yfr:List aS->Bool
 | []=>true
 |r::l=>match r with
  | .yet=>false
  |_=>yfr l
theorem vY:∀{l:List aS},yfr l=true->∀k,k<l.length->aN l k≠ .yet
 | [],_,k,hk=>by simp at hk
 |r::l,h,k,hk=>by
  simp only[yfr]at h;split at h
  ·simp at h
  ·rename_i hr;cases k with
   |zero=>exact hr
   |succ k=>exact vY h k (by simpa using hk)
theorem wg{κ:Nat->Option Nat}{r:List aS}:∀{π:List Nat} {new:List aS},Mt κ r π=some new->new.length=π.length/\
  ∀(k p:Nat),π[k]? =some p->known r p/\jY (aN r p)=true/\aN new k=gB κ (aN r p)
 | [],new,h=>by simp only[Mt,aa]at h;subst h;exact⟨rfl,fun k p h=>by simp at h⟩
 |q::π,new,h=>by
  simp only[Mt]at h;split at h
  ·rename_i hc;simp only[af]at hc;split at h<;>simp only[aa,reduceCtorEq]at h
   rename_i m hm;subst h;obtain⟨a,b⟩:=wg hm;refine⟨by simp[a],fun k p hk=>?_⟩
   cases k with
   |zero=>simp at hk;subst hk;exact⟨cI.1 hc.1,hc.2,rfl⟩
   |succ k=>exact b k p (by simpa using hk)
  ·simp at h
theorem vB[Fen]{P:Program}{f:Nat}{π:List Nat}{x:Nat->V}{new:Nat->List aS}(hnd:π.Nodup)(hy:∀nid,yfr (new nid)=true)(h:aM P f [] [] (xy π x new) (fun _ _=>False)):dO P f (BR x new):=by
 intro J fps res K w0 F0 w nid args q y new' hH hargs hg hq hfr;unfold BR at hg;split at hg<;>simp only[aa,ae,reduceCtorEq]at hg
 obtain⟨_,rfl,rfl⟩:=hg
 have hE:bp J (fun _ _=>False) [] (known []) w (fun _=>False) w:=
  ⟨fun i hi=>hi,Nat.le_refl _,rfl,rfl,rfl,fun i hi=>by simp[known,aN]at hi,fun i b hi=>by simp[known,aN]at hi,fun i j b hi=>by simp[known,aN]at hi,fun i b hi=>by simp[known,aN]at hi,fun _ _ _=>rfl⟩
 have hc:=h J _ w (fun _=>False) w hE trivial
 refine⟨?_,?_⟩
 ·refine hc.mono fun e w' ⟨v,ρ1,fps1,r,g1,g2,g3,g4⟩=>?_
  rcases g4 with⟨rfl,hN⟩|⟨_,hF⟩
  ·obtain⟨n1,n2⟩:=hN nid;obtain⟨l1,l2⟩:=wg n2;refine⟨_,rfl,?_⟩
   let ρ':Env:=⟨fun i=>if i<nid then J.num i else if i<nid+π.length then ρ1.num (π.getD (i-nid) 0)else J.num i,fun i=>if i<nid then J.cap i else if i<nid+π.length then ρ1.cap (π.getD (i-nid) 0)else J.cap i,
    fun i=>if i<nid then J.adr i else if i<nid+π.length then ρ1.adr (π.getD (i-nid) 0)else J.adr i,fun i=>if i<nid then J.sa i else if i<nid+π.length then ρ1.sa (π.getD (i-nid) 0)else J.sa i,
    fun i=>if i<nid then J.sn i else if i<nid+π.length then ρ1.sn (π.getD (i-nid) 0)else J.sn i,fun i=>if i<nid then J.ob i else if i<nid+π.length then ρ1.ob (π.getD (i-nid) 0)else J.ob i⟩
   have hvia:Env.via (idxOf π nid) ρ1 ρ':=by
    intro p i hp;obtain⟨a1,a2,a3⟩:=jj hp;have:π.getD (i-nid) 0=p:=by simp[an,a3]
    simp[ρ',aq (show¬i<nid by omega),ar a2,a3]
   have hat:∀k,k<(new nid).length->∃p,π[k]? =some p/\idxOf π nid p=some (nid+k):=fun k hk=>by
    have hk':k<π.length:=by omega
    exact⟨π[k],by simp[hk'],og π nid k hnd (by simp[hk'])⟩
   have hNN:∀p i,idxOf π nid p=some i->known r p->K i\/fresh nid (new nid).length i:=fun p i hp _=>by
    obtain⟨a1,a2,a3⟩:=jj hp;exact .inr ⟨a1,by omega⟩
   refine⟨ρ',⟨⟨g1.os,g1.tape,g1.output,g1.old,fun b hb=>g1.same b hb (by simp)⟩,fun i hi=>?_,fun k=>fps1 (π.getD k 0),fun k hk=>?_,fun k l b hk hl hne=>?_⟩,?_,?_⟩
   ·grind
   ·obtain⟨p,p1,p2⟩:=hat k hk;obtain⟨m1,m2,m3⟩:=l2 k p p1;have hgd:π.getD k 0=p:=by simp[an,p1]
    simp only[hgd];refine⟨?_,fun b hb=>⟨?_,g1.lt p b m1 hb⟩⟩
    ·rw[m3];exact iN hvia hNN p2 _ _ _ (l6 m2 (g1.holds p m1))
    ·refine Nat.le_of_not_lt fun hlt=>?_
     exact g1.inF p b m1 hb hlt
   ·obtain⟨p,p1,p2⟩:=hat k hk;obtain⟨p',p1',p2'⟩:=hat l hl;have hgd:π.getD k 0=p:=by simp[an,p1]
    have hgd':π.getD l 0=p':=by simp[an,p1']
    simp only[hgd,hgd']
    have hpp:p≠p':=by
     grind
    exact g1.disj p p' b (l2 k p p1).1 (l2 l p' p1').1 hpp
   ·exact(j8 hvia hNN _ _ n1).1.symm
   ·exact(j8 hvia hNN _ _ n1).2.1 g3
  ·exact hF.elim
 ·intro k hk;exact vY (hy nid) k hk
structure Arg(α:Type) where
 rd:List aS->V->Option (List (Nat×aS)×α)
 cn:α->Nat->V
 pl:α->List aS
structure lb(α:Type) where
 rd:List aS->List V->Option (List (Nat×aS)×α)
 cn:α->Nat->List V
 pl:α->List aS
def lU{α:Type}(A:Arg α):Prop:=∀res v pls a,A.rd res v=some (pls,a)->pls.map (·.2)=A.pl a/\(∀p∈pls,pB res p.1 p.2/\sK p.2=true)/\cE (A.cn a 0)=cE v/\(∀n,cE (A.cn a n)=cE (A.cn a 0))/\
 ∀(pre post:List (Nat×aS)),(∀J K,ok K v->den (J.pull (th (pre++(pls++post)))) (A.cn a pre.length)=den J v)/\∀K,ok K v->ok (known (v7 (pre++(pls++post)))) (A.cn a pre.length)
def ji{α:Type}(A:lb α):Prop:=∀res l pls a,A.rd res l=some (pls,a)->pls.map (·.2)=A.pl a/\(∀p∈pls,pB res p.1 p.2/\sK p.2=true)/\(qS l->∀n,qS (A.cn a n))/\
 ∀(pre post:List (Nat×aS)),(∀J K,fq K l->bG (J.pull (th (pre++(pls++post)))) (A.cn a pre.length)=bG J l/\br (J.pull (th (pre++(pls++post)))) (A.cn a pre.length)=br J l)/\∀K,fq K l->fq (known (v7 (pre++(pls++post)))) (A.cn a pre.length)
def jP:lb Unit:=⟨fun _ l=>match l with| []=>some ([],())|_=>none,fun _ _=> [],fun _=> []⟩
def bJ{α β:Type}(A:Arg α)(B:lb β):lb (α×β):=
 ⟨fun res l=>match l with
  |v::l=>match A.rd res v with
   |some (p,a)=>match B.rd res l with
    |some (q,b)=>some (p++q,(a,b))
    |none=>none
   |none=>none
  | []=>none,fun x n=>A.cn x.1 n::B.cn x.2 (n+(A.pl x.1).length),fun x=>A.pl x.1++B.pl x.2⟩
def EX{α:Type}(r:V->Option α)(m:α->V):Arg α:=⟨fun _ v=>match r v with|some x=>some ([],x)|none=>none,fun x _=>m x,fun _=> []⟩
def Vt(t e:Nat):Arg (Option (List Obj)):=
 ⟨fun res v=>match rS t e res v with
  |some (o,L)=>match o with
   |none=>some ([],none)
   |some k=>some ([(k,.store t e L)],some L)
  |none=>none,fun o n=>match o with|none=>lX|some _=> .lp n 0,fun o=>match o with|none=> []|some L=> [.store t e L]⟩
def liA:Arg (List Obj):=
 ⟨fun res v=>match rA res v with
  |some (k,L)=>some ([(k,.arr none 163 (.ob L))],L)
  |none=>none,fun _ n=> .sa n,fun L=> [.arr none 163 (.ob L)]⟩
def laA{α:Type}(esz:Nat)(r:TL->Option α)(m:α->TL):Arg α:=
 ⟨fun res v=>match v with
  | .sa k=>match cC res k with
    | .arr _ e l=>if e==esz then match r l with
      |some x=>some ([(k,.arr none esz (m x))],x)
      |none=>none
      else none
    |_=>none
  |_=>none,fun _ n=> .sa n,fun x=> [.arr none esz (m x)]⟩
def agA{α:Type}(B:lb α):Arg α:=
 ⟨fun res v=>match v with
  | .ag l=>B.rd res l
  |_=>none,fun x n=> .ag (B.cn x n),B.pl⟩
theorem yU{pre pls post:List (Nat×aS)}{k:Nat}{r:aS}:th (pre++((k,r)::pls++post)) pre.length=k:=vl _ _ (k,r) (by simp)
theorem w9{pre pls post:List (Nat×aS)}{k:Nat}{r:aS}:known (v7 (pre++((k,r)::pls++post))) pre.length:=by
 unfold known;rw[yD];simp
theorem dq:ji jP:=by
 intro res l pls a h;simp only[jP]at h;split at h<;>simp only[aa,ae,reduceCtorEq]at h
 obtain⟨rfl,_⟩:=h;exact⟨rfl,by simp,fun _ _=>trivial,fun pre post=>⟨fun _ _ _=>⟨rfl,rfl⟩,fun _ _=>trivial⟩⟩
theorem ba{α β:Type}{A:Arg α}{B:lb β}(hA:lU A)(hB:ji B):ji (bJ A B):=by
 intro res l pls x h;simp only[bJ]at h;split at h
 case h_2=>simp at h
 rename_i v l;split at h
 case h_2=>simp at h
 rename_i p a ha;split at h
 case h_2=>simp at h
 rename_i q b hb;simp only[aa,ae]at h;obtain⟨rfl,rfl⟩:=h;obtain⟨a1,a2,a3,a3',a4⟩:=hA _ _ _ _ ha;obtain⟨b1,b2,b3,b4⟩:=hB _ _ _ _ hb;refine⟨by simp[bJ,a1,b1],fun p' hp'=>?_,fun hc n=>?_,fun pre post=>?_⟩
 ·grind
 ·grind[eE,bJ]
 ·have hlen:(A.pl a).length=p.length:=by rw[<-a1];simp
  obtain⟨c1,c2⟩:=a4 pre (q++post);obtain⟨d1,d2⟩:=b4 (pre++p) post;have e1:pre++(p++q++post)=pre++(p++(q++post)):=by simp
  have e2:(pre++p)++(q++post)=pre++(p++(q++post)):=by simp
  have e3:(pre++p).length=pre.length+(A.pl a).length:=by simp[hlen]
  rw[e2,e3]at d1 d2;rw[e1];refine⟨fun J K hK=>?_,fun K hK=>?_⟩
  ·obtain⟨f1,f2⟩:=d1 J K hK.2;have f3:=c1 J K hK.1;simp only[bJ];exact⟨by simp only[bG];rw[f3,f1],by simp only[br];rw[f3,f2]⟩
  ·exact⟨c2 K hK.1,d2 K hK.2⟩
theorem sH{α:Type}{r:V->Option α}{m:α->V}(hr:tG r m)(hid:∀x,kR (m x)=true)(ht:∀v x,r v=some x->cE v=cE (m x)):lU (EX r m):=by
 intro res v pls a h;simp only[EX]at h;split at h<;>simp only[aa,ae,reduceCtorEq]at h
 rename_i x hx;obtain⟨rfl,rfl⟩:=h;obtain⟨b1,b2⟩:=hr _ x hx;refine⟨rfl,by simp,(ht v x hx).symm,fun _=>rfl,fun pre post=>⟨fun J K hK=>?_,fun K hK=>gi (b2 K hK)⟩⟩
 show den _ (m x)=_
 rw[b1 J];exact s9 (hid x) (b2 K hK) J _
theorem wj(t e:Nat):lU (Vt t e):=by
 intro res v pls a h;simp only[Vt]at h;split at h
 case h_2=>simp at h
 rename_i o L hs;rcases yb hs with⟨rfl,rfl,rfl⟩|⟨k,rfl,rfl,hse⟩<;>simp only[aa,ae]at h<;>obtain⟨rfl,rfl⟩:=h
 ·exact⟨rfl,by simp,rfl,fun _=>rfl,fun pre post=>⟨fun _ _ _=>rfl,fun _ _=>rfl⟩⟩
 ·refine⟨rfl,by simpa using⟨hse,rfl⟩,rfl,fun _=>rfl,fun pre post=>⟨fun J K hK=>?_,fun K hK=>w9 (pls:= [])⟩⟩
  simp only[Vt,den,Env.pull];rw[yU (pls:= [])]
theorem YW:lU liA:=by
 intro res v pls a h;simp only[liA]at h;split at h<;>simp only[aa,ae,reduceCtorEq]at h
 rename_i k L hs;obtain⟨rfl,rfl⟩:=h;obtain⟨rfl,hse,_⟩:=Kz hs;refine⟨rfl,by simpa using⟨hse,rfl⟩,rfl,fun _=>rfl,fun pre post=>⟨fun J K hK=>?_,fun K hK=>w9 (pls:= [])⟩⟩
 simp only[liA,den,Env.pull];rw[yU (pls:= [])]
theorem NR{α:Type}{esz:Nat}{r:TL->Option α}{m:α->TL}(hr:∀l x,r l=some x->l=m x):lU (laA esz r m):=by
 intro res v pls a h;simp only[laA]at h;split at h
 case h_2=>simp at h
 rename_i k;split at h
 case h_2=>simp at h
 rename_i own e l hl;split at h
 case isFalse=>simp at h
 rename_i he;have he:=ai.1 he;subst he;split at h<;>simp only[aa,ae,reduceCtorEq]at h
 rename_i x hx;obtain⟨rfl,rfl⟩:=h;have:=hr _ _ hx;subst this;refine⟨rfl,by simpa using⟨pB.arr hl,rfl⟩,rfl,fun _=>rfl,fun pre post=>⟨fun J K hK=>?_,fun K hK=>w9 (pls:= [])⟩⟩
 simp only[laA,den,Env.pull];rw[yU (pls:= [])]
theorem D3{α:Type}{B:lb α}(hB:ji B):lU (agA B):=by
 intro res v pls a h;simp only[agA]at h;split at h
 case h_2=>simp at h
 rename_i l;obtain⟨b1,b2,b3,b4⟩:=hB _ _ _ _ h;refine⟨b1,b2,rfl,fun _=>rfl,fun pre post=>?_⟩
 obtain⟨c1,c2⟩:=b4 pre post;refine⟨fun J K hK=>?_,fun K hK=>⟨c2 K hK.1,b3 hK.2 _⟩⟩
 simp only[agA,den];rw[(c1 J K hK.1).2]
def FN{α:Type}(B:lb α)(Q:α->Option Prop)(F:α->V):Ct:=fun res _ xs=>match B.rd res xs with
 |some (_,a)=>some (Q a,F a,[])
 |none=>none
def ot(l:List aS):List aS:=l.map .ro
theorem Hs(pls:List (Nat×aS)):v7 pls=ot (pls.map (·.2)):=by
 induction pls with
 |nil=>rfl
 |cons p l ih=>obtain⟨p,r⟩:=p;simp[v7,ot,ih]
theorem kW[Fen]{P:Program}{f:Nat}{α:Type}{B:lb α}{Q:α->Option Prop}{F:α->V}(hB:ji B)(hF:∀a,kR (F a)=true)
  (h:∀a,cM (Q a)->fq (known (ot (B.pl a))) (B.cn a 0)->aM P f (B.cn a 0) (ot (B.pl a)) (sX (F a)) (fun _ _=>False)):dO P f (FN B Q F):=by
 refine yo fun res nid args q x new hg=>?_
 unfold FN at hg;split at hg<;>simp only[aa,ae,reduceCtorEq]at hg
 rename_i pls a ha;obtain⟨rfl,rfl,rfl⟩:=hg;obtain⟨b1,b2,_,b4⟩:=hB _ _ _ _ ha;obtain⟨c1,c2⟩:=b4 [] [];simp only[List.nil_append,List.append_nil,List.length_nil]at c1 c2;refine⟨rfl,hF a,pls,B.cn a 0,b2,fun J K hK=>(c1 J K hK).1,c2,fun hq hok=>?_⟩
 rw[Hs,b1]at hok⊢;exact(h a hq hok).mono (fun _ _=>eC) fun _ _ h=>h
def X2{α:Type}(B:lb α)(Q:α->Option Prop)(x:α->Nat->V)(new:α->Nat->List aS):Ct:=fun res nid xs=>match B.rd res xs with
 |some (_,a)=>some (Q a,x a nid,new a nid)
 |none=>none
theorem JX{J:Env}{fps:Nat->Nat->Prop}{res:List aS}{K:Nat->Prop}{w0 w:World}{F0:Nat->Prop}(hH:bp J fps res K w0 F0 w){pls:List (Nat×aS)}(hcl:∀p∈pls,pB res p.1 p.2/\sK p.2=true):
  bp (J.pull (th pls)) (fun _ _=>False) (v7 pls) (known (v7 pls)) w (fun _=>False) w:=by
 have hfr:∀b,b<w0.heap.size->¬F0 b->w.heap[b]? =w0.heap[b]? /\¬(fun _:Nat=>False) b:=fun b hb hF=>⟨hH.same b hb hF,fun h=>h⟩
 refine⟨fun i hi=>hi,Nat.le_refl _,rfl,rfl,rfl,fun i hi=>?_,fun i b hi h=>h.elim,fun i j b hi hj hne h=>h.elim,fun i b hi h=>h.elim,fun _ _ _=>rfl⟩
 have hlt:=aY hi;rw[tR]at hlt;have hp:pls[i]? =some pls[i]:=List.getElem?_eq_getElem hlt;generalize pls[i]=p at hp
 rw[yD,hp];simp only;obtain⟨hs,hcl⟩:=hcl p (List.mem_of_getElem? hp);obtain⟨fp,g1,g2⟩:=hs.2 J fps K w0 F0 w hH
 have hv:Env.via (fun x=>if x=p.1 then some i else none) J (J.pull (th pls)):=rf fun x j hx=>by
  split at hx
  ·simp only[aa]at hx;subst hx;rename_i e;subst e;exact vl pls i p hp
  ·simp at hx
 have:=iN (N':=known (v7 pls)) hv (fun x j hx _=>by
  split at hx
  ·simp only[aa]at hx;subst hx;exact hi
  ·simp at hx) (p:=p.1) (i:=i) (by simp) _ _ _ (aS.tY hH.old hfr _ _ g1)
 rw[vt hcl]at this;refine⟨fp,this,fun b hb=>⟨?_,fun h=>h⟩⟩
 rcases g2 b hb with⟨j,hj,hf⟩|⟨hl,_⟩
 ·exact hH.lt j b hj hf
 ·exact Nat.lt_of_lt_of_le hl hH.old
theorem tQ{J ρ1:Env}{K:Nat->Prop}{fps1:Nat->Nat->Prop}{r:List aS}{w0 w w':World}{F0:Nat->Prop}{nid:Nat}{π:List Nat}{x:Nat->V}{new:Nat->List aS}{v:V}(hnd:π.Nodup)
  (g1:bp ρ1 fps1 r (known r) w (fun _=>False) w') (g3:ok (known r) v) (hN:xy π x new v r):r8 K J nid (x nid) (new nid) w0 F0 w (den ρ1 v) w':=by
 obtain⟨n1,n2⟩:=hN nid;obtain⟨l1,l2⟩:=wg n2
 let ρ':Env:=⟨fun i=>if i<nid then J.num i else if i<nid+π.length then ρ1.num (π.getD (i-nid) 0)else J.num i,fun i=>if i<nid then J.cap i else if i<nid+π.length then ρ1.cap (π.getD (i-nid) 0)else J.cap i,
  fun i=>if i<nid then J.adr i else if i<nid+π.length then ρ1.adr (π.getD (i-nid) 0)else J.adr i,fun i=>if i<nid then J.sa i else if i<nid+π.length then ρ1.sa (π.getD (i-nid) 0)else J.sa i,
  fun i=>if i<nid then J.sn i else if i<nid+π.length then ρ1.sn (π.getD (i-nid) 0)else J.sn i,fun i=>if i<nid then J.ob i else if i<nid+π.length then ρ1.ob (π.getD (i-nid) 0)else J.ob i⟩
 have hvia:Env.via (idxOf π nid) ρ1 ρ':=by
  intro p i hp;obtain⟨a1,a2,a3⟩:=jj hp;simp[ρ',aq (show¬i<nid by omega),ar a2,a3]
 have hat:∀k,k<(new nid).length->∃p,π[k]? =some p/\idxOf π nid p=some (nid+k):=fun k hk=>by
  have hk':k<π.length:=by omega
  exact⟨π[k],by simp[hk'],og π nid k hnd (by simp[hk'])⟩
 have hNN:∀p i,idxOf π nid p=some i->known r p->K i\/fresh nid (new nid).length i:=fun p i hp _=>by
  obtain⟨a1,a2,a3⟩:=jj hp;exact .inr ⟨a1,by omega⟩
 refine⟨ρ',⟨⟨g1.os,g1.tape,g1.output,g1.old,fun b hb=>g1.same b hb (by simp)⟩,fun i hi=>?_,fun k=>fps1 (π.getD k 0),fun k hk=>?_,fun k l b hk hl hne=>?_⟩,?_,?_⟩
 ·have:¬(nid<=i/\i<nid+π.length):=fun⟨a,b⟩=>hi ⟨a,by omega⟩
  by_cases hlt:i<nid
  ·simp[ρ',ar hlt]
  ·simp[ρ',aq hlt,aq (show¬i<nid+π.length by omega)]
 ·obtain⟨p,p1,p2⟩:=hat k hk;obtain⟨m1,m2,m3⟩:=l2 k p p1;have hgd:π.getD k 0=p:=by simp[an,p1]
  simp only[hgd];refine⟨?_,fun b hb=>⟨?_,g1.lt p b m1 hb⟩⟩
  ·rw[m3];exact iN hvia hNN p2 _ _ _ (l6 m2 (g1.holds p m1))
  ·refine Nat.le_of_not_lt fun hlt=>?_
   exact g1.inF p b m1 hb hlt
 ·obtain⟨p,p1,p2⟩:=hat k hk;obtain⟨p',p1',p2'⟩:=hat l hl;have hgd:π.getD k 0=p:=by simp[an,p1]
  have hgd':π.getD l 0=p':=by simp[an,p1']
  simp only[hgd,hgd']
  have hpp:p≠p':=by
   rintro rfl
   rw[p2]at p2';simp at p2';omega
  exact g1.disj p p' b (l2 k p p1).1 (l2 l p' p1').1 hpp
 ·exact(j8 hvia hNN _ _ n1).1.symm
 ·exact(j8 hvia hNN _ _ n1).2.1 g3
theorem Wc[Fen]{P:Program}{f:Nat}{α:Type}{B:lb α}{Q:α->Option Prop}{x:α->Nat->V}{new:α->Nat->List aS}{π:α->List Nat}(hB:ji B)(hnd:∀a,(π a).Nodup)(hy:∀a nid,yfr (new a nid)=true)
  (h:∀a,cM (Q a)->fq (known (ot (B.pl a))) (B.cn a 0)->aM P f (B.cn a 0) (ot (B.pl a)) (fun v r=>xy (π a) (x a) (new a) v r) (fun _ _=>False)):dO P f (X2 B Q x new):=by
 intro J fps res K w0 F0 w nid args q y new' hH hargs hg hq hfr;unfold X2 at hg;split at hg<;>simp only[aa,ae,reduceCtorEq]at hg
 rename_i pls a ha;obtain⟨rfl,rfl,rfl⟩:=hg;obtain⟨b1,b2,_,b4⟩:=hB _ _ _ _ ha;obtain⟨c1,c2⟩:=b4 [] [];simp only[List.nil_append,List.append_nil,List.length_nil]at c1 c2;refine⟨?_,fun k hk=>vY (hy a nid) k hk⟩
 have hrep:=JX hH b2;have hok:=c2 K hargs;rw[<-(c1 J K hargs).1];have hro:v7 pls=ot (B.pl a):=by rw[Hs,b1]
 rw[hro]at hrep hok;refine(h a hq hok _ _ _ _ _ hrep hok).mono fun e w' ⟨v,ρ1,fps1,r,g1,g2,g3,g4⟩=>?_
 rcases g4 with⟨rfl,hN⟩|⟨_,hF⟩
 ·exact⟨_,rfl,tQ (hnd a) g1 g3 hN⟩
 ·exact hF.elim
theorem aM.IV[Fen]{P:Program}{f:Nat}{args:List V}{res:List aS}{x:V}{new:List aS}{K KP:V->List aS->Prop}(hy:∀k,k<new.length->aN new k≠ .yet)
  (h:∀J fps w0 F0 w,bp J fps res (known res) w0 F0 w->fq (known res) args->CallsIn (FF P none) 0 P f (bG J args).toArray w fun e w'=>∃v,e= .returned v/\r8 (known res) J res.length x new w0 F0 w v w') (hK:K x (res++new)):aM P f args res K KP:=by
 intro J fps w0 F0 w hH hargs;refine(h J fps w0 F0 w hH hargs).mono fun e w' ⟨v,he,ρ',hg,hv,hx⟩=>?_
 have hfr':∀i,known res i->¬fresh res.length new.length i:=fun i hi hf=>by have:=aY hi;unfold fresh at hf;omega
 have hK':∀i,known res i\/fresh res.length new.length i->known (res++new) i:=by
  intro i hi;obtain⟨b1,b2,b3⟩:=kX res new;rcases hi with hi|⟨f1,f2⟩
  ·unfold known;rw[(b1 i hi).1];exact hi
  ·have:=b3 (i-res.length) (by omega)
   rw[show res.length+(i-res.length)=i by omega]at this
   unfold known;rw[this];exact hy _ (by omega)
 obtain⟨fps',g1,g2⟩:=hH.grow (res':=res++new) (kX _ _) hfr' hK' hg;exact⟨x,ρ',fps',res++new,g1,⟨g2,fun i hi=>hK' i (.inl hi)⟩,dt hK' _ hx,.inl ⟨by rw[he,hv],hK⟩⟩
def QB{α:Type}(B:lb α)(Q:α->Prop)(c:α->Bool)(F0:α->V)(F1:α->Nat->V)(new:α->aS):lg:=fun args res K=>
 match B.rd res args with
 |some (_,a)=>Q a/\(c a=false->K (F0 a) res)/\(c a=true->K (F1 a res.length) (res++ [new a]))
 |none=>False
def YK(c:Bool)(x0:V)(F1:Nat->V)(new:aS)(p:Option Nat)(v:V)(r:List aS):Prop:=
 match p with
 |some p=>c=true/\xy [p] F1 (fun _=> [new]) v r
 |none=>c=false/\sX x0 v r
def ads(v:V):Option Nat:=
 match v with
 | .sa p=>some p
 | .lp p _=>some p
 | .tp l=>match l with
   |x::_=>match x with
    | .sa p=>some p
    | .lp p _=>some p
    |_=>none
   | []=>none
 |_=>none
def GG(c:Bool)(x0:V)(F1:Nat->V)(new:aS)(v:V)(r:List aS):Prop:=YK c x0 F1 new (ads v) v r
theorem zY[Fen]{P:Program}{f:Nat}{α:Type}{B:lb α}{Q:α->Prop}{c:α->Bool}{F0:α->V}{F1:α->Nat->V}{new:α->aS}(hB:ji B)(hF:∀a,kR (F0 a)=true)(hn:∀a,new a≠ .yet)
  (h:∀a,Q a->fq (known (ot (B.pl a))) (B.cn a 0)->aM P f (B.cn a 0) (ot (B.pl a)) (GG (c a) (F0 a) (F1 a) (new a)) (fun _ _=>False)):l5 P f (QB B Q c F0 F1 new):=by
 intro args res K KP hh;unfold QB at hh;split at hh
 case h_2=>exact hh.elim
 rename_i pls a ha;obtain⟨hQ,h0,h1⟩:=hh;obtain⟨b1,b2,_,b4⟩:=hB _ _ _ _ ha;obtain⟨c1,c2⟩:=b4 [] [];simp only[List.nil_append,List.append_nil,List.length_nil]at c1 c2;have hro:v7 pls=ot (B.pl a):=by rw[Hs,b1]
 have main:∀J fps w0 F0' w,bp J fps res (known res) w0 F0' w->fq (known res) args->CallsIn (FF P none) 0 P f (bG J args).toArray w fun e w'=>∃v ρ1 fps1 r,e= .returned (den ρ1 v)/\bp ρ1 fps1 r (known r) w (fun _=>False) w'/\ok (known r) v/\GG (c a) (F0 a) (F1 a) (new a) v r:=by
  intro J fps w0 F0' w hH hargs;have hrep:=JX hH b2;have hok:=c2 _ hargs;rw[hro]at hrep hok;rw[<-(c1 J _ hargs).1];refine(h a hQ hok _ _ _ _ _ hrep hok).mono fun e w' ⟨v,ρ1,fps1,r,g1,g2,g3,g4⟩=>?_
  rcases g4 with⟨rfl,hN⟩|⟨_,hF⟩
  ·exact⟨v,ρ1,fps1,r,rfl,g1,g3,hN⟩
  ·exact hF.elim
 cases hc:c a with
 |true=>
  refine aM.IV (x:=F1 a res.length) (new:= [new a]) (fun k hk=>by simp at hk;subst hk;exact hn a) (fun J fps w0 F0' w hH hargs=>?_) (h1 hc)
  refine(main J fps w0 F0' w hH hargs).mono fun e w' ⟨v,ρ1,fps1,r,he,g1,g3,hv⟩=>?_
  unfold GG YK at hv;split at hv
  ·exact⟨_,he,tQ (new:=fun _=> [new a]) (by simp) g1 g3 hv.2⟩
  ·rw[hc]at hv;simp at hv
 |false=>
  have h0':=h0 hc;rw[<-List.append_nil res]at h0';refine aM.IV (x:=F0 a) (new:= []) (fun k hk=>by simp at hk) (fun J fps w0 F0' w hH hargs=>?_) h0'
  refine(main J fps w0 F0' w hH hargs).mono fun e w' ⟨v,ρ1,fps1,r,he,g1,g3,hv⟩=>?_
  unfold GG YK at hv;split at hv
  ·rw[hc]at hv;simp at hv
  ·refine⟨_,he,J,⟨⟨g1.os,g1.tape,g1.output,g1.old,fun b hb=>g1.same b hb (fun h=>h)⟩,Env.agree.refl _ _,fun _ _=>False,fun k hk=>by simp at hk,fun k l b hk=>by simp at hk⟩,?_,?_⟩
   ·obtain⟨e1,e2,_⟩:=eC hv.2 ρ1 (known r);rw[e1];exact s9 (hF a) (e2 g3) J ρ1
   ·obtain⟨e1,e2,_⟩:=eC hv.2 ρ1 (known r);exact pU _ (hF a) (e2 g3)
theorem aM.acd[Fen]{P:Program}{f:Nat}{rest:List V}{res:List aS}{K KP:V->List aS->Prop}{k n e:Nat}{x:V}{L:List Obj}(hr:aN res k= .blk e x)(hl:Ml x=some L)(hn:n=L.length)(hs:n<=1000)
  (h:aM P f (.sa res.length::rest) (bR res k .gone++ [.arr (some e) 163 (.ob L)]) K KP):aM P f (.sc k n n::rest) res K KP:=by
 intro J fps w0 F0 w hH hargs;have hk:known res k:=by unfold known;rw[hr];simp
 have hnk:¬known res res.length:=fun hk=>by have:=aY hk;omega
 have hag:=pR (N:=known res) J (i:=res.length) (a:=some ⟨J.num k,0,none⟩) (n:=n) (cap:=n) hnk;obtain⟨fps',g1,g2,g3,g4⟩:=FW hH hr hl hn hs;have hargs':fq (known (cA [k] res++ [.arr (some e) 163 (.ob L)])) (.sa res.length::rest):=⟨g4,cK g3 _ hargs.2⟩
 have hd:bG (J.gj res.length (some ⟨J.num k,0,none⟩) n n) (.sa res.length::rest)=bG J (.sc k n n::rest):=by
  simp only[bG,fS hag rest hargs.2];simp[den,Env.gj]
 have:=h _ fps' w0 F0 w g1 hargs';rw[hd]at this;refine this.mono fun en w' ⟨x,ρ'',fps'',res'',a1,a2,a3,a4⟩=>⟨x,ρ'',fps'',res'',a1,⟨g2.trans (a2.1.mono fun i hi=>g3 i hi) (fun _ h=>h),fun i hi=>a2.2 i (g3 i hi)⟩,a3,a4⟩
def Yg(h:lg):lg:=fun args res K=>
 match args with
 |a::rest=>match a with
  | .sc k n c=>match aN res k with
    | .blk e x=>match Ml x with
      |some L=>if n==L.length&&c==n&&Nat.ble n 1000 then h (.sa res.length::rest) (bR res k .gone++ [.arr (some e) 163 (.ob L)]) K else False
      |none=>False
    |_=>False
  |a=>h (a::rest) res K
 | []=>h [] res K
theorem VK[Fen]{P:Program}{f:Nat}{h:lg}(hh:l5 P f h):l5 P f (Yg h):=by
 intro args res K KP hc;unfold Yg at hc;split at hc
 ·split at hc
  ·split at hc
   case h_2=>exact hc.elim
   rename_i e x hr;split at hc
   case h_2=>exact hc.elim
   rename_i L hL;split at hc
   case isFalse=>exact hc.elim
   rename_i hb;simp only[af,ai,Nat.ble_eq]at hb;obtain⟨⟨h1,rfl⟩,h2⟩:=hb;exact aM.acd hr hL h1 h2 (hh _ _ _ _ hc)
  ·exact hh _ _ _ _ hc
 ·exact hh _ _ _ _ hc
end Go.Sx
