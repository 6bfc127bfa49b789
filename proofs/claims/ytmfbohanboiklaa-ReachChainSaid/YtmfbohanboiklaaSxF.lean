import Derived.Test.YtmfbohanboiklaaCfg
set_option linter.unusedSimpArgs false
set_option linter.unusedVariables false
namespace Go.Sx
open Go.RowKit (Below)
abbrev Ct:=List ah->Nat->List V->RR
def bW (P:Program) (f:Nat) (g:Ct):Prop:=
 ∀J fps res K w0 F0 w nid args q x new,ar J fps res K w0 F0 w->ca K args->g res nid args=some (q,x,new)->aU q->
  (∀k,k<new.length->¬K (nid+k))->
  (CallsIn (FF P none) 0 P f (aA J args).toArray w fun e w'=>∃v,e= .returned v/\lE K J nid x new w0 F0 w v w')/\∀k,k<new.length->ae new k≠ .yet
def mf:List (Nat×Ct)->Nat->Option Ct
 | [],_=>none
 | (g,c)::l,f=>if f==g then some c else mf l f
theorem kc {P:Program}:∀{l:List (Nat×Ct)},(∀p∈l,bW P p.1 p.2)->∀f g,mf l f=some g->bW P f g
 | [],_,f,g,h=>by simp[mf]at h
 | (k,c)::l,hl,f,g,h=>by
   simp only[mf]at h;split at h
   ·simp_all
   ·exact kc (fun p hp=>hl p (by simp[hp])) f g h
mutual
def gl:V->Bool
 | .lp _ _=>false
 | .lx _ _ _ _ _ _=>false
 | .sc _ _ _=>false
 | .so _ _=>false
 | .ap _ _ _ _=>false
 | .ax _ _ _ _ _ _ _ _=>false
 | .sa _=>false
 | .op _ _=>false
 | .yl _=>false
 | .mp _=>false
 | .ch _ _ _ _=>false
 | .bs _ _ _=>false
 | .ks _ _ _ _ _| .vw _ _ _ _=>false
 | .fn _ l=>js l
 | .ic _ x=>gl x
 | .ag l=>js l
 | .tp l=>js l
 |_=>true
def js:List V->Bool
 | []=>true
 |x::l=>gl x&&js l
end
mutual
theorem ja {K K':Nat->Prop}:∀v,gl v=true->ok K v->ok K' v
 | .lp _ _,h,_| .lx _ _ _ _ _ _,h,_| .sc _ _ _,h,_| .so _ _,h,_| .ap _ _ _ _,h,_| .sa _,h,_| .op _ _,h,_| .yl _,h,_| .mp _,h,_| .ch _ _ _ _,h,_| .ax _ _ _ _ _ _ _ _,h,_| .bs _ _ _,h,_| .ks _ _ _ _ _,h,_| .vw _ _ _ _,h,_=>by simp[gl]at h
 | .fn _ l,h,hk=>jQ l h hk
 | .ic _ x,h,hk=>ja x h hk
 | .ag l,h,hk=>⟨jQ l h hk.1,hk.2⟩
 | .tp l,h,hk=>jQ l h hk
 | .cb _,_,hk| .bo _,_,hk| .ci _ _,_,hk| .it _ _,_,hk| .bt _,_,hk| .st _,_,hk| .nl _,_,hk| .key _,_,hk| .sl _,_,hk| .by _,_,hk| .ob _,_,hk=>hk
theorem jQ {K K':Nat->Prop}:∀l,js l=true->ca K l->ca K' l
 | [],_,_=>trivial
 |x::l,h,hk=>by
  simp only[js,M8]at h;exact⟨ja x h.1 hk.1,jQ l h.2 hk.2⟩
end
theorem jK {K:Nat->Prop} {v:V} (h:gl v=true) (hk:ok K v) (J ρ':Env):den ρ' v=den J v:=
 cF (N:=fun _=>False) (fun _ h=>h.elim) v (ja v h hk)
def nz (v:V) (v':V) (_:List ah):Prop:=
 match pz v' v with
 |some l=>du l
 |none=>False
def uk (x v:V) (_:List ah):Prop:=∀J K,nE J K v x
theorem cc {x v:V} {r:List ah} (h:nz x v r):uk x v r:=by
 unfold nz at h;split at h
 ·rename_i l hl;exact fun J K=>kX J K _ _ l hl h
 ·exact h.elim
theorem ai.mono {P:Program} {f:Nat} {args:List V} {res:List ah} {K K' KP KP':V->List ah->Prop} (h:ai P f args res K KP) (hK:∀v r,K v r->K' v r) (hP:∀v r,KP v r->KP' v r):
  ai P f args res K' KP':=by
 intro J fps w0 F0 w hH ha;refine(h J fps w0 F0 w hH ha).mono fun e w' ⟨x,ρ',fps',res',g1,g2,g3,g4⟩=>⟨x,ρ',fps',res',g1,g2,g3,?_⟩
 rcases g4 with⟨e1,e2⟩|⟨e1,e2⟩
 ·exact .inl ⟨e1,hK _ _ e2⟩
 ·exact .inr ⟨e1,hP _ _ e2⟩
def KM (l m:List V):Prop:=(∀J,aA J l=aA J m)/\∀K,ca K l->ca (fun _=>False) m
theorem nI {P:Program} {f:Nat} {g:Ct} (h:∀res nid args q x new,g res nid args=some (q,x,new)->new= []/\gl x=true/\
  ∃args',KM args args'/\(aU q->ca (fun _=>False) args'->ai P f args' [] (uk x) (fun _ _=>False))):bW P f g:=by
 intro J fps res K w0 F0 w nid args q x new hH hargs hg hq hfr;obtain⟨rfl,hid,args',⟨s1,s2⟩,hc⟩:=h res nid args q x new hg;refine⟨?_,fun k hk=>by simp at hk⟩
 have hok:=s2 K hargs
 have hrep:ar J (fun _ _=>False) [] (known []) w (fun _=>False) w:=
  ⟨fun i hi=>hi,Nat.le_refl _,rfl,rfl,rfl,fun i hi=>by simp[known,ae]at hi,fun i b hi=>by simp[known,ae]at hi,fun i j b hi=>by simp[known,ae]at hi,fun i b hi=>by simp[known,ae]at hi,fun _ _ _=>rfl⟩
 have hcall:=hc hq hok J (fun _ _=>False) w (fun _=>False) w hrep (by rw[dL]at hok⊢;exact fun z hz=>cB (hok z hz))
 rw[s1 J];refine hcall.mono fun e w' ⟨y,ρ',fps',res',g1,g2,g3,g4⟩=>?_
 rcases g4 with⟨rfl,hK⟩|⟨_,hK⟩
 ·refine⟨_,rfl,J,?_,?_,?_⟩
  ·have hb:Below w.heap.size w w':=by
    refine⟨g1.os,g1.tape,g1.output,g1.old,fun b hb=>g1.same b hb (fun h=>h)⟩
   exact⟨hb,Env.agree.refl _ _,fun _ _=>False,fun k hk=>by simp at hk,fun k l b hk=>by simp at hk⟩
  ·obtain⟨e1,e2,_⟩:=hK ρ' (known res');rw[e1];exact jK hid (e2 g3) J ρ'
  ·obtain⟨e1,e2,_⟩:=hK ρ' (known res');exact ja x hid (e2 g3)
 ·exact hK.elim
def nK {α:Type} (r:V->Option α) (m:α->V):Prop:=∀v x,r v=some x->(∀J,den J v=den J (m x))/\∀K,ok K v->ok (fun _=>False) (m x)
def rI (k:IntKind) (v:V):Option Int:=
 match toInt v with
 |some (k',n)=>if k==k' then some n else none
 |none=>none
def rK (v:V):Option Key:=
 match v with
 | .key k=>some k
 | .ag l=>match l with
   | [a,b,c,d,e,f]=>match rI .i64 a with
     |some a=>match rI .i64 b with
      |some b=>match rI .i64 c with
       |some c=>match rI .i64 d with
        |some d=>match rI .i64 e with
         |some e=>match rI .i64 f with
          |some f=>some ⟨a,b,c,d,e,f⟩
          |none=>none
         |none=>none
        |none=>none
       |none=>none
      |none=>none
     |none=>none
   |_=>none
 |_=>none
def rO:V->Option Obj
 | .ob o=>some o
 |_=>none
theorem C4:nK toBool V.bo:=by
 intro v x h;cases v<;>simp[toBool]at h<;>subst h<;>exact⟨fun _=>rfl,fun _ _=>trivial⟩
theorem fD (k:IntKind):nK (rI k) (V.it k):=by
 intro v x h;unfold rI at h;cases v<;>simp[toInt]at h<;>obtain⟨rfl,rfl⟩:=h
 ·exact⟨fun _=>rfl,fun _ hk=>hk⟩
 ·exact⟨fun _=>rfl,fun _ hk=>hk⟩
 ·rename_i b;refine⟨fun _=>rfl,fun _ _=>?_⟩
  have:=b.toNat_lt;simp only[ok,bC,Ge];omega
theorem ia:nK rK V.key:=by
 intro v x h;unfold rK at h;split at h
 ·simp only[M6]at h;subst h;exact⟨fun _=>rfl,fun _ hk=>hk⟩
 ·split at h
  case h_2=>simp at h
  split at h<;>try(simp at h;done)
  rename_i h1;split at h<;>try(simp at h;done)
  rename_i h2;split at h<;>try(simp at h;done)
  rename_i h3;split at h<;>try(simp at h;done)
  rename_i h4;split at h<;>try(simp at h;done)
  rename_i h5;split at h<;>simp only[M6,reduceCtorEq]at h
  rename_i h6;subst h;have e1:=fD .i64 _ _ h1;have e2:=fD .i64 _ _ h2;have e3:=fD .i64 _ _ h3;have e4:=fD .i64 _ _ h4;have e5:=fD .i64 _ _ h5;have e6:=fD .i64 _ _ h6;refine⟨fun J=>?_,fun K hK=>?_⟩
  ·simp only[den,aw,e1.1 J,e2.1 J,e3.1 J,e4.1 J,e5.1 J,e6.1 J];rfl
  ·obtain⟨⟨k1,k2,k3,k4,k5,k6,_⟩,_⟩:=hK;exact⟨e1.2 K k1,e2.2 K k2,e3.2 K k3,e4.2 K k4,e5.2 K k5,e6.2 K k6⟩
 ·simp at h
theorem KK {v:V} {x:Key} (h:rK v=some x):aX v=false:=by
 cases v<;>first|rfl|simp[rK]at h
theorem tf:nK rO V.ob:=by
 intro v x h;cases v<;>simp[rO]at h<;>subst h<;>exact⟨fun _=>rfl,fun _ hk=>hk⟩
def JV (F:V):Ct:=fun _ _ xs=>match xs with
 | []=>some (none,F,[])
 |_=>none
def Fg {α:Type} (r:V->Option α) (F:α->V):Ct:=fun _ _ xs=>match xs with
 | [a]=>match r a with
   |some x=>some (none,F x,[])
   |none=>none
 |_=>none
def J1 {α β:Type} (r:V->Option α) (s:V->Option β) (F:α->β->V):Ct:=fun _ _ xs=>match xs with
 | [a,b]=>match r a,s b with
   |some x,some y=>some (none,F x y,[])
   |_,_=>none
 |_=>none
def LX {α β γ:Type} (r:V->Option α) (s:V->Option β) (t:V->Option γ) (F:α->β->γ->V):Ct:=fun _ _ xs=>match xs with
 | [a,b,c]=>match r a,s b,t c with
   |some x,some y,some z=>some (none,F x y z,[])
   |_,_,_=>none
 |_=>none
theorem Jq {P:Program} {f:Nat} {F:V} (hF:gl F=true) (h:ai P f [] [] (nz F) (fun _ _=>False)):bW P f (JV F):=by
 refine nI fun res nid args q x new hg=>?_
 unfold JV at hg;split at hg<;>simp only[M6,M7,reduceCtorEq]at hg
 obtain⟨rfl,rfl,rfl⟩:=hg;exact⟨rfl,hF,[],⟨fun _=>rfl,fun _ _=>trivial⟩,fun _ _=>h.mono (fun _ _=>cc) fun _ _ h=>h⟩
theorem JG {P:Program} {f:Nat} {F:V} (hF:gl F=true) (h:ai P f [] [] (fun v _=>v=F) (fun _ _=>False)):bW P f (JV F):=by
 refine nI fun res nid args q x new hg=>?_
 unfold JV at hg;split at hg<;>simp only[M6,M7,reduceCtorEq]at hg
 obtain⟨rfl,rfl,rfl⟩:=hg;exact⟨rfl,hF,[],⟨fun _=>rfl,fun _ _=>trivial⟩,fun _ _=>h.mono (fun v _ e=>by subst e;exact fun J K=>nE.refl J K v) fun _ _ h=>h⟩
theorem j6 {P:Program} {f:Nat} {α:Type} {r:V->Option α} {m:α->V} {F:α->V} (hr:nK r m) (hF:∀x,gl (F x)=true)
  (h:∀x,ok (fun _=>False) (m x)->ai P f [m x] [] (nz (F x)) (fun _ _=>False)):bW P f (Fg r F):=by
 refine nI fun res nid args q x new hg=>?_
 unfold Fg at hg;split at hg<;>(try split at hg)<;>simp only[M6,M7,reduceCtorEq]at hg
 rename_i a x h1;obtain⟨rfl,rfl,rfl⟩:=hg;obtain⟨a1,a2⟩:=hr _ x h1;exact⟨rfl,hF x,[m x],⟨fun J=>by simp[aA,a1 J],fun K hK=>⟨a2 K hK.1,trivial⟩⟩,fun _ hok=>(h x hok.1).mono (fun _ _=>cc) fun _ _ h=>h⟩
theorem oU {P:Program} {f:Nat} {α β:Type} {r:V->Option α} {s:V->Option β} {m:α->V} {n:β->V} {F:α->β->V} (hr:nK r m) (hs:nK s n) (hF:∀x y,gl (F x y)=true)
  (h:∀x y,ok (fun _=>False) (m x)->ok (fun _=>False) (n y)->ai P f [m x,n y] [] (nz (F x y)) (fun _ _=>False)):bW P f (J1 r s F):=by
 refine nI fun res nid args q x new hg=>?_
 unfold J1 at hg;split at hg<;>(try split at hg)<;>simp only[M6,M7,reduceCtorEq]at hg
 rename_i a b x y h1 h2;obtain⟨rfl,rfl,rfl⟩:=hg;obtain⟨a1,a2⟩:=hr _ x h1;obtain⟨b1,b2⟩:=hs _ y h2;exact⟨rfl,hF x y,[m x,n y],⟨fun J=>by simp[aA,a1 J,b1 J],fun K hK=>⟨a2 K hK.1,b2 K hK.2.1,trivial⟩⟩,fun _ hok=>(h x y hok.1 hok.2.1).mono (fun _ _=>cc) fun _ _ h=>h⟩
theorem JN {P:Program} {f:Nat} {α β γ:Type} {r:V->Option α} {s:V->Option β} {t:V->Option γ} {m:α->V} {n:β->V} {o:γ->V} {F:α->β->γ->V} (hr:nK r m) (hs:nK s n) (ht:nK t o)
  (hF:∀x y z,gl (F x y z)=true)
  (h:∀x y z,ok (fun _=>False) (m x)->ok (fun _=>False) (n y)->ok (fun _=>False) (o z)->ai P f [m x,n y,o z] [] (nz (F x y z)) (fun _ _=>False)):bW P f (LX r s t F):=by
 refine nI fun res nid args q x new hg=>?_
 unfold LX at hg;split at hg<;>(try split at hg)<;>simp only[M6,M7,reduceCtorEq]at hg
 rename_i a b c x y z h1 h2 h3;obtain⟨rfl,rfl,rfl⟩:=hg;obtain⟨a1,a2⟩:=hr _ x h1;obtain⟨b1,b2⟩:=hs _ y h2;obtain⟨c1,c2⟩:=ht _ z h3;exact⟨rfl,hF x y z,[m x,n y,o z],⟨fun J=>by simp[aA,a1 J,b1 J,c1 J],fun K hK=>⟨a2 K hK.1,b2 K hK.2.1,c2 K hK.2.2.1,trivial⟩⟩,fun _ hok=>(h x y z hok.1 hok.2.1 hok.2.2.1).mono (fun _ _=>cc) fun _ _ h=>h⟩
def MJ:List Nat->Nat->Bool
 | [],_=>false
 |x::l,i=>x==i||MJ l i
def KN:List (Nat×V)->Nat->Option V
 | [],_=>none
 | (j,v)::l,i=>if j==i then some v else KN l i
def DO (gd:List Nat) (set:List (Nat×V)):Nat->List S->List S
 |_,[]=> []
 |i,s::l=>(match KN set i with
  |some v=> .v v
  |none=>if MJ gd i then s else .und)::DO gd set (i+1) l
def MN (gd:List Nat) (t:Nat) (inv:Int->Prop) (m:Int):bD:=
 {γ:=Int,head:=fun U g=> {U with slots:=DO gd [(t,.it .i64 g)] 0 U.slots},inv:=inv,μ:=fun g=>gm (nD m g)}
def Jw (gd:List Nat) (set:Int->List (Nat×V)) (inv:Int->Prop) (m:Int):bD:=
 {γ:=Int,head:=fun U g=> {U with slots:=DO gd (set g) 0 U.slots},inv:=inv,μ:=fun g=>gm (nD m g)}
def kg:List (Nat×Nat×bD)->Nat->Nat->Option bD
 | [],_,_=>none
 | (f,r,A)::l,f',r'=>if f==f'&&r==r' then some A else kg l f' r'
def bY (_ _:Nat):Option bD:=none
def bw (_:Nat):Bool:=false
def MV:Handler:=fun _ _ _ _ _=>False
end Go.Sx
namespace Go.Proofs.Ytmfbohanboiklaa
open Go.Sx
noncomputable def cf (l:List (Nat×Ct)) (inl:Nat->Bool) (ann:Nat->Nat->Option bD):B7:= {P:=Try.prog,Z:=zeroOf,Γ:=mf l,H0:=MV,inl:=inl,ann:=ann,opn:=Hv inl}
theorem EN {l:List (Nat×Ct)} {inl:Nat->Bool} {ann:Nat->Nat->Option bD} (hl:∀p∈l,bW Try.prog p.1 p.2):(cf l inl ann).toCtx.Sound:=
 ⟨CF ur,Try.checked.mixed,fun f g hg=>kc hl f g hg,fun f ts te h=>by simp[cf]at h⟩
abbrev vc (l:List (Nat×Ct)) (inl:Nat->Bool) (ann:Nat->Nat->Option bD) (f:Nat) (args:List V) (res:List ah) (K KP:V->List ah->Prop):Prop:=
 enter (cf l inl ann).toCtx (exec (cf l inl ann) 100 ⟨false,none⟩) (exec (cf l inl ann) 100 ⟨false,none⟩ f) f args res K KP
set_option maxRecDepth 100000 in
theorem aL {l:List (Nat×Ct)} {inl:Nat->Bool} {ann:Nat->Nat->Option bD} (hl:∀p∈l,bW Try.prog p.1 p.2) {f:Nat} {args:List V} {res:List ah} {K KP:V->List ah->Prop}
  {G:Prop} (hG:G) (h:G=vc l inl ann f args res K KP):ai Try.prog f args res K KP:=
 Ag (C:=cf l inl ann) (n:=100) (EN hl) (fun _ _ _ _ _ hh=>hh.elim) (Eq.mp h hG)
end Go.Proofs.Ytmfbohanboiklaa
namespace Go.Sx
theorem az {P:Program}:∀p∈([]:List (Nat×Ct)),bW P p.1 p.2:=by simp
theorem an {P:Program} {f:Nat} {g:Ct} {l:List (Nat×Ct)} (h:bW P f g) (t:∀p∈l,bW P p.1 p.2):∀p∈(f,g)::l,bW P p.1 p.2:=by
 simp_all
end Go.Sx
namespace Go.Sx
open Go.RowKit (Below)
theorem ar.th {J:Env} {fps:Nat->Nat->Prop} {res:List ah} {K:Nat->Prop} {w0:World} {F0:Nat->Prop} {w:World} (h:ar J fps res K w0 F0 w) {i:Nat} {r:ah}
  (hr:bn res i=r) (hk:known res i):∃fp:Nat->Prop,r.holds K J i fp w0 F0 w/\∀b,fp b->fps i b\/(b<w0.heap.size/\¬F0 b):=by
 have hh:=h.holds i hk;unfold bn at hr;split at hr
 ·rename_i r' he;rw[he]at hh;subst hr;obtain⟨fp',h1,h2⟩:=hh;exact⟨fp',ah.ck _ h1 fun b hb=>h.same b (h2 b hb).1 (h2 b hb).2,fun b hb=> .inr (h2 b hb)⟩
 ·subst hr;exact⟨fps i,hh,fun b hb=> .inl hb⟩
def dw (κ:Nat->Option Nat) (res:List ah):List (Nat×Bool)->List ah
 | []=> []
 | (p,o)::l=>(if o then dH κ (ae res p)else .ro (dH κ (bn res p)))::dw κ res l
def dn:List (Nat×Bool)->List Nat
 | []=> []
 | (p,_)::l=>p::dn l
def ej (res:List ah):List (Nat×Bool)->Bool
 | []=>true
 | (p,_)::l=>ea res p&&ej res l
theorem gT:∀(l:List (Nat×Bool)) (i:Nat),(dn l)[i]? =(l[i]?).map (·.1)
 | [],i=>by simp[dn]
 | (p,o)::l,0=>by simp[dn]
 | (p,o)::l,i+1=>by simp[dn,gT l i]
theorem pe (κ:Nat->Option Nat) (res:List ah):∀(l:List (Nat×Bool)) (i:Nat),ae (dw κ res l) i=match l[i]? with
  |some (p,o)=>if o then dH κ (ae res p)else .ro (dH κ (bn res p))
  |none=> .yet
 | [],i=>by simp[dw,ae]
 | (p,o)::l,0=>by simp[dw,ae]
 | (p,o)::l,i+1=>by simp[dw,ae,pe κ res l i]
theorem nS (κ:Nat->Option Nat) (res:List ah):∀(l:List (Nat×Bool)),(dw κ res l).length=l.length
 | []=>rfl
 | (p,o)::l=>by simp[dw,nS κ res l]
theorem bJ {res:List ah}:∀{l:List (Nat×Bool)},ej res l=true->∀(i:Nat) (p:Nat) (o:Bool),l[i]? =some (p,o)->known res p
 | [],_,i,p,o,h=>by simp at h
 | (x,y)::l,hk,i,p,o,h=>by
   simp only[ej,M8]at hk;cases i with
   |zero=>simp at h;obtain⟨rfl,_⟩:=h;exact b9.1 hk.1
   |succ i=>exact bJ hk.2 i p o (by simpa using h)
theorem gY {p:Nat}:∀(l:List Nat) (m k:Nat),l.Nodup->l[k]? =some p->idxOf l m p=some (m+k)
 | [],m,k,_,h=>by simp at h
 |x::l,m,k,hnd,h=>by
  simp only[idxOf];cases k with
  |zero=>simp at h;subst h;simp
  |succ k=>
   simp at h
   have hne:(x==p)=false:=by
    grind
   rw[hne];simp only[Bool.false_eq_true,if_false];rw[gY l (m+1) k (List.nodup_cons.1 hnd).2 h];congr 1;omega
theorem Bq {l:List Nat} {p i:Nat} (h:k7 0 l p=some i):l[i]? =some p:=by
 unfold k7 at h;split at h
 ·rename_i hb;simp at hb
 ·have:=dK h;simpa using this.2.2
theorem vB {l:List Nat} {p i:Nat} (hnd:l.Nodup) (h:l[i]? =some p):k7 0 l p=some i:=by
 unfold k7;rw[Nf (by simp),gY l 0 i hnd h];simp
def Frame (J:Env) (fps:Nat->Nat->Prop) (pl:List (Nat×Bool)) (b:Nat):Prop:=∃(i p:Nat),pl[i]? =some (p,true)/\fps p b
section
variable {J:Env} {fps:Nat->Nat->Prop} {res:List ah} {w0 w:World} {F0:Nat->Prop}
theorem ar.dw {K:Nat->Prop} (h:ar J fps res K w0 F0 w) {pl:List (Nat×Bool)} (hk:ej res pl=true) (hnd:(dn pl).Nodup):
  ar (J.pull (src 0 (dn pl))) (fun i b=>∃p:Nat,pl[i]? =some (p,true)/\fps p b) (dw (k7 0 (dn pl)) res pl) (known (dw (k7 0 (dn pl)) res pl)) w (Frame J fps pl) w/\
   (∀i,i<pl.length->known (dw (k7 0 (dn pl)) res pl) i)/\Env.via (k7 0 (dn pl)) J (J.pull (src 0 (dn pl)))/\∀p i,k7 0 (dn pl) p=some i->K p->known (Sx.dw (k7 0 (dn pl)) res pl) i:=by
 generalize hκ:k7 0 (dn pl)=κ
 have hπ:∀p i,κ p=some i->src 0 (dn pl) i=p:=fun p i hp=>by subst hκ;exact zF hp
 have hv:Env.via κ J (J.pull (src 0 (dn pl))):=nC hπ
 have hsome:∀i p o,pl[i]? =some (p,o)->κ p=some i:=fun i p o hi=>by
  subst hκ;exact vB hnd (by rw[gT,hi];rfl)
 have hkn:∀i p o,pl[i]? =some (p,o)->known (Sx.dw κ res pl) i:=fun i p o hi=>by
  unfold known;rw[pe,hi];simp only;split
  ·exact fun e=>bJ hk i p o hi (ga.1 e)
  ·simp
 have hget:∀i,known (Sx.dw κ res pl) i->∃p o,pl[i]? =some (p,o):=fun i hi=>by
  have:=aj hi;rw[nS]at this;exact⟨pl[i].1,pl[i].2,by rw[List.getElem?_eq_getElem this]⟩
 have hN:∀p i,κ p=some i->K p->known (Sx.dw κ res pl) i:=fun p i hp _=>by
  subst hκ;have:=Bq hp;rw[gT]at this;cases hi:pl[i]? with
  |none=>rw[hi]at this;simp at this
  |some po=>exact hkn i po.1 po.2 hi
 have huniq:∀i j p o o',pl[i]? =some (p,o)->pl[j]? =some (p,o')->i=j:=fun i j p o o' hi hj=>by
  have a:=hsome i p o hi;rw[hsome j p o' hj]at a;simpa using a.symm
 have hfr:∀b,b<w0.heap.size->¬F0 b->w.heap[b]? =w0.heap[b]? /\¬Frame J fps pl b:=fun b hb hF=>by
  refine⟨h.same b hb hF,?_⟩;rintro⟨i,p,hi,hf⟩
  exact hF (h.inF p b (bJ hk i p true hi) hf hb)
 refine⟨⟨fun i hi=>hi,Nat.le_refl _,rfl,rfl,rfl,fun i hi=>?_,?_,?_,?_,fun _ _ _=>rfl⟩,fun i hi=>hkn i pl[i].1 pl[i].2 (by rw[List.getElem?_eq_getElem hi]),hv,hN⟩
 ·obtain⟨p,o,hp⟩:=hget i hi;have hkp:=bJ hk i p o hp;rw[pe,hp];simp only;cases o with
  |true=>
   simp only[if_true];have:=ah.pb h.old hfr _ _ (h.holds p hkp);have:=dW hv hN (hsome i p true hp) _ _ _ this
   have e:(fun b=>∃p':Nat,some (p,true)=some (p',true)/\fps p' b)=fps p:=by
    funext b;simp
   rw[e];exact this
  |false=>
   simp only[Bool.false_eq_true,if_false];obtain⟨fp,g1,g2⟩:=h.th rfl hkp;refine⟨fp,dW hv hN (hsome i p false hp) _ _ _ (ah.pb h.old hfr _ _ g1),fun b hb=>?_⟩
   rcases g2 b hb with hf|⟨hl,hF⟩
   ·refine⟨h.lt p b hkp hf,?_⟩;rintro⟨j,p',hj,hf'⟩
    have hkp':=bJ hk j p' true hj;refine h.disj p p' b hkp hkp' (fun e=>?_) hf hf'
    subst e;have:=huniq i j p false true hp hj;subst this;rw[hp]at hj;simp at hj
   ·exact⟨Nat.lt_of_lt_of_le hl h.old,(hfr b hl hF).2⟩
 ·rintro i b hi ⟨p,hp,hf⟩
  exact h.lt p b (bJ hk i p true hp) hf
 ·rintro i j b hi hj hne ⟨p,hp,hf⟩ ⟨p',hp',hf'⟩
  refine h.disj p p' b (bJ hk i p true hp) (bJ hk j p' true hp') (fun e=>hne ?_) hf hf'
  subst e;exact huniq i j p true true hp hp'
 ·rintro i b hi ⟨p,hp,hf⟩ _
  exact⟨i,p,hp,hf⟩
def df (κ2:Nat->Option Nat) (r':List ah):Nat->List (Nat×Bool)->List ah->List ah
 |_,[],res=>res
 |i,(p,o)::l,res=>if o then df κ2 r' (i+1) l (aI res p (dH κ2 (ae r' i)))else df κ2 r' (i+1) l res
def vL:List (Nat×Bool)->Nat->Option Nat
 | [],_=>none
 | (p,_)::_,0=>some p
 |_::l,i+1=>vL l i
def back (pl:List (Nat×Bool)) (ext:List Nat) (n j:Nat):Option Nat:=
 match vL pl j with
 |some p=>some p
 |none=>idxOf ext n j
def merge (pl:List (Nat×Bool)) (ext:List Nat) (r' res:List ah):List ah:=
 df (back pl ext res.length) r' 0 pl res++dY (back pl ext res.length) r' ext
theorem qF:∀(l:List (Nat×Bool)) (i:Nat),vL l i=(l[i]?).map (·.1)
 | [],i=>by simp[vL]
 | (p,o)::l,0=>by simp[vL]
 | (p,o)::l,i+1=>by simp[vL,qF l i]
theorem gW (κ2:Nat->Option Nat) (r':List ah):∀(l:List (Nat×Bool)) (i:Nat) (res:List ah),(df κ2 r' i l res).length=res.length
 | [],_,_=>rfl
 | (p,o)::l,i,res=>by
   simp only[df];split
   ·rw[gW κ2 r' l,aH]
   ·exact gW κ2 r' l _ _
theorem fV (κ2:Nat->Option Nat) (r':List ah):∀(l:List (Nat×Bool)) (i:Nat) (res:List ah) (x:Nat),(∀k:Nat,l[k]? ≠some (x,true))->(∀(k p:Nat) (o:Bool),l[k]? =some (p,o)->p<res.length)->ae (df κ2 r' i l res) x=ae res x
 | [],_,_,_,_,_=>rfl
 | (p,o)::l,i,res,x,h,hb=>by
   have hl:∀k:Nat,l[k]? ≠some (x,true):=fun k=>by have:=h (k+1);simpa using this
   have hb':∀(k p:Nat) (o:Bool),l[k]? =some (p,o)->p<res.length:=fun k p o hk=>hb (k+1) p o (by simpa using hk)
   simp only[df];split
   ·rename_i ho;subst ho;have hne:x≠p:=fun e=>h 0 (by simp[e])
    rw[fV κ2 r' l _ _ x hl (fun k p o hk=>by rw[aH];exact hb' k p o hk),aF _ _ _ _ (hb 0 p true (by simp)),Nf hne]
   ·exact fV κ2 r' l _ _ x hl hb'
theorem kP (κ2:Nat->Option Nat) (r':List ah):∀(l:List (Nat×Bool)) (i:Nat) (res:List ah) (x k:Nat),l[k]? =some (x,true)->(dn l).Nodup->(∀(k p:Nat) (o:Bool),l[k]? =some (p,o)->p<res.length)->
  ae (df κ2 r' i l res) x=dH κ2 (ae r' (i+k))
 | [],_,_,_,_,h,_,_=>by simp at h
 | (p,o)::l,i,res,x,k,h,hnd,hb=>by
   have hb':∀(k p:Nat) (o:Bool),l[k]? =some (p,o)->p<res.length:=fun k p o hk=>hb (k+1) p o (by simpa using hk)
   have hnd':=List.nodup_cons.1 (show(p::dn l).Nodup from hnd);simp only[df];cases k with
   |zero=>
    simp at h;obtain⟨rfl,rfl⟩:=h;simp only[if_true,Nat.add_zero];rw[fV κ2 r' l _ _ p (fun k hk=>hnd'.1 (List.mem_of_getElem? (i:=k) (by rw[gT,hk];rfl))) (fun k p o hk=>by rw[aH];exact hb' k p o hk),aF _ _ _ _ (hb 0 p true (by simp)),Ng rfl]
   |succ k=>
    have h:l[k]? =some (x,true):=by simpa using h
    split
    ·rw[kP κ2 r' l _ _ x k h hnd'.2 (fun k p o hk=>by rw[aH];exact hb' k p o hk)]
     congr 2;omega
    ·rw[kP κ2 r' l _ _ x k h hnd'.2 hb'];congr 2;omega
def Env.join (n:Nat) (ext:List Nat) (J ρ2:Env):Env:=
 {num:=fun i=>if i<n then J.num i else ρ2.num (ext.getD (i-n) 0),cap:=fun i=>if i<n then J.cap i else ρ2.cap (ext.getD (i-n) 0),adr:=fun i=>if i<n then J.adr i else ρ2.adr (ext.getD (i-n) 0),
  sa:=fun i=>if i<n then J.sa i else ρ2.sa (ext.getD (i-n) 0),sn:=fun i=>if i<n then J.sn i else ρ2.sn (ext.getD (i-n) 0),ob:=fun i=>if i<n then J.ob i else ρ2.ob (ext.getD (i-n) 0)}
section
variable {J:Env} {fps:Nat->Nat->Prop} {res:List ah} {w0 w:World} {F0:Nat->Prop}
theorem ar.merge (h:ar J fps res (known res) w0 F0 w) {pl:List (Nat×Bool)} (hk:ej res pl=true) (hnd:(dn pl).Nodup) {ρ2:Env} {fps2:Nat->Nat->Prop} {r':List ah} {w':World}
  (h2:ar ρ2 fps2 r' (known r') w (Frame J fps pl) w') (hg:Good (J.pull (src 0 (dn pl))) (Sx.dw (k7 0 (dn pl)) res pl) ρ2 r') {ext:List Nat} (he:iR pl.length r'.length ext=true)
  (ho1:∀(i p:Nat),pl[i]? =some (p,true)->e9 (ae r' i)=true) (ho2:∀j,j∈ext->e9 (ae r' j)=true):
  ∃ρ3 fps3,ar ρ3 fps3 (Sx.merge pl ext r' res) (known (Sx.merge pl ext r' res)) w0 F0 w'/\Good J res ρ3 (Sx.merge pl ext r' res)/\Env.via (back pl ext res.length) ρ2 ρ3/\
   ∀j i,back pl ext res.length j=some i->known r' j->known (Sx.merge pl ext r' res) i:=by
 obtain⟨_,hkr,_,_⟩:=h.dw hk hnd;obtain⟨e1,e2⟩:=ka he;have hlt:∀(k p:Nat) (o:Bool),pl[k]? =some (p,o)->p<res.length:=fun k p o hp=>aj (bJ hk k p o hp)
 have hpll:∀(k p:Nat) (o:Bool),pl[k]? =some (p,o)->k<pl.length:=fun k p o hp=>(List.getElem?_eq_some_iff.1 hp).1
 have huniq:∀i j p o o',pl[i]? =some (p,o)->pl[j]? =some (p,o')->i=j:=fun i j p o o' hi hj=>by
  have a:=vB hnd (show(dn pl)[i]? =some p by rw[gT,hi];rfl)
  rw[vB hnd (show(dn pl)[j]? =some p by rw[gT,hj];rfl)]at a
  simpa using a.symm
 have huniqE:∀(a b j:Nat),ext[a]? =some j->ext[b]? =some j->a=b:=fun a b j ha hb=>by
  have x:=gY ext 0 a e2 ha;rw[gY ext 0 b e2 hb]at x;simpa using x.symm
 have hback1:∀k p o,pl[k]? =some (p,o)->back pl ext res.length k=some p:=fun k p o hp=>by
  unfold back;rw[qF,hp];rfl
 have hback2:∀a j,ext[a]? =some j->back pl ext res.length j=some (res.length+a):=fun a j ha=>by
  unfold back;have:=(e1 j (List.mem_of_getElem? ha)).1;rw[qF,List.getElem?_eq_none this];exact gY ext _ a e2 ha
 have hbackS:∀j i,back pl ext res.length j=some i->(∃o,pl[j]? =some (i,o))\/(∃a,ext[a]? =some j/\i=res.length+a):=fun j i hj=>by
  unfold back at hj;rw[qF]at hj;cases hp:pl[j]? with
  |some po=>rw[hp]at hj;simp at hj;exact .inl ⟨po.2,by rw[<-hj]⟩
  |none=>
   rw[hp]at hj;simp at hj;obtain⟨a1,a2,a3⟩:=dK hj;exact .inr ⟨i-res.length,a3,by omega⟩
 have hget:∀i,ae (Sx.merge pl ext r' res) i=if i<res.length then ae (df (back pl ext res.length) r' 0 pl res) i else match ext[i-res.length]? with|some j=>dH (back pl ext res.length) (ae r' j)|none=> .yet:=fun i=>by
  unfold Sx.merge;rw[aM,gW];by_cases hi:i<res.length
  ·rw[Ng hi,Ng hi]
  ·grind[kT]
 have hown:∀k p,pl[k]? =some (p,true)->ae (Sx.merge pl ext r' res) p=dH (back pl ext res.length) (ae r' k):=fun k p hp=>by
  rw[hget,Ng (hlt k p true hp),kP _ r' pl 0 res p k hp hnd hlt,Nat.zero_add]
 have hother:∀i,i<res.length->(∀k,pl[k]? ≠some (i,true))->ae (Sx.merge pl ext r' res) i=ae res i:=fun i hi hno=>by
  rw[hget,Ng hi,fV _ r' pl 0 res i hno hlt]
 have hext:∀a j,ext[a]? =some j->ae (Sx.merge pl ext r' res) (res.length+a)=dH (back pl ext res.length) (ae r' j):=fun a j ha=>by
  grind
 have hkr':∀k p o,pl[k]? =some (p,o)->known r' k:=fun k p o hp=>hg.2 k (hkr k (hpll k p o hp))
 have hN:∀j i,back pl ext res.length j=some i->known r' j->known (Sx.merge pl ext r' res) i:=fun j i hj hkj=>by
  rcases hbackS j i hj with⟨o,hp⟩|⟨a,ha,rfl⟩
  ·by_cases hT:∃k:Nat,pl[k]? =some (i,true)
   ·obtain⟨k,hk'⟩:=hT;unfold known;rw[hown k i hk'];exact fun e=>hkr' k i true hk' (ga.1 e)
   ·unfold known;rw[hother i (hlt j i o hp) fun k hk'=>hT ⟨k,hk'⟩]
    exact bJ hk j i o hp
  ·unfold known;rw[hext a j ha];exact fun e=>hkj (ga.1 e)
 have hmono:∀i,known res i->known (Sx.merge pl ext r' res) i:=fun i hi=>by
  grind[known,aj]
 have hag:Env.agree (known res) J (Env.join res.length ext J ρ2):=fun i hi=>by
  have:=aj hi;simp[Env.join,this]
 have hvia:Env.via (back pl ext res.length) ρ2 (Env.join res.length ext J ρ2):=fun j i hj=>by
  rcases hbackS j i hj with⟨o,hp⟩|⟨a,ha,rfl⟩
  ·have hil:=hlt j i o hp;have hj':=hg.1 j (hkr j (hpll j i o hp))
   have hsrc:src 0 (dn pl) j=i:=by
    grind[src,gT]
   simp only[Env.pull,hsrc]at hj';obtain⟨a1,a2,a3,a4,a5,a6⟩:=hj';simp[Env.join,hil,a1,a2,a3,a4,a5,a6]
  ·grind[Env.join]
 obtain⟨fps3,g⟩:=h.turn (res':=Sx.merge pl ext r' res) (K':=known (Sx.merge pl ext r' res)) (fun i=>∃k:Nat,pl[k]? =some (i,true)) (fun i=>(∃k:Nat,pl[k]? =some (i,true))\/res.length<=i)
  (fun i b=>(∃k:Nat,pl[k]? =some (i,true)/\fps2 k b)\/(res.length<=i/\∃j,ext[i-res.length]? =some j/\known r' j/\fps2 j b))
  (fun i hi=>hi) hmono hag
  (fun i hi hb=>by
   have hlt':i<res.length:=by
    rcases Nat.lt_or_ge i res.length with h|h
    ·exact h
    ·exact absurd (.inr h) hb
   have e:=hother i hlt' fun k hk'=>hb (.inl ⟨k,hk'⟩)
   exact⟨by unfold known at hi⊢;rw[e]at hi;exact hi,fun hT=>hb (.inl hT),e⟩)
  (fun i hi hb=>by
   have hfoot:∀k b,known r' k->fps2 k b->(∃t,(∃k:Nat,pl[k]? =some (t,true))/\known res t/\fps t b)\/(w.heap.size<=b/\b<w'.heap.size):=fun k b hk' hf=>by
    by_cases hbw:b<w.heap.size
    ·obtain⟨x,p,hp,hfp⟩:=h2.inF k b hk' hf hbw;exact .inl ⟨p,⟨x,hp⟩,bJ hk x p true hp,hfp⟩
    ·exact .inr ⟨by omega,h2.lt k b hk' hf⟩
   by_cases hT:∃k:Nat,pl[k]? =some (i,true)
   ·obtain⟨k,hp⟩:=hT;have hkk:=hkr' k i true hp;have hil:=hlt k i true hp
    have e:(fun b=>(∃k:Nat,pl[k]? =some (i,true)/\fps2 k b)\/(res.length<=i/\∃j,ext[i-res.length]? =some j/\known r' j/\fps2 j b))=fps2 k:=by
     funext b
     apply propext
     constructor
     ·rintro(⟨k',hp',hf⟩|⟨hge,_⟩)
      ·rw[huniq k k' i true true hp hp'];exact hf
      ·omega
     ·exact fun hf=> .inl ⟨k,hp,hf⟩
    refine⟨?_,fun b hf=>hfoot k b hkk (by rw[<-e];exact hf)⟩
    rw[e,hown k i hp];exact dW hvia hN (hback1 k i true hp) _ _ _ (fF (ho1 k i hp) (h2.holds k hkk))
   ·have hge:res.length<=i:=hb.resolve_left hT
    have hj:∃j,ext[i-res.length]? =some j:=by
     unfold known at hi;rw[hget,Nf (by omega)]at hi
     cases hx:ext[i-res.length]? with
     |none=>rw[hx]at hi;exact absurd rfl hi
     |some j=>exact⟨j,rfl⟩
    obtain⟨j,hj⟩:=hj
    have hkj:known r' j:=by
     unfold known at hi;rw[hget,Nf (by omega),hj]at hi
     exact fun e=>hi (ga.2 e)
    have e:(fun b=>(∃k:Nat,pl[k]? =some (i,true)/\fps2 k b)\/(res.length<=i/\∃j,ext[i-res.length]? =some j/\known r' j/\fps2 j b))=fps2 j:=by
     grind
    refine⟨?_,fun b hf=>hfoot j b hkj (by rw[<-e];exact hf)⟩
    have hie:i=res.length+(i-res.length):=by omega
    have hb2:=hback2 _ j hj;rw[<-hie]at hb2;have hx:=hext _ j hj;rw[<-hie]at hx;rw[e,hx];exact dW hvia hN hb2 _ _ _ (fF (ho2 j (List.mem_of_getElem? hj)) (h2.holds j hkj)))
  (fun i j b hbi hbj hne hf hf'=>by
   have sel:∀x,((∃k:Nat,pl[k]? =some (x,true)/\fps2 k b)\/(res.length<=x/\∃j,ext[x-res.length]? =some j/\known r' j/\fps2 j b))->∃k,known r' k/\fps2 k b/\((pl[k]? =some (x,true))\/(res.length<=x/\ext[x-res.length]? =some k)):=by
    rintro x (⟨k,hp,hf⟩|⟨hge,j,hj,hkj,hf⟩)
    ·exact⟨k,hkr' k x true hp,hf,.inl hp⟩
    ·exact⟨j,hkj,hf,.inr ⟨hge,hj⟩⟩
   obtain⟨k,k1,k2,k3⟩:=sel i hf;obtain⟨l,l1,l2,l3⟩:=sel j hf';refine h2.disj k l b k1 l1 (fun e=>hne ?_) k2 l2
   subst e;rcases k3 with k3|⟨k3,k4⟩<;>rcases l3 with l3|⟨l3,l4⟩
   ·rw[k3]at l3;simp at l3;exact l3
   ·grind
   ·have:=(e1 k (List.mem_of_getElem? k4)).1;have:=hpll k j true l3;omega
   ·have:=huniqE _ _ _ k4 l4;omega)
  h2.os h2.tape h2.output h2.old
  (fun b hb hno=>h2.same b hb fun⟨i,p,hp,hf⟩=>hno p ⟨i,hp⟩ (bJ hk i p true hp) hf)
 exact⟨_,fps3,g,⟨hag,hmono⟩,hvia,hN⟩
end
end
end Go.Sx
namespace Go.Sx
open Go.RowKit (Below)
def jT (r':List ah):Nat->List (Nat×Bool)->Bool
 |_,[]=>true
 |i,(_,o)::l=>(if o then e9 (ae r' i)else true)&&jT r' (i+1) l
theorem pK {r':List ah}:∀{l:List (Nat×Bool)} {i:Nat},jT r' i l=true->∀k p:Nat,l[k]? =some (p,true)->e9 (ae r' (i+k))=true
 | [],i,_,k,p,h=>by simp at h
 | (x,o)::l,i,ha,k,p,h=>by
   simp only[jT,M8]at ha;cases k with
   |zero=>simp at h;obtain⟨_,rfl⟩:=h;simpa using ha.1
   |succ k=>
    have:=pK ha.2 k p (by simpa using h)
    rwa [show i+(k+1)=i+1+k by omega]
def lO (r':List ah):List Nat->Bool
 | []=>true
 |j::l=>e9 (ae r' j)&&lO r' l
theorem nA {r':List ah}:∀{l:List Nat},lO r' l=true->∀j∈l,e9 (ae r' j)=true
 | [],_,j,h=>by simp at h
 |x::l,ha,j,h=>by
  simp only[lO,M8]at ha;rcases List.mem_cons.1 h with rfl|h
  ·exact ha.1
  ·exact nA ha.2 j h
def iN (κ:Nat->Option Nat) (v v3:V):Prop:=∀(ρ2 ρ3:Env) (N N':Nat->Prop),Env.via κ ρ2 ρ3->(∀j i,κ j=some i->N j->N' i)->ok N v->den ρ3 v3=den ρ2 v/\ok N' v3
theorem iN.gl {κ:Nat->Option Nat} {v x:V} (h:uk x v []) (hx:Sx.gl x=true):iN κ v x:=fun ρ2 ρ3 N N' _ _ hv=>by
 obtain⟨s1,s2,_⟩:=h ρ2 N;exact⟨by rw[s1];exact jK hx (s2 hv) ρ2 ρ3,ja x hx (s2 hv)⟩
def Ic (pl:List (Nat×Bool)) (res:List ah) (v:V) (r':List ah) (K:V->List ah->Prop):Prop:=
 ∃(ext:List Nat) (v3:V),iR pl.length r'.length ext=true/\jT r' 0 pl=true/\lO r' ext=true/\iN (back pl ext res.length) v v3/\K v3 (merge pl ext r' res)
section
variable {P:Program}
theorem ai.frame {f:Nat} {args args0:List V} {res:List ah} {pl:List (Nat×Bool)} {K0 KP0 K KP:V->List ah->Prop} (hk:ej res pl=true) (hnd:iR 0 res.length (dn pl)=true)
  (ha:dh (k7 0 (dn pl)) args=some args0) (hc:ai P f args0 (dw (k7 0 (dn pl)) res pl) K0 KP0)
  (hK:∀v r',K0 v r'->Ic pl res v r' K) (hKP:∀v r',KP0 v r'->Ic pl res v r' KP):ai P f args res K KP:=by
 intro J fps w0 F0 w hH hargs;have hnd:=(ka hnd).2;obtain⟨g1,g2,g3,g4⟩:=hH.dw hk hnd;obtain⟨a1,_,a3,_⟩:=dJ g3 g4 _ _ ha;rw[<-a1];refine(hc _ _ _ _ _ g1 (a3 hargs)).mono fun e w' ⟨x,ρ2,fps2,r',h1,h2,h3,h4⟩=>?_
 have fin:∀{K:V->List ah->Prop},Ic pl res x r' K->∃x' ρ' fps' res',ar ρ' fps' res' (known res') w0 F0 w'/\Good J res ρ' res'/\ok (known res') x'/\den ρ' x'=den ρ2 x/\K x' res':=by
  rintro K ⟨ext,v3,b1,b2,b3,b4,b5⟩
  obtain⟨ρ3,fps3,m1,m2,m3,m4⟩:=hH.merge hk hnd h1 h2 b1 (fun i p hp=>by have:=pK b2 i p hp;rwa [Nat.zero_add]at this) (nA b3)
  obtain⟨c1,c2⟩:=b4 ρ2 ρ3 _ _ m3 m4 h3;exact⟨v3,ρ3,fps3,_,m1,m2,c2,c1,b5⟩
 rcases h4 with⟨rfl,h4⟩|⟨rfl,h4⟩
 ·grind
 ·grind
def lP:ah->Bool
 | .store _ _ _=>true
 | .arr _ _ _=>true
 |_=>false
theorem nW {κ:Nat->Option Nat} {r:ah} (h:lP r=true):dH κ r=r:=by
 cases r<;>first|rfl|simp[lP]at h
def jR (res:List ah) (p:Nat) (r:ah):Prop:=known res p/\∀J fps K w0 F0 w,ar J fps res K w0 F0 w->
 ∃fp:Nat->Prop,r.holds K J p fp w0 F0 w/\∀b,fp b->(∃i,known res i/\fps i b)\/(b<w0.heap.size/\¬F0 b)
theorem jR.look {res:List ah} {p:Nat} {r:ah} (h:bn res p=r) (hne:r≠ .yet):jR res p r:=by
 have hk:=cx h hne;refine⟨hk,fun J fps K w0 F0 w hH=>?_⟩
 obtain⟨fp,g1,g2⟩:=hH.th h hk;exact⟨fp,g1,fun b hb=>(g2 b hb).elim (fun h=> .inl ⟨p,hk,h⟩) .inr⟩
def mD:List (Nat×ah)->List ah
 | []=> []
 | (_,r)::l=> .ro r::mD l
theorem qA:∀(l:List (Nat×ah)) (i:Nat),ae (mD l) i=match l[i]? with|some p=> .ro p.2|none=> .yet
 | [],i=>by simp[mD,ae]
 | (p,r)::l,0=>by simp[mD,ae]
 | (p,r)::l,i+1=>by simp[mD,ae,qA l i]
theorem nf:∀l:List (Nat×ah),(mD l).length=l.length
 | []=>rfl
 | (p,r)::l=>by simp[mD,nf l]
def kW:List (Nat×ah)->Nat->Nat
 | [],_=>0
 | (p,_)::_,0=>p
 |_::l,i+1=>kW l i
theorem nP:∀(l:List (Nat×ah)) (i:Nat) (p:Nat×ah),l[i]? =some p->kW l i=p.1
 | [],i,p,h=>by simp at h
 | (x,r)::l,0,p,h=>by simp at h;subst h;rfl
 | (x,r)::l,i+1,p,h=>by simp only[kW];exact nP l i p (by simpa using h)
theorem lW {f:Nat} {g:Ct} (h:∀res nid args q x new,g res nid args=some (q,x,new)->new= []/\gl x=true/\
  ∃(pls:List (Nat×ah)) (args0:List V),(∀p∈pls,jR res p.1 p.2/\lP p.2=true)/\(∀(J:Env) K,ca K args->aA (J.pull (kW pls)) args0=aA J args)/\(∀K,ca K args->ca (known (mD pls)) args0)/\
   (aU q->ca (known (mD pls)) args0->ai P f args0 (mD pls) (uk x) (fun _ _=>False))):bW P f g:=by
 intro J fps res K w0 F0 w nid args q x new hH hargs hg hq hfr;obtain⟨rfl,hid,pls,args0,hcl,hden,hok,hc⟩:=h res nid args q x new hg;refine⟨?_,fun k hk=>by simp at hk⟩
 have hfr:∀b,b<w0.heap.size->¬F0 b->w.heap[b]? =w0.heap[b]? /\¬(fun _:Nat=>False) b:=fun b hb hF=>⟨hH.same b hb hF,fun h=>h⟩
 have hrep:ar (J.pull (kW pls)) (fun _ _=>False) (mD pls) (known (mD pls)) w (fun _=>False) w:=by
  refine⟨fun i hi=>hi,Nat.le_refl _,rfl,rfl,rfl,fun i hi=>?_,fun i b hi h=>h.elim,fun i j b hi hj hne h=>h.elim,fun i b hi h=>h.elim,fun _ _ _=>rfl⟩
  have hlt:=aj hi;rw[nf]at hlt;have hp:pls[i]? =some pls[i]:=List.getElem?_eq_getElem hlt;generalize pls[i]=p at hp
  rw[qA,hp];simp only;obtain⟨hs,hcl⟩:=hcl p (List.mem_of_getElem? hp);obtain⟨fp,g1,g2⟩:=hs.2 J fps K w0 F0 w hH
  have hv:Env.via (fun x=>if x=p.1 then some i else none) J (J.pull (kW pls)):=nC fun x j hx=>by
   split at hx
   ·simp only[M6]at hx;subst hx;rename_i e;subst e;exact nP pls i p hp
   ·simp at hx
  have:=dW (N':=known (mD pls)) hv (fun x j hx _=>by
   split at hx
   ·simp only[M6]at hx;subst hx;exact hi
   ·simp at hx) (p:=p.1) (i:=i) (by simp) _ _ _ (ah.pb hH.old hfr _ _ g1)
  rw[nW hcl]at this;refine⟨fp,this,fun b hb=>⟨?_,fun h=>h⟩⟩
  rcases g2 b hb with⟨j,hj,hf⟩|⟨hl,_⟩
  ·exact hH.lt j b hj hf
  ·exact Nat.lt_of_lt_of_le hl hH.old
 have hok0:=hok K hargs;rw[<-hden J K hargs];refine(hc hq hok0 _ _ _ _ _ hrep hok0).mono fun e w' ⟨y,ρ',fps',res',g1,g2,g3,g4⟩=>?_
 rcases g4 with⟨rfl,hK⟩|⟨_,hK⟩
 ·refine⟨_,rfl,J,?_,?_,?_⟩
  ·exact⟨⟨g1.os,g1.tape,g1.output,g1.old,fun b hb=>g1.same b hb (fun h=>h)⟩,Env.agree.refl _ _,fun _ _=>False,fun k hk=>by simp at hk,fun k l b hk=>by simp at hk⟩
  ·obtain⟨e1,e2,_⟩:=hK ρ' (known res');rw[e1];exact jK hid (e2 g3) J ρ'
  ·obtain⟨e1,e2,_⟩:=hK ρ' (known res');exact ja x hid (e2 g3)
 ·exact hK.elim
theorem ai.ql {f:Nat} {args:List V} {res res1:List ah} {K KP:V->List ah->Prop} (h:ai P f args res1 K KP)
  (ho:∀J fps w0 F0 w,ar J fps res (known res) w0 F0 w->∃ρ' fps',ar ρ' fps' res1 (known res1) w0 F0 w/\Good J res ρ' res1):ai P f args res K KP:=by
 intro J fps w0 F0 w hH hargs;obtain⟨ρ',fps',h1,h2⟩:=ho J fps w0 F0 w hH;rw[<-cH h2.1 args hargs];refine(h ρ' fps' w0 F0 w h1 (aS h2.2 _ hargs)).mono fun e w' ⟨x,ρ2,fps2,r',g1,g2,g3,g4⟩=>⟨x,ρ2,fps2,r',g1,h2.trans g2,g3,g4⟩
theorem ai.eT {f:Nat} {args:List V} {res:List ah} {k t e:Nat} {L:List Obj} {K KP:V->List ah->Prop} (hr:ae res k= .store t e L) (h:ai P f args (eT res k t e L) K KP):ai P f args res K KP:=
 h.ql fun _ _ _ _ _ hH=>ua hr hH
theorem ai.cV {f:Nat} {args:List V} {res:List ah} {k t e:Nat} {L:List Obj} {K KP:V->List ah->Prop} (hr:ae res k= .ro (.store t e L)) (h:ai P f args (cV res k t e L) K KP):ai P f args res K KP:=
 h.ql fun _ _ _ _ _ hH=>sC hr hH
theorem ai.shut {f:Nat} {args:List V} {res:List ah} {K0 KP K:V->List ah->Prop} (h:ai P f args res K0 KP) (hK:∀v r,K0 v r->K v r\/∃k r',pY r k=some r'/\K v r'):ai P f args res K KP:=by
 intro J fps w0 F0 w hH hargs;refine(h J fps w0 F0 w hH hargs).mono fun e w' ⟨x,ρ2,fps2,r',g1,g2,g3,g4⟩=>?_
 rcases g4 with⟨rfl,hk⟩|g4
 ·rcases hK _ _ hk with hk|⟨k,r2,s1,s2⟩
  ·exact⟨x,ρ2,fps2,r',g1,g2,g3,.inl ⟨rfl,hk⟩⟩
  ·obtain⟨fps3,m1,m2⟩:=tH s1 g1;exact⟨x,ρ2,fps3,r2,m1,⟨g2.1,fun i hi=>m2 i (g2.2 i hi)⟩,bk m2 _ g3,.inl ⟨rfl,s2⟩⟩
 ·exact⟨x,ρ2,fps2,r',g1,g2,g3,.inr g4⟩
theorem ai.uI {f:Nat} {args:List V} {res res':List ah} {k:Nat} {K KP:V->List ah->Prop} (hr:Sx.uI res k=some res') (h:ai P f args res' K KP):ai P f args res K KP:=
 h.ql fun _ _ _ _ _ hH=>tk hr hH
theorem ai.pM {f:Nat} {args:List V} {res:List ah} {k e:Nat} {K0 KP K:V->List ah->Prop} (h:ai P f args res K0 KP) (hK:∀v r,K0 v r->∃r',Sx.pM r k e=some r'/\K v r'):ai P f args res K KP:=by
 intro J fps w0 F0 w hH hargs;refine(h J fps w0 F0 w hH hargs).mono fun e' w' ⟨x,ρ2,fps2,r',g1,g2,g3,g4⟩=>?_
 rcases g4 with⟨rfl,hk⟩|g4
 ·obtain⟨r2,s1,s2⟩:=hK _ _ hk;obtain⟨fps3,m1,m2⟩:=tP s1 g1;exact⟨x,ρ2,fps3,r2,m1,⟨g2.1,fun i hi=>m2 i (g2.2 i hi)⟩,bk m2 _ g3,.inl ⟨rfl,s2⟩⟩
 ·exact⟨x,ρ2,fps2,r',g1,g2,g3,.inr g4⟩
end
end Go.Sx
namespace Go.Sx
open Go.RowKit (Below)
section
variable {P:Program}
theorem ai.fact {f:Nat} {args:List V} {res:List ah} {K KP:V->List ah->Prop} {k t e:Nat} {L:List Obj} (hr:bn res k= .store t e L)
  (h:(∀o∈L,o.wf)->L.length<=9223372036854775807->ai P f args res K KP):ai P f args res K KP:=by
 intro J fps w0 F0 w hH hargs;obtain⟨fp,hh,_⟩:=hH.look hr (by simp)
 obtain⟨_,h1,h2,_⟩:=hh;exact h h1 h2 J fps w0 F0 w hH hargs
theorem ai.wT {f:Nat} {args:List V} {res:List ah} {K KP:V->List ah->Prop} {k esz:Nat} {own:Option Nat} {L:List Obj} (hr:bn res k= .arr own esz (.ob L))
  (h:(∀o∈L,o.wf)->L.length<=9223372036854775807->ai P f args res K KP):ai P f args res K KP:=by
 intro J fps w0 F0 w hH hargs;obtain⟨fp,hh,_⟩:=hH.look hr (by simp)
 obtain⟨h1,_,h2,_⟩:=hh;refine h (fun o ho=>?_) h2 J fps w0 F0 w hH hargs
 obtain⟨i,hi,rfl⟩:=List.getElem_of_mem ho;have:=(h1 i hi).1;simpa[TL.get,au,Nd,hi,ok]using this
theorem jR.open {res:List ah} {p j t e q:Nat} {L:List Obj} (hp:bn res p= .blk t (.ag [.sa j])) (hj:bn res j= .obs e q L) (hte:t≠e):jR res p (.store t e L):=by
 have hkp:=cx hp (by simp)
 have hkj:=cx hj (by simp)
 refine⟨hkp,fun J fps K w0 F0 w hH=>?_⟩
 obtain⟨fp1,⟨_,_,b3,b4⟩,g1⟩:=hH.th hp hkp;obtain⟨fp2,⟨_,c1,c2,c3,c4,c5,c6,c7⟩,g2⟩:=hH.th hj hkj
 have b4':w.heap[J.num p]? =some (.cells #[J.sl j] t (0,0)):=by
  rw[b4];have:den J (.sa j)=J.sl j:=rfl;simp[bu,aw,this,Env.sl,Value.cells]
 refine⟨fun b=>fp1 b\/fp2 b,⟨.inl b3,c1,c3,J.sl j,J.ob q,b4',c6,fun b hb=>?_,fun x hx=>?_⟩,fun b hb=>?_⟩
 ·have hb':=hb;cases ha:J.sa j with
  |none=>simp[Env.sl,ha,Value.ownBlock]at hb
  |some a=>
   simp only[Env.sl,ha,Value.ownBlock,M6]at hb;subst hb;refine⟨.inr (c4 a ha).2,fun e'=>?_⟩
   rcases c6.2 with⟨hh,_⟩|⟨g,cap,cur,hh,_,h3,_⟩
   ·simp[Env.sl,ha]at hh
   ·rw[hh]at hb';simp only[Value.ownBlock,M6]at hb';rw[hb',e',b4']at h3;simp only[M6,Go.Obj.cells.injEq]at h3;exact hte h3.2.1
 ·grind[iw]
 ·grind
theorem jR.zero {res:List ah} {p t e:Nat} (hp:bn res p= .blk t (.ag [.nl (.slice none 0 0)])):jR res p (.store t e []):=by
 have hkp:=cx hp (by simp)
 refine⟨hkp,fun J fps K w0 F0 w hH=>?_⟩
 obtain⟨fp1,⟨_,_,b3,b4⟩,g1⟩:=hH.th hp hkp;refine⟨fp1,⟨b3,by simp,by simp,.slice none 0 0,fun _=>0,?_,World.ownsRow_nil w 0 e 1,fun b hb=>by simp[Value.ownBlock]at hb,fun x hx=>by simp at hx⟩,fun b hb=>(g1 b hb).elim (fun h=> .inl ⟨p,hkp,h⟩) .inr⟩
 rw[b4];simp[bu,aw,den,Value.cells]
def rS (t e:Nat) (res:List ah) (v:V):Option (Option Nat×List Obj):=
 match v with
 | .nl v=>match v with
   | .pointer p=>match p with
     |none=>some (none,[])
     |some _=>none
   |_=>none
 | .lp k off=>if off==0 then match bn res k with
   | .store t' e' L=>if t'==t&&e'==e then some (some k,L)else none
   | .blk t' c=>if t'==t&& !(t==e)then match c with
     | .ag l=>match l with
       | [x]=>match x with
         | .sa j=>match bn res j with
           | .obs e' _ L=>if e'==e then some (some k,L)else none
           |_=>none
         | .nl v=>match v with
           | .slice none 0 0=>some (some k,[])
           |_=>none
         |_=>none
       |_=>none
     |_=>none
     else none
   |_=>none
   else none
 |_=>none
theorem qT {t e:Nat} {res:List ah} {v:V} {o:Option Nat} {L:List Obj} (h:rS t e res v=some (o,L)):(o=none/\L= []/\v= .nl (.pointer none))\/∃k,o=some k/\v= .lp k 0/\jR res k (.store t e L):=by
 unfold rS at h;split at h
 ·grind
 ·rename_i k off;split at h
  ·rename_i ho;have ho:=Na.1 ho;subst ho;split at h
   ·grind[jR.look]
   ·grind[jR.open,jR.zero]
   ·simp at h
  ·simp at h
 ·simp at h
def o9:V:= .nl (.pointer none)
def LB (t e:Nat) (F:List Obj->V):Ct:=fun res _ xs=>match xs with
 | [a]=>match rS t e res a with
   |some (_,L)=>some (none,F L,[])
   |none=>none
 |_=>none
def A6 {α:Type} (t e:Nat) (r:V->Option α) (F:List Obj->α->V):Ct:=fun res _ xs=>match xs with
 | [a,b]=>match rS t e res a with
   |some (_,L)=>match r b with
    |some x=>some (none,F L x,[])
    |none=>none
   |none=>none
 |_=>none
theorem Eh {f t e:Nat} {F:List Obj->V} (hF:∀L,gl (F L)=true) (h0:ai P f [o9] [] (nz (F [])) (fun _ _=>False))
  (h1:∀L,(∀o∈L,o.wf)->L.length<=9223372036854775807->ai P f [.lp 0 0] [.ro (.blk t (.ag [.sa 1])),.ro (.obs e 2 L),.gen 1] (nz (F L)) (fun _ _=>False)):bW P f (LB t e F):=by
 refine lW fun res nid args q x new hg=>?_
 unfold LB at hg;split at hg<;>(try split at hg)<;>simp only[M6,M7,reduceCtorEq]at hg
 rename_i a o L hr;obtain⟨rfl,rfl,rfl⟩:=hg;rcases qT hr with⟨rfl,rfl,rfl⟩|⟨k,rfl,rfl,hs⟩
 ·exact⟨rfl,hF [],[],[o9],by simp,fun J _ _=>rfl,fun K hK=>⟨hK.1,trivial⟩,fun _ _=>h0.mono (fun _ _=>cc) fun _ _ h=>h⟩
 ·refine⟨rfl,hF L,[(k,.store t e L)],[.lp 0 0],by simpa using⟨hs,rfl⟩,fun J _ _=>rfl,fun K hK=>⟨by simp[ok,known,mD,ae],trivial⟩,fun _ _=>?_⟩
  exact ai.fact (k:=0) rfl fun w1 w2=>(ai.cV (res:=mD [(k,.store t e L)]) (k:=0) rfl (h1 L w1 w2)).mono (fun _ _=>cc) fun _ _ h=>h
theorem qx {f t e:Nat} {α:Type} {r:V->Option α} {m:α->V} {F:List Obj->α->V} (hr:nK r m) (hF:∀L x,gl (F L x)=true)
  (h0:∀x,ok (fun _=>False) (m x)->ai P f [o9,m x] [] (nz (F [] x)) (fun _ _=>False))
  (h1:∀L x,(∀o∈L,o.wf)->L.length<=9223372036854775807->ok (fun _=>False) (m x)->ai P f [.lp 0 0,m x] [.ro (.blk t (.ag [.sa 1])),.ro (.obs e 2 L),.gen 1] (nz (F L x)) (fun _ _=>False))
  (hid:∀x,gl (m x)=true):bW P f (A6 t e r F):=by
 refine lW fun res nid args q x new hg=>?_
 unfold A6 at hg;split at hg<;>(try split at hg)<;>(try split at hg)<;>simp only[M6,M7,reduceCtorEq]at hg
 rename_i a b _ o L hs _ x hb;obtain⟨rfl,rfl,rfl⟩:=hg;obtain⟨b1,b2⟩:=hr _ x hb;have hde:∀J ρ':Env,∀K,ok K b->den ρ' (m x)=den J b:=fun J ρ' K hk=>by rw[b1 J];exact jK (hid x) (b2 K hk) J ρ'
 rcases qT hs with⟨rfl,rfl,rfl⟩|⟨k,rfl,rfl,hse⟩
 ·refine⟨rfl,hF [] x,[],[o9,m x],by simp,fun J K hK=>?_,fun K hK=>⟨hK.1,cB (b2 K hK.2.1),trivial⟩,fun _ hok=>?_⟩
  ·simp only[aA,hde J (J.pull (kW [])) K hK.2.1];rfl
  ·exact(h0 x (ja _ (hid x) hok.2.1)).mono (fun _ _=>cc) fun _ _ h=>h
 ·refine⟨rfl,hF L x,[(k,.store t e L)],[.lp 0 0,m x],by simpa using⟨hse,rfl⟩,fun J K hK=>?_,fun K hK=>⟨by simp[ok,known,mD,ae],cB (b2 K hK.2.1),trivial⟩,fun _ hok=>?_⟩
  ·simp only[aA,hde J (J.pull (kW [(k,.store t e L)])) K hK.2.1];rfl
  ·exact ai.fact (k:=0) rfl fun w1 w2=>(ai.cV (res:=mD [(k,.store t e L)]) (k:=0) rfl (h1 L x w1 w2 (ja _ (hid x) hok.2.1))).mono (fun _ _=>cc) fun _ _ h=>h
theorem jR.arr {res:List ah} {p esz:Nat} {own:Option Nat} {l:TL} (h:bn res p= .arr own esz l):jR res p (.arr none esz l):=by
 have hk:=cx h (by simp)
 refine⟨hk,fun J fps K w0 F0 w hH=>?_⟩
 obtain⟨fp,⟨h1,h2,h3,h4,h5,h6,h7⟩,g2⟩:=hH.th h hk;refine⟨fp,⟨h1,h2,h3,h4,h5,h6,?_⟩,fun b hb=>(g2 b hb).elim (fun h=> .inl ⟨p,hk,h⟩) .inr⟩
 rcases h7 with⟨e,h7⟩|⟨e,e1,e2⟩
 ·exact .inl ⟨rfl,h7⟩
 ·exact .inr ⟨e,by simp,e2⟩
def rA (res:List ah) (v:V):Option (Nat×List Obj):=
 match v with
 | .sa k=>match bn res k with
   | .arr _ e l=>if e==163 then match l with
     | .ob l=>some (k,l)
     |_=>none
     else none
   |_=>none
 |_=>none
theorem qI {res:List ah} {v:V} {k:Nat} {l:List Obj} (h:rA res v=some (k,l)):v= .sa k/\jR res k (.arr none 163 (.ob l))/\∃own,bn res k= .arr own 163 (.ob l):=by
 unfold rA at h;split at h
 ·grind[jR.arr]
 ·simp at h
def Mg (F:List Obj->V):Ct:=fun res _ xs=>match xs with
 | [a]=>match rA res a with
   |some (_,L)=>some (none,F L,[])
   |none=>none
 |_=>none
def GD {α:Type} (r:V->Option α) (F:List Obj->α->V):Ct:=fun res _ xs=>match xs with
 | [a,b]=>match rA res a with
   |some (_,L)=>match r b with
    |some x=>some (none,F L x,[])
    |none=>none
   |none=>none
 |_=>none
theorem z8 {J:Env} {i k:Nat} {pls:List (Nat×ah)} (h:kW pls i=k):den (J.pull (kW pls)) (.sa i)=den J (.sa k):=by
 simp only[den,Env.pull,h]
theorem JP {f:Nat} {F:List Obj->V} (hF:∀L,gl (F L)=true)
  (h1:∀L,(∀o∈L,o.wf)->L.length<=9223372036854775807->ai P f [.sa 0] [.ro (.arr none 163 (.ob L))] (nz (F L)) (fun _ _=>False)):bW P f (Mg F):=by
 refine lW fun res nid args q x new hg=>?_
 unfold Mg at hg;split at hg<;>(try split at hg)<;>simp only[M6,M7,reduceCtorEq]at hg
 rename_i a k L hr;obtain⟨rfl,rfl,rfl⟩:=hg;obtain⟨rfl,hs,_⟩:=qI hr
 exact⟨rfl,hF L,[(k,.arr none 163 (.ob L))],[.sa 0],by simpa using⟨hs,rfl⟩,fun J _ _=>by simp only[aA,z8 (pls:= [(k,.arr none 163 (.ob L))]) (i:=0) (k:=k) rfl],fun K hK=>⟨by simp[ok,known,mD,ae],trivial⟩,
  fun _ _=>ai.wT (k:=0) rfl fun w1 w2=>(h1 L w1 w2).mono (fun _ _=>cc) fun _ _ h=>h⟩
theorem zC {f:Nat} {α:Type} {r:V->Option α} {m:α->V} {F:List Obj->α->V} (hr:nK r m) (hF:∀L x,gl (F L x)=true)
  (h1:∀L x,(∀o∈L,o.wf)->L.length<=9223372036854775807->ok (fun _=>False) (m x)->ai P f [.sa 0,m x] [.ro (.arr none 163 (.ob L))] (nz (F L x)) (fun _ _=>False)) (hid:∀x,gl (m x)=true):bW P f (GD r F):=by
 refine lW fun res nid args q x new hg=>?_
 unfold GD at hg;split at hg<;>(try split at hg)<;>(try split at hg)<;>simp only[M6,M7,reduceCtorEq]at hg
 rename_i a b _ k L hs _ x hb;obtain⟨rfl,rfl,rfl⟩:=hg;obtain⟨rfl,hse,_⟩:=qI hs;obtain⟨b1,b2⟩:=hr _ x hb;have hde:∀J ρ':Env,∀K,ok K b->den ρ' (m x)=den J b:=fun J ρ' K hk=>by rw[b1 J];exact jK (hid x) (b2 K hk) J ρ'
 refine⟨rfl,hF L x,[(k,.arr none 163 (.ob L))],[.sa 0,m x],by simpa using⟨hse,rfl⟩,fun J K hK=>?_,fun K hK=>⟨by simp[ok,known,mD,ae],cB (b2 K hK.2.1),trivial⟩,fun _ hok=>?_⟩
 ·simp only[aA,hde J (J.pull (kW [(k,.arr none 163 (.ob L))])) K hK.2.1,z8 (pls:= [(k,.arr none 163 (.ob L))]) (i:=0) (k:=k) rfl]
 ·exact ai.wT (k:=0) rfl fun w1 w2=>(h1 L x w1 w2 (ja _ (hid x) hok.2.1)).mono (fun _ _=>cc) fun _ _ h=>h
def ID (t e:Nat) (F:List Obj->List Obj->V):Ct:=fun res _ xs=>match xs with
 | [a,b]=>match rS t e res a with
   |some (_,L)=>match rA res b with
    |some (_,M)=>some (none,F L M,[])
    |none=>none
   |none=>none
 |_=>none
theorem Gx {f t e:Nat} {F:List Obj->List Obj->V} (hF:∀L M,gl (F L M)=true)
  (h0:∀M,(∀o∈M,o.wf)->M.length<=9223372036854775807->ai P f [o9,.sa 0] [.ro (.arr none 163 (.ob M))] (nz (F [] M)) (fun _ _=>False))
  (h1:∀L M,(∀o∈L,o.wf)->L.length<=9223372036854775807->(∀o∈M,o.wf)->M.length<=9223372036854775807->
   ai P f [.lp 0 0,.sa 1] [.ro (.blk t (.ag [.sa 2])),.ro (.arr none 163 (.ob M)),.ro (.obs e 3 L),.gen 2] (nz (F L M)) (fun _ _=>False)):bW P f (ID t e F):=by
 refine lW fun res nid args q x new hg=>?_
 unfold ID at hg;split at hg<;>(try split at hg)<;>(try split at hg)<;>simp only[M6,M7,reduceCtorEq]at hg
 rename_i a b _ o L hs _ j M hb;obtain⟨rfl,rfl,rfl⟩:=hg;obtain⟨rfl,hbe,_⟩:=qI hb;rcases qT hs with⟨rfl,rfl,rfl⟩|⟨k,rfl,rfl,hse⟩
 ·refine⟨rfl,hF [] M,[(j,.arr none 163 (.ob M))],[o9,.sa 0],by simpa using⟨hbe,rfl⟩,fun J K hK=>?_,fun K hK=>⟨hK.1,by simp[ok,known,mD,ae],trivial⟩,fun _ hok=>?_⟩
  ·rfl
  ·exact ai.wT (k:=0) rfl fun w1 w2=>(h0 M w1 w2).mono (fun _ _=>cc) fun _ _ h=>h
 ·refine⟨rfl,hF L M,[(k,.store t e L),(j,.arr none 163 (.ob M))],[.lp 0 0,.sa 1],by simpa using⟨⟨hse,rfl⟩,hbe,rfl⟩,fun J K hK=>?_,fun K hK=>⟨by simp[ok,known,mD,ae],by simp[ok,known,mD,ae],trivial⟩,fun _ hok=>?_⟩
  ·rfl
  ·exact ai.fact (k:=0) rfl fun w1 w2=>ai.wT (k:=1) rfl fun w3 w4=>
    (ai.cV (res:=mD [(k,.store t e L),(j,.arr none 163 (.ob M))]) (k:=0) rfl (h1 L M w1 w2 w3 w4)).mono (fun _ _=>cc) fun _ _ h=>h
end
end Go.Sx
namespace Go.Sx
open Go.RowKit (Below)
abbrev pU:=List V->List ah->(V->List ah->Prop)->Prop
def sY (P:Program) (f:Nat) (h:pU):Prop:=∀args res K KP,h args res K->ai P f args res K KP
def Ay:List (Nat×pU)->Handler
 | [],_,_,_,_,_=>False
 | (g,h)::l,f,args,res,K,KP=>if f==g then h args res K else Ay l f args res K KP
theorem xa {P:Program}:∀{l:List (Nat×pU)},(∀p∈l,sY P p.1 p.2)->Handler.OK P (Ay l)
 | [],_,f,args,res,K,KP,h=>h.elim
 | (g,x)::l,hl,f,args,res,K,KP,h=>by
   simp only[Ay]at h;split at h
   ·rename_i e;have e:=Na.1 e;subst e;exact hl (f,x) (by simp) args res K KP h
   ·exact xa (fun p hp=>hl p (by simp[hp])) f args res K KP h
theorem cM {P:Program}:∀p∈([]:List (Nat×pU)),sY P p.1 p.2:=by simp
theorem bL {P:Program} {f:Nat} {g:pU} {l:List (Nat×pU)} (h:sY P f g) (t:∀p∈l,sY P p.1 p.2):∀p∈(f,g)::l,sY P p.1 p.2:=by
 simp_all
theorem E1 {κ:Nat->Option Nat}:∀v,gl v=true->dA κ v=some v:=by
 intro v
 exact V.rec (motive_1:=fun v=>gl v=true->dA κ v=some v) (motive_2:=fun l=>js l=true->dh κ l=some l)
  (fun b _=>rfl) (fun b _=>rfl) (fun k n _=>rfl) (fun k n _=>rfl) (fun b _=>rfl) (fun s _=>rfl) (fun v _=>rfl) (fun _ _ h=>by simp[gl]at h) (fun _ _ _ _ _ _ h=>by simp[gl]at h)
  (fun _ _ _ h=>by simp[gl]at h) (fun _ _ h=>by simp[gl]at h) (fun _ _ _ _ h=>by simp[gl]at h) (fun _ h=>by simp[gl]at h) (fun _ _ h=>by simp[gl]at h) (fun _ h=>by simp[gl]at h)
  (fun f l ih h=>by simp only[dA];rw[ih h]) (fun t x ih h=>by simp only[dA];rw[ih h]) (fun l ih h=>by simp only[dA];rw[ih h]) (fun l ih h=>by simp only[dA];rw[ih h])
  (fun _ _=>rfl) (fun _ _=>rfl) (fun _ _=>rfl) (fun _ _=>rfl) (fun _ h=>by simp[gl]at h) (fun _ _ _ _ _ _ h=>by simp[gl]at h) (fun _ _ _ _ _ _ _ _ h=>by simp[gl]at h) (fun _ _ _ _ h=>by simp[gl]at h) (fun _ _ _ _ _ _ h=>by simp[gl]at h) (fun _ _ _ _ h=>by simp[gl]at h) (fun _=>rfl)
  (fun x l ih1 ih2 h=>by simp only[js,M8]at h;simp only[dh];rw[ih1 h.1];simp only;rw[ih2 h.2]) v
theorem ff {κ:Nat->Option Nat}:∀l,js l=true->dh κ l=some l
 | [],_=>rfl
 |x::l,h=>by
  simp_all[js,dh,E1,ff]
def gg (l m:List V):Prop:=∀(J:Env) K,ca K l->aA J l=aA J m/\ca K m
theorem gg.nil:gg [] []:=fun _ _ _=>⟨rfl,trivial⟩
theorem gg.gd {x:V} {l m:List V} (h:gg l m):gg (x::l) (x::m):=fun J K hk=>⟨by simp only[aA,(h J K hk.2).1],hk.1,(h J K hk.2).2⟩
theorem gg.rd {α:Type} {r:V->Option α} {f:α->V} (hr:nK r f) {a:V} {x:α} (hx:r a=some x) {l m:List V} (h:gg l m):gg (a::l) (f x::m):=fun J K hk=>by
 obtain⟨a1,a2⟩:=hr a x hx;exact⟨by simp only[aA,(h J K hk.2).1,a1],cB (a2 K hk.1),(h J K hk.2).2⟩
section
variable {P:Program}
theorem ai.args {f:Nat} {args args':List V} {res:List ah} {K KP:V->List ah->Prop} (h:gg args args') (hc:ai P f args' res K KP):ai P f args res K KP:=by
 intro J fps w0 F0 w hH hargs;obtain⟨h1,h2⟩:=h J _ hargs;rw[h1];exact hc J fps w0 F0 w hH h2
theorem ai.I6 {f:Nat} {args:List V} {res:List ah} {K KP:V->List ah->Prop} (h:ca (known res) args->ai P f args res K KP):ai P f args res K KP:=by
 intro J fps w0 F0 w hH hargs;exact h hargs J fps w0 F0 w hH hargs
theorem ai.GI {f:Nat} {rest:List V} {res:List ah} {K KP:V->List ah->Prop} {k t e:Nat} {L M:List Obj} {x:V} (hr:ae res k= .store t e L) (hid:js rest=true) (hx:gl x=true)
  (h:ai P f (.lp 0 0::rest) [.store t e L] (fun v r=>uk x v r/\ae r 0= .store t e M) (fun _ _=>False)) (hK:K x (aI res k (.store t e M))):ai P f (.lp k 0::rest) res K KP:=by
 have hk:known res k:=by unfold known;rw[hr];simp
 have hlt:=aj hk;refine ai.frame (pl:= [(k,true)]) (args0:= .lp 0 0::rest) (K0:=fun v r=>uk x v r/\ae r 0= .store t e M) (KP0:=fun _ _=>False) (by simp[ej,b9.2 hk]) (by simpa[iR,dn,qj]using hlt) ?_ ?_ (fun v r hv=>?_) (fun _ _ h=>h.elim)
 ·simp only[dh,dA,k7,idxOf,dn];rw[ff rest hid];simp
 ·simp_all[dw,k7,dn,dH]
 ·obtain⟨h1,h2⟩:=hv;have hm:merge [(k,true)] [] r res=aI res k (.store t e M):=by simp[merge,df,h2,dH,dY]
  exact⟨[],x,rfl,by simp[jT,h2,e9],rfl,iN.gl h1 hx,by rw[hm];exact hK⟩
theorem ai.pure {f:Nat} {args:List V} {res:List ah} {K KP:V->List ah->Prop} {x:V} (hid:js args=true) (hx:gl x=true)
  (h:ai P f args [] (fun v _=>uk x v []) (fun _ _=>False)) (hK:K x res):ai P f args res K KP:=by
 refine ai.frame (pl:= []) (args0:=args) (K0:=fun v _=>uk x v []) (KP0:=fun _ _=>False) rfl rfl (ff args hid) h (fun v r hv=>?_) (fun _ _ h=>h.elim)
 have hm:merge [] [] r res=res:=by simp[merge,df,dY]
 exact⟨[],x,rfl,rfl,rfl,iN.gl hv hx,by rw[hm];exact hK⟩
theorem ai.KQ {f:Nat} {rest:List V} {res:List ah} {K KP:V->List ah->Prop} {k:Nat} {r0:ah} {x:V} (hr:bn res k=r0) (hne:r0≠ .yet) (hren:∀κ,dH κ r0=r0) (hid:js rest=true) (hx:gl x=true)
  (h:ai P f (.lp 0 0::rest) [.ro r0] (fun v _=>uk x v []) (fun _ _=>False)) (hK:K x res):ai P f (.lp k 0::rest) res K KP:=by
 have hk:=cx hr hne;have hlt:=aj hk;refine ai.frame (pl:= [(k,false)]) (args0:= .lp 0 0::rest) (K0:=fun v _=>uk x v []) (KP0:=fun _ _=>False) (by simp[ej,b9.2 hk]) (by simpa[iR,dn,qj]using hlt) ?_ ?_ (fun v r hv=>?_) (fun _ _ h=>h.elim)
 ·simp only[dh,dA,k7,idxOf,dn];rw[ff rest hid];simp
 ·simp_all[dw,k7,dn]
 ·have hm:merge [(k,false)] [] r res=res:=by simp[merge,df,dY]
  exact⟨[],x,rfl,by simp[jT],rfl,iN.gl hv hx,by rw[hm];exact hK⟩
theorem ar.weaken {J:Env} {fps:Nat->Nat->Prop} {res res':List ah} {w0 w:World} {F0:Nat->Prop} (h:ar J fps res (known res) w0 F0 w)
  (hk:∀i,known res' i->known res i/\∀fp,(ae res i).holds (known res) J i fp w0 F0 w->(ae res' i).holds (known res') J i fp w0 F0 w):ar J fps res' (known res') w0 F0 w:=
 ⟨fun i hi=>hi,h.old,h.os,h.tape,h.output,fun i hi=>(hk i hi).2 _ (h.holds i (hk i hi).1),fun i b hi=>h.lt i b (hk i hi).1,fun i j b hi hj=>h.disj i j b (hk i hi).1 (hk j hj).1,fun i b hi=>h.inF i b (hk i hi).1,h.same⟩
theorem Dw {K K':Nat->Prop} {J:Env} {i:Nat} {fp:Nat->Prop} {w0 w:World} {F0:Nat->Prop} {own:Option Nat} {e:Nat} {l:TL} (h:(ah.arr own e l).holds K J i fp w0 F0 w):(ah.arr none e l).holds K' J i fp w0 F0 w:=by
 obtain⟨h1,h2,h3,h4,h5,h6,h7⟩:=h;refine⟨h1,h2,h3,h4,h5,h6,?_⟩;rcases h7 with⟨e,h7⟩|⟨e,e1,e2⟩
 ·exact .inl ⟨rfl,h7⟩
 ·exact .inr ⟨e,by simp,e2⟩
theorem ai.Lg {f:Nat} {args:List V} {K KP:V->List ah->Prop} {own:Option Nat} {e:Nat} {l:TL} (h:ai P f args [.ro (.arr none e l)] K KP):ai P f args [.ro (.arr own e l)] K KP:=by
 have hk:∀i (own:Option Nat),known [.ro (.arr own e l)] i↔i=0:=fun i own=>by
  unfold known;cases i with
  |zero=>simp[ae]
  |succ i=>simp[ae]
 refine h.ql fun J fps w0 F0 w hH=>⟨J,fps,hH.weaken fun i hi=>?_,Env.agree.refl _ _,fun i hi=>(hk i _).2 ((hk i _).1 hi)⟩
 have:=(hk i _).1 hi;subst this;refine⟨(hk 0 _).2 rfl,fun fp hh=>?_⟩
 obtain⟨fp',g1,g2⟩:=hh;exact⟨fp',Dw g1,g2⟩
theorem ai.CM {f:Nat} {rest:List V} {res:List ah} {K KP:V->List ah->Prop} {t e k esz:Nat} {own:Option Nat} {l:TL} {M:List Obj} {F:Nat->V} (hr:bn res k= .arr own esz l) (hid:js rest=true)
  (h:ai P f (.sa 0::rest) [.ro (.arr own esz l)] (fun v r=>∃j,1<=j/\ae r j= .store t e M/\(∀(κ:Nat->Option Nat) (i:Nat),κ j=some i->iN κ v (F i))) (fun _ _=>False)) (hK:K (F res.length) (res++ [.store t e M])):ai P f (.sa k::rest) res K KP:=by
 have hk:=cx hr (by simp)
 have hlt:=aj hk;refine ai.frame (pl:= [(k,false)]) (args0:= .sa 0::rest) (K0:=fun v r=>∃j,1<=j/\ae r j= .store t e M/\(∀(κ:Nat->Option Nat) (i:Nat),κ j=some i->iN κ v (F i))) (KP0:=fun _ _=>False) (by simp[ej,b9.2 hk]) (by simpa[iR,dn,qj]using hlt) ?_ ?_ (fun v r hv=>?_) (fun _ _ h=>h.elim)
 ·simp only[dh,dA,k7,idxOf,dn];rw[ff rest hid];simp
 ·have:dw (k7 0 (dn [(k,false)])) res [(k,false)]= [.ro (.arr own esz l)]:=by simp[dw,hr,dH]
  rw[this];exact h
 ·obtain⟨j,hj1,hj,hv⟩:=hv;have hjl:j<r.length:=aj (by rw[hj];simp)
  have hm:merge [(k,false)] [j] r res=res++ [.store t e M]:=by simp[merge,df,dY,hj,dH]
  refine⟨[j],F res.length,by simpa[iR,qj]using⟨hj1,hjl⟩,by simp[jT],by simp[lO,hj,e9],hv _ _ ?_,by rw[hm];exact hK⟩
  obtain⟨m,rfl⟩:∃m,j=m+1:=⟨j-1,by omega⟩
  simp[back,vL,idxOf]
theorem ai.K3 {f:Nat} {rest:List V} {res:List ah} {K KP:V->List ah->Prop} {k esz:Nat} {own:Option Nat} {l:TL} {x:V} (hr:bn res k= .arr own esz l) (hid:js rest=true) (hx:gl x=true)
  (h:ai P f (.sa 0::rest) [.ro (.arr own esz l)] (fun v _=>uk x v []) (fun _ _=>False)) (hK:K x res):ai P f (.sa k::rest) res K KP:=by
 have hk:=cx hr (by simp)
 have hlt:=aj hk;refine ai.frame (pl:= [(k,false)]) (args0:= .sa 0::rest) (K0:=fun v _=>uk x v []) (KP0:=fun _ _=>False) (by simp[ej,b9.2 hk]) (by simpa[iR,dn,qj]using hlt) ?_ ?_ (fun v r hv=>?_) (fun _ _ h=>h.elim)
 ·simp only[dh,dA,k7,idxOf,dn];rw[ff rest hid];simp
 ·have:dw (k7 0 (dn [(k,false)])) res [(k,false)]= [.ro (.arr own esz l)]:=by simp[dw,hr,dH]
  rw[this];exact h
 ·have hm:merge [(k,false)] [] r res=res:=by simp[merge,df,dY]
  exact⟨[],x,rfl,by simp[jT],rfl,iN.gl hv hx,by rw[hm];exact hK⟩
theorem tQ {r:List ah} {k t e j:Nat} {L:List Obj} (h:wR r k=some (t,e,j,L)):∃r',pY r k=some r'/\ae r' k= .store t e L:=by
 grind[pY,wR,aj,aF,aH]
def zi (r:List ah) (k:Nat):Option (Nat×Nat×List Obj):=
 match ae r k with
 | .store t e L=>some (t,e,L)
 |_=>match wR r k with
  |some (t,e,_,L)=>some (t,e,L)
  |none=>none
theorem DW {r:List ah} {k t e:Nat} {L:List Obj} (h:zi r k=some (t,e,L)):ae r k= .store t e L\/∃r',pY r k=some r'/\ae r' k= .store t e L:=by
 grind[zi,tQ]
theorem GL {a b c:V} (h:uk c b []):uk (.tp [a,c]) (.tp [a,b]) []:=fun J K=>by
 obtain⟨s1,s2,_⟩:=h J K;exact⟨by simp only[den,aA,s1],fun hk=>⟨hk.1,s2 hk.2.1,trivial⟩,rfl⟩
theorem ai.Fz {f:Nat} {args:List V} {res:List ah} {K KP:V->List ah->Prop} {t e:Nat} {M:List Obj} {F:Nat->V} (hid:js args=true)
  (h:ai P f args [] (fun v r=>∃j,ae r j= .store t e M/\(∀(κ:Nat->Option Nat) (i:Nat),κ j=some i->iN κ v (F i))) (fun _ _=>False)) (hK:K (F res.length) (res++ [.store t e M])):ai P f args res K KP:=by
 refine ai.frame (pl:= []) (args0:=args) (K0:=fun v r=>∃j,ae r j= .store t e M/\(∀(κ:Nat->Option Nat) (i:Nat),κ j=some i->iN κ v (F i))) (KP0:=fun _ _=>False) rfl rfl (ff args hid) h (fun v r hv=>?_) (fun _ _ h=>h.elim)
 obtain⟨j,hj,hv⟩:=hv;have hlt:j<r.length:=aj (by rw[hj];simp)
 have hm:merge [] [j] r res=res++ [.store t e M]:=by simp[merge,df,dY,hj,dH]
 exact⟨[j],F res.length,by simpa[iR,qj]using hlt,rfl,by simp[lO,hj,e9],hv _ _ (by simp[back,vL,idxOf]),by rw[hm];exact hK⟩
end
def Kv (v:V):Option Nat:=
 match v with
 | .sa j=>some j
 | .ag l=>match l with
   | [x]=>match x with
     | .sa j=>some j
     |_=>none
   |_=>none
 |_=>none
def K8 (c:Nat) (U:St):Option (List Nat):=
 match ae U.res c with
 | .blk _ x=>match Kv x with
   |some j=>match ae U.res j with
    | .obs _ q _=>some [j,q]
    |_=>some [j]
   |none=>some []
 |_=>some []
def Lz (gd:List Nat) (set:Int->List (Nat×V)) (k:Nat) (R:Int->ah) (inv:Int->Prop) (m:Int):bD:=
 {γ:=Int,head:=fun U g=> {U with slots:=DO gd (set g) 0 U.slots,res:=aI U.res k (R g)},inv:=inv,μ:=fun g=>gm (nD m g)}
def HJ:List (Nat×ah)->List ah->List ah
 | [],r=>r
 | (k,x)::l,r=>HJ l (aI r k x)
def MQ {γ:Type} (gd:List Nat) (set:γ->List (Nat×V)) (rs:γ->List (Nat×ah)) (inv:γ->Prop) (μ:γ->Nat):bD:=
 {γ:=γ,head:=fun U g=> {U with slots:=DO gd (set g) 0 U.slots,res:=HJ (rs g) U.res},inv:=inv,μ:=μ}
def TL.emp:TL->TL
 | .ob _=> .ob []
 | .key _=> .key []
 | .it k _=> .it k []
 | .bo _=> .bo []
 | .st _=> .st []
 | .qs n _=> .qs n []
 | .fn n g=> .fn n g
def HY (t:Nat) (U:St):Option (List Nat):=
 match aJ U.slots t with
 | .v x=>match Kv x with
   |some j=>some [j]
   |none=>some []
 |_=>some []
def Md (gd:List Nat) (set:Int->List (Nat×V)) (t e esz:Nat) (L:Int->TL) (inv:Int->Prop) (m:Int):bD:=
 {γ:=Int,head:=fun U g=> {U with slots:=DO gd ((t,.sa U.res.length)::set g) 0 U.slots,res:=U.res++ [.arr (some e) esz (L g)]},
  inv:=inv,μ:=fun g=>gm (nD m g),pre:= [.sl t e esz (TL.emp (L 0))],ext:=HY t}
def MX (n:Nat):bD:= {γ:=Unit,head:=fun U _=>U,inv:=fun _=>True,μ:=fun _=>0,unr:=some n}
def MU (gd:List Nat) (set:Int->List (Nat×V)) (c t e:Nat) (L:Int->List Obj) (inv:Int->Prop) (m:Int):bD:=
 {γ:=Int,head:=fun U g=> {U with slots:=DO gd (set g) 0 U.slots,res:=aI U.res c (.blk t (.ag [.sa U.res.length]))++ [.obs e (U.res.length+1) (L g),.gen U.res.length]},
  inv:=inv,μ:=fun g=>gm (nD m g),pre:= [.bl c e],ext:=K8 c}
end Go.Sx
namespace Go.Proofs.Ytmfbohanboiklaa
open Go.Sx
noncomputable def J4 (l:List (Nat×Ct)) (hl:List (Nat×pU)) (inl:Nat->Bool) (ann:Nat->Nat->Option bD):B7:= {P:=Try.prog,Z:=zeroOf,Γ:=mf l,H0:=Ay hl,inl:=inl,ann:=ann,opn:=Hv inl}
theorem Bm {l:List (Nat×Ct)} {hl:List (Nat×pU)} {inl:Nat->Bool} {ann:Nat->Nat->Option bD} (h:∀p∈l,bW Try.prog p.1 p.2):(J4 l hl inl ann).toCtx.Sound:=
 ⟨CF ur,Try.checked.mixed,fun f g hg=>kc h f g hg,fun f ts te h=>by simp[J4]at h⟩
abbrev MT (l:List (Nat×Ct)) (hl:List (Nat×pU)) (inl:Nat->Bool) (ann:Nat->Nat->Option bD) (f:Nat) (args:List V) (res:List ah) (K KP:V->List ah->Prop):Prop:=
 enter (J4 l hl inl ann).toCtx (exec (J4 l hl inl ann) 100 ⟨false,none⟩) (exec (J4 l hl inl ann) 100 ⟨false,none⟩ f) f args res K KP
set_option maxRecDepth 100000 in
theorem cK {l:List (Nat×Ct)} {hl:List (Nat×pU)} {inl:Nat->Bool} {ann:Nat->Nat->Option bD} (h:∀p∈l,bW Try.prog p.1 p.2) (hh:∀p∈hl,sY Try.prog p.1 p.2) {f:Nat} {args:List V} {res:List ah}
  {K KP:V->List ah->Prop} {G:Prop} (hG:G) (he:G=MT l hl inl ann f args res K KP):ai Try.prog f args res K KP:=
 Ag (C:=J4 l hl inl ann) (n:=100) (Bm h) (xa hh) (Eq.mp he hG)
end Go.Proofs.Ytmfbohanboiklaa
namespace Go.Sx
open Go.RowKit (Below)
def De (κ:Nat->Option Nat) (r:List ah):List Nat->Option (List ah)
 | []=>some []
 |p::l=>if ea r p&&e9 (ae r p)then match De κ r l with
   |some m=>some (dH κ (ae r p)::m)
   |none=>none
  else none
def zM (π:List Nat) (x:Nat->V) (new:Nat->List ah) (v:V) (r:List ah):Prop:=
 ∀nid,dA (idxOf π nid) v=some (x nid)/\De (idxOf π nid) r π=some (new nid)
def EF (x:Nat->V) (new:Nat->List ah):Ct:=fun _ nid args=>match args with
 | []=>some (none,x nid,new nid)
 |_=>none
def J6:List ah->Bool
 | []=>true
 |r::l=>match r with
  | .yet=>false
  |_=>J6 l
theorem rM:∀{l:List ah},J6 l=true->∀k,k<l.length->ae l k≠ .yet
 | [],_,k,hk=>by simp at hk
 |r::l,h,k,hk=>by
  simp only[J6]at h;split at h
  ·simp at h
  ·rename_i hr;cases k with
   |zero=>exact hr
   |succ k=>exact rM h k (by simpa using hk)
theorem oN {κ:Nat->Option Nat} {r:List ah}:∀{π:List Nat} {new:List ah},De κ r π=some new->new.length=π.length/\
  ∀(k p:Nat),π[k]? =some p->known r p/\e9 (ae r p)=true/\ae new k=dH κ (ae r p)
 | [],new,h=>by simp only[De,M6]at h;subst h;exact⟨rfl,fun k p h=>by simp at h⟩
 |q::π,new,h=>by
  simp only[De]at h;split at h
  ·rename_i hc;simp only[M8]at hc;split at h<;>simp only[M6,reduceCtorEq]at h
   rename_i m hm;subst h;obtain⟨a,b⟩:=oN hm;refine⟨by simp[a],fun k p hk=>?_⟩
   cases k with
   |zero=>simp at hk;subst hk;exact⟨b9.1 hc.1,hc.2,rfl⟩
   |succ k=>exact b k p (by simpa using hk)
  ·simp at h
theorem CK {P:Program} {f:Nat} {π:List Nat} {x:Nat->V} {new:Nat->List ah} (hnd:π.Nodup) (hy:∀nid,J6 (new nid)=true) (h:ai P f [] [] (zM π x new) (fun _ _=>False)):bW P f (EF x new):=by
 intro J fps res K w0 F0 w nid args q y new' hH hargs hg hq hfr;unfold EF at hg;split at hg<;>simp only[M6,M7,reduceCtorEq]at hg
 obtain⟨_,rfl,rfl⟩:=hg
 have hE:ar J (fun _ _=>False) [] (known []) w (fun _=>False) w:=
  ⟨fun i hi=>hi,Nat.le_refl _,rfl,rfl,rfl,fun i hi=>by simp[known,ae]at hi,fun i b hi=>by simp[known,ae]at hi,fun i j b hi=>by simp[known,ae]at hi,fun i b hi=>by simp[known,ae]at hi,fun _ _ _=>rfl⟩
 have hc:=h J _ w (fun _=>False) w hE trivial
 refine⟨?_,?_⟩
 ·refine hc.mono fun e w' ⟨v,ρ1,fps1,r,g1,g2,g3,g4⟩=>?_
  rcases g4 with⟨rfl,hN⟩|⟨_,hF⟩
  ·obtain⟨n1,n2⟩:=hN nid;obtain⟨l1,l2⟩:=oN n2;refine⟨_,rfl,?_⟩
   let ρ':Env:=⟨fun i=>if i<nid then J.num i else if i<nid+π.length then ρ1.num (π.getD (i-nid) 0)else J.num i,fun i=>if i<nid then J.cap i else if i<nid+π.length then ρ1.cap (π.getD (i-nid) 0)else J.cap i,
    fun i=>if i<nid then J.adr i else if i<nid+π.length then ρ1.adr (π.getD (i-nid) 0)else J.adr i,fun i=>if i<nid then J.sa i else if i<nid+π.length then ρ1.sa (π.getD (i-nid) 0)else J.sa i,
    fun i=>if i<nid then J.sn i else if i<nid+π.length then ρ1.sn (π.getD (i-nid) 0)else J.sn i,fun i=>if i<nid then J.ob i else if i<nid+π.length then ρ1.ob (π.getD (i-nid) 0)else J.ob i⟩
   have hvia:Env.via (idxOf π nid) ρ1 ρ':=by
    intro p i hp;obtain⟨a1,a2,a3⟩:=dK hp;have:π.getD (i-nid) 0=p:=by simp[Nd,a3]
    simp[ρ',Nf (show¬i<nid by omega),Ng a2,a3]
   have hat:∀k,k<(new nid).length->∃p,π[k]? =some p/\idxOf π nid p=some (nid+k):=fun k hk=>by
    have hk':k<π.length:=by omega
    exact⟨π[k],by simp[hk'],gY π nid k hnd (by simp[hk'])⟩
   have hNN:∀p i,idxOf π nid p=some i->known r p->K i\/fresh nid (new nid).length i:=fun p i hp _=>by
    obtain⟨a1,a2,a3⟩:=dK hp;exact .inr ⟨a1,by omega⟩
   refine⟨ρ',⟨⟨g1.os,g1.tape,g1.output,g1.old,fun b hb=>g1.same b hb (by simp)⟩,fun i hi=>?_,fun k=>fps1 (π.getD k 0),fun k hk=>?_,fun k l b hk hl hne=>?_⟩,?_,?_⟩
   ·grind
   ·obtain⟨p,p1,p2⟩:=hat k hk;obtain⟨m1,m2,m3⟩:=l2 k p p1;have hgd:π.getD k 0=p:=by simp[Nd,p1]
    simp only[hgd];refine⟨?_,fun b hb=>⟨?_,g1.lt p b m1 hb⟩⟩
    ·rw[m3];exact dW hvia hNN p2 _ _ _ (fF m2 (g1.holds p m1))
    ·refine Nat.le_of_not_lt fun hlt=>?_
     exact g1.inF p b m1 hb hlt
   ·obtain⟨p,p1,p2⟩:=hat k hk;obtain⟨p',p1',p2'⟩:=hat l hl;have hgd:π.getD k 0=p:=by simp[Nd,p1]
    have hgd':π.getD l 0=p':=by simp[Nd,p1']
    simp only[hgd,hgd']
    have hpp:p≠p':=by
     grind
    exact g1.disj p p' b (l2 k p p1).1 (l2 l p' p1').1 hpp
   ·exact(eF hvia hNN _ _ n1).1.symm
   ·exact(eF hvia hNN _ _ n1).2.1 g3
  ·exact hF.elim
 ·intro k hk;exact rM (hy nid) k hk
end Go.Sx
namespace Go.Sx
open Go.RowKit (Below)
structure Arg (α:Type) where
 rd:List ah->V->Option (List (Nat×ah)×α)
 cn:α->Nat->V
 pl:α->List ah
structure lk (α:Type) where
 rd:List ah->List V->Option (List (Nat×ah)×α)
 cn:α->Nat->List V
 pl:α->List ah
def kK {α:Type} (A:Arg α):Prop:=∀res v pls a,A.rd res v=some (pls,a)->pls.map (·.2)=A.pl a/\(∀p∈pls,jR res p.1 p.2/\lP p.2=true)/\aX (A.cn a 0)=aX v/\(∀n,aX (A.cn a n)=aX (A.cn a 0))/\
 ∀(pre post:List (Nat×ah)),(∀J K,ok K v->den (J.pull (kW (pre++(pls++post)))) (A.cn a pre.length)=den J v)/\∀K,ok K v->ok (known (mD (pre++(pls++post)))) (A.cn a pre.length)
def jD {α:Type} (A:lk α):Prop:=∀res l pls a,A.rd res l=some (pls,a)->pls.map (·.2)=A.pl a/\(∀p∈pls,jR res p.1 p.2/\lP p.2=true)/\(oV l->∀n,oV (A.cn a n))/\
 ∀(pre post:List (Nat×ah)),(∀J K,ca K l->aA (J.pull (kW (pre++(pls++post)))) (A.cn a pre.length)=aA J l/\aw (J.pull (kW (pre++(pls++post)))) (A.cn a pre.length)=aw J l)/\∀K,ca K l->ca (known (mD (pre++(pls++post)))) (A.cn a pre.length)
def ku:lk Unit:=⟨fun _ l=>match l with| []=>some ([],())|_=>none,fun _ _=> [],fun _=> []⟩
def cD {α β:Type} (A:Arg α) (B:lk β):lk (α×β):=
 ⟨fun res l=>match l with
  |v::l=>match A.rd res v with
   |some (p,a)=>match B.rd res l with
    |some (q,b)=>some (p++q,(a,b))
    |none=>none
   |none=>none
  | []=>none,fun x n=>A.cn x.1 n::B.cn x.2 (n+(A.pl x.1).length),fun x=>A.pl x.1++B.pl x.2⟩
def C5 {α:Type} (r:V->Option α) (m:α->V):Arg α:=⟨fun _ v=>match r v with|some x=>some ([],x)|none=>none,fun x _=>m x,fun _=> []⟩
def Kx (t e:Nat):Arg (Option (List Obj)):=
 ⟨fun res v=>match rS t e res v with
  |some (o,L)=>match o with
   |none=>some ([],none)
   |some k=>some ([(k,.store t e L)],some L)
  |none=>none,fun o n=>match o with|none=>o9|some _=> .lp n 0,fun o=>match o with|none=> []|some L=> [.store t e L]⟩
def H7:Arg (List Obj):=
 ⟨fun res v=>match rA res v with
  |some (k,L)=>some ([(k,.arr none 163 (.ob L))],L)
  |none=>none,fun _ n=> .sa n,fun L=> [.arr none 163 (.ob L)]⟩
def LH {α:Type} (esz:Nat) (r:TL->Option α) (m:α->TL):Arg α:=
 ⟨fun res v=>match v with
  | .sa k=>match bn res k with
    | .arr _ e l=>if e==esz then match r l with
      |some x=>some ([(k,.arr none esz (m x))],x)
      |none=>none
      else none
    |_=>none
  |_=>none,fun _ n=> .sa n,fun x=> [.arr none esz (m x)]⟩
def Lx {α:Type} (B:lk α):Arg α:=
 ⟨fun res v=>match v with
  | .ag l=>B.rd res l
  |_=>none,fun x n=> .ag (B.cn x n),B.pl⟩
theorem qX {pre pls post:List (Nat×ah)} {k:Nat} {r:ah}:kW (pre++((k,r)::pls++post)) pre.length=k:=nP _ _ (k,r) (by simp)
theorem pc {pre pls post:List (Nat×ah)} {k:Nat} {r:ah}:known (mD (pre++((k,r)::pls++post))) pre.length:=by
 unfold known;rw[qA];simp
theorem dv:jD ku:=by
 intro res l pls a h;simp only[ku]at h;split at h<;>simp only[M6,M7,reduceCtorEq]at h
 obtain⟨rfl,_⟩:=h;exact⟨rfl,by simp,fun _ _=>trivial,fun pre post=>⟨fun _ _ _=>⟨rfl,rfl⟩,fun _ _=>trivial⟩⟩
theorem bj {α β:Type} {A:Arg α} {B:lk β} (hA:kK A) (hB:jD B):jD (cD A B):=by
 intro res l pls x h;simp only[cD]at h;split at h
 case h_2=>simp at h
 rename_i v l;split at h
 case h_2=>simp at h
 rename_i p a ha;split at h
 case h_2=>simp at h
 rename_i q b hb;simp only[M6,M7]at h;obtain⟨rfl,rfl⟩:=h;obtain⟨a1,a2,a3,a3',a4⟩:=hA _ _ _ _ ha;obtain⟨b1,b2,b3,b4⟩:=hB _ _ _ _ hb;refine⟨by simp[cD,a1,b1],fun p' hp'=>?_,fun hc n=>?_,fun pre post=>?_⟩
 ·grind
 ·grind[bN,cD]
 ·have hlen:(A.pl a).length=p.length:=by rw[<-a1];simp
  obtain⟨c1,c2⟩:=a4 pre (q++post);obtain⟨d1,d2⟩:=b4 (pre++p) post;have e1:pre++(p++q++post)=pre++(p++(q++post)):=by simp
  have e2:(pre++p)++(q++post)=pre++(p++(q++post)):=by simp
  have e3:(pre++p).length=pre.length+(A.pl a).length:=by simp[hlen]
  rw[e2,e3]at d1 d2;rw[e1];refine⟨fun J K hK=>?_,fun K hK=>?_⟩
  ·obtain⟨f1,f2⟩:=d1 J K hK.2;have f3:=c1 J K hK.1;simp only[cD];exact⟨by simp only[aA];rw[f3,f1],by simp only[aw];rw[f3,f2]⟩
  ·exact⟨c2 K hK.1,d2 K hK.2⟩
theorem vt {α:Type} {r:V->Option α} {m:α->V} (hr:nK r m) (hid:∀x,gl (m x)=true) (ht:∀v x,r v=some x->aX v=aX (m x)):kK (C5 r m):=by
 intro res v pls a h;simp only[C5]at h;split at h<;>simp only[M6,M7,reduceCtorEq]at h
 rename_i x hx;obtain⟨rfl,rfl⟩:=h;obtain⟨b1,b2⟩:=hr _ x hx;refine⟨rfl,by simp,(ht v x hx).symm,fun _=>rfl,fun pre post=>⟨fun J K hK=>?_,fun K hK=>cB (b2 K hK)⟩⟩
 show den _ (m x)=_
 rw[b1 J];exact jK (hid x) (b2 K hK) J _
theorem E0 (t e:Nat):kK (Kx t e):=by
 intro res v pls a h;simp only[Kx]at h;split at h
 case h_2=>simp at h
 rename_i o L hs;rcases qT hs with⟨rfl,rfl,rfl⟩|⟨k,rfl,rfl,hse⟩<;>simp only[M6,M7]at h<;>obtain⟨rfl,rfl⟩:=h
 ·exact⟨rfl,by simp,rfl,fun _=>rfl,fun pre post=>⟨fun _ _ _=>rfl,fun _ _=>rfl⟩⟩
 ·refine⟨rfl,by simpa using⟨hse,rfl⟩,rfl,fun _=>rfl,fun pre post=>⟨fun J K hK=>?_,fun K hK=>pc (pls:= [])⟩⟩
  simp only[Kx,den,Env.pull];rw[qX (pls:= [])]
theorem vi:kK H7:=by
 intro res v pls a h;simp only[H7]at h;split at h<;>simp only[M6,M7,reduceCtorEq]at h
 rename_i k L hs;obtain⟨rfl,rfl⟩:=h;obtain⟨rfl,hse,_⟩:=qI hs;refine⟨rfl,by simpa using⟨hse,rfl⟩,rfl,fun _=>rfl,fun pre post=>⟨fun J K hK=>?_,fun K hK=>pc (pls:= [])⟩⟩
 simp only[H7,den,Env.pull];rw[qX (pls:= [])]
theorem Io {α:Type} {esz:Nat} {r:TL->Option α} {m:α->TL} (hr:∀l x,r l=some x->l=m x):kK (LH esz r m):=by
 intro res v pls a h;simp only[LH]at h;split at h
 case h_2=>simp at h
 rename_i k;split at h
 case h_2=>simp at h
 rename_i own e l hl;split at h
 case isFalse=>simp at h
 rename_i he;have he:=Na.1 he;subst he;split at h<;>simp only[M6,M7,reduceCtorEq]at h
 rename_i x hx;obtain⟨rfl,rfl⟩:=h;have:=hr _ _ hx;subst this;refine⟨rfl,by simpa using⟨jR.arr hl,rfl⟩,rfl,fun _=>rfl,fun pre post=>⟨fun J K hK=>?_,fun K hK=>pc (pls:= [])⟩⟩
 simp only[LH,den,Env.pull];rw[qX (pls:= [])]
theorem IL {α:Type} {B:lk α} (hB:jD B):kK (Lx B):=by
 intro res v pls a h;simp only[Lx]at h;split at h
 case h_2=>simp at h
 rename_i l;obtain⟨b1,b2,b3,b4⟩:=hB _ _ _ _ h;refine⟨b1,b2,rfl,fun _=>rfl,fun pre post=>?_⟩
 obtain⟨c1,c2⟩:=b4 pre post;refine⟨fun J K hK=>?_,fun K hK=>⟨c2 K hK.1,b3 hK.2 _⟩⟩
 simp only[Lx,den];rw[(c1 J K hK.1).2]
def HK {α:Type} (B:lk α) (Q:α->Option Prop) (F:α->V):Ct:=fun res _ xs=>match B.rd res xs with
 |some (_,a)=>some (Q a,F a,[])
 |none=>none
def iu (l:List ah):List ah:=l.map .ro
theorem yx (pls:List (Nat×ah)):mD pls=iu (pls.map (·.2)):=by
 induction pls with
 |nil=>rfl
 |cons p l ih=>obtain⟨p,r⟩:=p;simp[mD,iu,ih]
theorem o7 {P:Program} {f:Nat} {α:Type} {B:lk α} {Q:α->Option Prop} {F:α->V} (hB:jD B) (hF:∀a,gl (F a)=true)
  (h:∀a,aU (Q a)->ca (known (iu (B.pl a))) (B.cn a 0)->ai P f (B.cn a 0) (iu (B.pl a)) (nz (F a)) (fun _ _=>False)):bW P f (HK B Q F):=by
 refine lW fun res nid args q x new hg=>?_
 unfold HK at hg;split at hg<;>simp only[M6,M7,reduceCtorEq]at hg
 rename_i pls a ha;obtain⟨rfl,rfl,rfl⟩:=hg;obtain⟨b1,b2,_,b4⟩:=hB _ _ _ _ ha;obtain⟨c1,c2⟩:=b4 [] [];simp only[List.nil_append,List.append_nil,List.length_nil]at c1 c2;refine⟨rfl,hF a,pls,B.cn a 0,b2,fun J K hK=>(c1 J K hK).1,c2,fun hq hok=>?_⟩
 rw[yx,b1]at hok⊢;exact(h a hq hok).mono (fun _ _=>cc) fun _ _ h=>h
def CG {α:Type} (B:lk α) (Q:α->Option Prop) (x:α->Nat->V) (new:α->Nat->List ah):Ct:=fun res nid xs=>match B.rd res xs with
 |some (_,a)=>some (Q a,x a nid,new a nid)
 |none=>none
theorem zY {J:Env} {fps:Nat->Nat->Prop} {res:List ah} {K:Nat->Prop} {w0 w:World} {F0:Nat->Prop} (hH:ar J fps res K w0 F0 w) {pls:List (Nat×ah)} (hcl:∀p∈pls,jR res p.1 p.2/\lP p.2=true):
  ar (J.pull (kW pls)) (fun _ _=>False) (mD pls) (known (mD pls)) w (fun _=>False) w:=by
 have hfr:∀b,b<w0.heap.size->¬F0 b->w.heap[b]? =w0.heap[b]? /\¬(fun _:Nat=>False) b:=fun b hb hF=>⟨hH.same b hb hF,fun h=>h⟩
 refine⟨fun i hi=>hi,Nat.le_refl _,rfl,rfl,rfl,fun i hi=>?_,fun i b hi h=>h.elim,fun i j b hi hj hne h=>h.elim,fun i b hi h=>h.elim,fun _ _ _=>rfl⟩
 have hlt:=aj hi;rw[nf]at hlt;have hp:pls[i]? =some pls[i]:=List.getElem?_eq_getElem hlt;generalize pls[i]=p at hp
 rw[qA,hp];simp only;obtain⟨hs,hcl⟩:=hcl p (List.mem_of_getElem? hp);obtain⟨fp,g1,g2⟩:=hs.2 J fps K w0 F0 w hH
 have hv:Env.via (fun x=>if x=p.1 then some i else none) J (J.pull (kW pls)):=nC fun x j hx=>by
  split at hx
  ·simp only[M6]at hx;subst hx;rename_i e;subst e;exact nP pls i p hp
  ·simp at hx
 have:=dW (N':=known (mD pls)) hv (fun x j hx _=>by
  split at hx
  ·simp only[M6]at hx;subst hx;exact hi
  ·simp at hx) (p:=p.1) (i:=i) (by simp) _ _ _ (ah.pb hH.old hfr _ _ g1)
 rw[nW hcl]at this;refine⟨fp,this,fun b hb=>⟨?_,fun h=>h⟩⟩
 rcases g2 b hb with⟨j,hj,hf⟩|⟨hl,_⟩
 ·exact hH.lt j b hj hf
 ·exact Nat.lt_of_lt_of_le hl hH.old
theorem sR {J ρ1:Env} {K:Nat->Prop} {fps1:Nat->Nat->Prop} {r:List ah} {w0 w w':World} {F0:Nat->Prop} {nid:Nat} {π:List Nat} {x:Nat->V} {new:Nat->List ah} {v:V} (hnd:π.Nodup)
  (g1:ar ρ1 fps1 r (known r) w (fun _=>False) w') (g3:ok (known r) v) (hN:zM π x new v r):lE K J nid (x nid) (new nid) w0 F0 w (den ρ1 v) w':=by
 obtain⟨n1,n2⟩:=hN nid;obtain⟨l1,l2⟩:=oN n2
 let ρ':Env:=⟨fun i=>if i<nid then J.num i else if i<nid+π.length then ρ1.num (π.getD (i-nid) 0)else J.num i,fun i=>if i<nid then J.cap i else if i<nid+π.length then ρ1.cap (π.getD (i-nid) 0)else J.cap i,
  fun i=>if i<nid then J.adr i else if i<nid+π.length then ρ1.adr (π.getD (i-nid) 0)else J.adr i,fun i=>if i<nid then J.sa i else if i<nid+π.length then ρ1.sa (π.getD (i-nid) 0)else J.sa i,
  fun i=>if i<nid then J.sn i else if i<nid+π.length then ρ1.sn (π.getD (i-nid) 0)else J.sn i,fun i=>if i<nid then J.ob i else if i<nid+π.length then ρ1.ob (π.getD (i-nid) 0)else J.ob i⟩
 have hvia:Env.via (idxOf π nid) ρ1 ρ':=by
  intro p i hp;obtain⟨a1,a2,a3⟩:=dK hp;simp[ρ',Nf (show¬i<nid by omega),Ng a2,a3]
 have hat:∀k,k<(new nid).length->∃p,π[k]? =some p/\idxOf π nid p=some (nid+k):=fun k hk=>by
  have hk':k<π.length:=by omega
  exact⟨π[k],by simp[hk'],gY π nid k hnd (by simp[hk'])⟩
 have hNN:∀p i,idxOf π nid p=some i->known r p->K i\/fresh nid (new nid).length i:=fun p i hp _=>by
  obtain⟨a1,a2,a3⟩:=dK hp;exact .inr ⟨a1,by omega⟩
 refine⟨ρ',⟨⟨g1.os,g1.tape,g1.output,g1.old,fun b hb=>g1.same b hb (by simp)⟩,fun i hi=>?_,fun k=>fps1 (π.getD k 0),fun k hk=>?_,fun k l b hk hl hne=>?_⟩,?_,?_⟩
 ·have:¬(nid<=i/\i<nid+π.length):=fun⟨a,b⟩=>hi ⟨a,by omega⟩
  by_cases hlt:i<nid
  ·simp[ρ',Ng hlt]
  ·simp[ρ',Nf hlt,Nf (show¬i<nid+π.length by omega)]
 ·obtain⟨p,p1,p2⟩:=hat k hk;obtain⟨m1,m2,m3⟩:=l2 k p p1;have hgd:π.getD k 0=p:=by simp[Nd,p1]
  simp only[hgd];refine⟨?_,fun b hb=>⟨?_,g1.lt p b m1 hb⟩⟩
  ·rw[m3];exact dW hvia hNN p2 _ _ _ (fF m2 (g1.holds p m1))
  ·refine Nat.le_of_not_lt fun hlt=>?_
   exact g1.inF p b m1 hb hlt
 ·obtain⟨p,p1,p2⟩:=hat k hk;obtain⟨p',p1',p2'⟩:=hat l hl;have hgd:π.getD k 0=p:=by simp[Nd,p1]
  have hgd':π.getD l 0=p':=by simp[Nd,p1']
  simp only[hgd,hgd']
  have hpp:p≠p':=by
   rintro rfl
   rw[p2]at p2';simp at p2';omega
  exact g1.disj p p' b (l2 k p p1).1 (l2 l p' p1').1 hpp
 ·exact(eF hvia hNN _ _ n1).1.symm
 ·exact(eF hvia hNN _ _ n1).2.1 g3
theorem vh {P:Program} {f:Nat} {α:Type} {B:lk α} {Q:α->Option Prop} {x:α->Nat->V} {new:α->Nat->List ah} {π:α->List Nat} (hB:jD B) (hnd:∀a,(π a).Nodup) (hy:∀a nid,J6 (new a nid)=true)
  (h:∀a,aU (Q a)->ca (known (iu (B.pl a))) (B.cn a 0)->ai P f (B.cn a 0) (iu (B.pl a)) (fun v r=>zM (π a) (x a) (new a) v r) (fun _ _=>False)):bW P f (CG B Q x new):=by
 intro J fps res K w0 F0 w nid args q y new' hH hargs hg hq hfr;unfold CG at hg;split at hg<;>simp only[M6,M7,reduceCtorEq]at hg
 rename_i pls a ha;obtain⟨rfl,rfl,rfl⟩:=hg;obtain⟨b1,b2,_,b4⟩:=hB _ _ _ _ ha;obtain⟨c1,c2⟩:=b4 [] [];simp only[List.nil_append,List.append_nil,List.length_nil]at c1 c2;refine⟨?_,fun k hk=>rM (hy a nid) k hk⟩
 have hrep:=zY hH b2;have hok:=c2 K hargs;rw[<-(c1 J K hargs).1];have hro:mD pls=iu (B.pl a):=by rw[yx,b1]
 rw[hro]at hrep hok;refine(h a hq hok _ _ _ _ _ hrep hok).mono fun e w' ⟨v,ρ1,fps1,r,g1,g2,g3,g4⟩=>?_
 rcases g4 with⟨rfl,hN⟩|⟨_,hF⟩
 ·exact⟨_,rfl,sR (hnd a) g1 g3 hN⟩
 ·exact hF.elim
theorem ai.Al {P:Program} {f:Nat} {args:List V} {res:List ah} {x:V} {new:List ah} {K KP:V->List ah->Prop} (hy:∀k,k<new.length->ae new k≠ .yet)
  (h:∀J fps w0 F0 w,ar J fps res (known res) w0 F0 w->ca (known res) args->CallsIn (FF P none) 0 P f (aA J args).toArray w fun e w'=>∃v,e= .returned v/\lE (known res) J res.length x new w0 F0 w v w') (hK:K x (res++new)):ai P f args res K KP:=by
 intro J fps w0 F0 w hH hargs;refine(h J fps w0 F0 w hH hargs).mono fun e w' ⟨v,he,ρ',hg,hv,hx⟩=>?_
 have hfr':∀i,known res i->¬fresh res.length new.length i:=fun i hi hf=>by have:=aj hi;unfold fresh at hf;omega
 have hK':∀i,known res i\/fresh res.length new.length i->known (res++new) i:=by
  intro i hi;obtain⟨b1,b2,b3⟩:=fe res new;rcases hi with hi|⟨f1,f2⟩
  ·unfold known;rw[(b1 i hi).1];exact hi
  ·have:=b3 (i-res.length) (by omega)
   rw[show res.length+(i-res.length)=i by omega]at this
   unfold known;rw[this];exact hy _ (by omega)
 obtain⟨fps',g1,g2⟩:=hH.grow (res':=res++new) (fe _ _) hfr' hK' hg;exact⟨x,ρ',fps',res++new,g1,⟨g2,fun i hi=>hK' i (.inl hi)⟩,bk hK' _ hx,.inl ⟨by rw[he,hv],hK⟩⟩
def LF {α:Type} (B:lk α) (Q:α->Prop) (c:α->Bool) (F0:α->V) (F1:α->Nat->V) (new:α->ah):pU:=fun args res K=>
 match B.rd res args with
 |some (_,a)=>Q a/\(c a=false->K (F0 a) res)/\(c a=true->K (F1 a res.length) (res++ [new a]))
 |none=>False
def H6 (c:Bool) (x0:V) (F1:Nat->V) (new:ah) (p:Option Nat) (v:V) (r:List ah):Prop:=
 match p with
 |some p=>c=true/\zM [p] F1 (fun _=> [new]) v r
 |none=>c=false/\nz x0 v r
def LS (v:V):Option Nat:=
 match v with
 | .sa p=>some p
 | .lp p _=>some p
 | .tp l=>match l with
   |x::_=>match x with
    | .sa p=>some p
    | .lp p _=>some p
    |_=>none
   | []=>none
 |_=>none
def G1 (c:Bool) (x0:V) (F1:Nat->V) (new:ah) (v:V) (r:List ah):Prop:=H6 c x0 F1 new (LS v) v r
theorem EP {P:Program} {f:Nat} {α:Type} {B:lk α} {Q:α->Prop} {c:α->Bool} {F0:α->V} {F1:α->Nat->V} {new:α->ah} (hB:jD B) (hF:∀a,gl (F0 a)=true) (hn:∀a,new a≠ .yet)
  (h:∀a,Q a->ca (known (iu (B.pl a))) (B.cn a 0)->ai P f (B.cn a 0) (iu (B.pl a)) (G1 (c a) (F0 a) (F1 a) (new a)) (fun _ _=>False)):sY P f (LF B Q c F0 F1 new):=by
 intro args res K KP hh;unfold LF at hh;split at hh
 case h_2=>exact hh.elim
 rename_i pls a ha;obtain⟨hQ,h0,h1⟩:=hh;obtain⟨b1,b2,_,b4⟩:=hB _ _ _ _ ha;obtain⟨c1,c2⟩:=b4 [] [];simp only[List.nil_append,List.append_nil,List.length_nil]at c1 c2;have hro:mD pls=iu (B.pl a):=by rw[yx,b1]
 have main:∀J fps w0 F0' w,ar J fps res (known res) w0 F0' w->ca (known res) args->CallsIn (FF P none) 0 P f (aA J args).toArray w fun e w'=>∃v ρ1 fps1 r,e= .returned (den ρ1 v)/\ar ρ1 fps1 r (known r) w (fun _=>False) w'/\ok (known r) v/\G1 (c a) (F0 a) (F1 a) (new a) v r:=by
  intro J fps w0 F0' w hH hargs;have hrep:=zY hH b2;have hok:=c2 _ hargs;rw[hro]at hrep hok;rw[<-(c1 J _ hargs).1];refine(h a hQ hok _ _ _ _ _ hrep hok).mono fun e w' ⟨v,ρ1,fps1,r,g1,g2,g3,g4⟩=>?_
  rcases g4 with⟨rfl,hN⟩|⟨_,hF⟩
  ·exact⟨v,ρ1,fps1,r,rfl,g1,g3,hN⟩
  ·exact hF.elim
 cases hc:c a with
 |true=>
  refine ai.Al (x:=F1 a res.length) (new:= [new a]) (fun k hk=>by simp at hk;subst hk;exact hn a) (fun J fps w0 F0' w hH hargs=>?_) (h1 hc)
  refine(main J fps w0 F0' w hH hargs).mono fun e w' ⟨v,ρ1,fps1,r,he,g1,g3,hv⟩=>?_
  unfold G1 H6 at hv;split at hv
  ·exact⟨_,he,sR (new:=fun _=> [new a]) (by simp) g1 g3 hv.2⟩
  ·rw[hc]at hv;simp at hv
 |false=>
  have h0':=h0 hc;rw[<-List.append_nil res]at h0';refine ai.Al (x:=F0 a) (new:= []) (fun k hk=>by simp at hk) (fun J fps w0 F0' w hH hargs=>?_) h0'
  refine(main J fps w0 F0' w hH hargs).mono fun e w' ⟨v,ρ1,fps1,r,he,g1,g3,hv⟩=>?_
  unfold G1 H6 at hv;split at hv
  ·rw[hc]at hv;simp at hv
  ·refine⟨_,he,J,⟨⟨g1.os,g1.tape,g1.output,g1.old,fun b hb=>g1.same b hb (fun h=>h)⟩,Env.agree.refl _ _,fun _ _=>False,fun k hk=>by simp at hk,fun k l b hk=>by simp at hk⟩,?_,?_⟩
   ·obtain⟨e1,e2,_⟩:=cc hv.2 ρ1 (known r);rw[e1];exact jK (hF a) (e2 g3) J ρ1
   ·obtain⟨e1,e2,_⟩:=cc hv.2 ρ1 (known r);exact ja _ (hF a) (e2 g3)
end Go.Sx
namespace Go.Sx
open Go.RowKit (Below)
theorem ai.Kh {P:Program} {f:Nat} {rest:List V} {res:List ah} {K KP:V->List ah->Prop} {k n e:Nat} {x:V} {L:List Obj} (hr:ae res k= .blk e x) (hl:AF x=some L) (hn:n=L.length) (hs:n<=1000)
  (h:ai P f (.sa res.length::rest) (aI res k .gone++ [.arr (some e) 163 (.ob L)]) K KP):ai P f (.sc k n n::rest) res K KP:=by
 intro J fps w0 F0 w hH hargs;have hk:known res k:=by unfold known;rw[hr];simp
 have hnk:¬known res res.length:=fun hk=>by have:=aj hk;omega
 have hag:=jZ (N:=known res) J (i:=res.length) (a:=some ⟨J.num k,0,none⟩) (n:=n) (cap:=n) hnk;obtain⟨fps',g1,g2,g3,g4⟩:=xE hH hr hl hn hs;have hargs':ca (known (aT [k] res++ [.arr (some e) 163 (.ob L)])) (.sa res.length::rest):=⟨g4,aS g3 _ hargs.2⟩
 have hd:aA (J.cP res.length (some ⟨J.num k,0,none⟩) n n) (.sa res.length::rest)=aA J (.sc k n n::rest):=by
  simp only[aA,cH hag rest hargs.2];simp[den,Env.cP]
 have:=h _ fps' w0 F0 w g1 hargs';rw[hd]at this;refine this.mono fun en w' ⟨x,ρ'',fps'',res'',a1,a2,a3,a4⟩=>⟨x,ρ'',fps'',res'',a1,⟨g2.trans (a2.1.mono fun i hi=>g3 i hi) (fun _ h=>h),fun i hi=>a2.2 i (g3 i hi)⟩,a3,a4⟩
def I3 (h:pU):pU:=fun args res K=>
 match args with
 |a::rest=>match a with
  | .sc k n c=>match ae res k with
    | .blk e x=>match AF x with
      |some L=>if n==L.length&&c==n&&Nat.ble n 1000 then h (.sa res.length::rest) (aI res k .gone++ [.arr (some e) 163 (.ob L)]) K else False
      |none=>False
    |_=>False
  |a=>h (a::rest) res K
 | []=>h [] res K
theorem Fu {P:Program} {f:Nat} {h:pU} (hh:sY P f h):sY P f (I3 h):=by
 intro args res K KP hc;unfold I3 at hc;split at hc
 ·split at hc
  ·split at hc
   case h_2=>exact hc.elim
   rename_i e x hr;split at hc
   case h_2=>exact hc.elim
   rename_i L hL;split at hc
   case isFalse=>exact hc.elim
   rename_i hb;simp only[M8,Na,Nat.ble_eq]at hb;obtain⟨⟨h1,rfl⟩,h2⟩:=hb;exact ai.Kh hr hL h1 h2 (hh _ _ _ _ hc)
  ·exact hh _ _ _ _ hc
 ·exact hh _ _ _ _ hc
end Go.Sx
