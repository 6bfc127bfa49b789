import Derived.Test.YtlblcfaclmpekaaGreatCfg
set_option linter.unusedSimpArgs false
set_option linter.unusedVariables false
namespace Go.Sx
open Go.RowKit (Below)
abbrev Ct:=List aA->Nat->List V->RR
def cV (P:Program) (f:Nat) (g:Ct):Prop:=
 ∀J fps res K w0 F0 w nid args q x new,aW J fps res K w0 F0 w->eM K args->g res nid args=some (q,x,new)->dv q->
  (∀k,k<new.length->¬K (nid+k))->
  (CallsIn (FF P none) 0 P f (bc J args).toArray w fun e w'=>∃v,e= .returned v/\pB K J nid x new w0 F0 w v w')/\∀k,k<new.length->ar new k≠ .yet
def ow:List (Nat×Ct)->Nat->Option Ct
 | [],_=>none
 | (g,c)::l,f=>if f==g then some c else ow l f
theorem lk {P:Program}:∀{l:List (Nat×Ct)},(∀p∈l,cV P p.1 p.2)->∀f g,ow l f=some g->cV P f g
 | [],_,f,g,h=>by simp[ow]at h
 | (k,c)::l,hl,f,g,h=>by
   simp only[ow]at h;split at h
   ·rename_i e;have e:=Xq.1 e;simp only[Xm]at h;subst h;subst e;exact hl (f,c) (by simp)
   ·exact lk (fun p hp=>hl p (by simp[hp])) f g h
mutual
def jJ:V->Bool
 | .lp _ _=>false
 | .lx _ _ _ _ _ _=>false
 | .sc _ _ _=>false
 | .so _ _=>false
 | .ap _ _ _ _=>false
 | .ax _ _ _ _ _ _ _ _=>false
 | .sa _=>false
 | .op _ _=>false
 | .yl _=>false
 | .mp _=>false
 | .ch _ _ _ _=>false
 | .bs _ _ _=>false
 | .ks _ _ _ _ _=>false
 | .fn _ l=>kY l
 | .ic _ x=>jJ x
 | .ag l=>kY l
 | .tp l=>kY l
 |_=>true
def kY:List V->Bool
 | []=>true
 |x::l=>jJ x&&kY l
end
mutual
theorem oB {K K':Nat->Prop}:∀v,jJ v=true->ok K v->ok K' v
 | .lp _ _,h,_| .lx _ _ _ _ _ _,h,_| .sc _ _ _,h,_| .so _ _,h,_| .ap _ _ _ _,h,_| .sa _,h,_| .op _ _,h,_| .yl _,h,_| .mp _,h,_| .ch _ _ _ _,h,_| .ax _ _ _ _ _ _ _ _,h,_| .bs _ _ _,h,_| .ks _ _ _ _ _,h,_=>by simp[jJ]at h
 | .fn _ l,h,hk=>qh l h hk
 | .ic _ x,h,hk=>oB x h hk
 | .ag l,h,hk=>⟨qh l h hk.1,hk.2⟩
 | .tp l,h,hk=>qh l h hk
 | .cb _,_,hk| .bo _,_,hk| .ci _ _,_,hk| .it _ _,_,hk| .bt _,_,hk| .st _,_,hk| .nl _,_,hk| .key _,_,hk| .sl _,_,hk| .by _,_,hk| .ob _,_,hk=>hk
theorem qh {K K':Nat->Prop}:∀l,kY l=true->eM K l->eM K' l
 | [],_,_=>trivial
 |x::l,h,hk=>by
  simp only[kY,Xo]at h;exact⟨oB x h.1 hk.1,qh l h.2 hk.2⟩
end
theorem qd {K:Nat->Prop} {v:V} (h:jJ v=true) (hk:ok K v) (J ρ':Env):den ρ' v=den J v:=
 eI (N:=fun _=>False) (fun _ h=>h.elim) v (oB v h hk)
def oR (v:V) (v':V) (_:List aA):Prop:=
 match ve v' v with
 |some l=>iz l
 |none=>False
def vi (x v:V) (_:List aA):Prop:=∀J K,rM J K v x
theorem cK {x v:V} {r:List aA} (h:oR x v r):vi x v r:=by
 unfold oR at h;split at h
 ·rename_i l hl;exact fun J K=>ph J K _ _ l hl h
 ·exact h.elim
theorem aj.mono {P:Program} {f:Nat} {args:List V} {res:List aA} {K K' KP KP':V->List aA->Prop} (h:aj P f args res K KP) (hK:∀v r,K v r->K' v r) (hP:∀v r,KP v r->KP' v r):
  aj P f args res K' KP':=by
 intro J fps w0 F0 w hH ha;refine(h J fps w0 F0 w hH ha).mono fun e w' ⟨x,ρ',fps',res',g1,g2,g3,g4⟩=>⟨x,ρ',fps',res',g1,g2,g3,?_⟩
 rcases g4 with⟨e1,e2⟩|⟨e1,e2⟩
 ·exact .inl ⟨e1,hK _ _ e2⟩
 ·exact .inr ⟨e1,hP _ _ e2⟩
def T6 (l m:List V):Prop:=(∀J,bc J l=bc J m)/\∀K,eM K l->eM (fun _=>False) m
theorem rV {P:Program} {f:Nat} {g:Ct} (h:∀res nid args q x new,g res nid args=some (q,x,new)->new= []/\jJ x=true/\
  ∃args',T6 args args'/\(dv q->eM (fun _=>False) args'->aj P f args' [] (vi x) (fun _ _=>False))):cV P f g:=by
 intro J fps res K w0 F0 w nid args q x new hH hargs hg hq hfr;obtain⟨rfl,hid,args',⟨s1,s2⟩,hc⟩:=h res nid args q x new hg;refine⟨?_,fun k hk=>by simp at hk⟩
 have hok:=s2 K hargs
 have hrep:aW J (fun _ _=>False) [] (known []) w (fun _=>False) w:=
  ⟨fun i hi=>hi,Nat.le_refl _,rfl,rfl,rfl,fun i hi=>by simp[known,ar]at hi,fun i b hi=>by simp[known,ar]at hi,fun i j b hi=>by simp[known,ar]at hi,fun i b hi=>by simp[known,ar]at hi,fun _ _ _=>rfl⟩
 have hcall:=hc hq hok J (fun _ _=>False) w (fun _=>False) w hrep (by rw[gd]at hok⊢;exact fun z hz=>ff (hok z hz))
 rw[s1 J];refine hcall.mono fun e w' ⟨y,ρ',fps',res',g1,g2,g3,g4⟩=>?_
 rcases g4 with⟨rfl,hK⟩|⟨_,hK⟩
 ·refine⟨_,rfl,J,?_,?_,?_⟩
  ·have hb:Below w.heap.size w w':=by
    refine⟨g1.os,g1.tape,g1.output,g1.old,fun b hb=>g1.same b hb (fun h=>h)⟩
   exact⟨hb,Env.aZ.refl _ _,fun _ _=>False,fun k hk=>by simp at hk,fun k l b hk=>by simp at hk⟩
  ·obtain⟨e1,e2,_⟩:=hK ρ' (known res');rw[e1];exact qd hid (e2 g3) J ρ'
  ·obtain⟨e1,e2,_⟩:=hK ρ' (known res');exact oB x hid (e2 g3)
 ·exact hK.elim
def rH {α:Type} (r:V->Option α) (m:α->V):Prop:=∀v x,r v=some x->(∀J,den J v=den J (m x))/\∀K,ok K v->ok (fun _=>False) (m x)
def rI (k:IntKind) (v:V):Option Int:=
 match toInt v with
 |some (k',n)=>if k==k' then some n else none
 |none=>none
def rK (v:V):Option Key:=
 match v with
 | .key k=>some k
 | .ag l=>match l with
   | [a,b,c,d,e,f]=>match rI .i64 a with
     |some a=>match rI .i64 b with
      |some b=>match rI .i64 c with
       |some c=>match rI .i64 d with
        |some d=>match rI .i64 e with
         |some e=>match rI .i64 f with
          |some f=>some ⟨a,b,c,d,e,f⟩
          |none=>none
         |none=>none
        |none=>none
       |none=>none
      |none=>none
     |none=>none
   |_=>none
 |_=>none
def rO:V->Option Obj
 | .ob o=>some o
 |_=>none
theorem KD:rH toBool V.bo:=by
 intro v x h;cases v<;>simp[toBool]at h<;>subst h<;>exact⟨fun _=>rfl,fun _ _=>trivial⟩
theorem gi (k:IntKind):rH (rI k) (V.it k):=by
 intro v x h;unfold rI at h;cases v<;>simp[toInt]at h<;>obtain⟨rfl,rfl⟩:=h
 ·exact⟨fun _=>rfl,fun _ hk=>hk⟩
 ·exact⟨fun _=>rfl,fun _ hk=>hk⟩
 ·rename_i b;refine⟨fun _=>rfl,fun _ _=>?_⟩
  have:=b.toNat_lt;simp only[ok,cg,Pf];omega
theorem gW:rH rK V.key:=by
 intro v x h;unfold rK at h;split at h
 ·simp only[Xm]at h;subst h;exact⟨fun _=>rfl,fun _ hk=>hk⟩
 ·split at h
  case h_2=>simp at h
  split at h<;>try(simp at h;done)
  rename_i h1;split at h<;>try(simp at h;done)
  rename_i h2;split at h<;>try(simp at h;done)
  rename_i h3;split at h<;>try(simp at h;done)
  rename_i h4;split at h<;>try(simp at h;done)
  rename_i h5;split at h<;>simp only[Xm,reduceCtorEq]at h
  rename_i h6;subst h;have e1:=gi .i64 _ _ h1;have e2:=gi .i64 _ _ h2;have e3:=gi .i64 _ _ h3;have e4:=gi .i64 _ _ h4;have e5:=gi .i64 _ _ h5;have e6:=gi .i64 _ _ h6;refine⟨fun J=>?_,fun K hK=>?_⟩
  ·simp only[den,aU,e1.1 J,e2.1 J,e3.1 J,e4.1 J,e5.1 J,e6.1 J];rfl
  ·obtain⟨⟨k1,k2,k3,k4,k5,k6,_⟩,_⟩:=hK;exact⟨e1.2 K k1,e2.2 K k2,e3.2 K k3,e4.2 K k4,e5.2 K k5,e6.2 K k6⟩
 ·simp at h
theorem TR {v:V} {x:Key} (h:rK v=some x):bR v=false:=by
 cases v<;>first|rfl|simp[rK]at h
theorem zo:rH rO V.ob:=by
 intro v x h;cases v<;>simp[rO]at h<;>subst h<;>exact⟨fun _=>rfl,fun _ hk=>hk⟩
def Tn (F:V):Ct:=fun _ _ xs=>match xs with
 | []=>some (none,F,[])
 |_=>none
def Qk {α:Type} (r:V->Option α) (F:α->V):Ct:=fun _ _ xs=>match xs with
 | [a]=>match r a with
   |some x=>some (none,F x,[])
   |none=>none
 |_=>none
def Q8 {α β:Type} (r:V->Option α) (s:V->Option β) (F:α->β->V):Ct:=fun _ _ xs=>match xs with
 | [a,b]=>match r a,s b with
   |some x,some y=>some (none,F x y,[])
   |_,_=>none
 |_=>none
def VC {α β γ:Type} (r:V->Option α) (s:V->Option β) (t:V->Option γ) (F:α->β->γ->V):Ct:=fun _ _ xs=>match xs with
 | [a,b,c]=>match r a,s b,t c with
   |some x,some y,some z=>some (none,F x y z,[])
   |_,_,_=>none
 |_=>none
theorem QI {P:Program} {f:Nat} {F:V} (hF:jJ F=true) (h:aj P f [] [] (oR F) (fun _ _=>False)):cV P f (Tn F):=by
 refine rV fun res nid args q x new hg=>?_
 unfold Tn at hg;split at hg<;>simp only[Xm,Xn,reduceCtorEq]at hg
 obtain⟨rfl,rfl,rfl⟩:=hg;exact⟨rfl,hF,[],⟨fun _=>rfl,fun _ _=>trivial⟩,fun _ _=>h.mono (fun _ _=>cK) fun _ _ h=>h⟩
theorem RF {P:Program} {f:Nat} {F:V} (hF:jJ F=true) (h:aj P f [] [] (fun v _=>v=F) (fun _ _=>False)):cV P f (Tn F):=by
 refine rV fun res nid args q x new hg=>?_
 unfold Tn at hg;split at hg<;>simp only[Xm,Xn,reduceCtorEq]at hg
 obtain⟨rfl,rfl,rfl⟩:=hg;exact⟨rfl,hF,[],⟨fun _=>rfl,fun _ _=>trivial⟩,fun _ _=>h.mono (fun v _ e=>by subst e;exact fun J K=>rM.refl J K v) fun _ _ h=>h⟩
theorem rC {P:Program} {f:Nat} {α:Type} {r:V->Option α} {m:α->V} {F:α->V} (hr:rH r m) (hF:∀x,jJ (F x)=true)
  (h:∀x,ok (fun _=>False) (m x)->aj P f [m x] [] (oR (F x)) (fun _ _=>False)):cV P f (Qk r F):=by
 refine rV fun res nid args q x new hg=>?_
 unfold Qk at hg;split at hg<;>(try split at hg)<;>simp only[Xm,Xn,reduceCtorEq]at hg
 rename_i a x h1;obtain⟨rfl,rfl,rfl⟩:=hg;obtain⟨a1,a2⟩:=hr _ x h1;exact⟨rfl,hF x,[m x],⟨fun J=>by simp[bc,a1 J],fun K hK=>⟨a2 K hK.1,trivial⟩⟩,fun _ hok=>(h x hok.1).mono (fun _ _=>cK) fun _ _ h=>h⟩
theorem uo {P:Program} {f:Nat} {α β:Type} {r:V->Option α} {s:V->Option β} {m:α->V} {n:β->V} {F:α->β->V} (hr:rH r m) (hs:rH s n) (hF:∀x y,jJ (F x y)=true)
  (h:∀x y,ok (fun _=>False) (m x)->ok (fun _=>False) (n y)->aj P f [m x,n y] [] (oR (F x y)) (fun _ _=>False)):cV P f (Q8 r s F):=by
 refine rV fun res nid args q x new hg=>?_
 unfold Q8 at hg;split at hg<;>(try split at hg)<;>simp only[Xm,Xn,reduceCtorEq]at hg
 rename_i a b x y h1 h2;obtain⟨rfl,rfl,rfl⟩:=hg;obtain⟨a1,a2⟩:=hr _ x h1;obtain⟨b1,b2⟩:=hs _ y h2;exact⟨rfl,hF x y,[m x,n y],⟨fun J=>by simp[bc,a1 J,b1 J],fun K hK=>⟨a2 K hK.1,b2 K hK.2.1,trivial⟩⟩,fun _ hok=>(h x y hok.1 hok.2.1).mono (fun _ _=>cK) fun _ _ h=>h⟩
theorem J0 {P:Program} {f:Nat} {α β γ:Type} {r:V->Option α} {s:V->Option β} {t:V->Option γ} {m:α->V} {n:β->V} {o:γ->V} {F:α->β->γ->V} (hr:rH r m) (hs:rH s n) (ht:rH t o)
  (hF:∀x y z,jJ (F x y z)=true)
  (h:∀x y z,ok (fun _=>False) (m x)->ok (fun _=>False) (n y)->ok (fun _=>False) (o z)->aj P f [m x,n y,o z] [] (oR (F x y z)) (fun _ _=>False)):cV P f (VC r s t F):=by
 refine rV fun res nid args q x new hg=>?_
 unfold VC at hg;split at hg<;>(try split at hg)<;>simp only[Xm,Xn,reduceCtorEq]at hg
 rename_i a b c x y z h1 h2 h3;obtain⟨rfl,rfl,rfl⟩:=hg;obtain⟨a1,a2⟩:=hr _ x h1;obtain⟨b1,b2⟩:=hs _ y h2;obtain⟨c1,c2⟩:=ht _ z h3;exact⟨rfl,hF x y z,[m x,n y,o z],⟨fun J=>by simp[bc,a1 J,b1 J,c1 J],fun K hK=>⟨a2 K hK.1,b2 K hK.2.1,c2 K hK.2.2.1,trivial⟩⟩,fun _ hok=>(h x y z hok.1 hok.2.1 hok.2.2.1).mono (fun _ _=>cK) fun _ _ h=>h⟩
def TO:List Nat->Nat->Bool
 | [],_=>false
 |x::l,i=>x==i||TO l i
def TA:List (Nat×V)->Nat->Option V
 | [],_=>none
 | (j,v)::l,i=>if j==i then some v else TA l i
def ME (kb:List Nat) (set:List (Nat×V)):Nat->List S->List S
 |_,[]=> []
 |i,s::l=>(match TA set i with
  |some v=> .v v
  |none=>if TO kb i then s else .und)::ME kb set (i+1) l
def WR (kb:List Nat) (t:Nat) (inv:Int->Prop) (m:Int):cL:=
 {γ:=Int,head:=fun U g=> {U with slots:=ME kb [(t,.it .i64 g)] 0 U.slots},inv:=inv,μ:=fun g=>oV (sf m g)}
def Uz (kb:List Nat) (set:Int->List (Nat×V)) (inv:Int->Prop) (m:Int):cL:=
 {γ:=Int,head:=fun U g=> {U with slots:=ME kb (set g) 0 U.slots},inv:=inv,μ:=fun g=>oV (sf m g)}
def kg:List (Nat×Nat×cL)->Nat->Nat->Option cL
 | [],_,_=>none
 | (f,r,A)::l,f',r'=>if f==f'&&r==r' then some A else kg l f' r'
def aO (_ _:Nat):Option cL:=none
def bS (_:Nat):Bool:=false
def Xf:Handler:=fun _ _ _ _ _=>False
end Go.Sx
namespace Go.Proofs.YtlblcfaclmpekaaGreat
open Go.Sx
noncomputable def cf (l:List (Nat×Ct)) (inl:Nat->Bool) (ann:Nat->Nat->Option cL):OL:= {P:=Tryz.prog,Z:=zeroOf,Γ:=ow l,H0:=Xf,inl:=inl,ann:=ann,opn:=K6 inl}
theorem Iy {l:List (Nat×Ct)} {inl:Nat->Bool} {ann:Nat->Nat->Option cL} (hl:∀p∈l,cV Tryz.prog p.1 p.2):(cf l inl ann).toCtx.Sound:=
 ⟨xu nu,Tryz.checked.mixed,fun f g hg=>lk hl f g hg,fun f ts te h=>by simp[cf]at h⟩
abbrev vc (l:List (Nat×Ct)) (inl:Nat->Bool) (ann:Nat->Nat->Option cL) (f:Nat) (args:List V) (res:List aA) (K KP:V->List aA->Prop):Prop:=
 enter (cf l inl ann).toCtx (exec (cf l inl ann) 100 ⟨false,none⟩) (exec (cf l inl ann) 100 ⟨false,none⟩ f) f args res K KP
set_option maxRecDepth 100000 in
theorem bd {l:List (Nat×Ct)} {inl:Nat->Bool} {ann:Nat->Nat->Option cL} (hl:∀p∈l,cV Tryz.prog p.1 p.2) {f:Nat} {args:List V} {res:List aA} {K KP:V->List aA->Prop}
  {G:Prop} (hG:G) (h:G=vc l inl ann f args res K KP):aj Tryz.prog f args res K KP:=
 As (C:=cf l inl ann) (n:=100) (Iy hl) (fun _ _ _ _ _ hh=>hh.elim) (Eq.mp h hG)
end Go.Proofs.YtlblcfaclmpekaaGreat
namespace Go.Sx
theorem an {P:Program}:∀p∈([]:List (Nat×Ct)),cV P p.1 p.2:=by simp
theorem ab {P:Program} {f:Nat} {g:Ct} {l:List (Nat×Ct)} (h:cV P f g) (t:∀p∈l,cV P p.1 p.2):∀p∈(f,g)::l,cV P p.1 p.2:=by
 intro p hp;rcases List.mem_cons.1 hp with rfl|hp
 ·exact h
 ·exact t p hp
end Go.Sx
namespace Go.Sx
open Go.RowKit (Below)
theorem aW.zs {J:Env} {fps:Nat->Nat->Prop} {res:List aA} {K:Nat->Prop} {w0:World} {F0:Nat->Prop} {w:World} (h:aW J fps res K w0 F0 w) {i:Nat} {r:aA}
  (hr:cR res i=r) (hk:known res i):∃fp:Nat->Prop,r.holds K J i fp w0 F0 w/\∀b,fp b->fps i b\/(b<w0.heap.size/\¬F0 b):=by
 have hh:=h.holds i hk;unfold cR at hr;split at hr
 ·rename_i r' he;rw[he]at hh;subst hr;obtain⟨fp',h1,h2⟩:=hh;exact⟨fp',aA.fa _ h1 fun b hb=>h.same b (h2 b hb).1 (h2 b hb).2,fun b hb=> .inr (h2 b hb)⟩
 ·subst hr;exact⟨fps i,hh,fun b hb=> .inl hb⟩
def eo (κ:Nat->Option Nat) (res:List aA):List (Nat×Bool)->List aA
 | []=> []
 | (p,o)::l=>(if o then fZ κ (ar res p)else .ro (fZ κ (cR res p)))::eo κ res l
def de:List (Nat×Bool)->List Nat
 | []=> []
 | (p,_)::l=>p::de l
def en (res:List aA):List (Nat×Bool)->Bool
 | []=>true
 | (p,_)::l=>jz res p&&en res l
theorem mo:∀(l:List (Nat×Bool)) (i:Nat),(de l)[i]? =(l[i]?).map (·.1)
 | [],i=>by simp[de]
 | (p,o)::l,0=>by simp[de]
 | (p,o)::l,i+1=>by simp[de,mo l i]
theorem tZ (κ:Nat->Option Nat) (res:List aA):∀(l:List (Nat×Bool)) (i:Nat),ar (eo κ res l) i=match l[i]? with
  |some (p,o)=>if o then fZ κ (ar res p)else .ro (fZ κ (cR res p))
  |none=> .yet
 | [],i=>by simp[eo,ar]
 | (p,o)::l,0=>by simp[eo,ar]
 | (p,o)::l,i+1=>by simp[eo,ar,tZ κ res l i]
theorem sW (κ:Nat->Option Nat) (res:List aA):∀(l:List (Nat×Bool)),(eo κ res l).length=l.length
 | []=>rfl
 | (p,o)::l=>by simp[eo,sW κ res l]
theorem dr {res:List aA}:∀{l:List (Nat×Bool)},en res l=true->∀(i:Nat) (p:Nat) (o:Bool),l[i]? =some (p,o)->known res p
 | [],_,i,p,o,h=>by simp at h
 | (x,y)::l,hk,i,p,o,h=>by
   simp only[en,Xo]at hk;cases i with
   |zero=>simp at h;obtain⟨rfl,_⟩:=h;exact cH.1 hk.1
   |succ i=>exact dr hk.2 i p o (by simpa using h)
theorem mC {p:Nat}:∀(l:List Nat) (m k:Nat),l.Nodup->l[k]? =some p->idxOf l m p=some (m+k)
 | [],m,k,_,h=>by simp at h
 |x::l,m,k,hnd,h=>by
  simp only[idxOf];cases k with
  |zero=>simp at h;subst h;simp
  |succ k=>
   simp at h
   have hne:(x==p)=false:=by
    rw[beq_eq_false_iff_ne];rintro rfl
    exact(List.nodup_cons.1 hnd).1 (List.mem_of_getElem? h)
   rw[hne];simp only[Bool.false_eq_true,if_false];rw[mC l (m+1) k (List.nodup_cons.1 hnd).2 h];congr 1;omega
theorem G5 {l:List Nat} {p i:Nat} (h:ko 0 l p=some i):l[i]? =some p:=by
 unfold ko at h;split at h
 ·rename_i hb;simp at hb
 ·have:=gP h;simpa using this.2.2
theorem Au {l:List Nat} {p i:Nat} (hnd:l.Nodup) (h:l[i]? =some p):ko 0 l p=some i:=by
 unfold ko;rw[Xu (by simp),mC l 0 i hnd h];simp
def Frame (J:Env) (fps:Nat->Nat->Prop) (pl:List (Nat×Bool)) (b:Nat):Prop:=∃(i p:Nat),pl[i]? =some (p,true)/\fps p b
section
variable {J:Env} {fps:Nat->Nat->Prop} {res:List aA} {w0 w:World} {F0:Nat->Prop}
theorem aW.eo {K:Nat->Prop} (h:aW J fps res K w0 F0 w) {pl:List (Nat×Bool)} (hk:en res pl=true) (hnd:(de pl).Nodup):
  aW (J.pull (src 0 (de pl))) (fun i b=>∃p:Nat,pl[i]? =some (p,true)/\fps p b) (eo (ko 0 (de pl)) res pl) (known (eo (ko 0 (de pl)) res pl)) w (Frame J fps pl) w/\
   (∀i,i<pl.length->known (eo (ko 0 (de pl)) res pl) i)/\Env.via (ko 0 (de pl)) J (J.pull (src 0 (de pl)))/\∀p i,ko 0 (de pl) p=some i->K p->known (Sx.eo (ko 0 (de pl)) res pl) i:=by
 generalize hκ:ko 0 (de pl)=κ
 have hπ:∀p i,κ p=some i->src 0 (de pl) i=p:=fun p i hp=>by subst hκ;exact Fs hp
 have hv:Env.via κ J (J.pull (src 0 (de pl))):=tf hπ
 have hsome:∀i p o,pl[i]? =some (p,o)->κ p=some i:=fun i p o hi=>by
  subst hκ;exact Au hnd (by rw[mo,hi];rfl)
 have hkn:∀i p o,pl[i]? =some (p,o)->known (Sx.eo κ res pl) i:=fun i p o hi=>by
  unfold known;rw[tZ,hi];simp only;split
  ·exact fun e=>dr hk i p o hi (kN.1 e)
  ·simp
 have hget:∀i,known (Sx.eo κ res pl) i->∃p o,pl[i]? =some (p,o):=fun i hi=>by
  have:=aF hi;rw[sW]at this;exact⟨pl[i].1,pl[i].2,by rw[List.getElem?_eq_getElem this]⟩
 have hN:∀p i,κ p=some i->K p->known (Sx.eo κ res pl) i:=fun p i hp _=>by
  subst hκ;have:=G5 hp;rw[mo]at this;cases hi:pl[i]? with
  |none=>rw[hi]at this;simp at this
  |some po=>exact hkn i po.1 po.2 hi
 have huniq:∀i j p o o',pl[i]? =some (p,o)->pl[j]? =some (p,o')->i=j:=fun i j p o o' hi hj=>by
  have a:=hsome i p o hi;rw[hsome j p o' hj]at a;simpa using a.symm
 have hfr:∀b,b<w0.heap.size->¬F0 b->w.heap[b]? =w0.heap[b]? /\¬Frame J fps pl b:=fun b hb hF=>by
  refine⟨h.same b hb hF,?_⟩;rintro⟨i,p,hi,hf⟩
  exact hF (h.inF p b (dr hk i p true hi) hf hb)
 refine⟨⟨fun i hi=>hi,Nat.le_refl _,rfl,rfl,rfl,fun i hi=>?_,?_,?_,?_,fun _ _ _=>rfl⟩,fun i hi=>hkn i pl[i].1 pl[i].2 (by rw[List.getElem?_eq_getElem hi]),hv,hN⟩
 ·obtain⟨p,o,hp⟩:=hget i hi;have hkp:=dr hk i p o hp;rw[tZ,hp];simp only;cases o with
  |true=>
   simp only[if_true];have:=aA.tQ h.old hfr _ _ (h.holds p hkp);have:=g9 hv hN (hsome i p true hp) _ _ _ this
   have e:(fun b=>∃p':Nat,some (p,true)=some (p',true)/\fps p' b)=fps p:=by
    funext b;simp
   rw[e];exact this
  |false=>
   simp only[Bool.false_eq_true,if_false];obtain⟨fp,g1,g2⟩:=h.zs rfl hkp;refine⟨fp,g9 hv hN (hsome i p false hp) _ _ _ (aA.tQ h.old hfr _ _ g1),fun b hb=>?_⟩
   rcases g2 b hb with hf|⟨hl,hF⟩
   ·refine⟨h.lt p b hkp hf,?_⟩;rintro⟨j,p',hj,hf'⟩
    have hkp':=dr hk j p' true hj;refine h.disj p p' b hkp hkp' (fun e=>?_) hf hf'
    subst e;have:=huniq i j p false true hp hj;subst this;rw[hp]at hj;simp at hj
   ·exact⟨Nat.lt_of_lt_of_le hl h.old,(hfr b hl hF).2⟩
 ·rintro i b hi ⟨p,hp,hf⟩
  exact h.lt p b (dr hk i p true hp) hf
 ·rintro i j b hi hj hne ⟨p,hp,hf⟩ ⟨p',hp',hf'⟩
  refine h.disj p p' b (dr hk i p true hp) (dr hk j p' true hp') (fun e=>hne ?_) hf hf'
  subst e;exact huniq i j p true true hp hp'
 ·rintro i b hi ⟨p,hp,hf⟩ _
  exact⟨i,p,hp,hf⟩
def eW (κ2:Nat->Option Nat) (r':List aA):Nat->List (Nat×Bool)->List aA->List aA
 |_,[],res=>res
 |i,(p,o)::l,res=>if o then eW κ2 r' (i+1) l (bD res p (fZ κ2 (ar r' i)))else eW κ2 r' (i+1) l res
def xr:List (Nat×Bool)->Nat->Option Nat
 | [],_=>none
 | (p,_)::_,0=>some p
 |_::l,i+1=>xr l i
def back (pl:List (Nat×Bool)) (ext:List Nat) (n j:Nat):Option Nat:=
 match xr pl j with
 |some p=>some p
 |none=>idxOf ext n j
def merge (pl:List (Nat×Bool)) (ext:List Nat) (r' res:List aA):List aA:=
 eW (back pl ext res.length) r' 0 pl res++fW (back pl ext res.length) r' ext
theorem vz:∀(l:List (Nat×Bool)) (i:Nat),xr l i=(l[i]?).map (·.1)
 | [],i=>by simp[xr]
 | (p,o)::l,0=>by simp[xr]
 | (p,o)::l,i+1=>by simp[xr,vz l i]
theorem lN (κ2:Nat->Option Nat) (r':List aA):∀(l:List (Nat×Bool)) (i:Nat) (res:List aA),(eW κ2 r' i l res).length=res.length
 | [],_,_=>rfl
 | (p,o)::l,i,res=>by
   simp only[eW];split
   ·rw[lN κ2 r' l,b6]
   ·exact lN κ2 r' l _ _
theorem kG (κ2:Nat->Option Nat) (r':List aA):∀(l:List (Nat×Bool)) (i:Nat) (res:List aA) (x:Nat),(∀k:Nat,l[k]? ≠some (x,true))->(∀(k p:Nat) (o:Bool),l[k]? =some (p,o)->p<res.length)->ar (eW κ2 r' i l res) x=ar res x
 | [],_,_,_,_,_=>rfl
 | (p,o)::l,i,res,x,h,hb=>by
   have hl:∀k:Nat,l[k]? ≠some (x,true):=fun k=>by have:=h (k+1);simpa using this
   have hb':∀(k p:Nat) (o:Bool),l[k]? =some (p,o)->p<res.length:=fun k p o hk=>hb (k+1) p o (by simpa using hk)
   simp only[eW];split
   ·rename_i ho;subst ho;have hne:x≠p:=fun e=>h 0 (by simp[e])
    rw[kG κ2 r' l _ _ x hl (fun k p o hk=>by rw[b6];exact hb' k p o hk),bw _ _ _ _ (hb 0 p true (by simp)),Xu hne]
   ·exact kG κ2 r' l _ _ x hl hb'
theorem pA (κ2:Nat->Option Nat) (r':List aA):∀(l:List (Nat×Bool)) (i:Nat) (res:List aA) (x k:Nat),l[k]? =some (x,true)->(de l).Nodup->(∀(k p:Nat) (o:Bool),l[k]? =some (p,o)->p<res.length)->
  ar (eW κ2 r' i l res) x=fZ κ2 (ar r' (i+k))
 | [],_,_,_,_,h,_,_=>by simp at h
 | (p,o)::l,i,res,x,k,h,hnd,hb=>by
   have hb':∀(k p:Nat) (o:Bool),l[k]? =some (p,o)->p<res.length:=fun k p o hk=>hb (k+1) p o (by simpa using hk)
   have hnd':=List.nodup_cons.1 (show(p::de l).Nodup from hnd);simp only[eW];cases k with
   |zero=>
    simp at h;obtain⟨rfl,rfl⟩:=h;simp only[if_true,Nat.add_zero];rw[kG κ2 r' l _ _ p (fun k hk=>hnd'.1 (List.mem_of_getElem? (i:=k) (by rw[mo,hk];rfl))) (fun k p o hk=>by rw[b6];exact hb' k p o hk),bw _ _ _ _ (hb 0 p true (by simp)),Xv rfl]
   |succ k=>
    have h:l[k]? =some (x,true):=by simpa using h
    split
    ·rw[pA κ2 r' l _ _ x k h hnd'.2 (fun k p o hk=>by rw[b6];exact hb' k p o hk)]
     congr 2;omega
    ·rw[pA κ2 r' l _ _ x k h hnd'.2 hb'];congr 2;omega
def Env.join (n:Nat) (ext:List Nat) (J ρ2:Env):Env:=
 {num:=fun i=>if i<n then J.num i else ρ2.num (ext.getD (i-n) 0),cap:=fun i=>if i<n then J.cap i else ρ2.cap (ext.getD (i-n) 0),adr:=fun i=>if i<n then J.adr i else ρ2.adr (ext.getD (i-n) 0),
  sa:=fun i=>if i<n then J.sa i else ρ2.sa (ext.getD (i-n) 0),sn:=fun i=>if i<n then J.sn i else ρ2.sn (ext.getD (i-n) 0),ob:=fun i=>if i<n then J.ob i else ρ2.ob (ext.getD (i-n) 0)}
section
variable {J:Env} {fps:Nat->Nat->Prop} {res:List aA} {w0 w:World} {F0:Nat->Prop}
theorem aW.merge (h:aW J fps res (known res) w0 F0 w) {pl:List (Nat×Bool)} (hk:en res pl=true) (hnd:(de pl).Nodup) {ρ2:Env} {fps2:Nat->Nat->Prop} {r':List aA} {w':World}
  (h2:aW ρ2 fps2 r' (known r') w (Frame J fps pl) w') (hg:Good (J.pull (src 0 (de pl))) (Sx.eo (ko 0 (de pl)) res pl) ρ2 r') {ext:List Nat} (he:iE pl.length r'.length ext=true)
  (ho1:∀(i p:Nat),pl[i]? =some (p,true)->jd (ar r' i)=true) (ho2:∀j,j∈ext->jd (ar r' j)=true):
  ∃ρ3 fps3,aW ρ3 fps3 (Sx.merge pl ext r' res) (known (Sx.merge pl ext r' res)) w0 F0 w'/\Good J res ρ3 (Sx.merge pl ext r' res)/\Env.via (back pl ext res.length) ρ2 ρ3/\
   ∀j i,back pl ext res.length j=some i->known r' j->known (Sx.merge pl ext r' res) i:=by
 obtain⟨_,hkr,_,_⟩:=h.eo hk hnd;obtain⟨e1,e2⟩:=oz he;have hlt:∀(k p:Nat) (o:Bool),pl[k]? =some (p,o)->p<res.length:=fun k p o hp=>aF (dr hk k p o hp)
 have hpll:∀(k p:Nat) (o:Bool),pl[k]? =some (p,o)->k<pl.length:=fun k p o hp=>(List.getElem?_eq_some_iff.1 hp).1
 have huniq:∀i j p o o',pl[i]? =some (p,o)->pl[j]? =some (p,o')->i=j:=fun i j p o o' hi hj=>by
  have a:=Au hnd (show(de pl)[i]? =some p by rw[mo,hi];rfl)
  rw[Au hnd (show(de pl)[j]? =some p by rw[mo,hj];rfl)]at a
  simpa using a.symm
 have huniqE:∀(a b j:Nat),ext[a]? =some j->ext[b]? =some j->a=b:=fun a b j ha hb=>by
  have x:=mC ext 0 a e2 ha;rw[mC ext 0 b e2 hb]at x;simpa using x.symm
 have hback1:∀k p o,pl[k]? =some (p,o)->back pl ext res.length k=some p:=fun k p o hp=>by
  unfold back;rw[vz,hp];rfl
 have hback2:∀a j,ext[a]? =some j->back pl ext res.length j=some (res.length+a):=fun a j ha=>by
  unfold back;have:=(e1 j (List.mem_of_getElem? ha)).1;rw[vz,List.getElem?_eq_none this];exact mC ext _ a e2 ha
 have hbackS:∀j i,back pl ext res.length j=some i->(∃o,pl[j]? =some (i,o))\/(∃a,ext[a]? =some j/\i=res.length+a):=fun j i hj=>by
  unfold back at hj;rw[vz]at hj;cases hp:pl[j]? with
  |some po=>rw[hp]at hj;simp at hj;exact .inl ⟨po.2,by rw[<-hj]⟩
  |none=>
   rw[hp]at hj;simp at hj;obtain⟨a1,a2,a3⟩:=gP hj;exact .inr ⟨i-res.length,a3,by omega⟩
 have hget:∀i,ar (Sx.merge pl ext r' res) i=if i<res.length then ar (eW (back pl ext res.length) r' 0 pl res) i else match ext[i-res.length]? with|some j=>fZ (back pl ext res.length) (ar r' j)|none=> .yet:=fun i=>by
  unfold Sx.merge;rw[bM,lN];by_cases hi:i<res.length
  ·rw[Xv hi,Xv hi]
  ·rw[Xu hi,Xu hi,pW];cases ext[i-res.length]? <;>rfl
 have hown:∀k p,pl[k]? =some (p,true)->ar (Sx.merge pl ext r' res) p=fZ (back pl ext res.length) (ar r' k):=fun k p hp=>by
  rw[hget,Xv (hlt k p true hp),pA _ r' pl 0 res p k hp hnd hlt,Nat.zero_add]
 have hother:∀i,i<res.length->(∀k,pl[k]? ≠some (i,true))->ar (Sx.merge pl ext r' res) i=ar res i:=fun i hi hno=>by
  rw[hget,Xv hi,kG _ r' pl 0 res i hno hlt]
 have hext:∀a j,ext[a]? =some j->ar (Sx.merge pl ext r' res) (res.length+a)=fZ (back pl ext res.length) (ar r' j):=fun a j ha=>by
  rw[hget,Xu (by omega),show res.length+a-res.length=a by omega,ha]
 have hkr':∀k p o,pl[k]? =some (p,o)->known r' k:=fun k p o hp=>hg.2 k (hkr k (hpll k p o hp))
 have hN:∀j i,back pl ext res.length j=some i->known r' j->known (Sx.merge pl ext r' res) i:=fun j i hj hkj=>by
  rcases hbackS j i hj with⟨o,hp⟩|⟨a,ha,rfl⟩
  ·by_cases hT:∃k:Nat,pl[k]? =some (i,true)
   ·obtain⟨k,hk'⟩:=hT;unfold known;rw[hown k i hk'];exact fun e=>hkr' k i true hk' (kN.1 e)
   ·unfold known;rw[hother i (hlt j i o hp) fun k hk'=>hT ⟨k,hk'⟩]
    exact dr hk j i o hp
  ·unfold known;rw[hext a j ha];exact fun e=>hkj (kN.1 e)
 have hmono:∀i,known res i->known (Sx.merge pl ext r' res) i:=fun i hi=>by
  by_cases hT:∃k:Nat,pl[k]? =some (i,true)
  ·obtain⟨k,hk'⟩:=hT;exact hN k i (hback1 k i true hk') (hkr' k i true hk')
  ·unfold known;rw[hother i (aF hi) fun k hk'=>hT ⟨k,hk'⟩]
   exact hi
 have hag:Env.aZ (known res) J (Env.join res.length ext J ρ2):=fun i hi=>by
  have:=aF hi;simp[Env.join,this]
 have hvia:Env.via (back pl ext res.length) ρ2 (Env.join res.length ext J ρ2):=fun j i hj=>by
  rcases hbackS j i hj with⟨o,hp⟩|⟨a,ha,rfl⟩
  ·have hil:=hlt j i o hp;have hj':=hg.1 j (hkr j (hpll j i o hp))
   have hsrc:src 0 (de pl) j=i:=by
    unfold src;rw[Xu (by omega),Nat.sub_zero,Xt,mo,hp];rfl
   simp only[Env.pull,hsrc]at hj';obtain⟨a1,a2,a3,a4,a5,a6⟩:=hj';simp[Env.join,hil,a1,a2,a3,a4,a5,a6]
  ·have hng:¬res.length+a<res.length:=by omega
   have:ext.getD (res.length+a-res.length) 0=j:=by
    rw[show res.length+a-res.length=a by omega,Xt,ha];rfl
   simp only[Env.join,Xu hng,this];simp
 obtain⟨fps3,g⟩:=h.turn (res':=Sx.merge pl ext r' res) (K':=known (Sx.merge pl ext r' res)) (fun i=>∃k:Nat,pl[k]? =some (i,true)) (fun i=>(∃k:Nat,pl[k]? =some (i,true))\/res.length<=i)
  (fun i b=>(∃k:Nat,pl[k]? =some (i,true)/\fps2 k b)\/(res.length<=i/\∃j,ext[i-res.length]? =some j/\known r' j/\fps2 j b))
  (fun i hi=>hi) hmono hag
  (fun i hi hb=>by
   have hlt':i<res.length:=by
    rcases Nat.lt_or_ge i res.length with h|h
    ·exact h
    ·exact absurd (.inr h) hb
   have e:=hother i hlt' fun k hk'=>hb (.inl ⟨k,hk'⟩)
   exact⟨by unfold known at hi⊢;rw[e]at hi;exact hi,fun hT=>hb (.inl hT),e⟩)
  (fun i hi hb=>by
   have hfoot:∀k b,known r' k->fps2 k b->(∃t,(∃k:Nat,pl[k]? =some (t,true))/\known res t/\fps t b)\/(w.heap.size<=b/\b<w'.heap.size):=fun k b hk' hf=>by
    by_cases hbw:b<w.heap.size
    ·obtain⟨x,p,hp,hfp⟩:=h2.inF k b hk' hf hbw;exact .inl ⟨p,⟨x,hp⟩,dr hk x p true hp,hfp⟩
    ·exact .inr ⟨by omega,h2.lt k b hk' hf⟩
   by_cases hT:∃k:Nat,pl[k]? =some (i,true)
   ·obtain⟨k,hp⟩:=hT;have hkk:=hkr' k i true hp;have hil:=hlt k i true hp
    have e:(fun b=>(∃k:Nat,pl[k]? =some (i,true)/\fps2 k b)\/(res.length<=i/\∃j,ext[i-res.length]? =some j/\known r' j/\fps2 j b))=fps2 k:=by
     funext b
     apply propext
     constructor
     ·rintro(⟨k',hp',hf⟩|⟨hge,_⟩)
      ·rw[huniq k k' i true true hp hp'];exact hf
      ·omega
     ·exact fun hf=> .inl ⟨k,hp,hf⟩
    refine⟨?_,fun b hf=>hfoot k b hkk (by rw[<-e];exact hf)⟩
    rw[e,hown k i hp];exact g9 hvia hN (hback1 k i true hp) _ _ _ (kx (ho1 k i hp) (h2.holds k hkk))
   ·have hge:res.length<=i:=hb.resolve_left hT
    have hj:∃j,ext[i-res.length]? =some j:=by
     unfold known at hi;rw[hget,Xu (by omega)]at hi
     cases hx:ext[i-res.length]? with
     |none=>rw[hx]at hi;exact absurd rfl hi
     |some j=>exact⟨j,rfl⟩
    obtain⟨j,hj⟩:=hj
    have hkj:known r' j:=by
     unfold known at hi;rw[hget,Xu (by omega),hj]at hi
     exact fun e=>hi (kN.2 e)
    have e:(fun b=>(∃k:Nat,pl[k]? =some (i,true)/\fps2 k b)\/(res.length<=i/\∃j,ext[i-res.length]? =some j/\known r' j/\fps2 j b))=fps2 j:=by
     funext b
     apply propext
     constructor
     ·rintro(⟨k',hp',hf⟩|⟨_,j',hj',_,hf⟩)
      ·exact absurd ⟨k',hp'⟩ hT
      ·rw[hj]at hj';simp at hj';subst hj';exact hf
     ·exact fun hf=> .inr ⟨hge,j,hj,hkj,hf⟩
    refine⟨?_,fun b hf=>hfoot j b hkj (by rw[<-e];exact hf)⟩
    have hie:i=res.length+(i-res.length):=by omega
    have hb2:=hback2 _ j hj;rw[<-hie]at hb2;have hx:=hext _ j hj;rw[<-hie]at hx;rw[e,hx];exact g9 hvia hN hb2 _ _ _ (kx (ho2 j (List.mem_of_getElem? hj)) (h2.holds j hkj)))
  (fun i j b hbi hbj hne hf hf'=>by
   have sel:∀x,((∃k:Nat,pl[k]? =some (x,true)/\fps2 k b)\/(res.length<=x/\∃j,ext[x-res.length]? =some j/\known r' j/\fps2 j b))->∃k,known r' k/\fps2 k b/\((pl[k]? =some (x,true))\/(res.length<=x/\ext[x-res.length]? =some k)):=by
    rintro x (⟨k,hp,hf⟩|⟨hge,j,hj,hkj,hf⟩)
    ·exact⟨k,hkr' k x true hp,hf,.inl hp⟩
    ·exact⟨j,hkj,hf,.inr ⟨hge,hj⟩⟩
   obtain⟨k,k1,k2,k3⟩:=sel i hf;obtain⟨l,l1,l2,l3⟩:=sel j hf';refine h2.disj k l b k1 l1 (fun e=>hne ?_) k2 l2
   subst e;rcases k3 with k3|⟨k3,k4⟩<;>rcases l3 with l3|⟨l3,l4⟩
   ·rw[k3]at l3;simp at l3;exact l3
   ·have:=(e1 k (List.mem_of_getElem? l4)).1;have:=hpll k i true k3;omega
   ·have:=(e1 k (List.mem_of_getElem? k4)).1;have:=hpll k j true l3;omega
   ·have:=huniqE _ _ _ k4 l4;omega)
  h2.os h2.tape h2.output h2.old
  (fun b hb hno=>h2.same b hb fun⟨i,p,hp,hf⟩=>hno p ⟨i,hp⟩ (dr hk i p true hp) hf)
 exact⟨_,fps3,g,⟨hag,hmono⟩,hvia,hN⟩
end
end
end Go.Sx
namespace Go.Sx
open Go.RowKit (Below)
def kT (r':List aA):Nat->List (Nat×Bool)->Bool
 |_,[]=>true
 |i,(_,o)::l=>(if o then jd (ar r' i)else true)&&kT r' (i+1) l
theorem uX {r':List aA}:∀{l:List (Nat×Bool)} {i:Nat},kT r' i l=true->∀k p:Nat,l[k]? =some (p,true)->jd (ar r' (i+k))=true
 | [],i,_,k,p,h=>by simp at h
 | (x,o)::l,i,ha,k,p,h=>by
   simp only[kT,Xo]at ha;cases k with
   |zero=>simp at h;obtain⟨_,rfl⟩:=h;simpa using ha.1
   |succ k=>
    have:=uX ha.2 k p (by simpa using h)
    rwa [show i+(k+1)=i+1+k by omega]
def nO (r':List aA):List Nat->Bool
 | []=>true
 |j::l=>jd (ar r' j)&&nO r' l
theorem sP {r':List aA}:∀{l:List Nat},nO r' l=true->∀j∈l,jd (ar r' j)=true
 | [],_,j,h=>by simp at h
 |x::l,ha,j,h=>by
  simp only[nO,Xo]at ha;rcases List.mem_cons.1 h with rfl|h
  ·exact ha.1
  ·exact sP ha.2 j h
def jA (κ:Nat->Option Nat) (v v3:V):Prop:=∀(ρ2 ρ3:Env) (N N':Nat->Prop),Env.via κ ρ2 ρ3->(∀j i,κ j=some i->N j->N' i)->ok N v->den ρ3 v3=den ρ2 v/\ok N' v3
theorem jA.jJ {κ:Nat->Option Nat} {v x:V} (h:vi x v []) (hx:Sx.jJ x=true):jA κ v x:=fun ρ2 ρ3 N N' _ _ hv=>by
 obtain⟨s1,s2,_⟩:=h ρ2 N;exact⟨by rw[s1];exact qd hx (s2 hv) ρ2 ρ3,oB x hx (s2 hv)⟩
def RJ (pl:List (Nat×Bool)) (res:List aA) (v:V) (r':List aA) (K:V->List aA->Prop):Prop:=
 ∃(ext:List Nat) (v3:V),iE pl.length r'.length ext=true/\kT r' 0 pl=true/\nO r' ext=true/\jA (back pl ext res.length) v v3/\K v3 (merge pl ext r' res)
section
variable {P:Program}
theorem aj.frame {f:Nat} {args args0:List V} {res:List aA} {pl:List (Nat×Bool)} {K0 KP0 K KP:V->List aA->Prop} (hk:en res pl=true) (hnd:iE 0 res.length (de pl)=true)
  (ha:ee (ko 0 (de pl)) args=some args0) (hc:aj P f args0 (eo (ko 0 (de pl)) res pl) K0 KP0)
  (hK:∀v r',K0 v r'->RJ pl res v r' K) (hKP:∀v r',KP0 v r'->RJ pl res v r' KP):aj P f args res K KP:=by
 intro J fps w0 F0 w hH hargs;have hnd:=(oz hnd).2;obtain⟨g1,g2,g3,g4⟩:=hH.eo hk hnd;obtain⟨a1,_,a3,_⟩:=gO g3 g4 _ _ ha;rw[<-a1];refine(hc _ _ _ _ _ g1 (a3 hargs)).mono fun e w' ⟨x,ρ2,fps2,r',h1,h2,h3,h4⟩=>?_
 have fin:∀{K:V->List aA->Prop},RJ pl res x r' K->∃x' ρ' fps' res',aW ρ' fps' res' (known res') w0 F0 w'/\Good J res ρ' res'/\ok (known res') x'/\den ρ' x'=den ρ2 x/\K x' res':=by
  rintro K ⟨ext,v3,b1,b2,b3,b4,b5⟩
  obtain⟨ρ3,fps3,m1,m2,m3,m4⟩:=hH.merge hk hnd h1 h2 b1 (fun i p hp=>by have:=uX b2 i p hp;rwa [Nat.zero_add]at this) (sP b3)
  obtain⟨c1,c2⟩:=b4 ρ2 ρ3 _ _ m3 m4 h3;exact⟨v3,ρ3,fps3,_,m1,m2,c2,c1,b5⟩
 rcases h4 with⟨rfl,h4⟩|⟨rfl,h4⟩
 ·obtain⟨x',ρ',fps',res',f1,f2,f3,f4,f5⟩:=fin (hK _ _ h4);exact⟨x',ρ',fps',res',f1,f2,f3,.inl ⟨by rw[f4],f5⟩⟩
 ·obtain⟨x',ρ',fps',res',f1,f2,f3,f4,f5⟩:=fin (hKP _ _ h4);exact⟨x',ρ',fps',res',f1,f2,f3,.inr ⟨by rw[f4],f5⟩⟩
def qq:aA->Bool
 | .store _ _ _=>true
 | .arr _ _ _=>true
 |_=>false
theorem sD {κ:Nat->Option Nat} {r:aA} (h:qq r=true):fZ κ r=r:=by
 cases r<;>first|rfl|simp[qq]at h
def oy (res:List aA) (p:Nat) (r:aA):Prop:=known res p/\∀J fps K w0 F0 w,aW J fps res K w0 F0 w->
 ∃fp:Nat->Prop,r.holds K J p fp w0 F0 w/\∀b,fp b->(∃i,known res i/\fps i b)\/(b<w0.heap.size/\¬F0 b)
theorem oy.look {res:List aA} {p:Nat} {r:aA} (h:cR res p=r) (hne:r≠ .yet):oy res p r:=by
 have hk:=ew h hne;refine⟨hk,fun J fps K w0 F0 w hH=>?_⟩
 obtain⟨fp,g1,g2⟩:=hH.zs h hk;exact⟨fp,g1,fun b hb=>(g2 b hb).elim (fun h=> .inl ⟨p,hk,h⟩) .inr⟩
def qk:List (Nat×aA)->List aA
 | []=> []
 | (_,r)::l=> .ro r::qk l
theorem vE:∀(l:List (Nat×aA)) (i:Nat),ar (qk l) i=match l[i]? with|some p=> .ro p.2|none=> .yet
 | [],i=>by simp[qk,ar]
 | (p,r)::l,0=>by simp[qk,ar]
 | (p,r)::l,i+1=>by simp[qk,ar,vE l i]
theorem rn:∀l:List (Nat×aA),(qk l).length=l.length
 | []=>rfl
 | (p,r)::l=>by simp[qk,rn l]
def qK:List (Nat×aA)->Nat->Nat
 | [],_=>0
 | (p,_)::_,0=>p
 |_::l,i+1=>qK l i
theorem sX:∀(l:List (Nat×aA)) (i:Nat) (p:Nat×aA),l[i]? =some p->qK l i=p.1
 | [],i,p,h=>by simp at h
 | (x,r)::l,0,p,h=>by simp at h;subst h;rfl
 | (x,r)::l,i+1,p,h=>by simp only[qK];exact sX l i p (by simpa using h)
theorem r9 {f:Nat} {g:Ct} (h:∀res nid args q x new,g res nid args=some (q,x,new)->new= []/\jJ x=true/\
  ∃(pls:List (Nat×aA)) (args0:List V),(∀p∈pls,oy res p.1 p.2/\qq p.2=true)/\(∀(J:Env) K,eM K args->bc (J.pull (qK pls)) args0=bc J args)/\(∀K,eM K args->eM (known (qk pls)) args0)/\
   (dv q->eM (known (qk pls)) args0->aj P f args0 (qk pls) (vi x) (fun _ _=>False))):cV P f g:=by
 intro J fps res K w0 F0 w nid args q x new hH hargs hg hq hfr;obtain⟨rfl,hid,pls,args0,hcl,hden,hok,hc⟩:=h res nid args q x new hg;refine⟨?_,fun k hk=>by simp at hk⟩
 have hfr:∀b,b<w0.heap.size->¬F0 b->w.heap[b]? =w0.heap[b]? /\¬(fun _:Nat=>False) b:=fun b hb hF=>⟨hH.same b hb hF,fun h=>h⟩
 have hrep:aW (J.pull (qK pls)) (fun _ _=>False) (qk pls) (known (qk pls)) w (fun _=>False) w:=by
  refine⟨fun i hi=>hi,Nat.le_refl _,rfl,rfl,rfl,fun i hi=>?_,fun i b hi h=>h.elim,fun i j b hi hj hne h=>h.elim,fun i b hi h=>h.elim,fun _ _ _=>rfl⟩
  have hlt:=aF hi;rw[rn]at hlt;have hp:pls[i]? =some pls[i]:=List.getElem?_eq_getElem hlt;generalize pls[i]=p at hp
  rw[vE,hp];simp only;obtain⟨hs,hcl⟩:=hcl p (List.mem_of_getElem? hp);obtain⟨fp,g1,g2⟩:=hs.2 J fps K w0 F0 w hH
  have hv:Env.via (fun x=>if x=p.1 then some i else none) J (J.pull (qK pls)):=tf fun x j hx=>by
   split at hx
   ·simp only[Xm]at hx;subst hx;rename_i e;subst e;exact sX pls i p hp
   ·simp at hx
  have:=g9 (N':=known (qk pls)) hv (fun x j hx _=>by
   split at hx
   ·simp only[Xm]at hx;subst hx;exact hi
   ·simp at hx) (p:=p.1) (i:=i) (by simp) _ _ _ (aA.tQ hH.old hfr _ _ g1)
  rw[sD hcl]at this;refine⟨fp,this,fun b hb=>⟨?_,fun h=>h⟩⟩
  rcases g2 b hb with⟨j,hj,hf⟩|⟨hl,_⟩
  ·exact hH.lt j b hj hf
  ·exact Nat.lt_of_lt_of_le hl hH.old
 have hok0:=hok K hargs;rw[<-hden J K hargs];refine(hc hq hok0 _ _ _ _ _ hrep hok0).mono fun e w' ⟨y,ρ',fps',res',g1,g2,g3,g4⟩=>?_
 rcases g4 with⟨rfl,hK⟩|⟨_,hK⟩
 ·refine⟨_,rfl,J,?_,?_,?_⟩
  ·exact⟨⟨g1.os,g1.tape,g1.output,g1.old,fun b hb=>g1.same b hb (fun h=>h)⟩,Env.aZ.refl _ _,fun _ _=>False,fun k hk=>by simp at hk,fun k l b hk=>by simp at hk⟩
  ·obtain⟨e1,e2,_⟩:=hK ρ' (known res');rw[e1];exact qd hid (e2 g3) J ρ'
  ·obtain⟨e1,e2,_⟩:=hK ρ' (known res');exact oB x hid (e2 g3)
 ·exact hK.elim
theorem aj.tL {f:Nat} {args:List V} {res res1:List aA} {K KP:V->List aA->Prop} (h:aj P f args res1 K KP)
  (ho:∀J fps w0 F0 w,aW J fps res (known res) w0 F0 w->∃ρ' fps',aW ρ' fps' res1 (known res1) w0 F0 w/\Good J res ρ' res1):aj P f args res K KP:=by
 intro J fps w0 F0 w hH hargs;obtain⟨ρ',fps',h1,h2⟩:=ho J fps w0 F0 w hH;rw[<-fy h2.1 args hargs];refine(h ρ' fps' w0 F0 w h1 (cc h2.2 _ hargs)).mono fun e w' ⟨x,ρ2,fps2,r',g1,g2,g3,g4⟩=>⟨x,ρ2,fps2,r',g1,h2.trans g2,g3,g4⟩
theorem aj.je {f:Nat} {args:List V} {res:List aA} {k t e:Nat} {L:List Obj} {K KP:V->List aA->Prop} (hr:ar res k= .store t e L) (h:aj P f args (je res k t e L) K KP):aj P f args res K KP:=
 h.tL fun _ _ _ _ _ hH=>yW hr hH
theorem aj.dL {f:Nat} {args:List V} {res:List aA} {k t e:Nat} {L:List Obj} {K KP:V->List aA->Prop} (hr:ar res k= .ro (.store t e L)) (h:aj P f args (dL res k t e L) K KP):aj P f args res K KP:=
 h.tL fun _ _ _ _ _ hH=>wQ hr hH
theorem aj.shut {f:Nat} {args:List V} {res:List aA} {K0 KP K:V->List aA->Prop} (h:aj P f args res K0 KP) (hK:∀v r,K0 v r->K v r\/∃k r',sS r k=some r'/\K v r'):aj P f args res K KP:=by
 intro J fps w0 F0 w hH hargs;refine(h J fps w0 F0 w hH hargs).mono fun e w' ⟨x,ρ2,fps2,r',g1,g2,g3,g4⟩=>?_
 rcases g4 with⟨rfl,hk⟩|g4
 ·rcases hK _ _ hk with hk|⟨k,r2,s1,s2⟩
  ·exact⟨x,ρ2,fps2,r',g1,g2,g3,.inl ⟨rfl,hk⟩⟩
  ·obtain⟨fps3,m1,m2⟩:=yE s1 g1;exact⟨x,ρ2,fps3,r2,m1,⟨g2.1,fun i hi=>m2 i (g2.2 i hi)⟩,cN m2 _ g3,.inl ⟨rfl,s2⟩⟩
 ·exact⟨x,ρ2,fps2,r',g1,g2,g3,.inr g4⟩
end
end Go.Sx
namespace Go.Sx
open Go.RowKit (Below)
section
variable {P:Program}
theorem aj.fact {f:Nat} {args:List V} {res:List aA} {K KP:V->List aA->Prop} {k t e:Nat} {L:List Obj} (hr:cR res k= .store t e L)
  (h:(∀o∈L,o.wf)->L.length<=9223372036854775807->aj P f args res K KP):aj P f args res K KP:=by
 intro J fps w0 F0 w hH hargs;obtain⟨fp,hh,_⟩:=hH.look hr (by simp)
 obtain⟨_,h1,h2,_⟩:=hh;exact h h1 h2 J fps w0 F0 w hH hargs
theorem aj.P9 {f:Nat} {args:List V} {res:List aA} {K KP:V->List aA->Prop} {k esz:Nat} {own:Option Nat} {L:List Obj} (hr:cR res k= .arr own esz (.ob L))
  (h:(∀o∈L,o.wf)->L.length<=9223372036854775807->aj P f args res K KP):aj P f args res K KP:=by
 intro J fps w0 F0 w hH hargs;obtain⟨fp,hh,_⟩:=hH.look hr (by simp)
 obtain⟨h1,_,h2,_⟩:=hh;refine h (fun o ho=>?_) h2 J fps w0 F0 w hH hargs
 obtain⟨i,hi,rfl⟩:=List.getElem_of_mem ho;have:=(h1 i hi).1;simpa[TL.get,ai,Xt,hi,ok]using this
theorem oy.open {res:List aA} {p j t e q:Nat} {L:List Obj} (hp:cR res p= .blk t (.ag [.sa j])) (hj:cR res j= .obs e q L) (hte:t≠e):oy res p (.store t e L):=by
 have hkp:=ew hp (by simp)
 have hkj:=ew hj (by simp)
 refine⟨hkp,fun J fps K w0 F0 w hH=>?_⟩
 obtain⟨fp1,⟨_,_,b3,b4⟩,g1⟩:=hH.zs hp hkp;obtain⟨fp2,⟨_,c1,c2,c3,c4,c5,c6,c7⟩,g2⟩:=hH.zs hj hkj
 have b4':w.heap[J.num p]? =some (.cells #[J.sl j] t (0,0)):=by
  rw[b4];have:den J (.sa j)=J.sl j:=rfl;simp[eP,aU,this,Env.sl,Value.cells]
 refine⟨fun b=>fp1 b\/fp2 b,⟨.inl b3,c1,c3,J.sl j,J.ob q,b4',c6,fun b hb=>?_,fun x hx=>?_⟩,fun b hb=>?_⟩
 ·have hb':=hb;cases ha:J.sa j with
  |none=>simp[Env.sl,ha,Value.ownBlock]at hb
  |some a=>
   simp only[Env.sl,ha,Value.ownBlock,Xm]at hb;subst hb;refine⟨.inr (c4 a ha).2,fun e'=>?_⟩
   rcases c6.2 with⟨hh,_⟩|⟨g,cap,cur,hh,_,h3,_⟩
   ·simp[Env.sl,ha]at hh
   ·rw[hh]at hb';simp only[Value.ownBlock,Xm]at hb';rw[hb',e',b4']at h3;simp only[Xm,Go.Obj.cells.injEq]at h3;exact hte h3.2.1
 ·obtain⟨d1,t',d2⟩:=c7 x hx;refine⟨.inr d1,fun e'=>?_,t',d2⟩
  rw[e',b4']at d2;simp only[Xm,Go.Obj.cells.injEq]at d2;have:=congrArg Array.size d2.1;simp[mr]at this
 ·rcases hb with hb|hb
  ·exact(g1 b hb).elim (fun h=> .inl ⟨p,hkp,h⟩) .inr
  ·exact(g2 b hb).elim (fun h=> .inl ⟨j,hkj,h⟩) .inr
theorem oy.zero {res:List aA} {p t e:Nat} (hp:cR res p= .blk t (.ag [.nl (.slice none 0 0)])):oy res p (.store t e []):=by
 have hkp:=ew hp (by simp)
 refine⟨hkp,fun J fps K w0 F0 w hH=>?_⟩
 obtain⟨fp1,⟨_,_,b3,b4⟩,g1⟩:=hH.zs hp hkp;refine⟨fp1,⟨b3,by simp,by simp,.slice none 0 0,fun _=>0,?_,World.ownsRow_nil w 0 e 1,fun b hb=>by simp[Value.ownBlock]at hb,fun x hx=>by simp at hx⟩,fun b hb=>(g1 b hb).elim (fun h=> .inl ⟨p,hkp,h⟩) .inr⟩
 rw[b4];simp[eP,aU,den,Value.cells]
def rS (t e:Nat) (res:List aA) (v:V):Option (Option Nat×List Obj):=
 match v with
 | .nl v=>match v with
   | .pointer p=>match p with
     |none=>some (none,[])
     |some _=>none
   |_=>none
 | .lp k off=>if off==0 then match cR res k with
   | .store t' e' L=>if t'==t&&e'==e then some (some k,L)else none
   | .blk t' c=>if t'==t&& !(t==e)then match c with
     | .ag l=>match l with
       | [x]=>match x with
         | .sa j=>match cR res j with
           | .obs e' _ L=>if e'==e then some (some k,L)else none
           |_=>none
         | .nl v=>match v with
           | .slice none 0 0=>some (some k,[])
           |_=>none
         |_=>none
       |_=>none
     |_=>none
     else none
   |_=>none
   else none
 |_=>none
theorem qI {t e:Nat} {res:List aA} {v:V} {o:Option Nat} {L:List Obj} (h:rS t e res v=some (o,L)):(o=none/\L= []/\v= .nl (.pointer none))\/∃k,o=some k/\v= .lp k 0/\oy res k (.store t e L):=by
 unfold rS at h;split at h
 ·split at h
  ·split at h
   ·simp only[Xm,Xn]at h;exact .inl ⟨h.1.symm,h.2.symm,rfl⟩
   ·simp at h
  ·simp at h
 ·rename_i k off;split at h
  ·rename_i ho;have ho:=Xq.1 ho;subst ho;split at h
   ·rename_i t' e' L' hl;split at h
    ·rename_i hc;simp only[Xo,Xq]at hc;obtain⟨rfl,rfl⟩:=hc;simp only[Xm,Xn]at h;obtain⟨rfl,rfl⟩:=h;exact .inr ⟨k,rfl,rfl,oy.look hl (by simp)⟩
    ·simp at h
   ·rename_i t' c hl;split at h
    ·rename_i hc;simp only[Xo,Xq,Bool.not_eq_true',beq_eq_false_iff_ne]at hc;obtain⟨rfl,hte⟩:=hc;split at h
     ·split at h
      ·split at h
       ·split at h
        ·rename_i hj;split at h
         ·rename_i hc;have hc:=Xq.1 hc;subst hc;simp only[Xm,Xn]at h;obtain⟨rfl,rfl⟩:=h;exact .inr ⟨k,rfl,rfl,oy.open hl hj hte⟩
         ·simp at h
        ·simp at h
       ·split at h
        ·simp only[Xm,Xn]at h;obtain⟨rfl,rfl⟩:=h;exact .inr ⟨k,rfl,rfl,oy.zero hl⟩
        ·simp at h
       ·simp at h
      ·simp at h
     ·simp at h
    ·simp at h
   ·simp at h
  ·simp at h
 ·simp at h
def gJ:V:= .nl (.pointer none)
def Sc (t e:Nat) (F:List Obj->V):Ct:=fun res _ xs=>match xs with
 | [a]=>match rS t e res a with
   |some (_,L)=>some (none,F L,[])
   |none=>none
 |_=>none
def Hg {α:Type} (t e:Nat) (r:V->Option α) (F:List Obj->α->V):Ct:=fun res _ xs=>match xs with
 | [a,b]=>match rS t e res a with
   |some (_,L)=>match r b with
    |some x=>some (none,F L x,[])
    |none=>none
   |none=>none
 |_=>none
def RP (t e:Nat) (Q:List Obj->List Obj->Prop) (F:List Obj->List Obj->V):Ct:=fun res _ xs=>match xs with
 | [a,b]=>match rS t e res a with
   |some (_,L)=>match rS t e res b with
    |some (_,M)=>some (some (Q L M),F L M,[])
    |none=>none
   |none=>none
 |_=>none
theorem LJ {f t e:Nat} {F:List Obj->V} (hF:∀L,jJ (F L)=true) (h0:aj P f [gJ] [] (oR (F [])) (fun _ _=>False))
  (h1:∀L,(∀o∈L,o.wf)->L.length<=9223372036854775807->aj P f [.lp 0 0] [.ro (.blk t (.ag [.sa 1])),.ro (.obs e 2 L),.gen 1] (oR (F L)) (fun _ _=>False)):cV P f (Sc t e F):=by
 refine r9 fun res nid args q x new hg=>?_
 unfold Sc at hg;split at hg<;>(try split at hg)<;>simp only[Xm,Xn,reduceCtorEq]at hg
 rename_i a o L hr;obtain⟨rfl,rfl,rfl⟩:=hg;rcases qI hr with⟨rfl,rfl,rfl⟩|⟨k,rfl,rfl,hs⟩
 ·exact⟨rfl,hF [],[],[gJ],by simp,fun J _ _=>rfl,fun K hK=>⟨hK.1,trivial⟩,fun _ _=>h0.mono (fun _ _=>cK) fun _ _ h=>h⟩
 ·refine⟨rfl,hF L,[(k,.store t e L)],[.lp 0 0],by simpa using⟨hs,rfl⟩,fun J _ _=>rfl,fun K hK=>⟨by simp[ok,known,qk,ar],trivial⟩,fun _ _=>?_⟩
  exact aj.fact (k:=0) rfl fun w1 w2=>(aj.dL (res:=qk [(k,.store t e L)]) (k:=0) rfl (h1 L w1 w2)).mono (fun _ _=>cK) fun _ _ h=>h
theorem vI {f t e:Nat} {α:Type} {r:V->Option α} {m:α->V} {F:List Obj->α->V} (hr:rH r m) (hF:∀L x,jJ (F L x)=true)
  (h0:∀x,ok (fun _=>False) (m x)->aj P f [gJ,m x] [] (oR (F [] x)) (fun _ _=>False))
  (h1:∀L x,(∀o∈L,o.wf)->L.length<=9223372036854775807->ok (fun _=>False) (m x)->aj P f [.lp 0 0,m x] [.ro (.blk t (.ag [.sa 1])),.ro (.obs e 2 L),.gen 1] (oR (F L x)) (fun _ _=>False))
  (hid:∀x,jJ (m x)=true):cV P f (Hg t e r F):=by
 refine r9 fun res nid args q x new hg=>?_
 unfold Hg at hg;split at hg<;>(try split at hg)<;>(try split at hg)<;>simp only[Xm,Xn,reduceCtorEq]at hg
 rename_i a b _ o L hs _ x hb;obtain⟨rfl,rfl,rfl⟩:=hg;obtain⟨b1,b2⟩:=hr _ x hb;have hde:∀J ρ':Env,∀K,ok K b->den ρ' (m x)=den J b:=fun J ρ' K hk=>by rw[b1 J];exact qd (hid x) (b2 K hk) J ρ'
 rcases qI hs with⟨rfl,rfl,rfl⟩|⟨k,rfl,rfl,hse⟩
 ·refine⟨rfl,hF [] x,[],[gJ,m x],by simp,fun J K hK=>?_,fun K hK=>⟨hK.1,ff (b2 K hK.2.1),trivial⟩,fun _ hok=>?_⟩
  ·simp only[bc,hde J (J.pull (qK [])) K hK.2.1];rfl
  ·exact(h0 x (oB _ (hid x) hok.2.1)).mono (fun _ _=>cK) fun _ _ h=>h
 ·refine⟨rfl,hF L x,[(k,.store t e L)],[.lp 0 0,m x],by simpa using⟨hse,rfl⟩,fun J K hK=>?_,fun K hK=>⟨by simp[ok,known,qk,ar],ff (b2 K hK.2.1),trivial⟩,fun _ hok=>?_⟩
  ·simp only[bc,hde J (J.pull (qK [(k,.store t e L)])) K hK.2.1];rfl
  ·exact aj.fact (k:=0) rfl fun w1 w2=>(aj.dL (res:=qk [(k,.store t e L)]) (k:=0) rfl (h1 L x w1 w2 (oB _ (hid x) hok.2.1))).mono (fun _ _=>cK) fun _ _ h=>h
theorem Pv {f t e:Nat} {Q:List Obj->List Obj->Prop} {F:List Obj->List Obj->V} (hF:∀L M,jJ (F L M)=true) (h00:aj P f [gJ,gJ] [] (oR (F [] [])) (fun _ _=>False))
  (h01:∀M,(∀o∈M,o.wf)->M.length<=9223372036854775807->aj P f [gJ,.lp 0 0] [.ro (.blk t (.ag [.sa 1])),.ro (.obs e 2 M),.gen 1] (oR (F [] M)) (fun _ _=>False))
  (h10:∀L,(∀o∈L,o.wf)->L.length<=9223372036854775807->aj P f [.lp 0 0,gJ] [.ro (.blk t (.ag [.sa 1])),.ro (.obs e 2 L),.gen 1] (oR (F L [])) (fun _ _=>False))
  (h11:∀L M,Q L M->(∀o∈L,o.wf)->L.length<=9223372036854775807->(∀o∈M,o.wf)->M.length<=9223372036854775807->
   aj P f [.lp 0 0,.lp 1 0] [.ro (.blk t (.ag [.sa 2])),.ro (.blk t (.ag [.sa 4])),.ro (.obs e 3 L),.gen 2,.ro (.obs e 5 M),.gen 4] (oR (F L M)) (fun _ _=>False)):cV P f (RP t e Q F):=by
 refine r9 fun res nid args q x new hg=>?_
 unfold RP at hg;split at hg<;>(try split at hg)<;>(try split at hg)<;>simp only[Xm,Xn,reduceCtorEq]at hg
 rename_i a b _ o L hs _ p M hb;obtain⟨rfl,rfl,rfl⟩:=hg;rcases qI hs with⟨rfl,rfl,rfl⟩|⟨k,rfl,rfl,hse⟩<;>rcases qI hb with⟨rfl,rfl,rfl⟩|⟨j,rfl,rfl,hbe⟩
 ·exact⟨rfl,hF [] [],[],[gJ,gJ],by simp,fun J _ _=>rfl,fun K hK=>⟨hK.1,hK.2.1,trivial⟩,fun _ _=>h00.mono (fun _ _=>cK) fun _ _ h=>h⟩
 ·refine⟨rfl,hF [] M,[(j,.store t e M)],[gJ,.lp 0 0],by simpa using⟨hbe,rfl⟩,fun J _ _=>rfl,fun K hK=>⟨hK.1,by simp[ok,known,qk,ar],trivial⟩,fun _ _=>?_⟩
  exact aj.fact (k:=0) rfl fun w1 w2=>(aj.dL (res:=qk [(j,.store t e M)]) (k:=0) rfl (h01 M w1 w2)).mono (fun _ _=>cK) fun _ _ h=>h
 ·refine⟨rfl,hF L [],[(k,.store t e L)],[.lp 0 0,gJ],by simpa using⟨hse,rfl⟩,fun J _ _=>rfl,fun K hK=>⟨by simp[ok,known,qk,ar],hK.2.1,trivial⟩,fun _ _=>?_⟩
  exact aj.fact (k:=0) rfl fun w1 w2=>(aj.dL (res:=qk [(k,.store t e L)]) (k:=0) rfl (h10 L w1 w2)).mono (fun _ _=>cK) fun _ _ h=>h
 ·refine⟨rfl,hF L M,[(k,.store t e L),(j,.store t e M)],[.lp 0 0,.lp 1 0],by simpa using⟨⟨hse,rfl⟩,hbe,rfl⟩,fun J _ _=>rfl,fun K hK=>⟨by simp[ok,known,qk,ar],by simp[ok,known,qk,ar],trivial⟩,fun hQ _=>?_⟩
  exact aj.fact (k:=0) rfl fun w1 w2=>aj.fact (k:=1) rfl fun w3 w4=>
   (aj.dL (res:=qk [(k,.store t e L),(j,.store t e M)]) (k:=0) rfl (aj.dL (k:=1) rfl (h11 L M hQ w1 w2 w3 w4))).mono (fun _ _=>cK) fun _ _ h=>h
theorem oy.arr {res:List aA} {p esz:Nat} {own:Option Nat} {l:TL} (h:cR res p= .arr own esz l):oy res p (.arr none esz l):=by
 have hk:=ew h (by simp)
 refine⟨hk,fun J fps K w0 F0 w hH=>?_⟩
 obtain⟨fp,⟨h1,h2,h3,h4,h5,h6,h7⟩,g2⟩:=hH.zs h hk;refine⟨fp,⟨h1,h2,h3,h4,h5,h6,?_⟩,fun b hb=>(g2 b hb).elim (fun h=> .inl ⟨p,hk,h⟩) .inr⟩
 rcases h7 with⟨e,h7⟩|⟨e,e1,e2⟩
 ·exact .inl ⟨rfl,h7⟩
 ·exact .inr ⟨e,by simp,e2⟩
def rA (res:List aA) (v:V):Option (Nat×List Obj):=
 match v with
 | .sa k=>match cR res k with
   | .arr _ e l=>if e==163 then match l with
     | .ob l=>some (k,l)
     |_=>none
     else none
   |_=>none
 |_=>none
theorem Em {res:List aA} {v:V} {k:Nat} {l:List Obj} (h:rA res v=some (k,l)):v= .sa k/\oy res k (.arr none 163 (.ob l))/\∃own,cR res k= .arr own 163 (.ob l):=by
 unfold rA at h;split at h
 ·split at h
  ·rename_i own e l' hl;split at h
   ·rename_i he;have he:=Xq.1 he;subst he;split at h
    ·simp only[Xm,Xn]at h;obtain⟨rfl,rfl⟩:=h;exact⟨rfl,oy.arr hl,_,hl⟩
    ·simp at h
   ·simp at h
  ·simp at h
 ·simp at h
def Wf (F:List Obj->V):Ct:=fun res _ xs=>match xs with
 | [a]=>match rA res a with
   |some (_,L)=>some (none,F L,[])
   |none=>none
 |_=>none
theorem NB {J:Env} {i k:Nat} {pls:List (Nat×aA)} (h:qK pls i=k):den (J.pull (qK pls)) (.sa i)=den J (.sa k):=by
 simp only[den,Env.pull,h]
theorem SK {f:Nat} {F:List Obj->V} (hF:∀L,jJ (F L)=true)
  (h1:∀L,(∀o∈L,o.wf)->L.length<=9223372036854775807->aj P f [.sa 0] [.ro (.arr none 163 (.ob L))] (oR (F L)) (fun _ _=>False)):cV P f (Wf F):=by
 refine r9 fun res nid args q x new hg=>?_
 unfold Wf at hg;split at hg<;>(try split at hg)<;>simp only[Xm,Xn,reduceCtorEq]at hg
 rename_i a k L hr;obtain⟨rfl,rfl,rfl⟩:=hg;obtain⟨rfl,hs,_⟩:=Em hr
 exact⟨rfl,hF L,[(k,.arr none 163 (.ob L))],[.sa 0],by simpa using⟨hs,rfl⟩,fun J _ _=>by simp only[bc,NB (pls:= [(k,.arr none 163 (.ob L))]) (i:=0) (k:=k) rfl],fun K hK=>⟨by simp[ok,known,qk,ar],trivial⟩,
  fun _ _=>aj.P9 (k:=0) rfl fun w1 w2=>(h1 L w1 w2).mono (fun _ _=>cK) fun _ _ h=>h⟩
end
end Go.Sx
namespace Go.Sx
open Go.RowKit (Below)
abbrev ng:=List V->List aA->(V->List aA->Prop)->Prop
def oU (P:Program) (f:Nat) (h:ng):Prop:=∀args res K KP,h args res K->aj P f args res K KP
def Bg:List (Nat×ng)->Handler
 | [],_,_,_,_,_=>False
 | (g,h)::l,f,args,res,K,KP=>if f==g then h args res K else Bg l f args res K KP
theorem wA {P:Program}:∀{l:List (Nat×ng)},(∀p∈l,oU P p.1 p.2)->Handler.OK P (Bg l)
 | [],_,f,args,res,K,KP,h=>h.elim
 | (g,x)::l,hl,f,args,res,K,KP,h=>by
   simp only[Bg]at h;split at h
   ·rename_i e;have e:=Xq.1 e;subst e;exact hl (f,x) (by simp) args res K KP h
   ·exact wA (fun p hp=>hl p (by simp[hp])) f args res K KP h
theorem az {P:Program}:∀p∈([]:List (Nat×ng)),oU P p.1 p.2:=by simp
theorem aC {P:Program} {f:Nat} {g:ng} {l:List (Nat×ng)} (h:oU P f g) (t:∀p∈l,oU P p.1 p.2):∀p∈(f,g)::l,oU P p.1 p.2:=by
 intro p hp;rcases List.mem_cons.1 hp with rfl|hp
 ·exact h
 ·exact t p hp
theorem tk {κ:Nat->Option Nat}:∀v,jJ v=true->fh κ v=some v:=by
 intro v
 exact V.rec (motive_1:=fun v=>jJ v=true->fh κ v=some v) (motive_2:=fun l=>kY l=true->ee κ l=some l)
  (fun b _=>rfl) (fun b _=>rfl) (fun k n _=>rfl) (fun k n _=>rfl) (fun b _=>rfl) (fun s _=>rfl) (fun v _=>rfl) (fun _ _ h=>by simp[jJ]at h) (fun _ _ _ _ _ _ h=>by simp[jJ]at h)
  (fun _ _ _ h=>by simp[jJ]at h) (fun _ _ h=>by simp[jJ]at h) (fun _ _ _ _ h=>by simp[jJ]at h) (fun _ h=>by simp[jJ]at h) (fun _ _ h=>by simp[jJ]at h) (fun _ h=>by simp[jJ]at h)
  (fun f l ih h=>by simp only[fh];rw[ih h]) (fun t x ih h=>by simp only[fh];rw[ih h]) (fun l ih h=>by simp only[fh];rw[ih h]) (fun l ih h=>by simp only[fh];rw[ih h])
  (fun _ _=>rfl) (fun _ _=>rfl) (fun _ _=>rfl) (fun _ _=>rfl) (fun _ h=>by simp[jJ]at h) (fun _ _ _ _ _ _ h=>by simp[jJ]at h) (fun _ _ _ _ _ _ _ _ h=>by simp[jJ]at h) (fun _ _ _ _ h=>by simp[jJ]at h) (fun _ _ _ _ _ _ h=>by simp[jJ]at h) (fun _=>rfl)
  (fun x l ih1 ih2 h=>by simp only[kY,Xo]at h;simp only[ee];rw[ih1 h.1];simp only;rw[ih2 h.2]) v
theorem jE {κ:Nat->Option Nat}:∀l,kY l=true->ee κ l=some l
 | [],_=>rfl
 |x::l,h=>by
  simp only[kY,Xo]at h;simp only[ee];rw[tk x h.1];simp only;rw[jE l h.2]
def ev (l m:List V):Prop:=∀(J:Env) K,eM K l->bc J l=bc J m/\eM K m
theorem ev.nil:ev [] []:=fun _ _ _=>⟨rfl,trivial⟩
theorem ev.kb {x:V} {l m:List V} (h:ev l m):ev (x::l) (x::m):=fun J K hk=>⟨by simp only[bc,(h J K hk.2).1],hk.1,(h J K hk.2).2⟩
theorem ev.rd {α:Type} {r:V->Option α} {f:α->V} (hr:rH r f) {a:V} {x:α} (hx:r a=some x) {l m:List V} (h:ev l m):ev (a::l) (f x::m):=fun J K hk=>by
 obtain⟨a1,a2⟩:=hr a x hx;exact⟨by simp only[bc,(h J K hk.2).1,a1],ff (a2 K hk.1),(h J K hk.2).2⟩
section
variable {P:Program}
theorem aj.args {f:Nat} {args args':List V} {res:List aA} {K KP:V->List aA->Prop} (h:ev args args') (hc:aj P f args' res K KP):aj P f args res K KP:=by
 intro J fps w0 F0 w hH hargs;obtain⟨h1,h2⟩:=h J _ hargs;rw[h1];exact hc J fps w0 F0 w hH h2
theorem aj.zW {f:Nat} {rest:List V} {res:List aA} {K KP:V->List aA->Prop} {k t e:Nat} {L M:List Obj} {x:V} (hr:ar res k= .store t e L) (hid:kY rest=true) (hx:jJ x=true)
  (h:aj P f (.lp 0 0::rest) [.store t e L] (fun v r=>vi x v r/\ar r 0= .store t e M) (fun _ _=>False)) (hK:K x (bD res k (.store t e M))):aj P f (.lp k 0::rest) res K KP:=by
 have hk:known res k:=by unfold known;rw[hr];simp
 have hlt:=aF hk;refine aj.frame (pl:= [(k,true)]) (args0:= .lp 0 0::rest) (K0:=fun v r=>vi x v r/\ar r 0= .store t e M) (KP0:=fun _ _=>False) (by simp[en,cH.2 hk]) (by simpa[iE,de,oS]using hlt) ?_ ?_ (fun v r hv=>?_) (fun _ _ h=>h.elim)
 ·simp only[ee,fh,ko,idxOf,de];rw[jE rest hid];simp
 ·have:eo (ko 0 (de [(k,true)])) res [(k,true)]= [.store t e L]:=by simp[eo,hr,fZ]
  rw[this];exact h
 ·obtain⟨h1,h2⟩:=hv;have hm:merge [(k,true)] [] r res=bD res k (.store t e M):=by simp[merge,eW,h2,fZ,fW]
  exact⟨[],x,rfl,by simp[kT,h2,jd],rfl,jA.jJ h1 hx,by rw[hm];exact hK⟩
theorem aj.pure {f:Nat} {args:List V} {res:List aA} {K KP:V->List aA->Prop} {x:V} (hid:kY args=true) (hx:jJ x=true)
  (h:aj P f args [] (fun v _=>vi x v []) (fun _ _=>False)) (hK:K x res):aj P f args res K KP:=by
 refine aj.frame (pl:= []) (args0:=args) (K0:=fun v _=>vi x v []) (KP0:=fun _ _=>False) rfl rfl (jE args hid) h (fun v r hv=>?_) (fun _ _ h=>h.elim)
 have hm:merge [] [] r res=res:=by simp[merge,eW,fW]
 exact⟨[],x,rfl,rfl,rfl,jA.jJ hv hx,by rw[hm];exact hK⟩
theorem aj.LP {f:Nat} {rest:List V} {res:List aA} {K KP:V->List aA->Prop} {k:Nat} {r0:aA} {x:V} (hr:cR res k=r0) (hne:r0≠ .yet) (hren:∀κ,fZ κ r0=r0) (hid:kY rest=true) (hx:jJ x=true)
  (h:aj P f (.lp 0 0::rest) [.ro r0] (fun v _=>vi x v []) (fun _ _=>False)) (hK:K x res):aj P f (.lp k 0::rest) res K KP:=by
 have hk:=ew hr hne;have hlt:=aF hk;refine aj.frame (pl:= [(k,false)]) (args0:= .lp 0 0::rest) (K0:=fun v _=>vi x v []) (KP0:=fun _ _=>False) (by simp[en,cH.2 hk]) (by simpa[iE,de,oS]using hlt) ?_ ?_ (fun v r hv=>?_) (fun _ _ h=>h.elim)
 ·simp only[ee,fh,ko,idxOf,de];rw[jE rest hid];simp
 ·have:eo (ko 0 (de [(k,false)])) res [(k,false)]= [.ro r0]:=by simp[eo,hr,hren]
  rw[this];exact h
 ·have hm:merge [(k,false)] [] r res=res:=by simp[merge,eW,fW]
  exact⟨[],x,rfl,by simp[kT],rfl,jA.jJ hv hx,by rw[hm];exact hK⟩
theorem aW.weaken {J:Env} {fps:Nat->Nat->Prop} {res res':List aA} {w0 w:World} {F0:Nat->Prop} (h:aW J fps res (known res) w0 F0 w)
  (hk:∀i,known res' i->known res i/\∀fp,(ar res i).holds (known res) J i fp w0 F0 w->(ar res' i).holds (known res') J i fp w0 F0 w):aW J fps res' (known res') w0 F0 w:=
 ⟨fun i hi=>hi,h.old,h.os,h.tape,h.output,fun i hi=>(hk i hi).2 _ (h.holds i (hk i hi).1),fun i b hi=>h.lt i b (hk i hi).1,fun i j b hi hj=>h.disj i j b (hk i hi).1 (hk j hj).1,fun i b hi=>h.inF i b (hk i hi).1,h.same⟩
theorem JO {K K':Nat->Prop} {J:Env} {i:Nat} {fp:Nat->Prop} {w0 w:World} {F0:Nat->Prop} {own:Option Nat} {e:Nat} {l:TL} (h:(aA.arr own e l).holds K J i fp w0 F0 w):(aA.arr none e l).holds K' J i fp w0 F0 w:=by
 obtain⟨h1,h2,h3,h4,h5,h6,h7⟩:=h;refine⟨h1,h2,h3,h4,h5,h6,?_⟩;rcases h7 with⟨e,h7⟩|⟨e,e1,e2⟩
 ·exact .inl ⟨rfl,h7⟩
 ·exact .inr ⟨e,by simp,e2⟩
theorem aj.US {f:Nat} {args:List V} {K KP:V->List aA->Prop} {own:Option Nat} {e:Nat} {l:TL} (h:aj P f args [.ro (.arr none e l)] K KP):aj P f args [.ro (.arr own e l)] K KP:=by
 have hk:∀i (own:Option Nat),known [.ro (.arr own e l)] i↔i=0:=fun i own=>by
  unfold known;cases i with
  |zero=>simp[ar]
  |succ i=>simp[ar]
 refine h.tL fun J fps w0 F0 w hH=>⟨J,fps,hH.weaken fun i hi=>?_,Env.aZ.refl _ _,fun i hi=>(hk i _).2 ((hk i _).1 hi)⟩
 have:=(hk i _).1 hi;subst this;refine⟨(hk 0 _).2 rfl,fun fp hh=>?_⟩
 obtain⟨fp',g1,g2⟩:=hh;exact⟨fp',JO g1,g2⟩
theorem aj.Ig {f:Nat} {rest:List V} {res:List aA} {K KP:V->List aA->Prop} {t e k esz:Nat} {own:Option Nat} {l:TL} {M:List Obj} {F:Nat->V} (hr:cR res k= .arr own esz l) (hid:kY rest=true)
  (h:aj P f (.sa 0::rest) [.ro (.arr own esz l)] (fun v r=>∃j,1<=j/\ar r j= .store t e M/\(∀(κ:Nat->Option Nat) (i:Nat),κ j=some i->jA κ v (F i))) (fun _ _=>False)) (hK:K (F res.length) (res++ [.store t e M])):aj P f (.sa k::rest) res K KP:=by
 have hk:=ew hr (by simp)
 have hlt:=aF hk;refine aj.frame (pl:= [(k,false)]) (args0:= .sa 0::rest) (K0:=fun v r=>∃j,1<=j/\ar r j= .store t e M/\(∀(κ:Nat->Option Nat) (i:Nat),κ j=some i->jA κ v (F i))) (KP0:=fun _ _=>False) (by simp[en,cH.2 hk]) (by simpa[iE,de,oS]using hlt) ?_ ?_ (fun v r hv=>?_) (fun _ _ h=>h.elim)
 ·simp only[ee,fh,ko,idxOf,de];rw[jE rest hid];simp
 ·have:eo (ko 0 (de [(k,false)])) res [(k,false)]= [.ro (.arr own esz l)]:=by simp[eo,hr,fZ]
  rw[this];exact h
 ·obtain⟨j,hj1,hj,hv⟩:=hv;have hjl:j<r.length:=aF (by rw[hj];simp)
  have hm:merge [(k,false)] [j] r res=res++ [.store t e M]:=by simp[merge,eW,fW,hj,fZ]
  refine⟨[j],F res.length,by simpa[iE,oS]using⟨hj1,hjl⟩,by simp[kT],by simp[nO,hj,jd],hv _ _ ?_,by rw[hm];exact hK⟩
  obtain⟨m,rfl⟩:∃m,j=m+1:=⟨j-1,by omega⟩
  simp[back,xr,idxOf]
theorem aj.U0 {f:Nat} {rest:List V} {res:List aA} {K KP:V->List aA->Prop} {k esz:Nat} {own:Option Nat} {l:TL} {x:V} (hr:cR res k= .arr own esz l) (hid:kY rest=true) (hx:jJ x=true)
  (h:aj P f (.sa 0::rest) [.ro (.arr own esz l)] (fun v _=>vi x v []) (fun _ _=>False)) (hK:K x res):aj P f (.sa k::rest) res K KP:=by
 have hk:=ew hr (by simp)
 have hlt:=aF hk;refine aj.frame (pl:= [(k,false)]) (args0:= .sa 0::rest) (K0:=fun v _=>vi x v []) (KP0:=fun _ _=>False) (by simp[en,cH.2 hk]) (by simpa[iE,de,oS]using hlt) ?_ ?_ (fun v r hv=>?_) (fun _ _ h=>h.elim)
 ·simp only[ee,fh,ko,idxOf,de];rw[jE rest hid];simp
 ·have:eo (ko 0 (de [(k,false)])) res [(k,false)]= [.ro (.arr own esz l)]:=by simp[eo,hr,fZ]
  rw[this];exact h
 ·have hm:merge [(k,false)] [] r res=res:=by simp[merge,eW,fW]
  exact⟨[],x,rfl,by simp[kT],rfl,jA.jJ hv hx,by rw[hm];exact hK⟩
theorem rq (κ2:Nat->Option Nat) (r':List aA):∀(l:List (Nat×Bool)) (i:Nat) (res:List aA),(∀p∈l,p.2=false)->eW κ2 r' i l res=res
 | [],_,_,_=>rfl
 | (p,o)::l,i,res,h=>by
   have:=h (p,o) (by simp)
   simp only at this;subst this;simp only[eW,Bool.false_eq_true,if_false];exact rq κ2 r' l _ _ fun p hp=>h p (by simp[hp])
theorem uh (r':List aA):∀(l:List (Nat×Bool)) (i:Nat),(∀p∈l,p.2=false)->kT r' i l=true
 | [],_,_=>rfl
 | (p,o)::l,i,h=>by
   have:=h (p,o) (by simp)
   simp only at this;subst this;simp only[kT,Bool.false_eq_true,if_false,Bool.true_and];exact uh r' l _ fun p hp=>h p (by simp[hp])
theorem yu:∀(l:List (Nat×Bool)) (j:Nat),l.length<=j->xr l j=none
 | [],_,_=>rfl
 | (p,o)::l,0,h=>by simp at h
 | (p,o)::l,j+1,h=>by simp only[xr];exact yu l j (by simpa using h)
theorem aj.UZ {f:Nat} {args args0:List V} {res:List aA} {K KP:V->List aA->Prop} {pl:List (Nat×Bool)} {new:aA} {F:Nat->V} (hk:en res pl=true) (hnd:iE 0 res.length (de pl)=true) (hro:∀p∈pl,p.2=false)
  (ha:ee (ko 0 (de pl)) args=some args0) (hnew:jd new=true) (hne:new≠ .yet) (hren:∀κ,fZ κ new=new)
  (h:aj P f args0 (eo (ko 0 (de pl)) res pl) (fun v r=>∃j,pl.length<=j/\ar r j=new/\(∀(κ:Nat->Option Nat) (i:Nat),κ j=some i->jA κ v (F i))) (fun _ _=>False))
  (hK:K (F res.length) (res++ [new])):aj P f args res K KP:=by
 refine aj.frame hk hnd ha h (fun v r hv=>?_) (fun _ _ h=>h.elim)
 obtain⟨j,hj1,hj,hv⟩:=hv;have hjl:j<r.length:=aF (by rw[hj];exact hne)
 have hm:merge pl [j] r res=res++ [new]:=by simp[merge,rq _ _ pl 0 res hro,fW,hj,hren]
 refine⟨[j],F res.length,by simpa[iE,oS]using⟨hj1,hjl⟩,uh _ _ _ hro,by simp[nO,hj,hnew],hv _ _ ?_,by rw[hm];exact hK⟩
 simp[back,yu pl j hj1,idxOf]
theorem aj.QG {f:Nat} {args args0:List V} {res:List aA} {K KP:V->List aA->Prop} {pl:List (Nat×Bool)} {x:V} (hk:en res pl=true) (hnd:iE 0 res.length (de pl)=true) (hro:∀p∈pl,p.2=false)
  (ha:ee (ko 0 (de pl)) args=some args0) (hx:jJ x=true)
  (h:aj P f args0 (eo (ko 0 (de pl)) res pl) (fun v _=>vi x v []) (fun _ _=>False)) (hK:K x res):aj P f args res K KP:=by
 refine aj.frame hk hnd ha h (fun v r hv=>?_) (fun _ _ h=>h.elim)
 have hm:merge pl [] r res=res:=by simp[merge,rq _ _ pl 0 res hro,fW]
 exact⟨[],x,rfl,uh _ _ _ hro,rfl,jA.jJ hv hx,by rw[hm];exact hK⟩
theorem yd {r:List aA} {k t e j:Nat} {L:List Obj} (h:BX r k=some (t,e,j,L)):∃r',sS r k=some r'/\ar r' k= .store t e L:=by
 unfold sS;rw[h];refine⟨_,rfl,?_⟩
 have hk:k<r.length:=by
  unfold BX at h;split at h
  ·rename_i hr;exact aF (by rw[hr];simp)
  ·simp at h
 rw[bw _ _ _ _ (by rw[b6];exact hk),Xv rfl]
def CI (r:List aA) (k:Nat):Option (Nat×Nat×List Obj):=
 match ar r k with
 | .store t e L=>some (t,e,L)
 |_=>match BX r k with
  |some (t,e,_,L)=>some (t,e,L)
  |none=>none
theorem CC {r:List aA} {k t e:Nat} {L:List Obj} (h:CI r k=some (t,e,L)):ar r k= .store t e L\/∃r',sS r k=some r'/\ar r' k= .store t e L:=by
 unfold CI at h;split at h
 ·rename_i hr;simp only[Xm,Xn]at h;obtain⟨rfl,rfl,rfl⟩:=h;exact .inl hr
 ·split at h
  ·rename_i hst;simp only[Xm,Xn]at h;obtain⟨rfl,rfl,rfl⟩:=h;exact .inr (yd hst)
  ·simp at h
theorem Pr {a b c:V} (h:vi c b []):vi (.tp [a,c]) (.tp [a,b]) []:=fun J K=>by
 obtain⟨s1,s2,_⟩:=h J K;exact⟨by simp only[den,bc,s1],fun hk=>⟨hk.1,s2 hk.2.1,trivial⟩,rfl⟩
theorem aj.PC {f:Nat} {args:List V} {res:List aA} {K KP:V->List aA->Prop} {t e:Nat} {M:List Obj} {F:Nat->V} (hid:kY args=true)
  (h:aj P f args [] (fun v r=>∃j,ar r j= .store t e M/\(∀(κ:Nat->Option Nat) (i:Nat),κ j=some i->jA κ v (F i))) (fun _ _=>False)) (hK:K (F res.length) (res++ [.store t e M])):aj P f args res K KP:=by
 refine aj.frame (pl:= []) (args0:=args) (K0:=fun v r=>∃j,ar r j= .store t e M/\(∀(κ:Nat->Option Nat) (i:Nat),κ j=some i->jA κ v (F i))) (KP0:=fun _ _=>False) rfl rfl (jE args hid) h (fun v r hv=>?_) (fun _ _ h=>h.elim)
 obtain⟨j,hj,hv⟩:=hv;have hlt:j<r.length:=aF (by rw[hj];simp)
 have hm:merge [] [j] r res=res++ [.store t e M]:=by simp[merge,eW,fW,hj,fZ]
 exact⟨[j],F res.length,by simpa[iE,oS]using hlt,rfl,by simp[nO,hj,jd],hv _ _ (by simp[back,xr,idxOf]),by rw[hm];exact hK⟩
end
def WD (v:V):Option Nat:=
 match v with
 | .sa j=>some j
 | .ag l=>match l with
   | [x]=>match x with
     | .sa j=>some j
     |_=>none
   |_=>none
 |_=>none
def Uj (c:Nat) (U:St):Option (List Nat):=
 match ar U.res c with
 | .blk _ x=>match WD x with
   |some j=>match ar U.res j with
    | .obs _ q _=>some [j,q]
    |_=>some [j]
   |none=>some []
 |_=>some []
def VB (kb:List Nat) (set:Int->List (Nat×V)) (k:Nat) (R:Int->aA) (inv:Int->Prop) (m:Int):cL:=
 {γ:=Int,head:=fun U g=> {U with slots:=ME kb (set g) 0 U.slots,res:=bD U.res k (R g)},inv:=inv,μ:=fun g=>oV (sf m g)}
def FI:List (Nat×aA)->List aA->List aA
 | [],r=>r
 | (k,x)::l,r=>FI l (bD r k x)
def V0 {γ:Type} (kb:List Nat) (set:γ->List (Nat×V)) (rs:γ->List (Nat×aA)) (inv:γ->Prop) (μ:γ->Nat):cL:=
 {γ:=γ,head:=fun U g=> {U with slots:=ME kb (set g) 0 U.slots,res:=FI (rs g) U.res},inv:=inv,μ:=μ}
def TL.emp:TL->TL
 | .ob _=> .ob []
 | .key _=> .key []
 | .it k _=> .it k []
 | .bo _=> .bo []
 | .st _=> .st []
 | .fn n g=> .fn n g
def WH (U:St):Option (List Nat):=
 match U.defs with
 |d::_=>match xS d.2.1 with
  |some k=>some [k]
  |none=>none
 | []=>none
def WG {γ:Type} (kb:List Nat) (set:γ->List (Nat×V)) (rs:γ->List (Nat×aA)) (inv:γ->Prop) (μ:γ->Nat):cL:=
 {γ:=γ,head:=fun U g=> {slots:=ME kb (set g) 0 U.slots,res:=FI (rs g) U.res++ [.dfr],defs:=(0,[.yl U.res.length],[])::U.defs},inv:=inv,μ:=μ,pre:= [.dm],ext:=WH}
def Q0 (n:Nat):cL:= {γ:=Unit,head:=fun U _=>U,inv:=fun _=>True,μ:=fun _=>0,unr:=some n}
def Vt (kb:List Nat) (set:Int->List (Nat×V)) (c ty e esz:Nat) (L:Int->TL) (inv:Int->Prop) (m:Int):cL:=
 {γ:=Int,head:=fun U g=> {U with slots:=ME kb (set g) 0 U.slots,res:=bD U.res c (.blk ty (.sa U.res.length))++ [.arr (some e) esz (L g)]},
  inv:=inv,μ:=fun g=>oV (sf m g),pre:= [.bv c e esz (TL.emp (L 0))],ext:=Uj c}
def We {γ:Type} (kb:List Nat) (set:γ->List (Nat×V)) (t:Nat) (R:γ->aA) (inv:γ->Prop) (μ:γ->Nat):cL:=
 {γ:=γ,head:=fun U g=>match bC U.slots t with
   | .v x=>match x with
     | .lp k _=> {U with slots:=ME kb (set g) 0 U.slots,res:=bD U.res k (R g)}
     |_=>U
   |_=>U,inv:=inv,μ:=μ}
def EE (sl:List S):List (Nat×aA)->List aA->List aA
 | [],r=>r
 | (t,x)::l,r=>match bC sl t with
   | .v y=>match y with
     | .lp k _=>EE sl l (bD r k x)
     |_=>EE sl l r
   |_=>EE sl l r
mutual
def Qm:V->List Nat
 | .lp i _=> [i]
 | .lx i _ _ _ _ _=> [i]
 | .sc i _ _=> [i]
 | .so i _=> [i]
 | .ap i _ _ _=> [i]
 | .ax i _ _ _ _ _ _ _=> [i]
 | .sa i=> [i]
 | .op i _=> [i]
 | .yl i=> [i]
 | .bs x _ _=>Qm x
 | .ks x _ _ _ _=>Qm x
 | .fn _ l=>RX l
 | .ic _ x=>Qm x
 | .ag l=>RX l
 | .tp l=>RX l
 | .ch _ _ l y=>RX l++Qm y
 |_=> []
def RX:List V->List Nat
 | []=> []
 |x::l=>Qm x++RX l
end
def W6:aA->List Nat
 | .blk _ c=>Qm c
 | .ro r=>match r with
   | .blk _ c=>Qm c
   |_=> []
 |_=> []
def WU:List S->List Nat
 | []=> []
 |x::l=>(match x with| .v y=>Qm y|_=> [])++WU l
def WW:List (Nat×List V×List V)->List Nat
 | []=> []
 |x::l=>RX x.2.1++RX x.2.2++WW l
def WN (res:List aA):Nat->List Nat->List Nat
 |0,l=>l
 |n+1,l=>WN res n (l.foldr (fun i m=>(W6 (ar res i)).foldr (fun j k=>if TO k j then k else j::k) m) l)
def WQ (l:List Nat):Nat->List aA->List aA
 |_,[]=> []
 |i,x::r=>(match x with| .mp _ _ _=> .gone| .mq _ _=> .gone| .blk t c=>if TO l i then .blk t c else .gone| .ro y=>(match y with| .blk t c=>if TO l i then .ro (.blk t c)else .gone|y=> .ro y)|x=>x)::WQ l (i+1) r
def Xe (U:St):St:= {U with res:=WQ (WN U.res 4 (WU U.slots++WW U.defs)) 0 U.res}
def VF {γ:Type} (kb:List Nat) (set:γ->List (Nat×V)) (bl:γ->List (Nat×aA)) (rs:γ->List (Nat×aA)) (inv:γ->Prop):cL:=
 {γ:=γ,head:=fun U g=>Xe {U with slots:=ME kb (set g) 0 U.slots,res:=FI (rs g) (EE U.slots (bl g) U.res)},inv:=inv,μ:=fun _=>0}
def W0 (kb:List Nat) (set:Int->List (Nat×V)) (c t e:Nat) (L:Int->List Obj) (inv:Int->Prop) (m:Int):cL:=
 {γ:=Int,head:=fun U g=> {U with slots:=ME kb (set g) 0 U.slots,res:=bD U.res c (.blk t (.ag [.sa U.res.length]))++ [.obs e (U.res.length+1) (L g),.gen U.res.length]},
  inv:=inv,μ:=fun g=>oV (sf m g),pre:= [.bl c e],ext:=Uj c}
end Go.Sx
namespace Go.Proofs.YtlblcfaclmpekaaGreat
open Go.Sx
noncomputable def P8 (l:List (Nat×Ct)) (hl:List (Nat×ng)) (inl:Nat->Bool) (ann:Nat->Nat->Option cL):OL:= {P:=Tryz.prog,Z:=zeroOf,Γ:=ow l,H0:=Bg hl,inl:=inl,ann:=ann,opn:=K6 inl}
theorem yn {l:List (Nat×Ct)} {hl:List (Nat×ng)} {inl:Nat->Bool} {ann:Nat->Nat->Option cL} (h:∀p∈l,cV Tryz.prog p.1 p.2):(P8 l hl inl ann).toCtx.Sound:=
 ⟨xu nu,Tryz.checked.mixed,fun f g hg=>lk h f g hg,fun f ts te h=>by simp[P8]at h⟩
abbrev Xc (l:List (Nat×Ct)) (hl:List (Nat×ng)) (inl:Nat->Bool) (ann:Nat->Nat->Option cL) (f:Nat) (args:List V) (res:List aA) (K KP:V->List aA->Prop):Prop:=
 enter (P8 l hl inl ann).toCtx (exec (P8 l hl inl ann) 100 ⟨false,none⟩) (exec (P8 l hl inl ann) 100 ⟨false,none⟩ f) f args res K KP
set_option maxRecDepth 100000 in
theorem bK {l:List (Nat×Ct)} {hl:List (Nat×ng)} {inl:Nat->Bool} {ann:Nat->Nat->Option cL} (h:∀p∈l,cV Tryz.prog p.1 p.2) (hh:∀p∈hl,oU Tryz.prog p.1 p.2) {f:Nat} {args:List V} {res:List aA}
  {K KP:V->List aA->Prop} {G:Prop} (hG:G) (he:G=Xc l hl inl ann f args res K KP):aj Tryz.prog f args res K KP:=
 As (C:=P8 l hl inl ann) (n:=100) (yn h) (wA hh) (Eq.mp he hG)
def CN:List (Nat×Nat×Nat)->Nat->Option (Nat×Nat)
 | [],_=>none
 | (g,ts,te)::l,f=>if f==g then some (ts,te)else CN l f
theorem B3 {P:Program}:∀{l:List (Nat×Nat×Nat)},(∀p∈l,uy P p.1 p.2.1 p.2.2)->∀f ts te,CN l f=some (ts,te)->uy P f ts te
 | [],_,f,ts,te,h=>by simp[CN]at h
 | (g,a,b)::l,hl,f,ts,te,h=>by
   simp only[CN]at h;split at h
   ·rename_i e;have e:=Xq.1 e;simp only[Xm,Xn]at h;obtain⟨rfl,rfl⟩:=h;subst e;exact hl (f,a,b) (by simp)
   ·exact B3 (fun p hp=>hl p (by simp[hp])) f ts te h
noncomputable def Th (l:List (Nat×Ct)) (hl:List (Nat×ng)) (dl:List (Nat×Nat×Nat)) (inl:Nat->Bool) (ann:Nat->Nat->Option cL):OL:= {P:=Tryz.prog,Z:=zeroOf,Γ:=ow l,D:=CN dl,H0:=Bg hl,inl:=inl,ann:=ann,opn:=K6 inl}
abbrev W9 (l:List (Nat×Ct)) (hl:List (Nat×ng)) (dl:List (Nat×Nat×Nat)) (inl:Nat->Bool) (ann:Nat->Nat->Option cL) (f:Nat) (args:List V) (res:List aA) (K KP:V->List aA->Prop):Prop:=
 enter (Th l hl dl inl ann).toCtx (exec (Th l hl dl inl ann) 100 ⟨false,none⟩) (exec (Th l hl dl inl ann) 100 ⟨false,none⟩ f) f args res K KP
set_option maxRecDepth 100000 in
theorem aK {l:List (Nat×Ct)} {hl:List (Nat×ng)} {dl:List (Nat×Nat×Nat)} {inl:Nat->Bool} {ann:Nat->Nat->Option cL} (h:∀p∈l,cV Tryz.prog p.1 p.2) (hh:∀p∈hl,oU Tryz.prog p.1 p.2) (hd:∀p∈dl,uy Tryz.prog p.1 p.2.1 p.2.2) {f:Nat} {args:List V} {res:List aA}
  {K KP:V->List aA->Prop} {G:Prop} (hG:G) (he:G=W9 l hl dl inl ann f args res K KP):aj Tryz.prog f args res K KP:=
 As (C:=Th l hl dl inl ann) (n:=100) ⟨xu nu,Tryz.checked.mixed,fun f g hg=>lk h f g hg,B3 hd⟩ (wA hh) (Eq.mp he hG)
end Go.Proofs.YtlblcfaclmpekaaGreat
namespace Go.Sx
open Go.RowKit (Below)
def JV (κ:Nat->Option Nat) (r:List aA):List Nat->Option (List aA)
 | []=>some []
 |p::l=>if jz r p&&jd (ar r p)then match JV κ r l with
   |some m=>some (fZ κ (ar r p)::m)
   |none=>none
  else none
def yo (π:List Nat) (x:Nat->V) (new:Nat->List aA) (v:V) (r:List aA):Prop:=
 ∀nid,fh (idxOf π nid) v=some (x nid)/\JV (idxOf π nid) r π=some (new nid)
def zq (x:Nat->V) (new:Nat->List aA):Ct:=fun _ nid args=>match args with
 | []=>some (none,x nid,new nid)
 |_=>none
def Vf:List aA->Bool
 | []=>true
 |r::l=>match r with
  | .yet=>false
  |_=>Vf l
theorem BL:∀{l:List aA},Vf l=true->∀k,k<l.length->ar l k≠ .yet
 | [],_,k,hk=>by simp at hk
 |r::l,h,k,hk=>by
  simp only[Vf]at h;split at h
  ·simp at h
  ·rename_i hr;cases k with
   |zero=>exact hr
   |succ k=>exact BL h k (by simpa using hk)
theorem ua {κ:Nat->Option Nat} {r:List aA}:∀{π:List Nat} {new:List aA},JV κ r π=some new->new.length=π.length/\
  ∀(k p:Nat),π[k]? =some p->known r p/\jd (ar r p)=true/\ar new k=fZ κ (ar r p)
 | [],new,h=>by simp only[JV,Xm]at h;subst h;exact⟨rfl,fun k p h=>by simp at h⟩
 |q::π,new,h=>by
  simp only[JV]at h;split at h
  ·rename_i hc;simp only[Xo]at hc;split at h<;>simp only[Xm,reduceCtorEq]at h
   rename_i m hm;subst h;obtain⟨a,b⟩:=ua hm;refine⟨by simp[a],fun k p hk=>?_⟩
   cases k with
   |zero=>simp at hk;subst hk;exact⟨cH.1 hc.1,hc.2,rfl⟩
   |succ k=>exact b k p (by simpa using hk)
  ·simp at h
theorem sm {P:Program} {f:Nat} {π:List Nat} {x:Nat->V} {new:Nat->List aA} (hnd:π.Nodup) (hy:∀nid,Vf (new nid)=true) (h:aj P f [] [] (yo π x new) (fun _ _=>False)):cV P f (zq x new):=by
 intro J fps res K w0 F0 w nid args q y new' hH hargs hg hq hfr;unfold zq at hg;split at hg<;>simp only[Xm,Xn,reduceCtorEq]at hg
 obtain⟨_,rfl,rfl⟩:=hg
 have hE:aW J (fun _ _=>False) [] (known []) w (fun _=>False) w:=
  ⟨fun i hi=>hi,Nat.le_refl _,rfl,rfl,rfl,fun i hi=>by simp[known,ar]at hi,fun i b hi=>by simp[known,ar]at hi,fun i j b hi=>by simp[known,ar]at hi,fun i b hi=>by simp[known,ar]at hi,fun _ _ _=>rfl⟩
 have hc:=h J _ w (fun _=>False) w hE trivial
 refine⟨?_,?_⟩
 ·refine hc.mono fun e w' ⟨v,ρ1,fps1,r,g1,g2,g3,g4⟩=>?_
  rcases g4 with⟨rfl,hN⟩|⟨_,hF⟩
  ·obtain⟨n1,n2⟩:=hN nid;obtain⟨l1,l2⟩:=ua n2;refine⟨_,rfl,?_⟩
   let ρ':Env:=⟨fun i=>if i<nid then J.num i else if i<nid+π.length then ρ1.num (π.getD (i-nid) 0)else J.num i,fun i=>if i<nid then J.cap i else if i<nid+π.length then ρ1.cap (π.getD (i-nid) 0)else J.cap i,
    fun i=>if i<nid then J.adr i else if i<nid+π.length then ρ1.adr (π.getD (i-nid) 0)else J.adr i,fun i=>if i<nid then J.sa i else if i<nid+π.length then ρ1.sa (π.getD (i-nid) 0)else J.sa i,
    fun i=>if i<nid then J.sn i else if i<nid+π.length then ρ1.sn (π.getD (i-nid) 0)else J.sn i,fun i=>if i<nid then J.ob i else if i<nid+π.length then ρ1.ob (π.getD (i-nid) 0)else J.ob i⟩
   have hvia:Env.via (idxOf π nid) ρ1 ρ':=by
    intro p i hp;obtain⟨a1,a2,a3⟩:=gP hp;have:π.getD (i-nid) 0=p:=by simp[Xt,a3]
    simp[ρ',Xu (show¬i<nid by omega),Xv a2,a3]
   have hat:∀k,k<(new nid).length->∃p,π[k]? =some p/\idxOf π nid p=some (nid+k):=fun k hk=>by
    have hk':k<π.length:=by omega
    exact⟨π[k],by simp[hk'],mC π nid k hnd (by simp[hk'])⟩
   have hNN:∀p i,idxOf π nid p=some i->known r p->K i\/fresh nid (new nid).length i:=fun p i hp _=>by
    obtain⟨a1,a2,a3⟩:=gP hp;exact .inr ⟨a1,by omega⟩
   refine⟨ρ',⟨⟨g1.os,g1.tape,g1.output,g1.old,fun b hb=>g1.same b hb (by simp)⟩,fun i hi=>?_,fun k=>fps1 (π.getD k 0),fun k hk=>?_,fun k l b hk hl hne=>?_⟩,?_,?_⟩
   ·have:¬(nid<=i/\i<nid+π.length):=fun⟨a,b⟩=>hi ⟨a,by omega⟩
    by_cases hlt:i<nid
    ·simp[ρ',Xv hlt]
    ·simp[ρ',Xu hlt,Xu (show¬i<nid+π.length by omega)]
   ·obtain⟨p,p1,p2⟩:=hat k hk;obtain⟨m1,m2,m3⟩:=l2 k p p1;have hgd:π.getD k 0=p:=by simp[Xt,p1]
    simp only[hgd];refine⟨?_,fun b hb=>⟨?_,g1.lt p b m1 hb⟩⟩
    ·rw[m3];exact g9 hvia hNN p2 _ _ _ (kx m2 (g1.holds p m1))
    ·refine Nat.le_of_not_lt fun hlt=>?_
     exact g1.inF p b m1 hb hlt
   ·obtain⟨p,p1,p2⟩:=hat k hk;obtain⟨p',p1',p2'⟩:=hat l hl;have hgd:π.getD k 0=p:=by simp[Xt,p1]
    have hgd':π.getD l 0=p':=by simp[Xt,p1']
    simp only[hgd,hgd']
    have hpp:p≠p':=by
     rintro rfl
     rw[p2]at p2';simp at p2';omega
    exact g1.disj p p' b (l2 k p p1).1 (l2 l p' p1').1 hpp
   ·exact(jB hvia hNN _ _ n1).1.symm
   ·exact(jB hvia hNN _ _ n1).2.1 g3
  ·exact hF.elim
 ·intro k hk;exact BL (hy nid) k hk
end Go.Sx
namespace Go.Sx
open Go.RowKit (Below)
structure Arg (α:Type) where
 rd:List aA->V->Option (List (Nat×aA)×α)
 cn:α->Nat->V
 pl:α->List aA
structure mh (α:Type) where
 rd:List aA->List V->Option (List (Nat×aA)×α)
 cn:α->Nat->List V
 pl:α->List aA
def lg {α:Type} (A:Arg α):Prop:=∀res v pls a,A.rd res v=some (pls,a)->pls.map (·.2)=A.pl a/\(∀p∈pls,oy res p.1 p.2/\qq p.2=true)/\bR (A.cn a 0)=bR v/\(∀n,bR (A.cn a n)=bR (A.cn a 0))/\
 ∀(pre post:List (Nat×aA)),(∀J K,ok K v->den (J.pull (qK (pre++(pls++post)))) (A.cn a pre.length)=den J v)/\∀K,ok K v->ok (known (qk (pre++(pls++post)))) (A.cn a pre.length)
def iO {α:Type} (A:mh α):Prop:=∀res l pls a,A.rd res l=some (pls,a)->pls.map (·.2)=A.pl a/\(∀p∈pls,oy res p.1 p.2/\qq p.2=true)/\(ra l->∀n,ra (A.cn a n))/\
 ∀(pre post:List (Nat×aA)),(∀J K,eM K l->bc (J.pull (qK (pre++(pls++post)))) (A.cn a pre.length)=bc J l/\aU (J.pull (qK (pre++(pls++post)))) (A.cn a pre.length)=aU J l)/\∀K,eM K l->eM (known (qk (pre++(pls++post)))) (A.cn a pre.length)
def kz:mh Unit:=⟨fun _ l=>match l with| []=>some ([],())|_=>none,fun _ _=> [],fun _=> []⟩
def bE {α β:Type} (A:Arg α) (B:mh β):mh (α×β):=
 ⟨fun res l=>match l with
  |v::l=>match A.rd res v with
   |some (p,a)=>match B.rd res l with
    |some (q,b)=>some (p++q,(a,b))
    |none=>none
   |none=>none
  | []=>none,fun x n=>A.cn x.1 n::B.cn x.2 (n+(A.pl x.1).length),fun x=>A.pl x.1++B.pl x.2⟩
def BW {α:Type} (r:V->Option α) (m:α->V):Arg α:=⟨fun _ v=>match r v with|some x=>some ([],x)|none=>none,fun x _=>m x,fun _=> []⟩
def Vd (t e:Nat):Arg (Option (List Obj)):=
 ⟨fun res v=>match rS t e res v with
  |some (o,L)=>match o with
   |none=>some ([],none)
   |some k=>some ([(k,.store t e L)],some L)
  |none=>none,fun o n=>match o with|none=>gJ|some _=> .lp n 0,fun o=>match o with|none=> []|some L=> [.store t e L]⟩
def Vy:Arg (List Obj):=
 ⟨fun res v=>match rA res v with
  |some (k,L)=>some ([(k,.arr none 163 (.ob L))],L)
  |none=>none,fun _ n=> .sa n,fun L=> [.arr none 163 (.ob L)]⟩
def Vv {α:Type} (esz:Nat) (r:TL->Option α) (m:α->TL):Arg α:=
 ⟨fun res v=>match v with
  | .sa k=>match cR res k with
    | .arr _ e l=>if e==esz then match r l with
      |some x=>some ([(k,.arr none esz (m x))],x)
      |none=>none
      else none
    |_=>none
  |_=>none,fun _ n=> .sa n,fun x=> [.arr none esz (m x)]⟩
def Tg {α:Type} (B:mh α):Arg α:=
 ⟨fun res v=>match v with
  | .ag l=>B.rd res l
  |_=>none,fun x n=> .ag (B.cn x n),B.pl⟩
theorem wL {pre pls post:List (Nat×aA)} {k:Nat} {r:aA}:qK (pre++((k,r)::pls++post)) pre.length=k:=sX _ _ (k,r) (by simp)
theorem um {pre pls post:List (Nat×aA)} {k:Nat} {r:aA}:known (qk (pre++((k,r)::pls++post))) pre.length:=by
 unfold known;rw[vE];simp
theorem dM:iO kz:=by
 intro res l pls a h;simp only[kz]at h;split at h<;>simp only[Xm,Xn,reduceCtorEq]at h
 obtain⟨rfl,_⟩:=h;exact⟨rfl,by simp,fun _ _=>trivial,fun pre post=>⟨fun _ _ _=>⟨rfl,rfl⟩,fun _ _=>trivial⟩⟩
theorem aM {α β:Type} {A:Arg α} {B:mh β} (hA:lg A) (hB:iO B):iO (bE A B):=by
 intro res l pls x h;simp only[bE]at h;split at h
 case h_2=>simp at h
 rename_i v l;split at h
 case h_2=>simp at h
 rename_i p a ha;split at h
 case h_2=>simp at h
 rename_i q b hb;simp only[Xm,Xn]at h;obtain⟨rfl,rfl⟩:=h;obtain⟨a1,a2,a3,a3',a4⟩:=hA _ _ _ _ ha;obtain⟨b1,b2,b3,b4⟩:=hB _ _ _ _ hb;refine⟨by simp[bE,a1,b1],fun p' hp'=>?_,fun hc n=>?_,fun pre post=>?_⟩
 ·rcases List.mem_append.1 hp' with hp'|hp'
  ·exact a2 p' hp'
  ·exact b2 p' hp'
 ·rw[cM]at hc⊢;intro z hz;simp only[bE]at hz;rcases List.mem_cons.1 hz with rfl|hz
  ·rw[a3',a3];exact hc v (by simp)
  ·exact(cM _).1 (b3 ((cM _).2 fun y hy=>hc y (by simp[hy])) _) z hz
 ·have hlen:(A.pl a).length=p.length:=by rw[<-a1];simp
  obtain⟨c1,c2⟩:=a4 pre (q++post);obtain⟨d1,d2⟩:=b4 (pre++p) post;have e1:pre++(p++q++post)=pre++(p++(q++post)):=by simp
  have e2:(pre++p)++(q++post)=pre++(p++(q++post)):=by simp
  have e3:(pre++p).length=pre.length+(A.pl a).length:=by simp[hlen]
  rw[e2,e3]at d1 d2;rw[e1];refine⟨fun J K hK=>?_,fun K hK=>?_⟩
  ·obtain⟨f1,f2⟩:=d1 J K hK.2;have f3:=c1 J K hK.1;simp only[bE];exact⟨by simp only[bc];rw[f3,f1],by simp only[aU];rw[f3,f2]⟩
  ·exact⟨c2 K hK.1,d2 K hK.2⟩
theorem qm {α:Type} {r:V->Option α} {m:α->V} (hr:rH r m) (hid:∀x,jJ (m x)=true) (ht:∀v x,r v=some x->bR v=bR (m x)):lg (BW r m):=by
 intro res v pls a h;simp only[BW]at h;split at h<;>simp only[Xm,Xn,reduceCtorEq]at h
 rename_i x hx;obtain⟨rfl,rfl⟩:=h;obtain⟨b1,b2⟩:=hr _ x hx;refine⟨rfl,by simp,(ht v x hx).symm,fun _=>rfl,fun pre post=>⟨fun J K hK=>?_,fun K hK=>ff (b2 K hK)⟩⟩
 show den _ (m x)=_
 rw[b1 J];exact qd (hid x) (b2 K hK) J _
theorem QO (t e:Nat):lg (Vd t e):=by
 intro res v pls a h;simp only[Vd]at h;split at h
 case h_2=>simp at h
 rename_i o L hs;rcases qI hs with⟨rfl,rfl,rfl⟩|⟨k,rfl,rfl,hse⟩<;>simp only[Xm,Xn]at h<;>obtain⟨rfl,rfl⟩:=h
 ·exact⟨rfl,by simp,rfl,fun _=>rfl,fun pre post=>⟨fun _ _ _=>rfl,fun _ _=>rfl⟩⟩
 ·refine⟨rfl,by simpa using⟨hse,rfl⟩,rfl,fun _=>rfl,fun pre post=>⟨fun J K hK=>?_,fun K hK=>um (pls:= [])⟩⟩
  simp only[Vd,den,Env.pull];rw[wL (pls:= [])]
theorem RN:lg Vy:=by
 intro res v pls a h;simp only[Vy]at h;split at h<;>simp only[Xm,Xn,reduceCtorEq]at h
 rename_i k L hs;obtain⟨rfl,rfl⟩:=h;obtain⟨rfl,hse,_⟩:=Em hs;refine⟨rfl,by simpa using⟨hse,rfl⟩,rfl,fun _=>rfl,fun pre post=>⟨fun J K hK=>?_,fun K hK=>um (pls:= [])⟩⟩
 simp only[Vy,den,Env.pull];rw[wL (pls:= [])]
theorem S7 {α:Type} {esz:Nat} {r:TL->Option α} {m:α->TL} (hr:∀l x,r l=some x->l=m x):lg (Vv esz r m):=by
 intro res v pls a h;simp only[Vv]at h;split at h
 case h_2=>simp at h
 rename_i k;split at h
 case h_2=>simp at h
 rename_i own e l hl;split at h
 case isFalse=>simp at h
 rename_i he;have he:=Xq.1 he;subst he;split at h<;>simp only[Xm,Xn,reduceCtorEq]at h
 rename_i x hx;obtain⟨rfl,rfl⟩:=h;have:=hr _ _ hx;subst this;refine⟨rfl,by simpa using⟨oy.arr hl,rfl⟩,rfl,fun _=>rfl,fun pre post=>⟨fun J K hK=>?_,fun K hK=>um (pls:= [])⟩⟩
 simp only[Vv,den,Env.pull];rw[wL (pls:= [])]
theorem Dg {α:Type} {B:mh α} (hB:iO B):lg (Tg B):=by
 intro res v pls a h;simp only[Tg]at h;split at h
 case h_2=>simp at h
 rename_i l;obtain⟨b1,b2,b3,b4⟩:=hB _ _ _ _ h;refine⟨b1,b2,rfl,fun _=>rfl,fun pre post=>?_⟩
 obtain⟨c1,c2⟩:=b4 pre post;refine⟨fun J K hK=>?_,fun K hK=>⟨c2 K hK.1,b3 hK.2 _⟩⟩
 simp only[Tg,den];rw[(c1 J K hK.1).2]
def CP {α:Type} (B:mh α) (Q:α->Option Prop) (F:α->V):Ct:=fun res _ xs=>match B.rd res xs with
 |some (_,a)=>some (Q a,F a,[])
 |none=>none
def oQ (l:List aA):List aA:=l.map .ro
theorem JM (pls:List (Nat×aA)):qk pls=oQ (pls.map (·.2)):=by
 induction pls with
 |nil=>rfl
 |cons p l ih=>obtain⟨p,r⟩:=p;simp[qk,oQ,ih]
theorem jT {P:Program} {f:Nat} {α:Type} {B:mh α} {Q:α->Option Prop} {F:α->V} (hB:iO B) (hF:∀a,jJ (F a)=true)
  (h:∀a,dv (Q a)->eM (known (oQ (B.pl a))) (B.cn a 0)->aj P f (B.cn a 0) (oQ (B.pl a)) (oR (F a)) (fun _ _=>False)):cV P f (CP B Q F):=by
 refine r9 fun res nid args q x new hg=>?_
 unfold CP at hg;split at hg<;>simp only[Xm,Xn,reduceCtorEq]at hg
 rename_i pls a ha;obtain⟨rfl,rfl,rfl⟩:=hg;obtain⟨b1,b2,_,b4⟩:=hB _ _ _ _ ha;obtain⟨c1,c2⟩:=b4 [] [];simp only[List.nil_append,List.append_nil,List.length_nil]at c1 c2;refine⟨rfl,hF a,pls,B.cn a 0,b2,fun J K hK=>(c1 J K hK).1,c2,fun hq hok=>?_⟩
 rw[JM,b1]at hok⊢;exact(h a hq hok).mono (fun _ _=>cK) fun _ _ h=>h
theorem MJ {J:Env} {fps:Nat->Nat->Prop} {res:List aA} {K:Nat->Prop} {w0 w:World} {F0:Nat->Prop} (hH:aW J fps res K w0 F0 w) {pls:List (Nat×aA)} (hcl:∀p∈pls,oy res p.1 p.2/\qq p.2=true):
  aW (J.pull (qK pls)) (fun _ _=>False) (qk pls) (known (qk pls)) w (fun _=>False) w:=by
 have hfr:∀b,b<w0.heap.size->¬F0 b->w.heap[b]? =w0.heap[b]? /\¬(fun _:Nat=>False) b:=fun b hb hF=>⟨hH.same b hb hF,fun h=>h⟩
 refine⟨fun i hi=>hi,Nat.le_refl _,rfl,rfl,rfl,fun i hi=>?_,fun i b hi h=>h.elim,fun i j b hi hj hne h=>h.elim,fun i b hi h=>h.elim,fun _ _ _=>rfl⟩
 have hlt:=aF hi;rw[rn]at hlt;have hp:pls[i]? =some pls[i]:=List.getElem?_eq_getElem hlt;generalize pls[i]=p at hp
 rw[vE,hp];simp only;obtain⟨hs,hcl⟩:=hcl p (List.mem_of_getElem? hp);obtain⟨fp,g1,g2⟩:=hs.2 J fps K w0 F0 w hH
 have hv:Env.via (fun x=>if x=p.1 then some i else none) J (J.pull (qK pls)):=tf fun x j hx=>by
  split at hx
  ·simp only[Xm]at hx;subst hx;rename_i e;subst e;exact sX pls i p hp
  ·simp at hx
 have:=g9 (N':=known (qk pls)) hv (fun x j hx _=>by
  split at hx
  ·simp only[Xm]at hx;subst hx;exact hi
  ·simp at hx) (p:=p.1) (i:=i) (by simp) _ _ _ (aA.tQ hH.old hfr _ _ g1)
 rw[sD hcl]at this;refine⟨fp,this,fun b hb=>⟨?_,fun h=>h⟩⟩
 rcases g2 b hb with⟨j,hj,hf⟩|⟨hl,_⟩
 ·exact hH.lt j b hj hf
 ·exact Nat.lt_of_lt_of_le hl hH.old
theorem DX {J ρ1:Env} {K:Nat->Prop} {fps1:Nat->Nat->Prop} {r:List aA} {w0 w w':World} {F0:Nat->Prop} {nid:Nat} {π:List Nat} {x:Nat->V} {new:Nat->List aA} {v:V} (hnd:π.Nodup)
  (g1:aW ρ1 fps1 r (known r) w (fun _=>False) w') (g3:ok (known r) v) (hN:yo π x new v r):pB K J nid (x nid) (new nid) w0 F0 w (den ρ1 v) w':=by
 obtain⟨n1,n2⟩:=hN nid;obtain⟨l1,l2⟩:=ua n2
 let ρ':Env:=⟨fun i=>if i<nid then J.num i else if i<nid+π.length then ρ1.num (π.getD (i-nid) 0)else J.num i,fun i=>if i<nid then J.cap i else if i<nid+π.length then ρ1.cap (π.getD (i-nid) 0)else J.cap i,
  fun i=>if i<nid then J.adr i else if i<nid+π.length then ρ1.adr (π.getD (i-nid) 0)else J.adr i,fun i=>if i<nid then J.sa i else if i<nid+π.length then ρ1.sa (π.getD (i-nid) 0)else J.sa i,
  fun i=>if i<nid then J.sn i else if i<nid+π.length then ρ1.sn (π.getD (i-nid) 0)else J.sn i,fun i=>if i<nid then J.ob i else if i<nid+π.length then ρ1.ob (π.getD (i-nid) 0)else J.ob i⟩
 have hvia:Env.via (idxOf π nid) ρ1 ρ':=by
  intro p i hp;obtain⟨a1,a2,a3⟩:=gP hp;simp[ρ',Xu (show¬i<nid by omega),Xv a2,a3]
 have hat:∀k,k<(new nid).length->∃p,π[k]? =some p/\idxOf π nid p=some (nid+k):=fun k hk=>by
  have hk':k<π.length:=by omega
  exact⟨π[k],by simp[hk'],mC π nid k hnd (by simp[hk'])⟩
 have hNN:∀p i,idxOf π nid p=some i->known r p->K i\/fresh nid (new nid).length i:=fun p i hp _=>by
  obtain⟨a1,a2,a3⟩:=gP hp;exact .inr ⟨a1,by omega⟩
 refine⟨ρ',⟨⟨g1.os,g1.tape,g1.output,g1.old,fun b hb=>g1.same b hb (by simp)⟩,fun i hi=>?_,fun k=>fps1 (π.getD k 0),fun k hk=>?_,fun k l b hk hl hne=>?_⟩,?_,?_⟩
 ·have:¬(nid<=i/\i<nid+π.length):=fun⟨a,b⟩=>hi ⟨a,by omega⟩
  by_cases hlt:i<nid
  ·simp[ρ',Xv hlt]
  ·simp[ρ',Xu hlt,Xu (show¬i<nid+π.length by omega)]
 ·obtain⟨p,p1,p2⟩:=hat k hk;obtain⟨m1,m2,m3⟩:=l2 k p p1;have hgd:π.getD k 0=p:=by simp[Xt,p1]
  simp only[hgd];refine⟨?_,fun b hb=>⟨?_,g1.lt p b m1 hb⟩⟩
  ·rw[m3];exact g9 hvia hNN p2 _ _ _ (kx m2 (g1.holds p m1))
  ·refine Nat.le_of_not_lt fun hlt=>?_
   exact g1.inF p b m1 hb hlt
 ·obtain⟨p,p1,p2⟩:=hat k hk;obtain⟨p',p1',p2'⟩:=hat l hl;have hgd:π.getD k 0=p:=by simp[Xt,p1]
  have hgd':π.getD l 0=p':=by simp[Xt,p1']
  simp only[hgd,hgd']
  have hpp:p≠p':=by
   rintro rfl
   rw[p2]at p2';simp at p2';omega
  exact g1.disj p p' b (l2 k p p1).1 (l2 l p' p1').1 hpp
 ·exact(jB hvia hNN _ _ n1).1.symm
 ·exact(jB hvia hNN _ _ n1).2.1 g3
theorem aj.E7 {P:Program} {f:Nat} {args:List V} {res:List aA} {x:V} {new:List aA} {K KP:V->List aA->Prop} (hy:∀k,k<new.length->ar new k≠ .yet)
  (h:∀J fps w0 F0 w,aW J fps res (known res) w0 F0 w->eM (known res) args->CallsIn (FF P none) 0 P f (bc J args).toArray w fun e w'=>∃v,e= .returned v/\pB (known res) J res.length x new w0 F0 w v w') (hK:K x (res++new)):aj P f args res K KP:=by
 intro J fps w0 F0 w hH hargs;refine(h J fps w0 F0 w hH hargs).mono fun e w' ⟨v,he,ρ',hg,hv,hx⟩=>?_
 have hfr':∀i,known res i->¬fresh res.length new.length i:=fun i hi hf=>by have:=aF hi;unfold fresh at hf;omega
 have hK':∀i,known res i\/fresh res.length new.length i->known (res++new) i:=by
  intro i hi;obtain⟨b1,b2,b3⟩:=jG res new;rcases hi with hi|⟨f1,f2⟩
  ·unfold known;rw[(b1 i hi).1];exact hi
  ·have:=b3 (i-res.length) (by omega)
   rw[show res.length+(i-res.length)=i by omega]at this
   unfold known;rw[this];exact hy _ (by omega)
 obtain⟨fps',g1,g2⟩:=hH.grow (res':=res++new) (jG _ _) hfr' hK' hg;exact⟨x,ρ',fps',res++new,g1,⟨g2,fun i hi=>hK' i (.inl hi)⟩,cN hK' _ hx,.inl ⟨by rw[he,hv],hK⟩⟩
def Ry {α:Type} (B:mh α) (Q:α->Prop) (c:α->Bool) (F0:α->V) (F1:α->Nat->V) (new:α->aA):ng:=fun args res K=>
 match B.rd res args with
 |some (_,a)=>Q a/\(c a=false->K (F0 a) res)/\(c a=true->K (F1 a res.length) (res++ [new a]))
 |none=>False
def SI (c:Bool) (x0:V) (F1:Nat->V) (new:aA) (p:Option Nat) (v:V) (r:List aA):Prop:=
 match p with
 |some p=>c=true/\yo [p] F1 (fun _=> [new]) v r
 |none=>c=false/\oR x0 v r
def Wd (v:V):Option Nat:=
 match v with
 | .sa p=>some p
 | .lp p _=>some p
 | .tp l=>match l with
   |x::_=>match x with
    | .sa p=>some p
    | .lp p _=>some p
    |_=>none
   | []=>none
 |_=>none
def GO (c:Bool) (x0:V) (F1:Nat->V) (new:aA) (v:V) (r:List aA):Prop:=SI c x0 F1 new (Wd v) v r
theorem IQ {P:Program} {f:Nat} {α:Type} {B:mh α} {Q:α->Prop} {c:α->Bool} {F0:α->V} {F1:α->Nat->V} {new:α->aA} (hB:iO B) (hF:∀a,jJ (F0 a)=true) (hn:∀a,new a≠ .yet)
  (h:∀a,Q a->eM (known (oQ (B.pl a))) (B.cn a 0)->aj P f (B.cn a 0) (oQ (B.pl a)) (GO (c a) (F0 a) (F1 a) (new a)) (fun _ _=>False)):oU P f (Ry B Q c F0 F1 new):=by
 intro args res K KP hh;unfold Ry at hh;split at hh
 case h_2=>exact hh.elim
 rename_i pls a ha;obtain⟨hQ,h0,h1⟩:=hh;obtain⟨b1,b2,_,b4⟩:=hB _ _ _ _ ha;obtain⟨c1,c2⟩:=b4 [] [];simp only[List.nil_append,List.append_nil,List.length_nil]at c1 c2;have hro:qk pls=oQ (B.pl a):=by rw[JM,b1]
 have main:∀J fps w0 F0' w,aW J fps res (known res) w0 F0' w->eM (known res) args->CallsIn (FF P none) 0 P f (bc J args).toArray w fun e w'=>∃v ρ1 fps1 r,e= .returned (den ρ1 v)/\aW ρ1 fps1 r (known r) w (fun _=>False) w'/\ok (known r) v/\GO (c a) (F0 a) (F1 a) (new a) v r:=by
  intro J fps w0 F0' w hH hargs;have hrep:=MJ hH b2;have hok:=c2 _ hargs;rw[hro]at hrep hok;rw[<-(c1 J _ hargs).1];refine(h a hQ hok _ _ _ _ _ hrep hok).mono fun e w' ⟨v,ρ1,fps1,r,g1,g2,g3,g4⟩=>?_
  rcases g4 with⟨rfl,hN⟩|⟨_,hF⟩
  ·exact⟨v,ρ1,fps1,r,rfl,g1,g3,hN⟩
  ·exact hF.elim
 cases hc:c a with
 |true=>
  refine aj.E7 (x:=F1 a res.length) (new:= [new a]) (fun k hk=>by simp at hk;subst hk;exact hn a) (fun J fps w0 F0' w hH hargs=>?_) (h1 hc)
  refine(main J fps w0 F0' w hH hargs).mono fun e w' ⟨v,ρ1,fps1,r,he,g1,g3,hv⟩=>?_
  unfold GO SI at hv;split at hv
  ·exact⟨_,he,DX (new:=fun _=> [new a]) (by simp) g1 g3 hv.2⟩
  ·rw[hc]at hv;simp at hv
 |false=>
  have h0':=h0 hc;rw[<-List.append_nil res]at h0';refine aj.E7 (x:=F0 a) (new:= []) (fun k hk=>by simp at hk) (fun J fps w0 F0' w hH hargs=>?_) h0'
  refine(main J fps w0 F0' w hH hargs).mono fun e w' ⟨v,ρ1,fps1,r,he,g1,g3,hv⟩=>?_
  unfold GO SI at hv;split at hv
  ·rw[hc]at hv;simp at hv
  ·refine⟨_,he,J,⟨⟨g1.os,g1.tape,g1.output,g1.old,fun b hb=>g1.same b hb (fun h=>h)⟩,Env.aZ.refl _ _,fun _ _=>False,fun k hk=>by simp at hk,fun k l b hk=>by simp at hk⟩,?_,?_⟩
   ·obtain⟨e1,e2,_⟩:=cK hv.2 ρ1 (known r);rw[e1];exact qd (hF a) (e2 g3) J ρ1
   ·obtain⟨e1,e2,_⟩:=cK hv.2 ρ1 (known r);exact oB _ (hF a) (e2 g3)
end Go.Sx
namespace Go.Sx
open Go.RowKit (Below)
end Go.Sx
