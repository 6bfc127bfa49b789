import Derived.Test.YtmfbohanboiklaaCfg
set_option linter.unusedSimpArgs false
set_option linter.unusedVariables false
namespace Go.Sx
open Go.RowKit (Below)
abbrev Ct:=List ai->Nat->List V->RR
def bV (P:Program) (f:Nat) (g:Ct):Prop:=
 ∀J fps res K w0 F0 w nid args q x new,aw J fps res K w0 F0 w->cq K args->g res nid args=some (q,x,new)->aX q->
  (∀k,k<new.length->¬K (nid+k))->
  (CallsIn (FF P none) 0 P f (aD J args).toArray w fun e w'=>∃v,e= .returned v/\ma K J nid x new w0 F0 w v w')/\∀k,k<new.length->ae new k≠ .yet
def mC:List (Nat×Ct)->Nat->Option Ct
 | [],_=>none
 | (g,c)::l,f=>if f==g then some c else mC l f
theorem kH {P:Program}:∀{l:List (Nat×Ct)},(∀p∈l,bV P p.1 p.2)->∀f g,mC l f=some g->bV P f g
 | [],_,f,g,h=>by simp[mC]at h
 | (k,c)::l,hl,f,g,h=>by
   simp only[mC]at h;split at h
   ·simp_all
   ·exact kH (fun p hp=>hl p (by simp[hp])) f g h
mutual
def gL:V->Bool
 | .lp _ _=>false
 | .lx _ _ _ _ _ _=>false
 | .sc _ _ _=>false
 | .so _ _=>false
 | .ap _ _ _ _=>false
 | .ax _ _ _ _ _ _ _ _=>false
 | .sa _=>false
 | .op _ _=>false
 | .yl _=>false
 | .mp _=>false
 | .ch _ _ _ _=>false
 | .bs _ _ _=>false
 | .ks _ _ _ _ _| .vw _ _ _ _=>false
 | .fn _ l=>jy l
 | .ic _ x=>gL x
 | .ag l=>jy l
 | .tp l=>jy l
 |_=>true
def jy:List V->Bool
 | []=>true
 |x::l=>gL x&&jy l
end
mutual
theorem jm {K K':Nat->Prop}:∀v,gL v=true->ok K v->ok K' v
 | .lp _ _,h,_| .lx _ _ _ _ _ _,h,_| .sc _ _ _,h,_| .so _ _,h,_| .ap _ _ _ _,h,_| .sa _,h,_| .op _ _,h,_| .yl _,h,_| .mp _,h,_| .ch _ _ _ _,h,_| .ax _ _ _ _ _ _ _ _,h,_| .bs _ _ _,h,_| .ks _ _ _ _ _,h,_| .vw _ _ _ _,h,_=>by simp[gL]at h
 | .fn _ l,h,hk=>kb l h hk
 | .ic _ x,h,hk=>jm x h hk
 | .ag l,h,hk=>⟨kb l h hk.1,hk.2⟩
 | .tp l,h,hk=>kb l h hk
 | .cb _,_,hk| .bo _,_,hk| .ci _ _,_,hk| .it _ _,_,hk| .bt _,_,hk| .st _,_,hk| .nl _,_,hk| .key _,_,hk| .sl _,_,hk| .by _,_,hk| .ob _,_,hk=>hk
theorem kb {K K':Nat->Prop}:∀l,jy l=true->cq K l->cq K' l
 | [],_,_=>trivial
 |x::l,h,hk=>by
  simp only[jy,N3]at h;exact⟨jm x h.1 hk.1,kb l h.2 hk.2⟩
end
theorem jW {K:Nat->Prop} {v:V} (h:gL v=true) (hk:ok K v) (J ρ':Env):den ρ' v=den J v:=
 cI (N:=fun _=>False) (fun _ h=>h.elim) v (jm v h hk)
def pW (v:V) (v':V) (_:List ai):Prop:=
 match pZ v' v with
 |some l=>dB l
 |none=>False
def tJ (x v:V) (_:List ai):Prop:=∀J K,oJ J K v x
theorem cK {x v:V} {r:List ai} (h:pW x v r):tJ x v r:=by
 unfold pW at h;split at h
 ·rename_i l hl;exact fun J K=>mb J K _ _ l hl h
 ·exact h.elim
theorem aj.mono {P:Program} {f:Nat} {args:List V} {res:List ai} {K K' KP KP':V->List ai->Prop} (h:aj P f args res K KP) (hK:∀v r,K v r->K' v r) (hP:∀v r,KP v r->KP' v r):
  aj P f args res K' KP':=by
 intro J fps w0 F0 w hH ha;refine(h J fps w0 F0 w hH ha).mono fun e w' ⟨x,ρ',fps',res',g1,g2,g3,g4⟩=>⟨x,ρ',fps',res',g1,g2,g3,?_⟩
 rcases g4 with⟨e1,e2⟩|⟨e1,e2⟩
 ·exact .inl ⟨e1,hK _ _ e2⟩
 ·exact .inr ⟨e1,hP _ _ e2⟩
def L2 (l m:List V):Prop:=(∀J,aD J l=aD J m)/\∀K,cq K l->cq (fun _=>False) m
theorem pb {P:Program} {f:Nat} {g:Ct} (h:∀res nid args q x new,g res nid args=some (q,x,new)->new= []/\gL x=true/\
  ∃args',L2 args args'/\(aX q->cq (fun _=>False) args'->aj P f args' [] (tJ x) (fun _ _=>False))):bV P f g:=by
 intro J fps res K w0 F0 w nid args q x new hH hargs hg hq hfr;obtain⟨rfl,hid,args',⟨s1,s2⟩,hc⟩:=h res nid args q x new hg;refine⟨?_,fun k hk=>by simp at hk⟩
 have hok:=s2 K hargs
 have hrep:aw J (fun _ _=>False) [] (known []) w (fun _=>False) w:=
  ⟨fun i hi=>hi,Nat.le_refl _,rfl,rfl,rfl,fun i hi=>by simp[known,ae]at hi,fun i b hi=>by simp[known,ae]at hi,fun i j b hi=>by simp[known,ae]at hi,fun i b hi=>by simp[known,ae]at hi,fun _ _ _=>rfl⟩
 have hcall:=hc hq hok J (fun _ _=>False) w (fun _=>False) w hrep (by rw[dM]at hok⊢;exact fun z hz=>dc (hok z hz))
 rw[s1 J];refine hcall.mono fun e w' ⟨y,ρ',fps',res',g1,g2,g3,g4⟩=>?_
 rcases g4 with⟨rfl,hK⟩|⟨_,hK⟩
 ·refine⟨_,rfl,J,?_,?_,?_⟩
  ·have hb:Below w.heap.size w w':=by
    refine⟨g1.os,g1.tape,g1.output,g1.old,fun b hb=>g1.same b hb (fun h=>h)⟩
   exact⟨hb,Env.agree.refl _ _,fun _ _=>False,fun k hk=>by simp at hk,fun k l b hk=>by simp at hk⟩
  ·obtain⟨e1,e2,_⟩:=hK ρ' (known res');rw[e1];exact jW hid (e2 g3) J ρ'
  ·obtain⟨e1,e2,_⟩:=hK ρ' (known res');exact jm x hid (e2 g3)
 ·exact hK.elim
def nM {α:Type} (r:V->Option α) (m:α->V):Prop:=∀v x,r v=some x->(∀J,den J v=den J (m x))/\∀K,ok K v->ok (fun _=>False) (m x)
def rI (k:IntKind) (v:V):Option Int:=
 match toInt v with
 |some (k',n)=>if k==k' then some n else none
 |none=>none
def rK (v:V):Option Key:=
 match v with
 | .key k=>some k
 | .ag l=>match l with
   | [a,b,c,d,e,f]=>match rI .i64 a with
     |some a=>match rI .i64 b with
      |some b=>match rI .i64 c with
       |some c=>match rI .i64 d with
        |some d=>match rI .i64 e with
         |some e=>match rI .i64 f with
          |some f=>some ⟨a,b,c,d,e,f⟩
          |none=>none
         |none=>none
        |none=>none
       |none=>none
      |none=>none
     |none=>none
   |_=>none
 |_=>none
def rO:V->Option Obj
 | .ob o=>some o
 |_=>none
theorem EI:nM toBool V.bo:=by
 intro v x h;cases v<;>simp[toBool]at h<;>subst h<;>exact⟨fun _=>rfl,fun _ _=>trivial⟩
theorem fR (k:IntKind):nM (rI k) (V.it k):=by
 intro v x h;unfold rI at h;cases v<;>simp[toInt]at h<;>obtain⟨rfl,rfl⟩:=h
 ·exact⟨fun _=>rfl,fun _ hk=>hk⟩
 ·exact⟨fun _=>rfl,fun _ hk=>hk⟩
 ·rename_i b;refine⟨fun _=>rfl,fun _ _=>?_⟩
  have:=b.toNat_lt;simp only[ok,bG,FP];omega
theorem fL:nM rK V.key:=by
 intro v x h;unfold rK at h;split at h
 ·simp only[N1]at h;subst h;exact⟨fun _=>rfl,fun _ hk=>hk⟩
 ·split at h
  case h_2=>simp at h
  split at h<;>try(simp at h;done)
  rename_i h1;split at h<;>try(simp at h;done)
  rename_i h2;split at h<;>try(simp at h;done)
  rename_i h3;split at h<;>try(simp at h;done)
  rename_i h4;split at h<;>try(simp at h;done)
  rename_i h5;split at h<;>simp only[N1,reduceCtorEq]at h
  rename_i h6;subst h;have e1:=fR .i64 _ _ h1;have e2:=fR .i64 _ _ h2;have e3:=fR .i64 _ _ h3;have e4:=fR .i64 _ _ h4;have e5:=fR .i64 _ _ h5;have e6:=fR .i64 _ _ h6;refine⟨fun J=>?_,fun K hK=>?_⟩
  ·simp only[den,az,e1.1 J,e2.1 J,e3.1 J,e4.1 J,e5.1 J,e6.1 J];rfl
  ·obtain⟨⟨k1,k2,k3,k4,k5,k6,_⟩,_⟩:=hK;exact⟨e1.2 K k1,e2.2 K k2,e3.2 K k3,e4.2 K k4,e5.2 K k5,e6.2 K k6⟩
 ·simp at h
theorem K4 {v:V} {x:Key} (h:rK v=some x):a8 v=false:=by
 cases v<;>first|rfl|simp[rK]at h
theorem uV:nM rO V.ob:=by
 intro v x h;cases v<;>simp[rO]at h<;>subst h<;>exact⟨fun _=>rfl,fun _ hk=>hk⟩
def KT (F:V):Ct:=fun _ _ xs=>match xs with
 | []=>some (none,F,[])
 |_=>none
def FM {α:Type} (r:V->Option α) (F:α->V):Ct:=fun _ _ xs=>match xs with
 | [a]=>match r a with
   |some x=>some (none,F x,[])
   |none=>none
 |_=>none
def Jr {α β:Type} (r:V->Option α) (s:V->Option β) (F:α->β->V):Ct:=fun _ _ xs=>match xs with
 | [a,b]=>match r a,s b with
   |some x,some y=>some (none,F x y,[])
   |_,_=>none
 |_=>none
def MA {α β γ:Type} (r:V->Option α) (s:V->Option β) (t:V->Option γ) (F:α->β->γ->V):Ct:=fun _ _ xs=>match xs with
 | [a,b,c]=>match r a,s b,t c with
   |some x,some y,some z=>some (none,F x y z,[])
   |_,_,_=>none
 |_=>none
theorem Jh {P:Program} {f:Nat} {F:V} (hF:gL F=true) (h:aj P f [] [] (pW F) (fun _ _=>False)):bV P f (KT F):=by
 refine pb fun res nid args q x new hg=>?_
 unfold KT at hg;split at hg<;>simp only[N1,N2,reduceCtorEq]at hg
 obtain⟨rfl,rfl,rfl⟩:=hg;exact⟨rfl,hF,[],⟨fun _=>rfl,fun _ _=>trivial⟩,fun _ _=>h.mono (fun _ _=>cK) fun _ _ h=>h⟩
theorem Jp {P:Program} {f:Nat} {F:V} (hF:gL F=true) (h:aj P f [] [] (fun v _=>v=F) (fun _ _=>False)):bV P f (KT F):=by
 refine pb fun res nid args q x new hg=>?_
 unfold KT at hg;split at hg<;>simp only[N1,N2,reduceCtorEq]at hg
 obtain⟨rfl,rfl,rfl⟩:=hg;exact⟨rfl,hF,[],⟨fun _=>rfl,fun _ _=>trivial⟩,fun _ _=>h.mono (fun v _ e=>by subst e;exact fun J K=>oJ.refl J K v) fun _ _ h=>h⟩
theorem km {P:Program} {f:Nat} {α:Type} {r:V->Option α} {m:α->V} {F:α->V} (hr:nM r m) (hF:∀x,gL (F x)=true)
  (h:∀x,ok (fun _=>False) (m x)->aj P f [m x] [] (pW (F x)) (fun _ _=>False)):bV P f (FM r F):=by
 refine pb fun res nid args q x new hg=>?_
 unfold FM at hg;split at hg<;>(try split at hg)<;>simp only[N1,N2,reduceCtorEq]at hg
 rename_i a x h1;obtain⟨rfl,rfl,rfl⟩:=hg;obtain⟨a1,a2⟩:=hr _ x h1;exact⟨rfl,hF x,[m x],⟨fun J=>by simp[aD,a1 J],fun K hK=>⟨a2 K hK.1,trivial⟩⟩,fun _ hok=>(h x hok.1).mono (fun _ _=>cK) fun _ _ h=>h⟩
theorem lh {P:Program} {f:Nat} {α β:Type} {r:V->Option α} {s:V->Option β} {m:α->V} {n:β->V} {F:α->β->V} (hr:nM r m) (hs:nM s n) (hF:∀x y,gL (F x y)=true)
  (h:∀x y,ok (fun _=>False) (m x)->ok (fun _=>False) (n y)->aj P f [m x,n y] [] (pW (F x y)) (fun _ _=>False)):bV P f (Jr r s F):=by
 refine pb fun res nid args q x new hg=>?_
 unfold Jr at hg;split at hg<;>(try split at hg)<;>simp only[N1,N2,reduceCtorEq]at hg
 rename_i a b x y h1 h2;obtain⟨rfl,rfl,rfl⟩:=hg;obtain⟨a1,a2⟩:=hr _ x h1;obtain⟨b1,b2⟩:=hs _ y h2;exact⟨rfl,hF x y,[m x,n y],⟨fun J=>by simp[aD,a1 J,b1 J],fun K hK=>⟨a2 K hK.1,b2 K hK.2.1,trivial⟩⟩,fun _ hok=>(h x y hok.1 hok.2.1).mono (fun _ _=>cK) fun _ _ h=>h⟩
theorem Kt {P:Program} {f:Nat} {α β γ:Type} {r:V->Option α} {s:V->Option β} {t:V->Option γ} {m:α->V} {n:β->V} {o:γ->V} {F:α->β->γ->V} (hr:nM r m) (hs:nM s n) (ht:nM t o)
  (hF:∀x y z,gL (F x y z)=true)
  (h:∀x y z,ok (fun _=>False) (m x)->ok (fun _=>False) (n y)->ok (fun _=>False) (o z)->aj P f [m x,n y,o z] [] (pW (F x y z)) (fun _ _=>False)):bV P f (MA r s t F):=by
 refine pb fun res nid args q x new hg=>?_
 unfold MA at hg;split at hg<;>(try split at hg)<;>simp only[N1,N2,reduceCtorEq]at hg
 rename_i a b c x y z h1 h2 h3;obtain⟨rfl,rfl,rfl⟩:=hg;obtain⟨a1,a2⟩:=hr _ x h1;obtain⟨b1,b2⟩:=hs _ y h2;obtain⟨c1,c2⟩:=ht _ z h3;exact⟨rfl,hF x y z,[m x,n y,o z],⟨fun J=>by simp[aD,a1 J,b1 J,c1 J],fun K hK=>⟨a2 K hK.1,b2 K hK.2.1,c2 K hK.2.2.1,trivial⟩⟩,fun _ hok=>(h x y z hok.1 hok.2.1 hok.2.2.1).mono (fun _ _=>cK) fun _ _ h=>h⟩
def NF:List Nat->Nat->Bool
 | [],_=>false
 |x::l,i=>x==i||NF l i
def Ly:List (Nat×V)->Nat->Option V
 | [],_=>none
 | (j,v)::l,i=>if j==i then some v else Ly l i
def z7 (eZ:List Nat) (set:List (Nat×V)):Nat->List S->List S
 |_,[]=> []
 |i,s::l=>(match Ly set i with
  |some v=> .v v
  |none=>if NF eZ i then s else .und)::z7 eZ set (i+1) l
def Nw (eZ:List Nat) (t:Nat) (inv:Int->Prop) (m:Int):bx:=
 {γ:=Int,head:=fun U g=> {U with slots:=z7 eZ [(t,.it .i64 g)] 0 U.slots},inv:=inv,μ:=fun g=>gm (lu m g)}
def FL (eZ:List Nat) (set:Int->List (Nat×V)) (inv:Int->Prop) (m:Int):bx:=
 {γ:=Int,head:=fun U g=> {U with slots:=z7 eZ (set g) 0 U.slots},inv:=inv,μ:=fun g=>gm (lu m g)}
def jM:List (Nat×Nat×bx)->Nat->Nat->Option bx
 | [],_,_=>none
 | (f,r,A)::l,f',r'=>if f==f'&&r==r' then some A else jM l f' r'
def bW (_ _:Nat):Option bx:=none
def bz (_:Nat):Bool:=false
def NT:Handler:=fun _ _ _ _ _=>False
end Go.Sx
namespace Go.Proofs.Ytmfbohanboiklaa
open Go.Sx
noncomputable def cf (l:List (Nat×Ct)) (inl:Nat->Bool) (ann:Nat->Nat->Option bx):Cw:= {P:=Try.prog,Z:=zeroOf,Γ:=mC l,H0:=NT,inl:=inl,ann:=ann,opn:=IC inl}
theorem Ek {l:List (Nat×Ct)} {inl:Nat->Bool} {ann:Nat->Nat->Option bx} (hl:∀p∈l,bV Try.prog p.1 p.2):(cf l inl ann).toCtx.Sound:=
 ⟨FB uQ,Try.checked.mixed,fun f g hg=>kH hl f g hg,fun f ts te h=>by simp[cf]at h⟩
abbrev vc (l:List (Nat×Ct)) (inl:Nat->Bool) (ann:Nat->Nat->Option bx) (f:Nat) (args:List V) (res:List ai) (K KP:V->List ai->Prop):Prop:=
 enter (cf l inl ann).toCtx (exec (cf l inl ann) 100 ⟨false,none⟩) (exec (cf l inl ann) 100 ⟨false,none⟩ f) f args res K KP
set_option maxRecDepth 100000 in
theorem aL {l:List (Nat×Ct)} {inl:Nat->Bool} {ann:Nat->Nat->Option bx} (hl:∀p∈l,bV Try.prog p.1 p.2) {f:Nat} {args:List V} {res:List ai} {K KP:V->List ai->Prop}
  {G:Prop} (hG:G) (h:G=vc l inl ann f args res K KP):aj Try.prog f args res K KP:=
 AX (C:=cf l inl ann) (n:=100) (Ek hl) (fun _ _ _ _ _ hh=>hh.elim) (Eq.mp h hG)
end Go.Proofs.Ytmfbohanboiklaa
namespace Go.Sx
theorem aB {P:Program}:∀p∈([]:List (Nat×Ct)),bV P p.1 p.2:=by simp
theorem an {P:Program} {f:Nat} {g:Ct} {l:List (Nat×Ct)} (h:bV P f g) (t:∀p∈l,bV P p.1 p.2):∀p∈(f,g)::l,bV P p.1 p.2:=by
 simp_all
end Go.Sx
namespace Go.Sx
open Go.RowKit (Below)
theorem aw.tM {J:Env} {fps:Nat->Nat->Prop} {res:List ai} {K:Nat->Prop} {w0:World} {F0:Nat->Prop} {w:World} (h:aw J fps res K w0 F0 w) {i:Nat} {r:ai}
  (hr:br res i=r) (hk:known res i):∃fp:Nat->Prop,r.holds K J i fp w0 F0 w/\∀b,fp b->fps i b\/(b<w0.heap.size/\¬F0 b):=by
 have hh:=h.holds i hk;unfold br at hr;split at hr
 ·rename_i r' he;rw[he]at hh;subst hr;obtain⟨fp',h1,h2⟩:=hh;exact⟨fp',ai.cy _ h1 fun b hb=>h.same b (h2 b hb).1 (h2 b hb).2,fun b hb=> .inr (h2 b hb)⟩
 ·subst hr;exact⟨fps i,hh,fun b hb=> .inl hb⟩
def dD (κ:Nat->Option Nat) (res:List ai):List (Nat×Bool)->List ai
 | []=> []
 | (p,o)::l=>(if o then dO κ (ae res p)else .ro (dO κ (br res p)))::dD κ res l
def dv:List (Nat×Bool)->List Nat
 | []=> []
 | (p,_)::l=>p::dv l
def eB (res:List ai):List (Nat×Bool)->Bool
 | []=>true
 | (p,_)::l=>ei res p&&eB res l
theorem iG:∀(l:List (Nat×Bool)) (i:Nat),(dv l)[i]? =(l[i]?).map (·.1)
 | [],i=>by simp[dv]
 | (p,o)::l,0=>by simp[dv]
 | (p,o)::l,i+1=>by simp[dv,iG l i]
theorem pN (κ:Nat->Option Nat) (res:List ai):∀(l:List (Nat×Bool)) (i:Nat),ae (dD κ res l) i=match l[i]? with
  |some (p,o)=>if o then dO κ (ae res p)else .ro (dO κ (br res p))
  |none=> .yet
 | [],i=>by simp[dD,ae]
 | (p,o)::l,0=>by simp[dD,ae]
 | (p,o)::l,i+1=>by simp[dD,ae,pN κ res l i]
theorem pc (κ:Nat->Option Nat) (res:List ai):∀(l:List (Nat×Bool)),(dD κ res l).length=l.length
 | []=>rfl
 | (p,o)::l=>by simp[dD,pc κ res l]
theorem bM {res:List ai}:∀{l:List (Nat×Bool)},eB res l=true->∀(i:Nat) (p:Nat) (o:Bool),l[i]? =some (p,o)->known res p
 | [],_,i,p,o,h=>by simp at h
 | (x,y)::l,hk,i,p,o,h=>by
   simp only[eB,N3]at hk;cases i with
   |zero=>simp at h;obtain⟨rfl,_⟩:=h;exact ca.1 hk.1
   |succ i=>exact bM hk.2 i p o (by simpa using h)
theorem h9 {p:Nat}:∀(l:List Nat) (m k:Nat),l.Nodup->l[k]? =some p->idxOf l m p=some (m+k)
 | [],m,k,_,h=>by simp at h
 |x::l,m,k,hnd,h=>by
  simp only[idxOf];cases k with
  |zero=>simp at h;subst h;simp
  |succ k=>
   simp at h
   have hne:(x==p)=false:=by
    grind
   rw[hne];simp only[Bool.false_eq_true,if_false];rw[h9 l (m+1) k (List.nodup_cons.1 hnd).2 h];congr 1;omega
theorem Cd {l:List Nat} {p i:Nat} (h:lk 0 l p=some i):l[i]? =some p:=by
 unfold lk at h;split at h
 ·rename_i hb;simp at hb
 ·have:=dL h;simpa using this.2.2
theorem vO {l:List Nat} {p i:Nat} (hnd:l.Nodup) (h:l[i]? =some p):lk 0 l p=some i:=by
 unfold lk;rw[N9 (by simp),h9 l 0 i hnd h];simp
def Frame (J:Env) (fps:Nat->Nat->Prop) (pl:List (Nat×Bool)) (b:Nat):Prop:=∃(i p:Nat),pl[i]? =some (p,true)/\fps p b
section
variable {J:Env} {fps:Nat->Nat->Prop} {res:List ai} {w0 w:World} {F0:Nat->Prop}
theorem aw.dD {K:Nat->Prop} (h:aw J fps res K w0 F0 w) {pl:List (Nat×Bool)} (hk:eB res pl=true) (hnd:(dv pl).Nodup):
  aw (J.pull (src 0 (dv pl))) (fun i b=>∃p:Nat,pl[i]? =some (p,true)/\fps p b) (dD (lk 0 (dv pl)) res pl) (known (dD (lk 0 (dv pl)) res pl)) w (Frame J fps pl) w/\
   (∀i,i<pl.length->known (dD (lk 0 (dv pl)) res pl) i)/\Env.via (lk 0 (dv pl)) J (J.pull (src 0 (dv pl)))/\∀p i,lk 0 (dv pl) p=some i->K p->known (Sx.dD (lk 0 (dv pl)) res pl) i:=by
 generalize hκ:lk 0 (dv pl)=κ
 have hπ:∀p i,κ p=some i->src 0 (dv pl) i=p:=fun p i hp=>by subst hκ;exact AU hp
 have hv:Env.via κ J (J.pull (src 0 (dv pl))):=oI hπ
 have hsome:∀i p o,pl[i]? =some (p,o)->κ p=some i:=fun i p o hi=>by
  subst hκ;exact vO hnd (by rw[iG,hi];rfl)
 have hkn:∀i p o,pl[i]? =some (p,o)->known (Sx.dD κ res pl) i:=fun i p o hi=>by
  unfold known;rw[pN,hi];simp only;split
  ·exact fun e=>bM hk i p o hi (gx.1 e)
  ·simp
 have hget:∀i,known (Sx.dD κ res pl) i->∃p o,pl[i]? =some (p,o):=fun i hi=>by
  have:=ak hi;rw[pc]at this;exact⟨pl[i].1,pl[i].2,by rw[List.getElem?_eq_getElem this]⟩
 have hN:∀p i,κ p=some i->K p->known (Sx.dD κ res pl) i:=fun p i hp _=>by
  subst hκ;have:=Cd hp;rw[iG]at this;cases hi:pl[i]? with
  |none=>rw[hi]at this;simp at this
  |some po=>exact hkn i po.1 po.2 hi
 have huniq:∀i j p o o',pl[i]? =some (p,o)->pl[j]? =some (p,o')->i=j:=fun i j p o o' hi hj=>by
  have a:=hsome i p o hi;rw[hsome j p o' hj]at a;simpa using a.symm
 have hfr:∀b,b<w0.heap.size->¬F0 b->w.heap[b]? =w0.heap[b]? /\¬Frame J fps pl b:=fun b hb hF=>by
  refine⟨h.same b hb hF,?_⟩;rintro⟨i,p,hi,hf⟩
  exact hF (h.inF p b (bM hk i p true hi) hf hb)
 refine⟨⟨fun i hi=>hi,Nat.le_refl _,rfl,rfl,rfl,fun i hi=>?_,?_,?_,?_,fun _ _ _=>rfl⟩,fun i hi=>hkn i pl[i].1 pl[i].2 (by rw[List.getElem?_eq_getElem hi]),hv,hN⟩
 ·obtain⟨p,o,hp⟩:=hget i hi;have hkp:=bM hk i p o hp;rw[pN,hp];simp only;cases o with
  |true=>
   simp only[if_true];have:=ai.pY h.old hfr _ _ (h.holds p hkp);have:=ec hv hN (hsome i p true hp) _ _ _ this
   have e:(fun b=>∃p':Nat,some (p,true)=some (p',true)/\fps p' b)=fps p:=by
    funext b;simp
   rw[e];exact this
  |false=>
   simp only[Bool.false_eq_true,if_false];obtain⟨fp,g1,g2⟩:=h.tM rfl hkp;refine⟨fp,ec hv hN (hsome i p false hp) _ _ _ (ai.pY h.old hfr _ _ g1),fun b hb=>?_⟩
   rcases g2 b hb with hf|⟨hl,hF⟩
   ·refine⟨h.lt p b hkp hf,?_⟩;rintro⟨j,p',hj,hf'⟩
    have hkp':=bM hk j p' true hj;refine h.disj p p' b hkp hkp' (fun e=>?_) hf hf'
    subst e;have:=huniq i j p false true hp hj;subst this;rw[hp]at hj;simp at hj
   ·exact⟨Nat.lt_of_lt_of_le hl h.old,(hfr b hl hF).2⟩
 ·rintro i b hi ⟨p,hp,hf⟩
  exact h.lt p b (bM hk i p true hp) hf
 ·rintro i j b hi hj hne ⟨p,hp,hf⟩ ⟨p',hp',hf'⟩
  refine h.disj p p' b (bM hk i p true hp) (bM hk j p' true hp') (fun e=>hne ?_) hf hf'
  subst e;exact huniq i j p true true hp hp'
 ·rintro i b hi ⟨p,hp,hf⟩ _
  exact⟨i,p,hp,hf⟩
def du (κ2:Nat->Option Nat) (r':List ai):Nat->List (Nat×Bool)->List ai->List ai
 |_,[],res=>res
 |i,(p,o)::l,res=>if o then du κ2 r' (i+1) l (aM res p (dO κ2 (ae r' i)))else du κ2 r' (i+1) l res
def vf:List (Nat×Bool)->Nat->Option Nat
 | [],_=>none
 | (p,_)::_,0=>some p
 |_::l,i+1=>vf l i
def back (pl:List (Nat×Bool)) (ext:List Nat) (n j:Nat):Option Nat:=
 match vf pl j with
 |some p=>some p
 |none=>idxOf ext n j
def merge (pl:List (Nat×Bool)) (ext:List Nat) (r' res:List ai):List ai:=
 du (back pl ext res.length) r' 0 pl res++ef (back pl ext res.length) r' ext
theorem qZ:∀(l:List (Nat×Bool)) (i:Nat),vf l i=(l[i]?).map (·.1)
 | [],i=>by simp[vf]
 | (p,o)::l,0=>by simp[vf]
 | (p,o)::l,i+1=>by simp[vf,qZ l i]
theorem ij (κ2:Nat->Option Nat) (r':List ai):∀(l:List (Nat×Bool)) (i:Nat) (res:List ai),(du κ2 r' i l res).length=res.length
 | [],_,_=>rfl
 | (p,o)::l,i,res=>by
   simp only[du];split
   ·rw[ij κ2 r' l,aK]
   ·exact ij κ2 r' l _ _
theorem gl (κ2:Nat->Option Nat) (r':List ai):∀(l:List (Nat×Bool)) (i:Nat) (res:List ai) (x:Nat),(∀k:Nat,l[k]? ≠some (x,true))->(∀(k p:Nat) (o:Bool),l[k]? =some (p,o)->p<res.length)->ae (du κ2 r' i l res) x=ae res x
 | [],_,_,_,_,_=>rfl
 | (p,o)::l,i,res,x,h,hb=>by
   have hl:∀k:Nat,l[k]? ≠some (x,true):=fun k=>by have:=h (k+1);simpa using this
   have hb':∀(k p:Nat) (o:Bool),l[k]? =some (p,o)->p<res.length:=fun k p o hk=>hb (k+1) p o (by simpa using hk)
   simp only[du];split
   ·rename_i ho;subst ho;have hne:x≠p:=fun e=>h 0 (by simp[e])
    rw[gl κ2 r' l _ _ x hl (fun k p o hk=>by rw[aK];exact hb' k p o hk),aH _ _ _ _ (hb 0 p true (by simp)),N9 hne]
   ·exact gl κ2 r' l _ _ x hl hb'
theorem lL (κ2:Nat->Option Nat) (r':List ai):∀(l:List (Nat×Bool)) (i:Nat) (res:List ai) (x k:Nat),l[k]? =some (x,true)->(dv l).Nodup->(∀(k p:Nat) (o:Bool),l[k]? =some (p,o)->p<res.length)->
  ae (du κ2 r' i l res) x=dO κ2 (ae r' (i+k))
 | [],_,_,_,_,h,_,_=>by simp at h
 | (p,o)::l,i,res,x,k,h,hnd,hb=>by
   have hb':∀(k p:Nat) (o:Bool),l[k]? =some (p,o)->p<res.length:=fun k p o hk=>hb (k+1) p o (by simpa using hk)
   have hnd':=List.nodup_cons.1 (show(p::dv l).Nodup from hnd);simp only[du];cases k with
   |zero=>
    simp at h;obtain⟨rfl,rfl⟩:=h;simp only[if_true,Nat.add_zero];rw[gl κ2 r' l _ _ p (fun k hk=>hnd'.1 (List.mem_of_getElem? (i:=k) (by rw[iG,hk];rfl))) (fun k p o hk=>by rw[aK];exact hb' k p o hk),aH _ _ _ _ (hb 0 p true (by simp)),Oa rfl]
   |succ k=>
    have h:l[k]? =some (x,true):=by simpa using h
    split
    ·rw[lL κ2 r' l _ _ x k h hnd'.2 (fun k p o hk=>by rw[aK];exact hb' k p o hk)]
     congr 2;omega
    ·rw[lL κ2 r' l _ _ x k h hnd'.2 hb'];congr 2;omega
def Env.join (n:Nat) (ext:List Nat) (J ρ2:Env):Env:=
 {num:=fun i=>if i<n then J.num i else ρ2.num (ext.getD (i-n) 0),cap:=fun i=>if i<n then J.cap i else ρ2.cap (ext.getD (i-n) 0),adr:=fun i=>if i<n then J.adr i else ρ2.adr (ext.getD (i-n) 0),
  sa:=fun i=>if i<n then J.sa i else ρ2.sa (ext.getD (i-n) 0),sn:=fun i=>if i<n then J.sn i else ρ2.sn (ext.getD (i-n) 0),ob:=fun i=>if i<n then J.ob i else ρ2.ob (ext.getD (i-n) 0)}
section
variable {J:Env} {fps:Nat->Nat->Prop} {res:List ai} {w0 w:World} {F0:Nat->Prop}
theorem aw.merge (h:aw J fps res (known res) w0 F0 w) {pl:List (Nat×Bool)} (hk:eB res pl=true) (hnd:(dv pl).Nodup) {ρ2:Env} {fps2:Nat->Nat->Prop} {r':List ai} {w':World}
  (h2:aw ρ2 fps2 r' (known r') w (Frame J fps pl) w') (hg:Good (J.pull (src 0 (dv pl))) (Sx.dD (lk 0 (dv pl)) res pl) ρ2 r') {ext:List Nat} (he:iR pl.length r'.length ext=true)
  (ho1:∀(i p:Nat),pl[i]? =some (p,true)->fo (ae r' i)=true) (ho2:∀j,j∈ext->fo (ae r' j)=true):
  ∃ρ3 fps3,aw ρ3 fps3 (Sx.merge pl ext r' res) (known (Sx.merge pl ext r' res)) w0 F0 w'/\Good J res ρ3 (Sx.merge pl ext r' res)/\Env.via (back pl ext res.length) ρ2 ρ3/\
   ∀j i,back pl ext res.length j=some i->known r' j->known (Sx.merge pl ext r' res) i:=by
 obtain⟨_,hkr,_,_⟩:=h.dD hk hnd;obtain⟨e1,e2⟩:=kF he;have hlt:∀(k p:Nat) (o:Bool),pl[k]? =some (p,o)->p<res.length:=fun k p o hp=>ak (bM hk k p o hp)
 have hpll:∀(k p:Nat) (o:Bool),pl[k]? =some (p,o)->k<pl.length:=fun k p o hp=>(List.getElem?_eq_some_iff.1 hp).1
 have huniq:∀i j p o o',pl[i]? =some (p,o)->pl[j]? =some (p,o')->i=j:=fun i j p o o' hi hj=>by
  have a:=vO hnd (show(dv pl)[i]? =some p by rw[iG,hi];rfl)
  rw[vO hnd (show(dv pl)[j]? =some p by rw[iG,hj];rfl)]at a
  simpa using a.symm
 have huniqE:∀(a b j:Nat),ext[a]? =some j->ext[b]? =some j->a=b:=fun a b j ha hb=>by
  have x:=h9 ext 0 a e2 ha;rw[h9 ext 0 b e2 hb]at x;simpa using x.symm
 have hback1:∀k p o,pl[k]? =some (p,o)->back pl ext res.length k=some p:=fun k p o hp=>by
  unfold back;rw[qZ,hp];rfl
 have hback2:∀a j,ext[a]? =some j->back pl ext res.length j=some (res.length+a):=fun a j ha=>by
  unfold back;have:=(e1 j (List.mem_of_getElem? ha)).1;rw[qZ,List.getElem?_eq_none this];exact h9 ext _ a e2 ha
 have hbackS:∀j i,back pl ext res.length j=some i->(∃o,pl[j]? =some (i,o))\/(∃a,ext[a]? =some j/\i=res.length+a):=fun j i hj=>by
  unfold back at hj;rw[qZ]at hj;cases hp:pl[j]? with
  |some po=>rw[hp]at hj;simp at hj;exact .inl ⟨po.2,by rw[<-hj]⟩
  |none=>
   rw[hp]at hj;simp at hj;obtain⟨a1,a2,a3⟩:=dL hj;exact .inr ⟨i-res.length,a3,by omega⟩
 have hget:∀i,ae (Sx.merge pl ext r' res) i=if i<res.length then ae (du (back pl ext res.length) r' 0 pl res) i else match ext[i-res.length]? with|some j=>dO (back pl ext res.length) (ae r' j)|none=> .yet:=fun i=>by
  unfold Sx.merge;rw[aP,ij];by_cases hi:i<res.length
  ·rw[Oa hi,Oa hi]
  ·grind[lb]
 have hown:∀k p,pl[k]? =some (p,true)->ae (Sx.merge pl ext r' res) p=dO (back pl ext res.length) (ae r' k):=fun k p hp=>by
  rw[hget,Oa (hlt k p true hp),lL _ r' pl 0 res p k hp hnd hlt,Nat.zero_add]
 have hother:∀i,i<res.length->(∀k,pl[k]? ≠some (i,true))->ae (Sx.merge pl ext r' res) i=ae res i:=fun i hi hno=>by
  rw[hget,Oa hi,gl _ r' pl 0 res i hno hlt]
 have hext:∀a j,ext[a]? =some j->ae (Sx.merge pl ext r' res) (res.length+a)=dO (back pl ext res.length) (ae r' j):=fun a j ha=>by
  grind
 have hkr':∀k p o,pl[k]? =some (p,o)->known r' k:=fun k p o hp=>hg.2 k (hkr k (hpll k p o hp))
 have hN:∀j i,back pl ext res.length j=some i->known r' j->known (Sx.merge pl ext r' res) i:=fun j i hj hkj=>by
  rcases hbackS j i hj with⟨o,hp⟩|⟨a,ha,rfl⟩
  ·by_cases hT:∃k:Nat,pl[k]? =some (i,true)
   ·obtain⟨k,hk'⟩:=hT;unfold known;rw[hown k i hk'];exact fun e=>hkr' k i true hk' (gx.1 e)
   ·unfold known;rw[hother i (hlt j i o hp) fun k hk'=>hT ⟨k,hk'⟩]
    exact bM hk j i o hp
  ·unfold known;rw[hext a j ha];exact fun e=>hkj (gx.1 e)
 have hmono:∀i,known res i->known (Sx.merge pl ext r' res) i:=fun i hi=>by
  grind[known,ak]
 have hag:Env.agree (known res) J (Env.join res.length ext J ρ2):=fun i hi=>by
  have:=ak hi;simp[Env.join,this]
 have hvia:Env.via (back pl ext res.length) ρ2 (Env.join res.length ext J ρ2):=fun j i hj=>by
  rcases hbackS j i hj with⟨o,hp⟩|⟨a,ha,rfl⟩
  ·have hil:=hlt j i o hp;have hj':=hg.1 j (hkr j (hpll j i o hp))
   have hsrc:src 0 (dv pl) j=i:=by
    grind[src,iG]
   simp only[Env.pull,hsrc]at hj';obtain⟨a1,a2,a3,a4,a5,a6⟩:=hj';simp[Env.join,hil,a1,a2,a3,a4,a5,a6]
  ·grind[Env.join]
 obtain⟨fps3,g⟩:=h.turn (res':=Sx.merge pl ext r' res) (K':=known (Sx.merge pl ext r' res)) (fun i=>∃k:Nat,pl[k]? =some (i,true)) (fun i=>(∃k:Nat,pl[k]? =some (i,true))\/res.length<=i)
  (fun i b=>(∃k:Nat,pl[k]? =some (i,true)/\fps2 k b)\/(res.length<=i/\∃j,ext[i-res.length]? =some j/\known r' j/\fps2 j b))
  (fun i hi=>hi) hmono hag
  (fun i hi hb=>by
   have hlt':i<res.length:=by
    rcases Nat.lt_or_ge i res.length with h|h
    ·exact h
    ·exact absurd (.inr h) hb
   have e:=hother i hlt' fun k hk'=>hb (.inl ⟨k,hk'⟩)
   exact⟨by unfold known at hi⊢;rw[e]at hi;exact hi,fun hT=>hb (.inl hT),e⟩)
  (fun i hi hb=>by
   have hfoot:∀k b,known r' k->fps2 k b->(∃t,(∃k:Nat,pl[k]? =some (t,true))/\known res t/\fps t b)\/(w.heap.size<=b/\b<w'.heap.size):=fun k b hk' hf=>by
    by_cases hbw:b<w.heap.size
    ·obtain⟨x,p,hp,hfp⟩:=h2.inF k b hk' hf hbw;exact .inl ⟨p,⟨x,hp⟩,bM hk x p true hp,hfp⟩
    ·exact .inr ⟨by omega,h2.lt k b hk' hf⟩
   by_cases hT:∃k:Nat,pl[k]? =some (i,true)
   ·obtain⟨k,hp⟩:=hT;have hkk:=hkr' k i true hp;have hil:=hlt k i true hp
    have e:(fun b=>(∃k:Nat,pl[k]? =some (i,true)/\fps2 k b)\/(res.length<=i/\∃j,ext[i-res.length]? =some j/\known r' j/\fps2 j b))=fps2 k:=by
     funext b
     apply propext
     constructor
     ·rintro(⟨k',hp',hf⟩|⟨hge,_⟩)
      ·rw[huniq k k' i true true hp hp'];exact hf
      ·omega
     ·exact fun hf=> .inl ⟨k,hp,hf⟩
    refine⟨?_,fun b hf=>hfoot k b hkk (by rw[<-e];exact hf)⟩
    rw[e,hown k i hp];exact ec hvia hN (hback1 k i true hp) _ _ _ (fX (ho1 k i hp) (h2.holds k hkk))
   ·have hge:res.length<=i:=hb.resolve_left hT
    have hj:∃j,ext[i-res.length]? =some j:=by
     unfold known at hi;rw[hget,N9 (by omega)]at hi
     cases hx:ext[i-res.length]? with
     |none=>rw[hx]at hi;exact absurd rfl hi
     |some j=>exact⟨j,rfl⟩
    obtain⟨j,hj⟩:=hj
    have hkj:known r' j:=by
     unfold known at hi;rw[hget,N9 (by omega),hj]at hi
     exact fun e=>hi (gx.2 e)
    have e:(fun b=>(∃k:Nat,pl[k]? =some (i,true)/\fps2 k b)\/(res.length<=i/\∃j,ext[i-res.length]? =some j/\known r' j/\fps2 j b))=fps2 j:=by
     grind
    refine⟨?_,fun b hf=>hfoot j b hkj (by rw[<-e];exact hf)⟩
    have hie:i=res.length+(i-res.length):=by omega
    have hb2:=hback2 _ j hj;rw[<-hie]at hb2;have hx:=hext _ j hj;rw[<-hie]at hx;rw[e,hx];exact ec hvia hN hb2 _ _ _ (fX (ho2 j (List.mem_of_getElem? hj)) (h2.holds j hkj)))
  (fun i j b hbi hbj hne hf hf'=>by
   have sel:∀x,((∃k:Nat,pl[k]? =some (x,true)/\fps2 k b)\/(res.length<=x/\∃j,ext[x-res.length]? =some j/\known r' j/\fps2 j b))->∃k,known r' k/\fps2 k b/\((pl[k]? =some (x,true))\/(res.length<=x/\ext[x-res.length]? =some k)):=by
    rintro x (⟨k,hp,hf⟩|⟨hge,j,hj,hkj,hf⟩)
    ·exact⟨k,hkr' k x true hp,hf,.inl hp⟩
    ·exact⟨j,hkj,hf,.inr ⟨hge,hj⟩⟩
   obtain⟨k,k1,k2,k3⟩:=sel i hf;obtain⟨l,l1,l2,l3⟩:=sel j hf';refine h2.disj k l b k1 l1 (fun e=>hne ?_) k2 l2
   subst e;rcases k3 with k3|⟨k3,k4⟩<;>rcases l3 with l3|⟨l3,l4⟩
   ·rw[k3]at l3;simp at l3;exact l3
   ·grind
   ·have:=(e1 k (List.mem_of_getElem? k4)).1;have:=hpll k j true l3;omega
   ·have:=huniqE _ _ _ k4 l4;omega)
  h2.os h2.tape h2.output h2.old
  (fun b hb hno=>h2.same b hb fun⟨i,p,hp,hf⟩=>hno p ⟨i,hp⟩ (bM hk i p true hp) hf)
 exact⟨_,fps3,g,⟨hag,hmono⟩,hvia,hN⟩
end
end
end Go.Sx
namespace Go.Sx
open Go.RowKit (Below)
def jV (r':List ai):Nat->List (Nat×Bool)->Bool
 |_,[]=>true
 |i,(_,o)::l=>(if o then fo (ae r' i)else true)&&jV r' (i+1) l
theorem p8 {r':List ai}:∀{l:List (Nat×Bool)} {i:Nat},jV r' i l=true->∀k p:Nat,l[k]? =some (p,true)->fo (ae r' (i+k))=true
 | [],i,_,k,p,h=>by simp at h
 | (x,o)::l,i,ha,k,p,h=>by
   simp only[jV,N3]at ha;cases k with
   |zero=>simp at h;obtain⟨_,rfl⟩:=h;simpa using ha.1
   |succ k=>
    have:=p8 ha.2 k p (by simpa using h)
    rwa [show i+(k+1)=i+1+k by omega]
def mM (r':List ai):List Nat->Bool
 | []=>true
 |j::l=>fo (ae r' j)&&mM r' l
theorem o7 {r':List ai}:∀{l:List Nat},mM r' l=true->∀j∈l,fo (ae r' j)=true
 | [],_,j,h=>by simp at h
 |x::l,ha,j,h=>by
  simp only[mM,N3]at ha;rcases List.mem_cons.1 h with rfl|h
  ·exact ha.1
  ·exact o7 ha.2 j h
def jb (κ:Nat->Option Nat) (v v3:V):Prop:=∀(ρ2 ρ3:Env) (N N':Nat->Prop),Env.via κ ρ2 ρ3->(∀j i,κ j=some i->N j->N' i)->ok N v->den ρ3 v3=den ρ2 v/\ok N' v3
theorem jb.gL {κ:Nat->Option Nat} {v x:V} (h:tJ x v []) (hx:Sx.gL x=true):jb κ v x:=fun ρ2 ρ3 N N' _ _ hv=>by
 obtain⟨s1,s2,_⟩:=h ρ2 N;exact⟨by rw[s1];exact jW hx (s2 hv) ρ2 ρ3,jm x hx (s2 hv)⟩
def KA (pl:List (Nat×Bool)) (res:List ai) (v:V) (r':List ai) (K:V->List ai->Prop):Prop:=
 ∃(ext:List Nat) (v3:V),iR pl.length r'.length ext=true/\jV r' 0 pl=true/\mM r' ext=true/\jb (back pl ext res.length) v v3/\K v3 (merge pl ext r' res)
section
variable {P:Program}
theorem aj.frame {f:Nat} {args args0:List V} {res:List ai} {pl:List (Nat×Bool)} {K0 KP0 K KP:V->List ai->Prop} (hk:eB res pl=true) (hnd:iR 0 res.length (dv pl)=true)
  (ha:dt (lk 0 (dv pl)) args=some args0) (hc:aj P f args0 (dD (lk 0 (dv pl)) res pl) K0 KP0)
  (hK:∀v r',K0 v r'->KA pl res v r' K) (hKP:∀v r',KP0 v r'->KA pl res v r' KP):aj P f args res K KP:=by
 intro J fps w0 F0 w hH hargs;have hnd:=(kF hnd).2;obtain⟨g1,g2,g3,g4⟩:=hH.dD hk hnd;obtain⟨a1,_,a3,_⟩:=dR g3 g4 _ _ ha;rw[<-a1];refine(hc _ _ _ _ _ g1 (a3 hargs)).mono fun e w' ⟨x,ρ2,fps2,r',h1,h2,h3,h4⟩=>?_
 have fin:∀{K:V->List ai->Prop},KA pl res x r' K->∃x' ρ' fps' res',aw ρ' fps' res' (known res') w0 F0 w'/\Good J res ρ' res'/\ok (known res') x'/\den ρ' x'=den ρ2 x/\K x' res':=by
  rintro K ⟨ext,v3,b1,b2,b3,b4,b5⟩
  obtain⟨ρ3,fps3,m1,m2,m3,m4⟩:=hH.merge hk hnd h1 h2 b1 (fun i p hp=>by have:=p8 b2 i p hp;rwa [Nat.zero_add]at this) (o7 b3)
  obtain⟨c1,c2⟩:=b4 ρ2 ρ3 _ _ m3 m4 h3;exact⟨v3,ρ3,fps3,_,m1,m2,c2,c1,b5⟩
 rcases h4 with⟨rfl,h4⟩|⟨rfl,h4⟩
 ·grind
 ·grind
def mJ:ai->Bool
 | .store _ _ _=>true
 | .arr _ _ _=>true
 |_=>false
theorem oY {κ:Nat->Option Nat} {r:ai} (h:mJ r=true):dO κ r=r:=by
 cases r<;>first|rfl|simp[mJ]at h
def kB (res:List ai) (p:Nat) (r:ai):Prop:=known res p/\∀J fps K w0 F0 w,aw J fps res K w0 F0 w->
 ∃fp:Nat->Prop,r.holds K J p fp w0 F0 w/\∀b,fp b->(∃i,known res i/\fps i b)\/(b<w0.heap.size/\¬F0 b)
theorem kB.look {res:List ai} {p:Nat} {r:ai} (h:br res p=r) (hne:r≠ .yet):kB res p r:=by
 have hk:=cF h hne;refine⟨hk,fun J fps K w0 F0 w hH=>?_⟩
 obtain⟨fp,g1,g2⟩:=hH.tM h hk;exact⟨fp,g1,fun b hb=>(g2 b hb).elim (fun h=> .inl ⟨p,hk,h⟩) .inr⟩
def nH:List (Nat×ai)->List ai
 | []=> []
 | (_,r)::l=> .ro r::nH l
theorem qS:∀(l:List (Nat×ai)) (i:Nat),ae (nH l) i=match l[i]? with|some p=> .ro p.2|none=> .yet
 | [],i=>by simp[nH,ae]
 | (p,r)::l,0=>by simp[nH,ae]
 | (p,r)::l,i+1=>by simp[nH,ae,qS l i]
theorem nj:∀l:List (Nat×ai),(nH l).length=l.length
 | []=>rfl
 | (p,r)::l=>by simp[nH,nj l]
def lR:List (Nat×ai)->Nat->Nat
 | [],_=>0
 | (p,_)::_,0=>p
 |_::l,i+1=>lR l i
theorem og:∀(l:List (Nat×ai)) (i:Nat) (p:Nat×ai),l[i]? =some p->lR l i=p.1
 | [],i,p,h=>by simp at h
 | (x,r)::l,0,p,h=>by simp at h;subst h;rfl
 | (x,r)::l,i+1,p,h=>by simp only[lR];exact og l i p (by simpa using h)
theorem nN {f:Nat} {g:Ct} (h:∀res nid args q x new,g res nid args=some (q,x,new)->new= []/\gL x=true/\
  ∃(pls:List (Nat×ai)) (args0:List V),(∀p∈pls,kB res p.1 p.2/\mJ p.2=true)/\(∀(J:Env) K,cq K args->aD (J.pull (lR pls)) args0=aD J args)/\(∀K,cq K args->cq (known (nH pls)) args0)/\
   (aX q->cq (known (nH pls)) args0->aj P f args0 (nH pls) (tJ x) (fun _ _=>False))):bV P f g:=by
 intro J fps res K w0 F0 w nid args q x new hH hargs hg hq hfr;obtain⟨rfl,hid,pls,args0,hcl,hden,hok,hc⟩:=h res nid args q x new hg;refine⟨?_,fun k hk=>by simp at hk⟩
 have hfr:∀b,b<w0.heap.size->¬F0 b->w.heap[b]? =w0.heap[b]? /\¬(fun _:Nat=>False) b:=fun b hb hF=>⟨hH.same b hb hF,fun h=>h⟩
 have hrep:aw (J.pull (lR pls)) (fun _ _=>False) (nH pls) (known (nH pls)) w (fun _=>False) w:=by
  refine⟨fun i hi=>hi,Nat.le_refl _,rfl,rfl,rfl,fun i hi=>?_,fun i b hi h=>h.elim,fun i j b hi hj hne h=>h.elim,fun i b hi h=>h.elim,fun _ _ _=>rfl⟩
  have hlt:=ak hi;rw[nj]at hlt;have hp:pls[i]? =some pls[i]:=List.getElem?_eq_getElem hlt;generalize pls[i]=p at hp
  rw[qS,hp];simp only;obtain⟨hs,hcl⟩:=hcl p (List.mem_of_getElem? hp);obtain⟨fp,g1,g2⟩:=hs.2 J fps K w0 F0 w hH
  have hv:Env.via (fun x=>if x=p.1 then some i else none) J (J.pull (lR pls)):=oI fun x j hx=>by
   split at hx
   ·simp only[N1]at hx;subst hx;rename_i e;subst e;exact og pls i p hp
   ·simp at hx
  have:=ec (N':=known (nH pls)) hv (fun x j hx _=>by
   split at hx
   ·simp only[N1]at hx;subst hx;exact hi
   ·simp at hx) (p:=p.1) (i:=i) (by simp) _ _ _ (ai.pY hH.old hfr _ _ g1)
  rw[oY hcl]at this;refine⟨fp,this,fun b hb=>⟨?_,fun h=>h⟩⟩
  rcases g2 b hb with⟨j,hj,hf⟩|⟨hl,_⟩
  ·exact hH.lt j b hj hf
  ·exact Nat.lt_of_lt_of_le hl hH.old
 have hok0:=hok K hargs;rw[<-hden J K hargs];refine(hc hq hok0 _ _ _ _ _ hrep hok0).mono fun e w' ⟨y,ρ',fps',res',g1,g2,g3,g4⟩=>?_
 rcases g4 with⟨rfl,hK⟩|⟨_,hK⟩
 ·refine⟨_,rfl,J,?_,?_,?_⟩
  ·exact⟨⟨g1.os,g1.tape,g1.output,g1.old,fun b hb=>g1.same b hb (fun h=>h)⟩,Env.agree.refl _ _,fun _ _=>False,fun k hk=>by simp at hk,fun k l b hk=>by simp at hk⟩
  ·obtain⟨e1,e2,_⟩:=hK ρ' (known res');rw[e1];exact jW hid (e2 g3) J ρ'
  ·obtain⟨e1,e2,_⟩:=hK ρ' (known res');exact jm x hid (e2 g3)
 ·exact hK.elim
theorem aj.qI {f:Nat} {args:List V} {res res1:List ai} {K KP:V->List ai->Prop} (h:aj P f args res1 K KP)
  (ho:∀J fps w0 F0 w,aw J fps res (known res) w0 F0 w->∃ρ' fps',aw ρ' fps' res1 (known res1) w0 F0 w/\Good J res ρ' res1):aj P f args res K KP:=by
 intro J fps w0 F0 w hH hargs;obtain⟨ρ',fps',h1,h2⟩:=ho J fps w0 F0 w hH;rw[<-cx h2.1 args hargs];refine(h ρ' fps' w0 F0 w h1 (aY h2.2 _ hargs)).mono fun e w' ⟨x,ρ2,fps2,r',g1,g2,g3,g4⟩=>⟨x,ρ2,fps2,r',g1,h2.trans g2,g3,g4⟩
theorem aj.eY {f:Nat} {args:List V} {res:List ai} {k t e:Nat} {L:List Obj} {K KP:V->List ai->Prop} (hr:ae res k= .store t e L) (h:aj P f args (eY res k t e L) K KP):aj P f args res K KP:=
 h.qI fun _ _ _ _ _ hH=>uW hr hH
theorem aj.dh {f:Nat} {args:List V} {res:List ai} {k t e:Nat} {L:List Obj} {K KP:V->List ai->Prop} (hr:ae res k= .ro (.store t e L)) (h:aj P f args (dh res k t e L) K KP):aj P f args res K KP:=
 h.qI fun _ _ _ _ _ hH=>th hr hH
theorem aj.shut {f:Nat} {args:List V} {res:List ai} {K0 KP K:V->List ai->Prop} (h:aj P f args res K0 KP) (hK:∀v r,K0 v r->K v r\/∃k r',ql r k=some r'/\K v r'):aj P f args res K KP:=by
 intro J fps w0 F0 w hH hargs;refine(h J fps w0 F0 w hH hargs).mono fun e w' ⟨x,ρ2,fps2,r',g1,g2,g3,g4⟩=>?_
 rcases g4 with⟨rfl,hk⟩|g4
 ·rcases hK _ _ hk with hk|⟨k,r2,s1,s2⟩
  ·exact⟨x,ρ2,fps2,r',g1,g2,g3,.inl ⟨rfl,hk⟩⟩
  ·obtain⟨fps3,m1,m2⟩:=ux s1 g1;exact⟨x,ρ2,fps3,r2,m1,⟨g2.1,fun i hi=>m2 i (g2.2 i hi)⟩,bq m2 _ g3,.inl ⟨rfl,s2⟩⟩
 ·exact⟨x,ρ2,fps2,r',g1,g2,g3,.inr g4⟩
theorem aj.tY {f:Nat} {args:List V} {res res':List ai} {k:Nat} {K KP:V->List ai->Prop} (hr:Sx.tY res k=some res') (h:aj P f args res' K KP):aj P f args res K KP:=
 h.qI fun _ _ _ _ _ hH=>uu hr hH
theorem aj.qj {f:Nat} {args:List V} {res:List ai} {k e:Nat} {K0 KP K:V->List ai->Prop} (h:aj P f args res K0 KP) (hK:∀v r,K0 v r->∃r',Sx.qj r k e=some r'/\K v r'):aj P f args res K KP:=by
 intro J fps w0 F0 w hH hargs;refine(h J fps w0 F0 w hH hargs).mono fun e' w' ⟨x,ρ2,fps2,r',g1,g2,g3,g4⟩=>?_
 rcases g4 with⟨rfl,hk⟩|g4
 ·obtain⟨r2,s1,s2⟩:=hK _ _ hk;obtain⟨fps3,m1,m2⟩:=uE s1 g1;exact⟨x,ρ2,fps3,r2,m1,⟨g2.1,fun i hi=>m2 i (g2.2 i hi)⟩,bq m2 _ g3,.inl ⟨rfl,s2⟩⟩
 ·exact⟨x,ρ2,fps2,r',g1,g2,g3,.inr g4⟩
end
end Go.Sx
namespace Go.Sx
open Go.RowKit (Below)
section
variable {P:Program}
theorem aj.fact {f:Nat} {args:List V} {res:List ai} {K KP:V->List ai->Prop} {k t e:Nat} {L:List Obj} (hr:br res k= .store t e L)
  (h:(∀o∈L,o.wf)->L.length<=9223372036854775807->aj P f args res K KP):aj P f args res K KP:=by
 intro J fps w0 F0 w hH hargs;obtain⟨fp,hh,_⟩:=hH.look hr (by simp)
 obtain⟨_,h1,h2,_⟩:=hh;exact h h1 h2 J fps w0 F0 w hH hargs
theorem aj.C9 {f:Nat} {args:List V} {res:List ai} {K KP:V->List ai->Prop} {k esz:Nat} {own:Option Nat} {L:List Obj} (hr:br res k= .arr own esz (.ob L))
  (h:(∀o∈L,o.wf)->L.length<=9223372036854775807->aj P f args res K KP):aj P f args res K KP:=by
 intro J fps w0 F0 w hH hargs;obtain⟨fp,hh,_⟩:=hH.look hr (by simp)
 obtain⟨h1,_,h2,_⟩:=hh;refine h (fun o ho=>?_) h2 J fps w0 F0 w hH hargs
 obtain⟨i,hi,rfl⟩:=List.getElem_of_mem ho;have:=(h1 i hi).1;simpa[TL.get,ay,N8,hi,ok]using this
theorem kB.open {res:List ai} {p j t e q:Nat} {L:List Obj} (hp:br res p= .blk t (.ag [.sa j])) (hj:br res j= .obs e q L) (hte:t≠e):kB res p (.store t e L):=by
 have hkp:=cF hp (by simp)
 have hkj:=cF hj (by simp)
 refine⟨hkp,fun J fps K w0 F0 w hH=>?_⟩
 obtain⟨fp1,⟨_,_,b3,b4⟩,g1⟩:=hH.tM hp hkp;obtain⟨fp2,⟨_,c1,c2,c3,c4,c5,c6,c7⟩,g2⟩:=hH.tM hj hkj
 have b4':w.heap[J.num p]? =some (.cells #[J.sl j] t (0,0)):=by
  rw[b4];have:den J (.sa j)=J.sl j:=rfl;simp[bC,az,this,Env.sl,Value.cells]
 refine⟨fun b=>fp1 b\/fp2 b,⟨.inl b3,c1,c3,J.sl j,J.ob q,b4',c6,fun b hb=>?_,fun x hx=>?_⟩,fun b hb=>?_⟩
 ·have hb':=hb;cases ha:J.sa j with
  |none=>simp[Env.sl,ha,Value.ownBlock]at hb
  |some a=>
   simp only[Env.sl,ha,Value.ownBlock,N1]at hb;subst hb;refine⟨.inr (c4 a ha).2,fun e'=>?_⟩
   rcases c6.2 with⟨hh,_⟩|⟨g,cap,cur,hh,_,h3,_⟩
   ·simp[Env.sl,ha]at hh
   ·rw[hh]at hb';simp only[Value.ownBlock,N1]at hb';rw[hb',e',b4']at h3;simp only[N1,Go.Obj.cells.injEq]at h3;exact hte h3.2.1
 ·grind[iF]
 ·grind
theorem kB.zero {res:List ai} {p t e:Nat} (hp:br res p= .blk t (.ag [.nl (.slice none 0 0)])):kB res p (.store t e []):=by
 have hkp:=cF hp (by simp)
 refine⟨hkp,fun J fps K w0 F0 w hH=>?_⟩
 obtain⟨fp1,⟨_,_,b3,b4⟩,g1⟩:=hH.tM hp hkp;refine⟨fp1,⟨b3,by simp,by simp,.slice none 0 0,fun _=>0,?_,World.ownsRow_nil w 0 e 1,fun b hb=>by simp[Value.ownBlock]at hb,fun x hx=>by simp at hx⟩,fun b hb=>(g1 b hb).elim (fun h=> .inl ⟨p,hkp,h⟩) .inr⟩
 rw[b4];simp[bC,az,den,Value.cells]
def rS (t e:Nat) (res:List ai) (v:V):Option (Option Nat×List Obj):=
 match v with
 | .nl v=>match v with
   | .pointer p=>match p with
     |none=>some (none,[])
     |some _=>none
   |_=>none
 | .lp k off=>if off==0 then match br res k with
   | .store t' e' L=>if t'==t&&e'==e then some (some k,L)else none
   | .blk t' c=>if t'==t&& !(t==e)then match c with
     | .ag l=>match l with
       | [x]=>match x with
         | .sa j=>match br res j with
           | .obs e' _ L=>if e'==e then some (some k,L)else none
           |_=>none
         | .nl v=>match v with
           | .slice none 0 0=>some (some k,[])
           |_=>none
         |_=>none
       |_=>none
     |_=>none
     else none
   |_=>none
   else none
 |_=>none
theorem vn {t e:Nat} {res:List ai} {v:V} {o:Option Nat} {L:List Obj} (h:rS t e res v=some (o,L)):(o=none/\L= []/\v= .nl (.pointer none))\/∃k,o=some k/\v= .lp k 0/\kB res k (.store t e L):=by
 unfold rS at h;split at h
 ·grind
 ·rename_i k off;split at h
  ·rename_i ho;have ho:=N5.1 ho;subst ho;split at h
   ·grind[kB.look]
   ·grind[kB.open,kB.zero]
   ·simp at h
  ·simp at h
 ·simp at h
def tG:V:= .nl (.pointer none)
def Mi (t e:Nat) (F:List Obj->V):Ct:=fun res _ xs=>match xs with
 | [a]=>match rS t e res a with
   |some (_,L)=>some (none,F L,[])
   |none=>none
 |_=>none
def Bc {α:Type} (t e:Nat) (r:V->Option α) (F:List Obj->α->V):Ct:=fun res _ xs=>match xs with
 | [a,b]=>match rS t e res a with
   |some (_,L)=>match r b with
    |some x=>some (none,F L x,[])
    |none=>none
   |none=>none
 |_=>none
theorem CH {f t e:Nat} {F:List Obj->V} (hF:∀L,gL (F L)=true) (h0:aj P f [tG] [] (pW (F [])) (fun _ _=>False))
  (h1:∀L,(∀o∈L,o.wf)->L.length<=9223372036854775807->aj P f [.lp 0 0] [.ro (.blk t (.ag [.sa 1])),.ro (.obs e 2 L),.gen 1] (pW (F L)) (fun _ _=>False)):bV P f (Mi t e F):=by
 refine nN fun res nid args q x new hg=>?_
 unfold Mi at hg;split at hg<;>(try split at hg)<;>simp only[N1,N2,reduceCtorEq]at hg
 rename_i a o L hr;obtain⟨rfl,rfl,rfl⟩:=hg;rcases vn hr with⟨rfl,rfl,rfl⟩|⟨k,rfl,rfl,hs⟩
 ·exact⟨rfl,hF [],[],[tG],by simp,fun J _ _=>rfl,fun K hK=>⟨hK.1,trivial⟩,fun _ _=>h0.mono (fun _ _=>cK) fun _ _ h=>h⟩
 ·refine⟨rfl,hF L,[(k,.store t e L)],[.lp 0 0],by simpa using⟨hs,rfl⟩,fun J _ _=>rfl,fun K hK=>⟨by simp[ok,known,nH,ae],trivial⟩,fun _ _=>?_⟩
  exact aj.fact (k:=0) rfl fun w1 w2=>(aj.dh (res:=nH [(k,.store t e L)]) (k:=0) rfl (h1 L w1 w2)).mono (fun _ _=>cK) fun _ _ h=>h
theorem qP {f t e:Nat} {α:Type} {r:V->Option α} {m:α->V} {F:List Obj->α->V} (hr:nM r m) (hF:∀L x,gL (F L x)=true)
  (h0:∀x,ok (fun _=>False) (m x)->aj P f [tG,m x] [] (pW (F [] x)) (fun _ _=>False))
  (h1:∀L x,(∀o∈L,o.wf)->L.length<=9223372036854775807->ok (fun _=>False) (m x)->aj P f [.lp 0 0,m x] [.ro (.blk t (.ag [.sa 1])),.ro (.obs e 2 L),.gen 1] (pW (F L x)) (fun _ _=>False))
  (hid:∀x,gL (m x)=true):bV P f (Bc t e r F):=by
 refine nN fun res nid args q x new hg=>?_
 unfold Bc at hg;split at hg<;>(try split at hg)<;>(try split at hg)<;>simp only[N1,N2,reduceCtorEq]at hg
 rename_i a b _ o L hs _ x hb;obtain⟨rfl,rfl,rfl⟩:=hg;obtain⟨b1,b2⟩:=hr _ x hb;have hde:∀J ρ':Env,∀K,ok K b->den ρ' (m x)=den J b:=fun J ρ' K hk=>by rw[b1 J];exact jW (hid x) (b2 K hk) J ρ'
 rcases vn hs with⟨rfl,rfl,rfl⟩|⟨k,rfl,rfl,hse⟩
 ·refine⟨rfl,hF [] x,[],[tG,m x],by simp,fun J K hK=>?_,fun K hK=>⟨hK.1,dc (b2 K hK.2.1),trivial⟩,fun _ hok=>?_⟩
  ·simp only[aD,hde J (J.pull (lR [])) K hK.2.1];rfl
  ·exact(h0 x (jm _ (hid x) hok.2.1)).mono (fun _ _=>cK) fun _ _ h=>h
 ·refine⟨rfl,hF L x,[(k,.store t e L)],[.lp 0 0,m x],by simpa using⟨hse,rfl⟩,fun J K hK=>?_,fun K hK=>⟨by simp[ok,known,nH,ae],dc (b2 K hK.2.1),trivial⟩,fun _ hok=>?_⟩
  ·simp only[aD,hde J (J.pull (lR [(k,.store t e L)])) K hK.2.1];rfl
  ·exact aj.fact (k:=0) rfl fun w1 w2=>(aj.dh (res:=nH [(k,.store t e L)]) (k:=0) rfl (h1 L x w1 w2 (jm _ (hid x) hok.2.1))).mono (fun _ _=>cK) fun _ _ h=>h
theorem kB.arr {res:List ai} {p esz:Nat} {own:Option Nat} {l:TL} (h:br res p= .arr own esz l):kB res p (.arr none esz l):=by
 have hk:=cF h (by simp)
 refine⟨hk,fun J fps K w0 F0 w hH=>?_⟩
 obtain⟨fp,⟨h1,h2,h3,h4,h5,h6,h7⟩,g2⟩:=hH.tM h hk;refine⟨fp,⟨h1,h2,h3,h4,h5,h6,?_⟩,fun b hb=>(g2 b hb).elim (fun h=> .inl ⟨p,hk,h⟩) .inr⟩
 rcases h7 with⟨e,h7⟩|⟨e,e1,e2⟩
 ·exact .inl ⟨rfl,h7⟩
 ·exact .inr ⟨e,by simp,e2⟩
def rA (res:List ai) (v:V):Option (Nat×List Obj):=
 match v with
 | .sa k=>match br res k with
   | .arr _ e l=>if e==163 then match l with
     | .ob l=>some (k,l)
     |_=>none
     else none
   |_=>none
 |_=>none
theorem vM {res:List ai} {v:V} {k:Nat} {l:List Obj} (h:rA res v=some (k,l)):v= .sa k/\kB res k (.arr none 163 (.ob l))/\∃own,br res k= .arr own 163 (.ob l):=by
 unfold rA at h;split at h
 ·grind[kB.arr]
 ·simp at h
def MS (F:List Obj->V):Ct:=fun res _ xs=>match xs with
 | [a]=>match rA res a with
   |some (_,L)=>some (none,F L,[])
   |none=>none
 |_=>none
def HE {α:Type} (r:V->Option α) (F:List Obj->α->V):Ct:=fun res _ xs=>match xs with
 | [a,b]=>match rA res a with
   |some (_,L)=>match r b with
    |some x=>some (none,F L x,[])
    |none=>none
   |none=>none
 |_=>none
theorem zL {J:Env} {i k:Nat} {pls:List (Nat×ai)} (h:lR pls i=k):den (J.pull (lR pls)) (.sa i)=den J (.sa k):=by
 simp only[den,Env.pull,h]
theorem IY {f:Nat} {F:List Obj->V} (hF:∀L,gL (F L)=true)
  (h1:∀L,(∀o∈L,o.wf)->L.length<=9223372036854775807->aj P f [.sa 0] [.ro (.arr none 163 (.ob L))] (pW (F L)) (fun _ _=>False)):bV P f (MS F):=by
 refine nN fun res nid args q x new hg=>?_
 unfold MS at hg;split at hg<;>(try split at hg)<;>simp only[N1,N2,reduceCtorEq]at hg
 rename_i a k L hr;obtain⟨rfl,rfl,rfl⟩:=hg;obtain⟨rfl,hs,_⟩:=vM hr
 exact⟨rfl,hF L,[(k,.arr none 163 (.ob L))],[.sa 0],by simpa using⟨hs,rfl⟩,fun J _ _=>by simp only[aD,zL (pls:= [(k,.arr none 163 (.ob L))]) (i:=0) (k:=k) rfl],fun K hK=>⟨by simp[ok,known,nH,ae],trivial⟩,
  fun _ _=>aj.C9 (k:=0) rfl fun w1 w2=>(h1 L w1 w2).mono (fun _ _=>cK) fun _ _ h=>h⟩
theorem AL {f:Nat} {α:Type} {r:V->Option α} {m:α->V} {F:List Obj->α->V} (hr:nM r m) (hF:∀L x,gL (F L x)=true)
  (h1:∀L x,(∀o∈L,o.wf)->L.length<=9223372036854775807->ok (fun _=>False) (m x)->aj P f [.sa 0,m x] [.ro (.arr none 163 (.ob L))] (pW (F L x)) (fun _ _=>False)) (hid:∀x,gL (m x)=true):bV P f (HE r F):=by
 refine nN fun res nid args q x new hg=>?_
 unfold HE at hg;split at hg<;>(try split at hg)<;>(try split at hg)<;>simp only[N1,N2,reduceCtorEq]at hg
 rename_i a b _ k L hs _ x hb;obtain⟨rfl,rfl,rfl⟩:=hg;obtain⟨rfl,hse,_⟩:=vM hs;obtain⟨b1,b2⟩:=hr _ x hb;have hde:∀J ρ':Env,∀K,ok K b->den ρ' (m x)=den J b:=fun J ρ' K hk=>by rw[b1 J];exact jW (hid x) (b2 K hk) J ρ'
 refine⟨rfl,hF L x,[(k,.arr none 163 (.ob L))],[.sa 0,m x],by simpa using⟨hse,rfl⟩,fun J K hK=>?_,fun K hK=>⟨by simp[ok,known,nH,ae],dc (b2 K hK.2.1),trivial⟩,fun _ hok=>?_⟩
 ·simp only[aD,hde J (J.pull (lR [(k,.arr none 163 (.ob L))])) K hK.2.1,zL (pls:= [(k,.arr none 163 (.ob L))]) (i:=0) (k:=k) rfl]
 ·exact aj.C9 (k:=0) rfl fun w1 w2=>(h1 L x w1 w2 (jm _ (hid x) hok.2.1)).mono (fun _ _=>cK) fun _ _ h=>h
end
end Go.Sx
namespace Go.Sx
open Go.RowKit (Below)
abbrev pd:=List V->List ai->(V->List ai->Prop)->Prop
def si (P:Program) (f:Nat) (h:pd):Prop:=∀args res K KP,h args res K->aj P f args res K KP
def Au:List (Nat×pd)->Handler
 | [],_,_,_,_,_=>False
 | (g,h)::l,f,args,res,K,KP=>if f==g then h args res K else Au l f args res K KP
theorem x7 {P:Program}:∀{l:List (Nat×pd)},(∀p∈l,si P p.1 p.2)->Handler.OK P (Au l)
 | [],_,f,args,res,K,KP,h=>h.elim
 | (g,x)::l,hl,f,args,res,K,KP,h=>by
   simp only[Au]at h;split at h
   ·rename_i e;have e:=N5.1 e;subst e;exact hl (f,x) (by simp) args res K KP h
   ·exact x7 (fun p hp=>hl p (by simp[hp])) f args res K KP h
theorem cP {P:Program}:∀p∈([]:List (Nat×pd)),si P p.1 p.2:=by simp
theorem cg {P:Program} {f:Nat} {g:pd} {l:List (Nat×pd)} (h:si P f g) (t:∀p∈l,si P p.1 p.2):∀p∈(f,g)::l,si P p.1 p.2:=by
 simp_all
theorem DM {κ:Nat->Option Nat}:∀v,gL v=true->dG κ v=some v:=by
 intro v
 exact V.rec (motive_1:=fun v=>gL v=true->dG κ v=some v) (motive_2:=fun l=>jy l=true->dt κ l=some l)
  (fun b _=>rfl) (fun b _=>rfl) (fun k n _=>rfl) (fun k n _=>rfl) (fun b _=>rfl) (fun s _=>rfl) (fun v _=>rfl) (fun _ _ h=>by simp[gL]at h) (fun _ _ _ _ _ _ h=>by simp[gL]at h)
  (fun _ _ _ h=>by simp[gL]at h) (fun _ _ h=>by simp[gL]at h) (fun _ _ _ _ h=>by simp[gL]at h) (fun _ h=>by simp[gL]at h) (fun _ _ h=>by simp[gL]at h) (fun _ h=>by simp[gL]at h)
  (fun f l ih h=>by simp only[dG];rw[ih h]) (fun t x ih h=>by simp only[dG];rw[ih h]) (fun l ih h=>by simp only[dG];rw[ih h]) (fun l ih h=>by simp only[dG];rw[ih h])
  (fun _ _=>rfl) (fun _ _=>rfl) (fun _ _=>rfl) (fun _ _=>rfl) (fun _ h=>by simp[gL]at h) (fun _ _ _ _ _ _ h=>by simp[gL]at h) (fun _ _ _ _ _ _ _ _ h=>by simp[gL]at h) (fun _ _ _ _ h=>by simp[gL]at h) (fun _ _ _ _ _ _ h=>by simp[gL]at h) (fun _ _ _ _ h=>by simp[gL]at h) (fun _=>rfl)
  (fun x l ih1 ih2 h=>by simp only[jy,N3]at h;simp only[dt];rw[ih1 h.1];simp only;rw[ih2 h.2]) v
theorem fz {κ:Nat->Option Nat}:∀l,jy l=true->dt κ l=some l
 | [],_=>rfl
 |x::l,h=>by
  simp_all[jy,dt,DM,fz]
def gq (l m:List V):Prop:=∀(J:Env) K,cq K l->aD J l=aD J m/\cq K m
theorem gq.nil:gq [] []:=fun _ _ _=>⟨rfl,trivial⟩
theorem gq.eZ {x:V} {l m:List V} (h:gq l m):gq (x::l) (x::m):=fun J K hk=>⟨by simp only[aD,(h J K hk.2).1],hk.1,(h J K hk.2).2⟩
theorem gq.rd {α:Type} {r:V->Option α} {f:α->V} (hr:nM r f) {a:V} {x:α} (hx:r a=some x) {l m:List V} (h:gq l m):gq (a::l) (f x::m):=fun J K hk=>by
 obtain⟨a1,a2⟩:=hr a x hx;exact⟨by simp only[aD,(h J K hk.2).1,a1],dc (a2 K hk.1),(h J K hk.2).2⟩
section
variable {P:Program}
theorem aj.args {f:Nat} {args args':List V} {res:List ai} {K KP:V->List ai->Prop} (h:gq args args') (hc:aj P f args' res K KP):aj P f args res K KP:=by
 intro J fps w0 F0 w hH hargs;obtain⟨h1,h2⟩:=h J _ hargs;rw[h1];exact hc J fps w0 F0 w hH h2
theorem aj.Ka {f:Nat} {args:List V} {res:List ai} {K KP:V->List ai->Prop} (h:cq (known res) args->aj P f args res K KP):aj P f args res K KP:=by
 intro J fps w0 F0 w hH hargs;exact h hargs J fps w0 F0 w hH hargs
theorem aj.GA {f:Nat} {rest:List V} {res:List ai} {K KP:V->List ai->Prop} {k t e:Nat} {L M:List Obj} {x:V} (hr:ae res k= .store t e L) (hid:jy rest=true) (hx:gL x=true)
  (h:aj P f (.lp 0 0::rest) [.store t e L] (fun v r=>tJ x v r/\ae r 0= .store t e M) (fun _ _=>False)) (hK:K x (aM res k (.store t e M))):aj P f (.lp k 0::rest) res K KP:=by
 have hk:known res k:=by unfold known;rw[hr];simp
 have hlt:=ak hk;refine aj.frame (pl:= [(k,true)]) (args0:= .lp 0 0::rest) (K0:=fun v r=>tJ x v r/\ae r 0= .store t e M) (KP0:=fun _ _=>False) (by simp[eB,ca.2 hk]) (by simpa[iR,dv,qJ]using hlt) ?_ ?_ (fun v r hv=>?_) (fun _ _ h=>h.elim)
 ·simp only[dt,dG,lk,idxOf,dv];rw[fz rest hid];simp
 ·simp_all[dD,lk,dv,dO]
 ·obtain⟨h1,h2⟩:=hv;have hm:merge [(k,true)] [] r res=aM res k (.store t e M):=by simp[merge,du,h2,dO,ef]
  exact⟨[],x,rfl,by simp[jV,h2,fo],rfl,jb.gL h1 hx,by rw[hm];exact hK⟩
theorem aj.pure {f:Nat} {args:List V} {res:List ai} {K KP:V->List ai->Prop} {x:V} (hid:jy args=true) (hx:gL x=true)
  (h:aj P f args [] (fun v _=>tJ x v []) (fun _ _=>False)) (hK:K x res):aj P f args res K KP:=by
 refine aj.frame (pl:= []) (args0:=args) (K0:=fun v _=>tJ x v []) (KP0:=fun _ _=>False) rfl rfl (fz args hid) h (fun v r hv=>?_) (fun _ _ h=>h.elim)
 have hm:merge [] [] r res=res:=by simp[merge,du,ef]
 exact⟨[],x,rfl,rfl,rfl,jb.gL hv hx,by rw[hm];exact hK⟩
theorem aj.L5 {f:Nat} {rest:List V} {res:List ai} {K KP:V->List ai->Prop} {k:Nat} {r0:ai} {x:V} (hr:br res k=r0) (hne:r0≠ .yet) (hren:∀κ,dO κ r0=r0) (hid:jy rest=true) (hx:gL x=true)
  (h:aj P f (.lp 0 0::rest) [.ro r0] (fun v _=>tJ x v []) (fun _ _=>False)) (hK:K x res):aj P f (.lp k 0::rest) res K KP:=by
 have hk:=cF hr hne;have hlt:=ak hk;refine aj.frame (pl:= [(k,false)]) (args0:= .lp 0 0::rest) (K0:=fun v _=>tJ x v []) (KP0:=fun _ _=>False) (by simp[eB,ca.2 hk]) (by simpa[iR,dv,qJ]using hlt) ?_ ?_ (fun v r hv=>?_) (fun _ _ h=>h.elim)
 ·simp only[dt,dG,lk,idxOf,dv];rw[fz rest hid];simp
 ·simp_all[dD,lk,dv]
 ·have hm:merge [(k,false)] [] r res=res:=by simp[merge,du,ef]
  exact⟨[],x,rfl,by simp[jV],rfl,jb.gL hv hx,by rw[hm];exact hK⟩
theorem aw.weaken {J:Env} {fps:Nat->Nat->Prop} {res res':List ai} {w0 w:World} {F0:Nat->Prop} (h:aw J fps res (known res) w0 F0 w)
  (hk:∀i,known res' i->known res i/\∀fp,(ae res i).holds (known res) J i fp w0 F0 w->(ae res' i).holds (known res') J i fp w0 F0 w):aw J fps res' (known res') w0 F0 w:=
 ⟨fun i hi=>hi,h.old,h.os,h.tape,h.output,fun i hi=>(hk i hi).2 _ (h.holds i (hk i hi).1),fun i b hi=>h.lt i b (hk i hi).1,fun i j b hi hj=>h.disj i j b (hk i hi).1 (hk j hj).1,fun i b hi=>h.inF i b (hk i hi).1,h.same⟩
theorem EV {K K':Nat->Prop} {J:Env} {i:Nat} {fp:Nat->Prop} {w0 w:World} {F0:Nat->Prop} {own:Option Nat} {e:Nat} {l:TL} (h:(ai.arr own e l).holds K J i fp w0 F0 w):(ai.arr none e l).holds K' J i fp w0 F0 w:=by
 obtain⟨h1,h2,h3,h4,h5,h6,h7⟩:=h;refine⟨h1,h2,h3,h4,h5,h6,?_⟩;rcases h7 with⟨e,h7⟩|⟨e,e1,e2⟩
 ·exact .inl ⟨rfl,h7⟩
 ·exact .inr ⟨e,by simp,e2⟩
theorem aj.Li {f:Nat} {args:List V} {K KP:V->List ai->Prop} {own:Option Nat} {e:Nat} {l:TL} (h:aj P f args [.ro (.arr none e l)] K KP):aj P f args [.ro (.arr own e l)] K KP:=by
 have hk:∀i (own:Option Nat),known [.ro (.arr own e l)] i↔i=0:=fun i own=>by
  unfold known;cases i with
  |zero=>simp[ae]
  |succ i=>simp[ae]
 refine h.qI fun J fps w0 F0 w hH=>⟨J,fps,hH.weaken fun i hi=>?_,Env.agree.refl _ _,fun i hi=>(hk i _).2 ((hk i _).1 hi)⟩
 have:=(hk i _).1 hi;subst this;refine⟨(hk 0 _).2 rfl,fun fp hh=>?_⟩
 obtain⟨fp',g1,g2⟩:=hh;exact⟨fp',EV g1,g2⟩
theorem aj.Ef {f:Nat} {rest:List V} {res:List ai} {K KP:V->List ai->Prop} {t e k esz:Nat} {own:Option Nat} {l:TL} {M:List Obj} {F:Nat->V} (hr:br res k= .arr own esz l) (hid:jy rest=true)
  (h:aj P f (.sa 0::rest) [.ro (.arr own esz l)] (fun v r=>∃j,1<=j/\ae r j= .store t e M/\(∀(κ:Nat->Option Nat) (i:Nat),κ j=some i->jb κ v (F i))) (fun _ _=>False)) (hK:K (F res.length) (res++ [.store t e M])):aj P f (.sa k::rest) res K KP:=by
 have hk:=cF hr (by simp)
 have hlt:=ak hk;refine aj.frame (pl:= [(k,false)]) (args0:= .sa 0::rest) (K0:=fun v r=>∃j,1<=j/\ae r j= .store t e M/\(∀(κ:Nat->Option Nat) (i:Nat),κ j=some i->jb κ v (F i))) (KP0:=fun _ _=>False) (by simp[eB,ca.2 hk]) (by simpa[iR,dv,qJ]using hlt) ?_ ?_ (fun v r hv=>?_) (fun _ _ h=>h.elim)
 ·simp only[dt,dG,lk,idxOf,dv];rw[fz rest hid];simp
 ·have:dD (lk 0 (dv [(k,false)])) res [(k,false)]= [.ro (.arr own esz l)]:=by simp[dD,hr,dO]
  rw[this];exact h
 ·obtain⟨j,hj1,hj,hv⟩:=hv;have hjl:j<r.length:=ak (by rw[hj];simp)
  have hm:merge [(k,false)] [j] r res=res++ [.store t e M]:=by simp[merge,du,ef,hj,dO]
  refine⟨[j],F res.length,by simpa[iR,qJ]using⟨hj1,hjl⟩,by simp[jV],by simp[mM,hj,fo],hv _ _ ?_,by rw[hm];exact hK⟩
  obtain⟨m,rfl⟩:∃m,j=m+1:=⟨j-1,by omega⟩
  simp[back,vf,idxOf]
theorem aj.L4 {f:Nat} {rest:List V} {res:List ai} {K KP:V->List ai->Prop} {k esz:Nat} {own:Option Nat} {l:TL} {x:V} (hr:br res k= .arr own esz l) (hid:jy rest=true) (hx:gL x=true)
  (h:aj P f (.sa 0::rest) [.ro (.arr own esz l)] (fun v _=>tJ x v []) (fun _ _=>False)) (hK:K x res):aj P f (.sa k::rest) res K KP:=by
 have hk:=cF hr (by simp)
 have hlt:=ak hk;refine aj.frame (pl:= [(k,false)]) (args0:= .sa 0::rest) (K0:=fun v _=>tJ x v []) (KP0:=fun _ _=>False) (by simp[eB,ca.2 hk]) (by simpa[iR,dv,qJ]using hlt) ?_ ?_ (fun v r hv=>?_) (fun _ _ h=>h.elim)
 ·simp only[dt,dG,lk,idxOf,dv];rw[fz rest hid];simp
 ·have:dD (lk 0 (dv [(k,false)])) res [(k,false)]= [.ro (.arr own esz l)]:=by simp[dD,hr,dO]
  rw[this];exact h
 ·have hm:merge [(k,false)] [] r res=res:=by simp[merge,du,ef]
  exact⟨[],x,rfl,by simp[jV],rfl,jb.gL hv hx,by rw[hm];exact hK⟩
theorem uq {r:List ai} {k t e j:Nat} {L:List Obj} (h:wY r k=some (t,e,j,L)):∃r',ql r k=some r'/\ae r' k= .store t e L:=by
 grind[ql,wY,ak,aH,aK]
def yT (r:List ai) (k:Nat):Option (Nat×Nat×List Obj):=
 match ae r k with
 | .store t e L=>some (t,e,L)
 |_=>match wY r k with
  |some (t,e,_,L)=>some (t,e,L)
  |none=>none
theorem Fe {r:List ai} {k t e:Nat} {L:List Obj} (h:yT r k=some (t,e,L)):ae r k= .store t e L\/∃r',ql r k=some r'/\ae r' k= .store t e L:=by
 grind[yT,uq]
theorem Ih {a b c:V} (h:tJ c b []):tJ (.tp [a,c]) (.tp [a,b]) []:=fun J K=>by
 obtain⟨s1,s2,_⟩:=h J K;exact⟨by simp only[den,aD,s1],fun hk=>⟨hk.1,s2 hk.2.1,trivial⟩,rfl⟩
theorem aj.Gg {f:Nat} {args:List V} {res:List ai} {K KP:V->List ai->Prop} {t e:Nat} {M:List Obj} {F:Nat->V} (hid:jy args=true)
  (h:aj P f args [] (fun v r=>∃j,ae r j= .store t e M/\(∀(κ:Nat->Option Nat) (i:Nat),κ j=some i->jb κ v (F i))) (fun _ _=>False)) (hK:K (F res.length) (res++ [.store t e M])):aj P f args res K KP:=by
 refine aj.frame (pl:= []) (args0:=args) (K0:=fun v r=>∃j,ae r j= .store t e M/\(∀(κ:Nat->Option Nat) (i:Nat),κ j=some i->jb κ v (F i))) (KP0:=fun _ _=>False) rfl rfl (fz args hid) h (fun v r hv=>?_) (fun _ _ h=>h.elim)
 obtain⟨j,hj,hv⟩:=hv;have hlt:j<r.length:=ak (by rw[hj];simp)
 have hm:merge [] [j] r res=res++ [.store t e M]:=by simp[merge,du,ef,hj,dO]
 exact⟨[j],F res.length,by simpa[iR,qJ]using hlt,rfl,by simp[mM,hj,fo],hv _ _ (by simp[back,vf,idxOf]),by rw[hm];exact hK⟩
end
def KZ (v:V):Option Nat:=
 match v with
 | .sa j=>some j
 | .ag l=>match l with
   | [x]=>match x with
     | .sa j=>some j
     |_=>none
   |_=>none
 |_=>none
def Jy (c:Nat) (U:St):Option (List Nat):=
 match ae U.res c with
 | .blk _ x=>match KZ x with
   |some j=>match ae U.res j with
    | .obs _ q _=>some [j,q]
    |_=>some [j]
   |none=>some []
 |_=>some []
def ND (eZ:List Nat) (set:Int->List (Nat×V)) (k:Nat) (R:Int->ai) (inv:Int->Prop) (m:Int):bx:=
 {γ:=Int,head:=fun U g=> {U with slots:=z7 eZ (set g) 0 U.slots,res:=aM U.res k (R g)},inv:=inv,μ:=fun g=>gm (lu m g)}
def Il:List (Nat×ai)->List ai->List ai
 | [],r=>r
 | (k,x)::l,r=>Il l (aM r k x)
def NN {γ:Type} (eZ:List Nat) (set:γ->List (Nat×V)) (rs:γ->List (Nat×ai)) (inv:γ->Prop) (μ:γ->Nat):bx:=
 {γ:=γ,head:=fun U g=> {U with slots:=z7 eZ (set g) 0 U.slots,res:=Il (rs g) U.res},inv:=inv,μ:=μ}
def TL.emp:TL->TL
 | .ob _=> .ob []
 | .key _=> .key []
 | .it k _=> .it k []
 | .bo _=> .bo []
 | .st _=> .st []
 | .qs n _=> .qs n []
 | .fn n g=> .fn n g
def G5 (t:Nat) (U:St):Option (List Nat):=
 match aO U.slots t with
 | .v x=>match KZ x with
   |some j=>some [j]
   |none=>some []
 |_=>some []
def Mt (eZ:List Nat) (set:Int->List (Nat×V)) (t e esz:Nat) (L:Int->TL) (inv:Int->Prop) (m:Int):bx:=
 {γ:=Int,head:=fun U g=> {U with slots:=z7 eZ ((t,.sa U.res.length)::set g) 0 U.slots,res:=U.res++ [.arr (some e) esz (L g)]},
  inv:=inv,μ:=fun g=>gm (lu m g),pre:= [.sl t e esz (TL.emp (L 0))],ext:=G5 t}
def NP (n:Nat):bx:= {γ:=Unit,head:=fun U _=>U,inv:=fun _=>True,μ:=fun _=>0,unr:=some n}
def NX (eZ:List Nat) (set:Int->List (Nat×V)) (c ty e esz:Nat) (L:Int->TL) (inv:Int->Prop) (m:Int):bx:=
 {γ:=Int,head:=fun U g=> {U with slots:=z7 eZ (set g) 0 U.slots,res:=aM U.res c (.blk ty (.sa U.res.length))++ [.arr (some e) esz (L g)]},
  inv:=inv,μ:=fun g=>gm (lu m g),pre:= [.bv c e esz (TL.emp (L 0))],ext:=Jy c}
def NO (eZ:List Nat) (set:Int->List (Nat×V)) (c t e:Nat) (L:Int->List Obj) (inv:Int->Prop) (m:Int):bx:=
 {γ:=Int,head:=fun U g=> {U with slots:=z7 eZ (set g) 0 U.slots,res:=aM U.res c (.blk t (.ag [.sa U.res.length]))++ [.obs e (U.res.length+1) (L g),.gen U.res.length]},
  inv:=inv,μ:=fun g=>gm (lu m g),pre:= [.bl c e],ext:=Jy c}
end Go.Sx
namespace Go.Proofs.Ytmfbohanboiklaa
open Go.Sx
noncomputable def KN (l:List (Nat×Ct)) (hl:List (Nat×pd)) (inl:Nat->Bool) (ann:Nat->Nat->Option bx):Cw:= {P:=Try.prog,Z:=zeroOf,Γ:=mC l,H0:=Au hl,inl:=inl,ann:=ann,opn:=IC inl}
theorem BL {l:List (Nat×Ct)} {hl:List (Nat×pd)} {inl:Nat->Bool} {ann:Nat->Nat->Option bx} (h:∀p∈l,bV Try.prog p.1 p.2):(KN l hl inl ann).toCtx.Sound:=
 ⟨FB uQ,Try.checked.mixed,fun f g hg=>kH h f g hg,fun f ts te h=>by simp[KN]at h⟩
abbrev NW (l:List (Nat×Ct)) (hl:List (Nat×pd)) (inl:Nat->Bool) (ann:Nat->Nat->Option bx) (f:Nat) (args:List V) (res:List ai) (K KP:V->List ai->Prop):Prop:=
 enter (KN l hl inl ann).toCtx (exec (KN l hl inl ann) 100 ⟨false,none⟩) (exec (KN l hl inl ann) 100 ⟨false,none⟩ f) f args res K KP
set_option maxRecDepth 100000 in
theorem cT {l:List (Nat×Ct)} {hl:List (Nat×pd)} {inl:Nat->Bool} {ann:Nat->Nat->Option bx} (h:∀p∈l,bV Try.prog p.1 p.2) (hh:∀p∈hl,si Try.prog p.1 p.2) {f:Nat} {args:List V} {res:List ai}
  {K KP:V->List ai->Prop} {G:Prop} (hG:G) (he:G=NW l hl inl ann f args res K KP):aj Try.prog f args res K KP:=
 AX (C:=KN l hl inl ann) (n:=100) (BL h) (x7 hh) (Eq.mp he hG)
end Go.Proofs.Ytmfbohanboiklaa
namespace Go.Sx
open Go.RowKit (Below)
def CE (κ:Nat->Option Nat) (r:List ai):List Nat->Option (List ai)
 | []=>some []
 |p::l=>if ei r p&&fo (ae r p)then match CE κ r l with
   |some m=>some (dO κ (ae r p)::m)
   |none=>none
  else none
def zM (π:List Nat) (x:Nat->V) (new:Nat->List ai) (v:V) (r:List ai):Prop:=
 ∀nid,dG (idxOf π nid) v=some (x nid)/\CE (idxOf π nid) r π=some (new nid)
def EB (x:Nat->V) (new:Nat->List ai):Ct:=fun _ nid args=>match args with
 | []=>some (none,x nid,new nid)
 |_=>none
def K6:List ai->Bool
 | []=>true
 |r::l=>match r with
  | .yet=>false
  |_=>K6 l
theorem rE:∀{l:List ai},K6 l=true->∀k,k<l.length->ae l k≠ .yet
 | [],_,k,hk=>by simp at hk
 |r::l,h,k,hk=>by
  simp only[K6]at h;split at h
  ·simp at h
  ·rename_i hr;cases k with
   |zero=>exact hr
   |succ k=>exact rE h k (by simpa using hk)
theorem ph {κ:Nat->Option Nat} {r:List ai}:∀{π:List Nat} {new:List ai},CE κ r π=some new->new.length=π.length/\
  ∀(k p:Nat),π[k]? =some p->known r p/\fo (ae r p)=true/\ae new k=dO κ (ae r p)
 | [],new,h=>by simp only[CE,N1]at h;subst h;exact⟨rfl,fun k p h=>by simp at h⟩
 |q::π,new,h=>by
  simp only[CE]at h;split at h
  ·rename_i hc;simp only[N3]at hc;split at h<;>simp only[N1,reduceCtorEq]at h
   rename_i m hm;subst h;obtain⟨a,b⟩:=ph hm;refine⟨by simp[a],fun k p hk=>?_⟩
   cases k with
   |zero=>simp at hk;subst hk;exact⟨ca.1 hc.1,hc.2,rfl⟩
   |succ k=>exact b k p (by simpa using hk)
  ·simp at h
theorem Fb {P:Program} {f:Nat} {π:List Nat} {x:Nat->V} {new:Nat->List ai} (hnd:π.Nodup) (hy:∀nid,K6 (new nid)=true) (h:aj P f [] [] (zM π x new) (fun _ _=>False)):bV P f (EB x new):=by
 intro J fps res K w0 F0 w nid args q y new' hH hargs hg hq hfr;unfold EB at hg;split at hg<;>simp only[N1,N2,reduceCtorEq]at hg
 obtain⟨_,rfl,rfl⟩:=hg
 have hE:aw J (fun _ _=>False) [] (known []) w (fun _=>False) w:=
  ⟨fun i hi=>hi,Nat.le_refl _,rfl,rfl,rfl,fun i hi=>by simp[known,ae]at hi,fun i b hi=>by simp[known,ae]at hi,fun i j b hi=>by simp[known,ae]at hi,fun i b hi=>by simp[known,ae]at hi,fun _ _ _=>rfl⟩
 have hc:=h J _ w (fun _=>False) w hE trivial
 refine⟨?_,?_⟩
 ·refine hc.mono fun e w' ⟨v,ρ1,fps1,r,g1,g2,g3,g4⟩=>?_
  rcases g4 with⟨rfl,hN⟩|⟨_,hF⟩
  ·obtain⟨n1,n2⟩:=hN nid;obtain⟨l1,l2⟩:=ph n2;refine⟨_,rfl,?_⟩
   let ρ':Env:=⟨fun i=>if i<nid then J.num i else if i<nid+π.length then ρ1.num (π.getD (i-nid) 0)else J.num i,fun i=>if i<nid then J.cap i else if i<nid+π.length then ρ1.cap (π.getD (i-nid) 0)else J.cap i,
    fun i=>if i<nid then J.adr i else if i<nid+π.length then ρ1.adr (π.getD (i-nid) 0)else J.adr i,fun i=>if i<nid then J.sa i else if i<nid+π.length then ρ1.sa (π.getD (i-nid) 0)else J.sa i,
    fun i=>if i<nid then J.sn i else if i<nid+π.length then ρ1.sn (π.getD (i-nid) 0)else J.sn i,fun i=>if i<nid then J.ob i else if i<nid+π.length then ρ1.ob (π.getD (i-nid) 0)else J.ob i⟩
   have hvia:Env.via (idxOf π nid) ρ1 ρ':=by
    intro p i hp;obtain⟨a1,a2,a3⟩:=dL hp;have:π.getD (i-nid) 0=p:=by simp[N8,a3]
    simp[ρ',N9 (show¬i<nid by omega),Oa a2,a3]
   have hat:∀k,k<(new nid).length->∃p,π[k]? =some p/\idxOf π nid p=some (nid+k):=fun k hk=>by
    have hk':k<π.length:=by omega
    exact⟨π[k],by simp[hk'],h9 π nid k hnd (by simp[hk'])⟩
   have hNN:∀p i,idxOf π nid p=some i->known r p->K i\/fresh nid (new nid).length i:=fun p i hp _=>by
    obtain⟨a1,a2,a3⟩:=dL hp;exact .inr ⟨a1,by omega⟩
   refine⟨ρ',⟨⟨g1.os,g1.tape,g1.output,g1.old,fun b hb=>g1.same b hb (by simp)⟩,fun i hi=>?_,fun k=>fps1 (π.getD k 0),fun k hk=>?_,fun k l b hk hl hne=>?_⟩,?_,?_⟩
   ·grind
   ·obtain⟨p,p1,p2⟩:=hat k hk;obtain⟨m1,m2,m3⟩:=l2 k p p1;have hgd:π.getD k 0=p:=by simp[N8,p1]
    simp only[hgd];refine⟨?_,fun b hb=>⟨?_,g1.lt p b m1 hb⟩⟩
    ·rw[m3];exact ec hvia hNN p2 _ _ _ (fX m2 (g1.holds p m1))
    ·refine Nat.le_of_not_lt fun hlt=>?_
     exact g1.inF p b m1 hb hlt
   ·obtain⟨p,p1,p2⟩:=hat k hk;obtain⟨p',p1',p2'⟩:=hat l hl;have hgd:π.getD k 0=p:=by simp[N8,p1]
    have hgd':π.getD l 0=p':=by simp[N8,p1']
    simp only[hgd,hgd']
    have hpp:p≠p':=by
     grind
    exact g1.disj p p' b (l2 k p p1).1 (l2 l p' p1').1 hpp
   ·exact(eH hvia hNN _ _ n1).1.symm
   ·exact(eH hvia hNN _ _ n1).2.1 g3
  ·exact hF.elim
 ·intro k hk;exact rE (hy nid) k hk
end Go.Sx
namespace Go.Sx
open Go.RowKit (Below)
structure Arg (α:Type) where
 rd:List ai->V->Option (List (Nat×ai)×α)
 cn:α->Nat->V
 pl:α->List ai
structure kS (α:Type) where
 rd:List ai->List V->Option (List (Nat×ai)×α)
 cn:α->Nat->List V
 pl:α->List ai
def kR {α:Type} (A:Arg α):Prop:=∀res v pls a,A.rd res v=some (pls,a)->pls.map (·.2)=A.pl a/\(∀p∈pls,kB res p.1 p.2/\mJ p.2=true)/\a8 (A.cn a 0)=a8 v/\(∀n,a8 (A.cn a n)=a8 (A.cn a 0))/\
 ∀(pre post:List (Nat×ai)),(∀J K,ok K v->den (J.pull (lR (pre++(pls++post)))) (A.cn a pre.length)=den J v)/\∀K,ok K v->ok (known (nH (pre++(pls++post)))) (A.cn a pre.length)
def j7 {α:Type} (A:kS α):Prop:=∀res l pls a,A.rd res l=some (pls,a)->pls.map (·.2)=A.pl a/\(∀p∈pls,kB res p.1 p.2/\mJ p.2=true)/\(pD l->∀n,pD (A.cn a n))/\
 ∀(pre post:List (Nat×ai)),(∀J K,cq K l->aD (J.pull (lR (pre++(pls++post)))) (A.cn a pre.length)=aD J l/\az (J.pull (lR (pre++(pls++post)))) (A.cn a pre.length)=az J l)/\∀K,cq K l->cq (known (nH (pre++(pls++post)))) (A.cn a pre.length)
def ji:kS Unit:=⟨fun _ l=>match l with| []=>some ([],())|_=>none,fun _ _=> [],fun _=> []⟩
def bR {α β:Type} (A:Arg α) (B:kS β):kS (α×β):=
 ⟨fun res l=>match l with
  |v::l=>match A.rd res v with
   |some (p,a)=>match B.rd res l with
    |some (q,b)=>some (p++q,(a,b))
    |none=>none
   |none=>none
  | []=>none,fun x n=>A.cn x.1 n::B.cn x.2 (n+(A.pl x.1).length),fun x=>A.pl x.1++B.pl x.2⟩
def Df {α:Type} (r:V->Option α) (m:α->V):Arg α:=⟨fun _ v=>match r v with|some x=>some ([],x)|none=>none,fun x _=>m x,fun _=> []⟩
def JF (t e:Nat):Arg (Option (List Obj)):=
 ⟨fun res v=>match rS t e res v with
  |some (o,L)=>match o with
   |none=>some ([],none)
   |some k=>some ([(k,.store t e L)],some L)
  |none=>none,fun o n=>match o with|none=>tG|some _=> .lp n 0,fun o=>match o with|none=> []|some L=> [.store t e L]⟩
def Iv:Arg (List Obj):=
 ⟨fun res v=>match rA res v with
  |some (k,L)=>some ([(k,.arr none 163 (.ob L))],L)
  |none=>none,fun _ n=> .sa n,fun L=> [.arr none 163 (.ob L)]⟩
def Lm {α:Type} (esz:Nat) (r:TL->Option α) (m:α->TL):Arg α:=
 ⟨fun res v=>match v with
  | .sa k=>match br res k with
    | .arr _ e l=>if e==esz then match r l with
      |some x=>some ([(k,.arr none esz (m x))],x)
      |none=>none
      else none
    |_=>none
  |_=>none,fun _ n=> .sa n,fun x=> [.arr none esz (m x)]⟩
def Mq {α:Type} (B:kS α):Arg α:=
 ⟨fun res v=>match v with
  | .ag l=>B.rd res l
  |_=>none,fun x n=> .ag (B.cn x n),B.pl⟩
theorem rW {pre pls post:List (Nat×ai)} {k:Nat} {r:ai}:lR (pre++((k,r)::pls++post)) pre.length=k:=og _ _ (k,r) (by simp)
theorem pI {pre pls post:List (Nat×ai)} {k:Nat} {r:ai}:known (nH (pre++((k,r)::pls++post))) pre.length:=by
 unfold known;rw[qS];simp
theorem cM:j7 ji:=by
 intro res l pls a h;simp only[ji]at h;split at h<;>simp only[N1,N2,reduceCtorEq]at h
 obtain⟨rfl,_⟩:=h;exact⟨rfl,by simp,fun _ _=>trivial,fun pre post=>⟨fun _ _ _=>⟨rfl,rfl⟩,fun _ _=>trivial⟩⟩
theorem aI {α β:Type} {A:Arg α} {B:kS β} (hA:kR A) (hB:j7 B):j7 (bR A B):=by
 intro res l pls x h;simp only[bR]at h;split at h
 case h_2=>simp at h
 rename_i v l;split at h
 case h_2=>simp at h
 rename_i p a ha;split at h
 case h_2=>simp at h
 rename_i q b hb;simp only[N1,N2]at h;obtain⟨rfl,rfl⟩:=h;obtain⟨a1,a2,a3,a3',a4⟩:=hA _ _ _ _ ha;obtain⟨b1,b2,b3,b4⟩:=hB _ _ _ _ hb;refine⟨by simp[bR,a1,b1],fun p' hp'=>?_,fun hc n=>?_,fun pre post=>?_⟩
 ·grind
 ·grind[bN,bR]
 ·have hlen:(A.pl a).length=p.length:=by rw[<-a1];simp
  obtain⟨c1,c2⟩:=a4 pre (q++post);obtain⟨d1,d2⟩:=b4 (pre++p) post;have e1:pre++(p++q++post)=pre++(p++(q++post)):=by simp
  have e2:(pre++p)++(q++post)=pre++(p++(q++post)):=by simp
  have e3:(pre++p).length=pre.length+(A.pl a).length:=by simp[hlen]
  rw[e2,e3]at d1 d2;rw[e1];refine⟨fun J K hK=>?_,fun K hK=>?_⟩
  ·obtain⟨f1,f2⟩:=d1 J K hK.2;have f3:=c1 J K hK.1;simp only[bR];exact⟨by simp only[aD];rw[f3,f1],by simp only[az];rw[f3,f2]⟩
  ·exact⟨c2 K hK.1,d2 K hK.2⟩
theorem vJ {α:Type} {r:V->Option α} {m:α->V} (hr:nM r m) (hid:∀x,gL (m x)=true) (ht:∀v x,r v=some x->a8 v=a8 (m x)):kR (Df r m):=by
 intro res v pls a h;simp only[Df]at h;split at h<;>simp only[N1,N2,reduceCtorEq]at h
 rename_i x hx;obtain⟨rfl,rfl⟩:=h;obtain⟨b1,b2⟩:=hr _ x hx;refine⟨rfl,by simp,(ht v x hx).symm,fun _=>rfl,fun pre post=>⟨fun J K hK=>?_,fun K hK=>dc (b2 K hK)⟩⟩
 show den _ (m x)=_
 rw[b1 J];exact jW (hid x) (b2 K hK) J _
theorem vX (t e:Nat):kR (JF t e):=by
 intro res v pls a h;simp only[JF]at h;split at h
 case h_2=>simp at h
 rename_i o L hs;rcases vn hs with⟨rfl,rfl,rfl⟩|⟨k,rfl,rfl,hse⟩<;>simp only[N1,N2]at h<;>obtain⟨rfl,rfl⟩:=h
 ·exact⟨rfl,by simp,rfl,fun _=>rfl,fun pre post=>⟨fun _ _ _=>rfl,fun _ _=>rfl⟩⟩
 ·refine⟨rfl,by simpa using⟨hse,rfl⟩,rfl,fun _=>rfl,fun pre post=>⟨fun J K hK=>?_,fun K hK=>pI (pls:= [])⟩⟩
  simp only[JF,den,Env.pull];rw[rW (pls:= [])]
theorem sZ:kR Iv:=by
 intro res v pls a h;simp only[Iv]at h;split at h<;>simp only[N1,N2,reduceCtorEq]at h
 rename_i k L hs;obtain⟨rfl,rfl⟩:=h;obtain⟨rfl,hse,_⟩:=vM hs;refine⟨rfl,by simpa using⟨hse,rfl⟩,rfl,fun _=>rfl,fun pre post=>⟨fun J K hK=>?_,fun K hK=>pI (pls:= [])⟩⟩
 simp only[Iv,den,Env.pull];rw[rW (pls:= [])]
theorem CQ {α:Type} {esz:Nat} {r:TL->Option α} {m:α->TL} (hr:∀l x,r l=some x->l=m x):kR (Lm esz r m):=by
 intro res v pls a h;simp only[Lm]at h;split at h
 case h_2=>simp at h
 rename_i k;split at h
 case h_2=>simp at h
 rename_i own e l hl;split at h
 case isFalse=>simp at h
 rename_i he;have he:=N5.1 he;subst he;split at h<;>simp only[N1,N2,reduceCtorEq]at h
 rename_i x hx;obtain⟨rfl,rfl⟩:=h;have:=hr _ _ hx;subst this;refine⟨rfl,by simpa using⟨kB.arr hl,rfl⟩,rfl,fun _=>rfl,fun pre post=>⟨fun J K hK=>?_,fun K hK=>pI (pls:= [])⟩⟩
 simp only[Lm,den,Env.pull];rw[rW (pls:= [])]
theorem Jw {α:Type} {B:kS α} (hB:j7 B):kR (Mq B):=by
 intro res v pls a h;simp only[Mq]at h;split at h
 case h_2=>simp at h
 rename_i l;obtain⟨b1,b2,b3,b4⟩:=hB _ _ _ _ h;refine⟨b1,b2,rfl,fun _=>rfl,fun pre post=>?_⟩
 obtain⟨c1,c2⟩:=b4 pre post;refine⟨fun J K hK=>?_,fun K hK=>⟨c2 K hK.1,b3 hK.2 _⟩⟩
 simp only[Mq,den];rw[(c1 J K hK.1).2]
def H6 {α:Type} (B:kS α) (Q:α->Option Prop) (F:α->V):Ct:=fun res _ xs=>match B.rd res xs with
 |some (_,a)=>some (Q a,F a,[])
 |none=>none
def iu (l:List ai):List ai:=l.map .ro
theorem yY (pls:List (Nat×ai)):nH pls=iu (pls.map (·.2)):=by
 induction pls with
 |nil=>rfl
 |cons p l ih=>obtain⟨p,r⟩:=p;simp[nH,iu,ih]
theorem lT {P:Program} {f:Nat} {α:Type} {B:kS α} {Q:α->Option Prop} {F:α->V} (hB:j7 B) (hF:∀a,gL (F a)=true)
  (h:∀a,aX (Q a)->cq (known (iu (B.pl a))) (B.cn a 0)->aj P f (B.cn a 0) (iu (B.pl a)) (pW (F a)) (fun _ _=>False)):bV P f (H6 B Q F):=by
 refine nN fun res nid args q x new hg=>?_
 unfold H6 at hg;split at hg<;>simp only[N1,N2,reduceCtorEq]at hg
 rename_i pls a ha;obtain⟨rfl,rfl,rfl⟩:=hg;obtain⟨b1,b2,_,b4⟩:=hB _ _ _ _ ha;obtain⟨c1,c2⟩:=b4 [] [];simp only[List.nil_append,List.append_nil,List.length_nil]at c1 c2;refine⟨rfl,hF a,pls,B.cn a 0,b2,fun J K hK=>(c1 J K hK).1,c2,fun hq hok=>?_⟩
 rw[yY,b1]at hok⊢;exact(h a hq hok).mono (fun _ _=>cK) fun _ _ h=>h
def B2 {α:Type} (B:kS α) (Q:α->Option Prop) (x:α->Nat->V) (new:α->Nat->List ai):Ct:=fun res nid xs=>match B.rd res xs with
 |some (_,a)=>some (Q a,x a nid,new a nid)
 |none=>none
theorem Ai {J:Env} {fps:Nat->Nat->Prop} {res:List ai} {K:Nat->Prop} {w0 w:World} {F0:Nat->Prop} (hH:aw J fps res K w0 F0 w) {pls:List (Nat×ai)} (hcl:∀p∈pls,kB res p.1 p.2/\mJ p.2=true):
  aw (J.pull (lR pls)) (fun _ _=>False) (nH pls) (known (nH pls)) w (fun _=>False) w:=by
 have hfr:∀b,b<w0.heap.size->¬F0 b->w.heap[b]? =w0.heap[b]? /\¬(fun _:Nat=>False) b:=fun b hb hF=>⟨hH.same b hb hF,fun h=>h⟩
 refine⟨fun i hi=>hi,Nat.le_refl _,rfl,rfl,rfl,fun i hi=>?_,fun i b hi h=>h.elim,fun i j b hi hj hne h=>h.elim,fun i b hi h=>h.elim,fun _ _ _=>rfl⟩
 have hlt:=ak hi;rw[nj]at hlt;have hp:pls[i]? =some pls[i]:=List.getElem?_eq_getElem hlt;generalize pls[i]=p at hp
 rw[qS,hp];simp only;obtain⟨hs,hcl⟩:=hcl p (List.mem_of_getElem? hp);obtain⟨fp,g1,g2⟩:=hs.2 J fps K w0 F0 w hH
 have hv:Env.via (fun x=>if x=p.1 then some i else none) J (J.pull (lR pls)):=oI fun x j hx=>by
  split at hx
  ·simp only[N1]at hx;subst hx;rename_i e;subst e;exact og pls i p hp
  ·simp at hx
 have:=ec (N':=known (nH pls)) hv (fun x j hx _=>by
  split at hx
  ·simp only[N1]at hx;subst hx;exact hi
  ·simp at hx) (p:=p.1) (i:=i) (by simp) _ _ _ (ai.pY hH.old hfr _ _ g1)
 rw[oY hcl]at this;refine⟨fp,this,fun b hb=>⟨?_,fun h=>h⟩⟩
 rcases g2 b hb with⟨j,hj,hf⟩|⟨hl,_⟩
 ·exact hH.lt j b hj hf
 ·exact Nat.lt_of_lt_of_le hl hH.old
theorem rU {J ρ1:Env} {K:Nat->Prop} {fps1:Nat->Nat->Prop} {r:List ai} {w0 w w':World} {F0:Nat->Prop} {nid:Nat} {π:List Nat} {x:Nat->V} {new:Nat->List ai} {v:V} (hnd:π.Nodup)
  (g1:aw ρ1 fps1 r (known r) w (fun _=>False) w') (g3:ok (known r) v) (hN:zM π x new v r):ma K J nid (x nid) (new nid) w0 F0 w (den ρ1 v) w':=by
 obtain⟨n1,n2⟩:=hN nid;obtain⟨l1,l2⟩:=ph n2
 let ρ':Env:=⟨fun i=>if i<nid then J.num i else if i<nid+π.length then ρ1.num (π.getD (i-nid) 0)else J.num i,fun i=>if i<nid then J.cap i else if i<nid+π.length then ρ1.cap (π.getD (i-nid) 0)else J.cap i,
  fun i=>if i<nid then J.adr i else if i<nid+π.length then ρ1.adr (π.getD (i-nid) 0)else J.adr i,fun i=>if i<nid then J.sa i else if i<nid+π.length then ρ1.sa (π.getD (i-nid) 0)else J.sa i,
  fun i=>if i<nid then J.sn i else if i<nid+π.length then ρ1.sn (π.getD (i-nid) 0)else J.sn i,fun i=>if i<nid then J.ob i else if i<nid+π.length then ρ1.ob (π.getD (i-nid) 0)else J.ob i⟩
 have hvia:Env.via (idxOf π nid) ρ1 ρ':=by
  intro p i hp;obtain⟨a1,a2,a3⟩:=dL hp;simp[ρ',N9 (show¬i<nid by omega),Oa a2,a3]
 have hat:∀k,k<(new nid).length->∃p,π[k]? =some p/\idxOf π nid p=some (nid+k):=fun k hk=>by
  have hk':k<π.length:=by omega
  exact⟨π[k],by simp[hk'],h9 π nid k hnd (by simp[hk'])⟩
 have hNN:∀p i,idxOf π nid p=some i->known r p->K i\/fresh nid (new nid).length i:=fun p i hp _=>by
  obtain⟨a1,a2,a3⟩:=dL hp;exact .inr ⟨a1,by omega⟩
 refine⟨ρ',⟨⟨g1.os,g1.tape,g1.output,g1.old,fun b hb=>g1.same b hb (by simp)⟩,fun i hi=>?_,fun k=>fps1 (π.getD k 0),fun k hk=>?_,fun k l b hk hl hne=>?_⟩,?_,?_⟩
 ·have:¬(nid<=i/\i<nid+π.length):=fun⟨a,b⟩=>hi ⟨a,by omega⟩
  by_cases hlt:i<nid
  ·simp[ρ',Oa hlt]
  ·simp[ρ',N9 hlt,N9 (show¬i<nid+π.length by omega)]
 ·obtain⟨p,p1,p2⟩:=hat k hk;obtain⟨m1,m2,m3⟩:=l2 k p p1;have hgd:π.getD k 0=p:=by simp[N8,p1]
  simp only[hgd];refine⟨?_,fun b hb=>⟨?_,g1.lt p b m1 hb⟩⟩
  ·rw[m3];exact ec hvia hNN p2 _ _ _ (fX m2 (g1.holds p m1))
  ·refine Nat.le_of_not_lt fun hlt=>?_
   exact g1.inF p b m1 hb hlt
 ·obtain⟨p,p1,p2⟩:=hat k hk;obtain⟨p',p1',p2'⟩:=hat l hl;have hgd:π.getD k 0=p:=by simp[N8,p1]
  have hgd':π.getD l 0=p':=by simp[N8,p1']
  simp only[hgd,hgd']
  have hpp:p≠p':=by
   rintro rfl
   rw[p2]at p2';simp at p2';omega
  exact g1.disj p p' b (l2 k p p1).1 (l2 l p' p1').1 hpp
 ·exact(eH hvia hNN _ _ n1).1.symm
 ·exact(eH hvia hNN _ _ n1).2.1 g3
theorem qX {P:Program} {f:Nat} {α:Type} {B:kS α} {Q:α->Option Prop} {x:α->Nat->V} {new:α->Nat->List ai} {π:α->List Nat} (hB:j7 B) (hnd:∀a,(π a).Nodup) (hy:∀a nid,K6 (new a nid)=true)
  (h:∀a,aX (Q a)->cq (known (iu (B.pl a))) (B.cn a 0)->aj P f (B.cn a 0) (iu (B.pl a)) (fun v r=>zM (π a) (x a) (new a) v r) (fun _ _=>False)):bV P f (B2 B Q x new):=by
 intro J fps res K w0 F0 w nid args q y new' hH hargs hg hq hfr;unfold B2 at hg;split at hg<;>simp only[N1,N2,reduceCtorEq]at hg
 rename_i pls a ha;obtain⟨rfl,rfl,rfl⟩:=hg;obtain⟨b1,b2,_,b4⟩:=hB _ _ _ _ ha;obtain⟨c1,c2⟩:=b4 [] [];simp only[List.nil_append,List.append_nil,List.length_nil]at c1 c2;refine⟨?_,fun k hk=>rE (hy a nid) k hk⟩
 have hrep:=Ai hH b2;have hok:=c2 K hargs;rw[<-(c1 J K hargs).1];have hro:nH pls=iu (B.pl a):=by rw[yY,b1]
 rw[hro]at hrep hok;refine(h a hq hok _ _ _ _ _ hrep hok).mono fun e w' ⟨v,ρ1,fps1,r,g1,g2,g3,g4⟩=>?_
 rcases g4 with⟨rfl,hN⟩|⟨_,hF⟩
 ·exact⟨_,rfl,rU (hnd a) g1 g3 hN⟩
 ·exact hF.elim
theorem aj.Ag {P:Program} {f:Nat} {args:List V} {res:List ai} {x:V} {new:List ai} {K KP:V->List ai->Prop} (hy:∀k,k<new.length->ae new k≠ .yet)
  (h:∀J fps w0 F0 w,aw J fps res (known res) w0 F0 w->cq (known res) args->CallsIn (FF P none) 0 P f (aD J args).toArray w fun e w'=>∃v,e= .returned v/\ma (known res) J res.length x new w0 F0 w v w') (hK:K x (res++new)):aj P f args res K KP:=by
 intro J fps w0 F0 w hH hargs;refine(h J fps w0 F0 w hH hargs).mono fun e w' ⟨v,he,ρ',hg,hv,hx⟩=>?_
 have hfr':∀i,known res i->¬fresh res.length new.length i:=fun i hi hf=>by have:=ak hi;unfold fresh at hf;omega
 have hK':∀i,known res i\/fresh res.length new.length i->known (res++new) i:=by
  intro i hi;obtain⟨b1,b2,b3⟩:=fq res new;rcases hi with hi|⟨f1,f2⟩
  ·unfold known;rw[(b1 i hi).1];exact hi
  ·have:=b3 (i-res.length) (by omega)
   rw[show res.length+(i-res.length)=i by omega]at this
   unfold known;rw[this];exact hy _ (by omega)
 obtain⟨fps',g1,g2⟩:=hH.grow (res':=res++new) (fq _ _) hfr' hK' hg;exact⟨x,ρ',fps',res++new,g1,⟨g2,fun i hi=>hK' i (.inl hi)⟩,bq hK' _ hx,.inl ⟨by rw[he,hv],hK⟩⟩
def LM {α:Type} (B:kS α) (Q:α->Prop) (c:α->Bool) (F0:α->V) (F1:α->Nat->V) (new:α->ai):pd:=fun args res K=>
 match B.rd res args with
 |some (_,a)=>Q a/\(c a=false->K (F0 a) res)/\(c a=true->K (F1 a res.length) (res++ [new a]))
 |none=>False
def I7 (c:Bool) (x0:V) (F1:Nat->V) (new:ai) (p:Option Nat) (v:V) (r:List ai):Prop:=
 match p with
 |some p=>c=true/\zM [p] F1 (fun _=> [new]) v r
 |none=>c=false/\pW x0 v r
def MP (v:V):Option Nat:=
 match v with
 | .sa p=>some p
 | .lp p _=>some p
 | .tp l=>match l with
   |x::_=>match x with
    | .sa p=>some p
    | .lp p _=>some p
    |_=>none
   | []=>none
 |_=>none
def Hf (c:Bool) (x0:V) (F1:Nat->V) (new:ai) (v:V) (r:List ai):Prop:=I7 c x0 F1 new (MP v) v r
theorem yn {P:Program} {f:Nat} {α:Type} {B:kS α} {Q:α->Prop} {c:α->Bool} {F0:α->V} {F1:α->Nat->V} {new:α->ai} (hB:j7 B) (hF:∀a,gL (F0 a)=true) (hn:∀a,new a≠ .yet)
  (h:∀a,Q a->cq (known (iu (B.pl a))) (B.cn a 0)->aj P f (B.cn a 0) (iu (B.pl a)) (Hf (c a) (F0 a) (F1 a) (new a)) (fun _ _=>False)):si P f (LM B Q c F0 F1 new):=by
 intro args res K KP hh;unfold LM at hh;split at hh
 case h_2=>exact hh.elim
 rename_i pls a ha;obtain⟨hQ,h0,h1⟩:=hh;obtain⟨b1,b2,_,b4⟩:=hB _ _ _ _ ha;obtain⟨c1,c2⟩:=b4 [] [];simp only[List.nil_append,List.append_nil,List.length_nil]at c1 c2;have hro:nH pls=iu (B.pl a):=by rw[yY,b1]
 have main:∀J fps w0 F0' w,aw J fps res (known res) w0 F0' w->cq (known res) args->CallsIn (FF P none) 0 P f (aD J args).toArray w fun e w'=>∃v ρ1 fps1 r,e= .returned (den ρ1 v)/\aw ρ1 fps1 r (known r) w (fun _=>False) w'/\ok (known r) v/\Hf (c a) (F0 a) (F1 a) (new a) v r:=by
  intro J fps w0 F0' w hH hargs;have hrep:=Ai hH b2;have hok:=c2 _ hargs;rw[hro]at hrep hok;rw[<-(c1 J _ hargs).1];refine(h a hQ hok _ _ _ _ _ hrep hok).mono fun e w' ⟨v,ρ1,fps1,r,g1,g2,g3,g4⟩=>?_
  rcases g4 with⟨rfl,hN⟩|⟨_,hF⟩
  ·exact⟨v,ρ1,fps1,r,rfl,g1,g3,hN⟩
  ·exact hF.elim
 cases hc:c a with
 |true=>
  refine aj.Ag (x:=F1 a res.length) (new:= [new a]) (fun k hk=>by simp at hk;subst hk;exact hn a) (fun J fps w0 F0' w hH hargs=>?_) (h1 hc)
  refine(main J fps w0 F0' w hH hargs).mono fun e w' ⟨v,ρ1,fps1,r,he,g1,g3,hv⟩=>?_
  unfold Hf I7 at hv;split at hv
  ·exact⟨_,he,rU (new:=fun _=> [new a]) (by simp) g1 g3 hv.2⟩
  ·rw[hc]at hv;simp at hv
 |false=>
  have h0':=h0 hc;rw[<-List.append_nil res]at h0';refine aj.Ag (x:=F0 a) (new:= []) (fun k hk=>by simp at hk) (fun J fps w0 F0' w hH hargs=>?_) h0'
  refine(main J fps w0 F0' w hH hargs).mono fun e w' ⟨v,ρ1,fps1,r,he,g1,g3,hv⟩=>?_
  unfold Hf I7 at hv;split at hv
  ·rw[hc]at hv;simp at hv
  ·refine⟨_,he,J,⟨⟨g1.os,g1.tape,g1.output,g1.old,fun b hb=>g1.same b hb (fun h=>h)⟩,Env.agree.refl _ _,fun _ _=>False,fun k hk=>by simp at hk,fun k l b hk=>by simp at hk⟩,?_,?_⟩
   ·obtain⟨e1,e2,_⟩:=cK hv.2 ρ1 (known r);rw[e1];exact jW (hF a) (e2 g3) J ρ1
   ·obtain⟨e1,e2,_⟩:=cK hv.2 ρ1 (known r);exact jm _ (hF a) (e2 g3)
end Go.Sx
namespace Go.Sx
open Go.RowKit (Below)
theorem aj.Lo {P:Program} {f:Nat} {rest:List V} {res:List ai} {K KP:V->List ai->Prop} {k n e:Nat} {x:V} {L:List Obj} (hr:ae res k= .blk e x) (hl:BE x=some L) (hn:n=L.length) (hs:n<=1000)
  (h:aj P f (.sa res.length::rest) (aM res k .gone++ [.arr (some e) 163 (.ob L)]) K KP):aj P f (.sc k n n::rest) res K KP:=by
 intro J fps w0 F0 w hH hargs;have hk:known res k:=by unfold known;rw[hr];simp
 have hnk:¬known res res.length:=fun hk=>by have:=ak hk;omega
 have hag:=j9 (N:=known res) J (i:=res.length) (a:=some ⟨J.num k,0,none⟩) (n:=n) (cap:=n) hnk;obtain⟨fps',g1,g2,g3,g4⟩:=wx hH hr hl hn hs;have hargs':cq (known (aV [k] res++ [.arr (some e) 163 (.ob L)])) (.sa res.length::rest):=⟨g4,aY g3 _ hargs.2⟩
 have hd:aD (J.cV res.length (some ⟨J.num k,0,none⟩) n n) (.sa res.length::rest)=aD J (.sc k n n::rest):=by
  simp only[aD,cx hag rest hargs.2];simp[den,Env.cV]
 have:=h _ fps' w0 F0 w g1 hargs';rw[hd]at this;refine this.mono fun en w' ⟨x,ρ'',fps'',res'',a1,a2,a3,a4⟩=>⟨x,ρ'',fps'',res'',a1,⟨g2.trans (a2.1.mono fun i hi=>g3 i hi) (fun _ h=>h),fun i hi=>a2.2 i (g3 i hi)⟩,a3,a4⟩
def Kg (h:pd):pd:=fun args res K=>
 match args with
 |a::rest=>match a with
  | .sc k n c=>match ae res k with
    | .blk e x=>match BE x with
      |some L=>if n==L.length&&c==n&&Nat.ble n 1000 then h (.sa res.length::rest) (aM res k .gone++ [.arr (some e) 163 (.ob L)]) K else False
      |none=>False
    |_=>False
  |a=>h (a::rest) res K
 | []=>h [] res K
theorem Hj {P:Program} {f:Nat} {h:pd} (hh:si P f h):si P f (Kg h):=by
 intro args res K KP hc;unfold Kg at hc;split at hc
 ·split at hc
  ·split at hc
   case h_2=>exact hc.elim
   rename_i e x hr;split at hc
   case h_2=>exact hc.elim
   rename_i L hL;split at hc
   case isFalse=>exact hc.elim
   rename_i hb;simp only[N3,N5,Nat.ble_eq]at hb;obtain⟨⟨h1,rfl⟩,h2⟩:=hb;exact aj.Lo hr hL h1 h2 (hh _ _ _ _ hc)
  ·exact hh _ _ _ _ hc
 ·exact hh _ _ _ _ hc
end Go.Sx
