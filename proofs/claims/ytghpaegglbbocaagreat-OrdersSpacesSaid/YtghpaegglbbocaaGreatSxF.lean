import Derived.Test.YtghpaegglbbocaaGreatCfg
set_option linter.unusedSimpArgs false
set_option linter.unusedVariables false
namespace Go.Sx
open Go.RowKit (Below)
abbrev Ct:=List aH->Nat->List V->RR
def cj (P:Program) (f:Nat) (g:Ct):Prop:=
 ∀J fps res K w0 F0 w nid args q x new,bh J fps res K w0 F0 w->ft K args->g res nid args=some (q,x,new)->dF q->
  (∀k,k<new.length->¬K (nid+k))->
  (CallsIn (FF P none) 0 P f (bu J args).toArray w fun e w'=>∃v,e= .returned v/\pX K J nid x new w0 F0 w v w')/\∀k,k<new.length->ay new k≠ .yet
def oG:List (Nat×Ct)->Nat->Option Ct
 | [],_=>none
 | (g,c)::l,f=>if f==g then some c else oG l f
theorem lK {P:Program}:∀{l:List (Nat×Ct)},(∀p∈l,cj P p.1 p.2)->∀f g,oG l f=some g->cj P f g
 | [],_,f,g,h=>by simp[oG]at h
 | (k,c)::l,hl,f,g,h=>by
   simp only[oG]at h;split at h
   ·rename_i e;have e:=XM.1 e;simp only[XI]at h;subst h;subst e;exact hl (f,c) (by simp)
   ·exact lK (fun p hp=>hl p (by simp[hp])) f g h
mutual
def j4:V->Bool
 | .lp _ _=>false
 | .lx _ _ _ _ _ _=>false
 | .sc _ _ _=>false
 | .so _ _=>false
 | .ap _ _ _ _=>false
 | .ax _ _ _ _ _ _ _ _=>false
 | .sa _=>false
 | .op _ _=>false
 | .yl _=>false
 | .mp _=>false
 | .ch _ _ _ _=>false
 | .bs _ _ _=>false
 | .ks _ _ _ _ _=>false
 | .fn _ l=>kG l
 | .ic _ x=>j4 x
 | .ag l=>kG l
 | .tp l=>kG l
 |_=>true
def kG:List V->Bool
 | []=>true
 |x::l=>j4 x&&kG l
end
mutual
theorem nn {K K':Nat->Prop}:∀v,j4 v=true->ok K v->ok K' v
 | .lp _ _,h,_| .lx _ _ _ _ _ _,h,_| .sc _ _ _,h,_| .so _ _,h,_| .ap _ _ _ _,h,_| .sa _,h,_| .op _ _,h,_| .yl _,h,_| .mp _,h,_| .ch _ _ _ _,h,_| .ax _ _ _ _ _ _ _ _,h,_| .bs _ _ _,h,_| .ks _ _ _ _ _,h,_=>by simp[j4]at h
 | .fn _ l,h,hk=>mW l h hk
 | .ic _ x,h,hk=>nn x h hk
 | .ag l,h,hk=>⟨mW l h hk.1,hk.2⟩
 | .tp l,h,hk=>mW l h hk
 | .cb _,_,hk| .bo _,_,hk| .ci _ _,_,hk| .it _ _,_,hk| .bt _,_,hk| .st _,_,hk| .nl _,_,hk| .key _,_,hk| .sl _,_,hk| .by _,_,hk| .ob _,_,hk=>hk
theorem mW {K K':Nat->Prop}:∀l,kG l=true->ft K l->ft K' l
 | [],_,_=>trivial
 |x::l,h,hk=>by
  simp only[kG,XK]at h;exact⟨nn x h.1 hk.1,mW l h.2 hk.2⟩
end
theorem oy {K:Nat->Prop} {v:V} (h:j4 v=true) (hk:ok K v) (J ρ':Env):den ρ' v=den J v:=
 fc (N:=fun _=>False) (fun _ h=>h.elim) v (nn v h hk)
def nz (v:V) (v':V) (_:List aH):Prop:=
 match ve v' v with
 |some l=>iG l
 |none=>False
def yt (x v:V) (_:List aH):Prop:=∀J K,pG J K v x
theorem dt {x v:V} {r:List aH} (h:nz x v r):yt x v r:=by
 unfold nz at h;split at h
 ·rename_i l hl;exact fun J K=>pE J K _ _ l hl h
 ·exact h.elim
theorem ai.mono {P:Program} {f:Nat} {args:List V} {res:List aH} {K K' KP KP':V->List aH->Prop} (h:ai P f args res K KP) (hK:∀v r,K v r->K' v r) (hP:∀v r,KP v r->KP' v r):
  ai P f args res K' KP':=by
 intro J fps w0 F0 w hH ha;refine(h J fps w0 F0 w hH ha).mono fun e w' ⟨x,ρ',fps',res',g1,g2,g3,g4⟩=>⟨x,ρ',fps',res',g1,g2,g3,?_⟩
 rcases g4 with⟨e1,e2⟩|⟨e1,e2⟩
 ·exact .inl ⟨e1,hK _ _ e2⟩
 ·exact .inr ⟨e1,hP _ _ e2⟩
def UF (l m:List V):Prop:=(∀J,bu J l=bu J m)/\∀K,ft K l->ft (fun _=>False) m
theorem sk {P:Program} {f:Nat} {g:Ct} (h:∀res nid args q x new,g res nid args=some (q,x,new)->new= []/\j4 x=true/\
  ∃args',UF args args'/\(dF q->ft (fun _=>False) args'->ai P f args' [] (yt x) (fun _ _=>False))):cj P f g:=by
 intro J fps res K w0 F0 w nid args q x new hH hargs hg hq hfr;obtain⟨rfl,hid,args',⟨s1,s2⟩,hc⟩:=h res nid args q x new hg;refine⟨?_,fun k hk=>by simp at hk⟩
 have hok:=s2 K hargs
 have hrep:bh J (fun _ _=>False) [] (known []) w (fun _=>False) w:=
  ⟨fun i hi=>hi,Nat.le_refl _,rfl,rfl,rfl,fun i hi=>by simp[known,ay]at hi,fun i b hi=>by simp[known,ay]at hi,fun i j b hi=>by simp[known,ay]at hi,fun i b hi=>by simp[known,ay]at hi,fun _ _ _=>rfl⟩
 have hcall:=hc hq hok J (fun _ _=>False) w (fun _=>False) w hrep (by rw[gP]at hok⊢;exact fun z hz=>fm (hok z hz))
 rw[s1 J];refine hcall.mono fun e w' ⟨y,ρ',fps',res',g1,g2,g3,g4⟩=>?_
 rcases g4 with⟨rfl,hK⟩|⟨_,hK⟩
 ·refine⟨_,rfl,J,?_,?_,?_⟩
  ·have hb:Below w.heap.size w w':=by
    refine⟨g1.os,g1.tape,g1.output,g1.old,fun b hb=>g1.same b hb (fun h=>h)⟩
   exact⟨hb,Env.bp.refl _ _,fun _ _=>False,fun k hk=>by simp at hk,fun k l b hk=>by simp at hk⟩
  ·obtain⟨e1,e2,_⟩:=hK ρ' (known res');rw[e1];exact oy hid (e2 g3) J ρ'
  ·obtain⟨e1,e2,_⟩:=hK ρ' (known res');exact nn x hid (e2 g3)
 ·exact hK.elim
def pg {α:Type} (r:V->Option α) (m:α->V):Prop:=∀v x,r v=some x->(∀J,den J v=den J (m x))/\∀K,ok K v->ok (fun _=>False) (m x)
def rI (k:IntKind) (v:V):Option Int:=
 match toInt v with
 |some (k',n)=>if k==k' then some n else none
 |none=>none
def rK (v:V):Option Key:=
 match v with
 | .key k=>some k
 | .ag l=>match l with
   | [a,b,c,d,e,f]=>match rI .i64 a with
     |some a=>match rI .i64 b with
      |some b=>match rI .i64 c with
       |some c=>match rI .i64 d with
        |some d=>match rI .i64 e with
         |some e=>match rI .i64 f with
          |some f=>some ⟨a,b,c,d,e,f⟩
          |none=>none
         |none=>none
        |none=>none
       |none=>none
      |none=>none
     |none=>none
   |_=>none
 |_=>none
def rO:V->Option Obj
 | .ob o=>some o
 |_=>none
theorem MM:pg toBool V.bo:=by
 intro v x h;cases v<;>simp[toBool]at h<;>subst h<;>exact⟨fun _=>rfl,fun _ _=>trivial⟩
theorem fy (k:IntKind):pg (rI k) (V.it k):=by
 intro v x h;unfold rI at h;cases v<;>simp[toInt]at h<;>obtain⟨rfl,rfl⟩:=h
 ·exact⟨fun _=>rfl,fun _ hk=>hk⟩
 ·exact⟨fun _=>rfl,fun _ hk=>hk⟩
 ·rename_i b;refine⟨fun _=>rfl,fun _ _=>?_⟩
  have:=b.toNat_lt;simp only[ok,cg,P7];omega
theorem fx:pg rK V.key:=by
 intro v x h;unfold rK at h;split at h
 ·simp only[XI]at h;subst h;exact⟨fun _=>rfl,fun _ hk=>hk⟩
 ·split at h
  case h_2=>simp at h
  split at h<;>try(simp at h;done)
  rename_i h1;split at h<;>try(simp at h;done)
  rename_i h2;split at h<;>try(simp at h;done)
  rename_i h3;split at h<;>try(simp at h;done)
  rename_i h4;split at h<;>try(simp at h;done)
  rename_i h5;split at h<;>simp only[XI,reduceCtorEq]at h
  rename_i h6;subst h;have e1:=fy .i64 _ _ h1;have e2:=fy .i64 _ _ h2;have e3:=fy .i64 _ _ h3;have e4:=fy .i64 _ _ h4;have e5:=fy .i64 _ _ h5;have e6:=fy .i64 _ _ h6;refine⟨fun J=>?_,fun K hK=>?_⟩
  ·simp only[den,bf,e1.1 J,e2.1 J,e3.1 J,e4.1 J,e5.1 J,e6.1 J];rfl
  ·obtain⟨⟨k1,k2,k3,k4,k5,k6,_⟩,_⟩:=hK;exact⟨e1.2 K k1,e2.2 K k2,e3.2 K k3,e4.2 K k4,e5.2 K k5,e6.2 K k6⟩
 ·simp at h
theorem Us {v:V} {x:Key} (h:rK v=some x):cz v=false:=by
 cases v<;>first|rfl|simp[rK]at h
theorem yk:pg rO V.ob:=by
 intro v x h;cases v<;>simp[rO]at h<;>subst h<;>exact⟨fun _=>rfl,fun _ hk=>hk⟩
def Uk (F:V):Ct:=fun _ _ xs=>match xs with
 | []=>some (none,F,[])
 |_=>none
def Nj {α:Type} (r:V->Option α) (F:α->V):Ct:=fun _ _ xs=>match xs with
 | [a]=>match r a with
   |some x=>some (none,F x,[])
   |none=>none
 |_=>none
def Qn {α β:Type} (r:V->Option α) (s:V->Option β) (F:α->β->V):Ct:=fun _ _ xs=>match xs with
 | [a,b]=>match r a,s b with
   |some x,some y=>some (none,F x y,[])
   |_,_=>none
 |_=>none
def Wq {α β γ:Type} (r:V->Option α) (s:V->Option β) (t:V->Option γ) (F:α->β->γ->V):Ct:=fun _ _ xs=>match xs with
 | [a,b,c]=>match r a,s b,t c with
   |some x,some y,some z=>some (none,F x y z,[])
   |_,_,_=>none
 |_=>none
theorem Tt {P:Program} {f:Nat} {F:V} (hF:j4 F=true) (h:ai P f [] [] (nz F) (fun _ _=>False)):cj P f (Uk F):=by
 refine sk fun res nid args q x new hg=>?_
 unfold Uk at hg;split at hg<;>simp only[XI,XJ,reduceCtorEq]at hg
 obtain⟨rfl,rfl,rfl⟩:=hg;exact⟨rfl,hF,[],⟨fun _=>rfl,fun _ _=>trivial⟩,fun _ _=>h.mono (fun _ _=>dt) fun _ _ h=>h⟩
theorem Uc {P:Program} {f:Nat} {F:V} (hF:j4 F=true) (h:ai P f [] [] (fun v _=>v=F) (fun _ _=>False)):cj P f (Uk F):=by
 refine sk fun res nid args q x new hg=>?_
 unfold Uk at hg;split at hg<;>simp only[XI,XJ,reduceCtorEq]at hg
 obtain⟨rfl,rfl,rfl⟩:=hg;exact⟨rfl,hF,[],⟨fun _=>rfl,fun _ _=>trivial⟩,fun _ _=>h.mono (fun v _ e=>by subst e;exact fun J K=>pG.refl J K v) fun _ _ h=>h⟩
theorem oI {P:Program} {f:Nat} {α:Type} {r:V->Option α} {m:α->V} {F:α->V} (hr:pg r m) (hF:∀x,j4 (F x)=true)
  (h:∀x,ok (fun _=>False) (m x)->ai P f [m x] [] (nz (F x)) (fun _ _=>False)):cj P f (Nj r F):=by
 refine sk fun res nid args q x new hg=>?_
 unfold Nj at hg;split at hg<;>(try split at hg)<;>simp only[XI,XJ,reduceCtorEq]at hg
 rename_i a x h1;obtain⟨rfl,rfl,rfl⟩:=hg;obtain⟨a1,a2⟩:=hr _ x h1;exact⟨rfl,hF x,[m x],⟨fun J=>by simp[bu,a1 J],fun K hK=>⟨a2 K hK.1,trivial⟩⟩,fun _ hok=>(h x hok.1).mono (fun _ _=>dt) fun _ _ h=>h⟩
theorem mz {P:Program} {f:Nat} {α β:Type} {r:V->Option α} {s:V->Option β} {m:α->V} {n:β->V} {F:α->β->V} (hr:pg r m) (hs:pg s n) (hF:∀x y,j4 (F x y)=true)
  (h:∀x y,ok (fun _=>False) (m x)->ok (fun _=>False) (n y)->ai P f [m x,n y] [] (nz (F x y)) (fun _ _=>False)):cj P f (Qn r s F):=by
 refine sk fun res nid args q x new hg=>?_
 unfold Qn at hg;split at hg<;>(try split at hg)<;>simp only[XI,XJ,reduceCtorEq]at hg
 rename_i a b x y h1 h2;obtain⟨rfl,rfl,rfl⟩:=hg;obtain⟨a1,a2⟩:=hr _ x h1;obtain⟨b1,b2⟩:=hs _ y h2;exact⟨rfl,hF x y,[m x,n y],⟨fun J=>by simp[bu,a1 J,b1 J],fun K hK=>⟨a2 K hK.1,b2 K hK.2.1,trivial⟩⟩,fun _ hok=>(h x y hok.1 hok.2.1).mono (fun _ _=>dt) fun _ _ h=>h⟩
theorem J1 {P:Program} {f:Nat} {α β γ:Type} {r:V->Option α} {s:V->Option β} {t:V->Option γ} {m:α->V} {n:β->V} {o:γ->V} {F:α->β->γ->V} (hr:pg r m) (hs:pg s n) (ht:pg t o)
  (hF:∀x y z,j4 (F x y z)=true)
  (h:∀x y z,ok (fun _=>False) (m x)->ok (fun _=>False) (n y)->ok (fun _=>False) (o z)->ai P f [m x,n y,o z] [] (nz (F x y z)) (fun _ _=>False)):cj P f (Wq r s t F):=by
 refine sk fun res nid args q x new hg=>?_
 unfold Wq at hg;split at hg<;>(try split at hg)<;>simp only[XI,XJ,reduceCtorEq]at hg
 rename_i a b c x y z h1 h2 h3;obtain⟨rfl,rfl,rfl⟩:=hg;obtain⟨a1,a2⟩:=hr _ x h1;obtain⟨b1,b2⟩:=hs _ y h2;obtain⟨c1,c2⟩:=ht _ z h3;exact⟨rfl,hF x y z,[m x,n y,o z],⟨fun J=>by simp[bu,a1 J,b1 J,c1 J],fun K hK=>⟨a2 K hK.1,b2 K hK.2.1,c2 K hK.2.2.1,trivial⟩⟩,fun _ hok=>(h x y z hok.1 hok.2.1 hok.2.2.1).mono (fun _ _=>dt) fun _ _ h=>h⟩
def UW:List Nat->Nat->Bool
 | [],_=>false
 |x::l,i=>x==i||UW l i
def Vg:List (Nat×V)->Nat->Option V
 | [],_=>none
 | (j,v)::l,i=>if j==i then some v else Vg l i
def G8 (iT:List Nat) (set:List (Nat×V)):Nat->List S->List S
 |_,[]=> []
 |i,s::l=>(match Vg set i with
  |some v=> .v v
  |none=>if UW iT i then s else .und)::G8 iT set (i+1) l
def Xe (iT:List Nat) (t:Nat) (inv:Int->Prop) (m:Int):dE:=
 {γ:=Int,head:=fun U g=> {U with slots:=G8 iT [(t,.it .i64 g)] 0 U.slots},inv:=inv,μ:=fun g=>ot (rW m g)}
def T2 (iT:List Nat) (set:Int->List (Nat×V)) (inv:Int->Prop) (m:Int):dE:=
 {γ:=Int,head:=fun U g=> {U with slots:=G8 iT (set g) 0 U.slots},inv:=inv,μ:=fun g=>ot (rW m g)}
def jC:List (Nat×Nat×dE)->Nat->Nat->Option dE
 | [],_,_=>none
 | (f,r,A)::l,f',r'=>if f==f'&&r==r' then some A else jC l f' r'
def aP (_ _:Nat):Option dE:=none
def bn (_:Nat):Bool:=false
def XB:Handler:=fun _ _ _ _ _=>False
end Go.Sx
namespace Go.Proofs.YtghpaegglbbocaaGreat
open Go.Sx
noncomputable def cf (l:List (Nat×Ct)) (inl:Nat->Bool) (ann:Nat->Nat->Option dE):Qm:= {P:=Tryz.prog,Z:=zeroOf,Γ:=oG l,H0:=XB,inl:=inl,ann:=ann,opn:=JT inl}
theorem Ly {l:List (Nat×Ct)} {inl:Nat->Bool} {ann:Nat->Nat->Option dE} (hl:∀p∈l,cj Tryz.prog p.1 p.2):(cf l inl ann).toCtx.Sound:=
 ⟨yh nO,Tryz.checked.mixed,fun f g hg=>lK hl f g hg,fun f ts te h=>by simp[cf]at h⟩
abbrev vc (l:List (Nat×Ct)) (inl:Nat->Bool) (ann:Nat->Nat->Option dE) (f:Nat) (args:List V) (res:List aH) (K KP:V->List aH->Prop):Prop:=
 enter (cf l inl ann).toCtx (exec (cf l inl ann) 100 ⟨false,none⟩) (exec (cf l inl ann) 100 ⟨false,none⟩ f) f args res K KP
set_option maxRecDepth 100000 in
theorem aW {l:List (Nat×Ct)} {inl:Nat->Bool} {ann:Nat->Nat->Option dE} (hl:∀p∈l,cj Tryz.prog p.1 p.2) {f:Nat} {args:List V} {res:List aH} {K KP:V->List aH->Prop}
  {G:Prop} (hG:G) (h:G=vc l inl ann f args res K KP):ai Tryz.prog f args res K KP:=
 AA (C:=cf l inl ann) (n:=100) (Ly hl) (fun _ _ _ _ _ hh=>hh.elim) (Eq.mp h hG)
end Go.Proofs.YtghpaegglbbocaaGreat
namespace Go.Sx
theorem an {P:Program}:∀p∈([]:List (Nat×Ct)),cj P p.1 p.2:=by simp
theorem ae {P:Program} {f:Nat} {g:Ct} {l:List (Nat×Ct)} (h:cj P f g) (t:∀p∈l,cj P p.1 p.2):∀p∈(f,g)::l,cj P p.1 p.2:=by
 intro p hp;rcases List.mem_cons.1 hp with rfl|hp
 ·exact h
 ·exact t p hp
end Go.Sx
namespace Go.Sx
open Go.RowKit (Below)
theorem bh.zL {J:Env} {fps:Nat->Nat->Prop} {res:List aH} {K:Nat->Prop} {w0:World} {F0:Nat->Prop} {w:World} (h:bh J fps res K w0 F0 w) {i:Nat} {r:aH}
  (hr:dr res i=r) (hk:known res i):∃fp:Nat->Prop,r.holds K J i fp w0 F0 w/\∀b,fp b->fps i b\/(b<w0.heap.size/\¬F0 b):=by
 have hh:=h.holds i hk;unfold dr at hr;split at hr
 ·rename_i r' he;rw[he]at hh;subst hr;obtain⟨fp',h1,h2⟩:=hh;exact⟨fp',aH.fC _ h1 fun b hb=>h.same b (h2 b hb).1 (h2 b hb).2,fun b hb=> .inr (h2 b hb)⟩
 ·subst hr;exact⟨fps i,hh,fun b hb=> .inl hb⟩
def ez (κ:Nat->Option Nat) (res:List aH):List (Nat×Bool)->List aH
 | []=> []
 | (p,o)::l=>(if o then fW κ (ay res p)else .ro (fW κ (dr res p)))::ez κ res l
def dA:List (Nat×Bool)->List Nat
 | []=> []
 | (p,_)::l=>p::dA l
def eA (res:List aH):List (Nat×Bool)->Bool
 | []=>true
 | (p,_)::l=>jK res p&&eA res l
theorem mC:∀(l:List (Nat×Bool)) (i:Nat),(dA l)[i]? =(l[i]?).map (·.1)
 | [],i=>by simp[dA]
 | (p,o)::l,0=>by simp[dA]
 | (p,o)::l,i+1=>by simp[dA,mC l i]
theorem uh (κ:Nat->Option Nat) (res:List aH):∀(l:List (Nat×Bool)) (i:Nat),ay (ez κ res l) i=match l[i]? with
  |some (p,o)=>if o then fW κ (ay res p)else .ro (fW κ (dr res p))
  |none=> .yet
 | [],i=>by simp[ez,ay]
 | (p,o)::l,0=>by simp[ez,ay]
 | (p,o)::l,i+1=>by simp[ez,ay,uh κ res l i]
theorem tk (κ:Nat->Option Nat) (res:List aH):∀(l:List (Nat×Bool)),(ez κ res l).length=l.length
 | []=>rfl
 | (p,o)::l=>by simp[ez,tk κ res l]
theorem dK {res:List aH}:∀{l:List (Nat×Bool)},eA res l=true->∀(i:Nat) (p:Nat) (o:Bool),l[i]? =some (p,o)->known res p
 | [],_,i,p,o,h=>by simp at h
 | (x,y)::l,hk,i,p,o,h=>by
   simp only[eA,XK]at hk;cases i with
   |zero=>simp at h;obtain⟨rfl,_⟩:=h;exact cV.1 hk.1
   |succ i=>exact dK hk.2 i p o (by simpa using h)
theorem mK {p:Nat}:∀(l:List Nat) (m k:Nat),l.Nodup->l[k]? =some p->idxOf l m p=some (m+k)
 | [],m,k,_,h=>by simp at h
 |x::l,m,k,hnd,h=>by
  simp only[idxOf];cases k with
  |zero=>simp at h;subst h;simp
  |succ k=>
   simp at h
   have hne:(x==p)=false:=by
    rw[beq_eq_false_iff_ne];rintro rfl
    exact(List.nodup_cons.1 hnd).1 (List.mem_of_getElem? h)
   rw[hne];simp only[Bool.false_eq_true,if_false];rw[mK l (m+1) k (List.nodup_cons.1 hnd).2 h];congr 1;omega
theorem Ht {l:List Nat} {p i:Nat} (h:kC 0 l p=some i):l[i]? =some p:=by
 unfold kC at h;split at h
 ·rename_i hb;simp at hb
 ·have:=gT h;simpa using this.2.2
theorem Bi {l:List Nat} {p i:Nat} (hnd:l.Nodup) (h:l[i]? =some p):kC 0 l p=some i:=by
 unfold kC;rw[XQ (by simp),mK l 0 i hnd h];simp
def Frame (J:Env) (fps:Nat->Nat->Prop) (pl:List (Nat×Bool)) (b:Nat):Prop:=∃(i p:Nat),pl[i]? =some (p,true)/\fps p b
section
variable {J:Env} {fps:Nat->Nat->Prop} {res:List aH} {w0 w:World} {F0:Nat->Prop}
theorem bh.ez {K:Nat->Prop} (h:bh J fps res K w0 F0 w) {pl:List (Nat×Bool)} (hk:eA res pl=true) (hnd:(dA pl).Nodup):
  bh (J.pull (src 0 (dA pl))) (fun i b=>∃p:Nat,pl[i]? =some (p,true)/\fps p b) (ez (kC 0 (dA pl)) res pl) (known (ez (kC 0 (dA pl)) res pl)) w (Frame J fps pl) w/\
   (∀i,i<pl.length->known (ez (kC 0 (dA pl)) res pl) i)/\Env.via (kC 0 (dA pl)) J (J.pull (src 0 (dA pl)))/\∀p i,kC 0 (dA pl) p=some i->K p->known (Sx.ez (kC 0 (dA pl)) res pl) i:=by
 generalize hκ:kC 0 (dA pl)=κ
 have hπ:∀p i,κ p=some i->src 0 (dA pl) i=p:=fun p i hp=>by subst hκ;exact E1 hp
 have hv:Env.via κ J (J.pull (src 0 (dA pl))):=tE hπ
 have hsome:∀i p o,pl[i]? =some (p,o)->κ p=some i:=fun i p o hi=>by
  subst hκ;exact Bi hnd (by rw[mC,hi];rfl)
 have hkn:∀i p o,pl[i]? =some (p,o)->known (Sx.ez κ res pl) i:=fun i p o hi=>by
  unfold known;rw[uh,hi];simp only;split
  ·exact fun e=>dK hk i p o hi (k8.1 e)
  ·simp
 have hget:∀i,known (Sx.ez κ res pl) i->∃p o,pl[i]? =some (p,o):=fun i hi=>by
  have:=aN hi;rw[tk]at this;exact⟨pl[i].1,pl[i].2,by rw[List.getElem?_eq_getElem this]⟩
 have hN:∀p i,κ p=some i->K p->known (Sx.ez κ res pl) i:=fun p i hp _=>by
  subst hκ;have:=Ht hp;rw[mC]at this;cases hi:pl[i]? with
  |none=>rw[hi]at this;simp at this
  |some po=>exact hkn i po.1 po.2 hi
 have huniq:∀i j p o o',pl[i]? =some (p,o)->pl[j]? =some (p,o')->i=j:=fun i j p o o' hi hj=>by
  have a:=hsome i p o hi;rw[hsome j p o' hj]at a;simpa using a.symm
 have hfr:∀b,b<w0.heap.size->¬F0 b->w.heap[b]? =w0.heap[b]? /\¬Frame J fps pl b:=fun b hb hF=>by
  refine⟨h.same b hb hF,?_⟩;rintro⟨i,p,hi,hf⟩
  exact hF (h.inF p b (dK hk i p true hi) hf hb)
 refine⟨⟨fun i hi=>hi,Nat.le_refl _,rfl,rfl,rfl,fun i hi=>?_,?_,?_,?_,fun _ _ _=>rfl⟩,fun i hi=>hkn i pl[i].1 pl[i].2 (by rw[List.getElem?_eq_getElem hi]),hv,hN⟩
 ·obtain⟨p,o,hp⟩:=hget i hi;have hkp:=dK hk i p o hp;rw[uh,hp];simp only;cases o with
  |true=>
   simp only[if_true];have:=aH.uF h.old hfr _ _ (h.holds p hkp);have:=ia hv hN (hsome i p true hp) _ _ _ this
   have e:(fun b=>∃p':Nat,some (p,true)=some (p',true)/\fps p' b)=fps p:=by
    funext b;simp
   rw[e];exact this
  |false=>
   simp only[Bool.false_eq_true,if_false];obtain⟨fp,g1,g2⟩:=h.zL rfl hkp;refine⟨fp,ia hv hN (hsome i p false hp) _ _ _ (aH.uF h.old hfr _ _ g1),fun b hb=>?_⟩
   rcases g2 b hb with hf|⟨hl,hF⟩
   ·refine⟨h.lt p b hkp hf,?_⟩;rintro⟨j,p',hj,hf'⟩
    have hkp':=dK hk j p' true hj;refine h.disj p p' b hkp hkp' (fun e=>?_) hf hf'
    subst e;have:=huniq i j p false true hp hj;subst this;rw[hp]at hj;simp at hj
   ·exact⟨Nat.lt_of_lt_of_le hl h.old,(hfr b hl hF).2⟩
 ·rintro i b hi ⟨p,hp,hf⟩
  exact h.lt p b (dK hk i p true hp) hf
 ·rintro i j b hi hj hne ⟨p,hp,hf⟩ ⟨p',hp',hf'⟩
  refine h.disj p p' b (dK hk i p true hp) (dK hk j p' true hp') (fun e=>hne ?_) hf hf'
  subst e;exact huniq i j p true true hp hp'
 ·rintro i b hi ⟨p,hp,hf⟩ _
  exact⟨i,p,hp,hf⟩
def eP (κ2:Nat->Option Nat) (r':List aH):Nat->List (Nat×Bool)->List aH->List aH
 |_,[],res=>res
 |i,(p,o)::l,res=>if o then eP κ2 r' (i+1) l (b8 res p (fW κ2 (ay r' i)))else eP κ2 r' (i+1) l res
def vD:List (Nat×Bool)->Nat->Option Nat
 | [],_=>none
 | (p,_)::_,0=>some p
 |_::l,i+1=>vD l i
def back (pl:List (Nat×Bool)) (ext:List Nat) (n j:Nat):Option Nat:=
 match vD pl j with
 |some p=>some p
 |none=>idxOf ext n j
def merge (pl:List (Nat×Bool)) (ext:List Nat) (r' res:List aH):List aH:=
 eP (back pl ext res.length) r' 0 pl res++fO (back pl ext res.length) r' ext
theorem vI:∀(l:List (Nat×Bool)) (i:Nat),vD l i=(l[i]?).map (·.1)
 | [],i=>by simp[vD]
 | (p,o)::l,0=>by simp[vD]
 | (p,o)::l,i+1=>by simp[vD,vI l i]
theorem mf (κ2:Nat->Option Nat) (r':List aH):∀(l:List (Nat×Bool)) (i:Nat) (res:List aH),(eP κ2 r' i l res).length=res.length
 | [],_,_=>rfl
 | (p,o)::l,i,res=>by
   simp only[eP];split
   ·rw[mf κ2 r' l,cJ]
   ·exact mf κ2 r' l _ _
theorem kX (κ2:Nat->Option Nat) (r':List aH):∀(l:List (Nat×Bool)) (i:Nat) (res:List aH) (x:Nat),(∀k:Nat,l[k]? ≠some (x,true))->(∀(k p:Nat) (o:Bool),l[k]? =some (p,o)->p<res.length)->ay (eP κ2 r' i l res) x=ay res x
 | [],_,_,_,_,_=>rfl
 | (p,o)::l,i,res,x,h,hb=>by
   have hl:∀k:Nat,l[k]? ≠some (x,true):=fun k=>by have:=h (k+1);simpa using this
   have hb':∀(k p:Nat) (o:Bool),l[k]? =some (p,o)->p<res.length:=fun k p o hk=>hb (k+1) p o (by simpa using hk)
   simp only[eP];split
   ·rename_i ho;subst ho;have hne:x≠p:=fun e=>h 0 (by simp[e])
    rw[kX κ2 r' l _ _ x hl (fun k p o hk=>by rw[cJ];exact hb' k p o hk),ca _ _ _ _ (hb 0 p true (by simp)),XQ hne]
   ·exact kX κ2 r' l _ _ x hl hb'
theorem p7 (κ2:Nat->Option Nat) (r':List aH):∀(l:List (Nat×Bool)) (i:Nat) (res:List aH) (x k:Nat),l[k]? =some (x,true)->(dA l).Nodup->(∀(k p:Nat) (o:Bool),l[k]? =some (p,o)->p<res.length)->
  ay (eP κ2 r' i l res) x=fW κ2 (ay r' (i+k))
 | [],_,_,_,_,h,_,_=>by simp at h
 | (p,o)::l,i,res,x,k,h,hnd,hb=>by
   have hb':∀(k p:Nat) (o:Bool),l[k]? =some (p,o)->p<res.length:=fun k p o hk=>hb (k+1) p o (by simpa using hk)
   have hnd':=List.nodup_cons.1 (show(p::dA l).Nodup from hnd);simp only[eP];cases k with
   |zero=>
    simp at h;obtain⟨rfl,rfl⟩:=h;simp only[if_true,Nat.add_zero];rw[kX κ2 r' l _ _ p (fun k hk=>hnd'.1 (List.mem_of_getElem? (i:=k) (by rw[mC,hk];rfl))) (fun k p o hk=>by rw[cJ];exact hb' k p o hk),ca _ _ _ _ (hb 0 p true (by simp)),XR rfl]
   |succ k=>
    have h:l[k]? =some (x,true):=by simpa using h
    split
    ·rw[p7 κ2 r' l _ _ x k h hnd'.2 (fun k p o hk=>by rw[cJ];exact hb' k p o hk)]
     congr 2;omega
    ·rw[p7 κ2 r' l _ _ x k h hnd'.2 hb'];congr 2;omega
def Env.join (n:Nat) (ext:List Nat) (J ρ2:Env):Env:=
 {num:=fun i=>if i<n then J.num i else ρ2.num (ext.getD (i-n) 0),cap:=fun i=>if i<n then J.cap i else ρ2.cap (ext.getD (i-n) 0),adr:=fun i=>if i<n then J.adr i else ρ2.adr (ext.getD (i-n) 0),
  sa:=fun i=>if i<n then J.sa i else ρ2.sa (ext.getD (i-n) 0),sn:=fun i=>if i<n then J.sn i else ρ2.sn (ext.getD (i-n) 0),ob:=fun i=>if i<n then J.ob i else ρ2.ob (ext.getD (i-n) 0)}
section
variable {J:Env} {fps:Nat->Nat->Prop} {res:List aH} {w0 w:World} {F0:Nat->Prop}
theorem bh.merge (h:bh J fps res (known res) w0 F0 w) {pl:List (Nat×Bool)} (hk:eA res pl=true) (hnd:(dA pl).Nodup) {ρ2:Env} {fps2:Nat->Nat->Prop} {r':List aH} {w':World}
  (h2:bh ρ2 fps2 r' (known r') w (Frame J fps pl) w') (hg:Good (J.pull (src 0 (dA pl))) (Sx.ez (kC 0 (dA pl)) res pl) ρ2 r') {ext:List Nat} (he:gN pl.length r'.length ext=true)
  (ho1:∀(i p:Nat),pl[i]? =some (p,true)->iH (ay r' i)=true) (ho2:∀j,j∈ext->iH (ay r' j)=true):
  ∃ρ3 fps3,bh ρ3 fps3 (Sx.merge pl ext r' res) (known (Sx.merge pl ext r' res)) w0 F0 w'/\Good J res ρ3 (Sx.merge pl ext r' res)/\Env.via (back pl ext res.length) ρ2 ρ3/\
   ∀j i,back pl ext res.length j=some i->known r' j->known (Sx.merge pl ext r' res) i:=by
 obtain⟨_,hkr,_,_⟩:=h.ez hk hnd;obtain⟨e1,e2⟩:=oH he;have hlt:∀(k p:Nat) (o:Bool),pl[k]? =some (p,o)->p<res.length:=fun k p o hp=>aN (dK hk k p o hp)
 have hpll:∀(k p:Nat) (o:Bool),pl[k]? =some (p,o)->k<pl.length:=fun k p o hp=>(List.getElem?_eq_some_iff.1 hp).1
 have huniq:∀i j p o o',pl[i]? =some (p,o)->pl[j]? =some (p,o')->i=j:=fun i j p o o' hi hj=>by
  have a:=Bi hnd (show(dA pl)[i]? =some p by rw[mC,hi];rfl)
  rw[Bi hnd (show(dA pl)[j]? =some p by rw[mC,hj];rfl)]at a
  simpa using a.symm
 have huniqE:∀(a b j:Nat),ext[a]? =some j->ext[b]? =some j->a=b:=fun a b j ha hb=>by
  have x:=mK ext 0 a e2 ha;rw[mK ext 0 b e2 hb]at x;simpa using x.symm
 have hback1:∀k p o,pl[k]? =some (p,o)->back pl ext res.length k=some p:=fun k p o hp=>by
  unfold back;rw[vI,hp];rfl
 have hback2:∀a j,ext[a]? =some j->back pl ext res.length j=some (res.length+a):=fun a j ha=>by
  unfold back;have:=(e1 j (List.mem_of_getElem? ha)).1;rw[vI,List.getElem?_eq_none this];exact mK ext _ a e2 ha
 have hbackS:∀j i,back pl ext res.length j=some i->(∃o,pl[j]? =some (i,o))\/(∃a,ext[a]? =some j/\i=res.length+a):=fun j i hj=>by
  unfold back at hj;rw[vI]at hj;cases hp:pl[j]? with
  |some po=>rw[hp]at hj;simp at hj;exact .inl ⟨po.2,by rw[<-hj]⟩
  |none=>
   rw[hp]at hj;simp at hj;obtain⟨a1,a2,a3⟩:=gT hj;exact .inr ⟨i-res.length,a3,by omega⟩
 have hget:∀i,ay (Sx.merge pl ext r' res) i=if i<res.length then ay (eP (back pl ext res.length) r' 0 pl res) i else match ext[i-res.length]? with|some j=>fW (back pl ext res.length) (ay r' j)|none=> .yet:=fun i=>by
  unfold Sx.merge;rw[ck,mf];by_cases hi:i<res.length
  ·rw[XR hi,XR hi]
  ·rw[XQ hi,XQ hi,pO];cases ext[i-res.length]? <;>rfl
 have hown:∀k p,pl[k]? =some (p,true)->ay (Sx.merge pl ext r' res) p=fW (back pl ext res.length) (ay r' k):=fun k p hp=>by
  rw[hget,XR (hlt k p true hp),p7 _ r' pl 0 res p k hp hnd hlt,Nat.zero_add]
 have hother:∀i,i<res.length->(∀k,pl[k]? ≠some (i,true))->ay (Sx.merge pl ext r' res) i=ay res i:=fun i hi hno=>by
  rw[hget,XR hi,kX _ r' pl 0 res i hno hlt]
 have hext:∀a j,ext[a]? =some j->ay (Sx.merge pl ext r' res) (res.length+a)=fW (back pl ext res.length) (ay r' j):=fun a j ha=>by
  rw[hget,XQ (by omega),show res.length+a-res.length=a by omega,ha]
 have hkr':∀k p o,pl[k]? =some (p,o)->known r' k:=fun k p o hp=>hg.2 k (hkr k (hpll k p o hp))
 have hN:∀j i,back pl ext res.length j=some i->known r' j->known (Sx.merge pl ext r' res) i:=fun j i hj hkj=>by
  rcases hbackS j i hj with⟨o,hp⟩|⟨a,ha,rfl⟩
  ·by_cases hT:∃k:Nat,pl[k]? =some (i,true)
   ·obtain⟨k,hk'⟩:=hT;unfold known;rw[hown k i hk'];exact fun e=>hkr' k i true hk' (k8.1 e)
   ·unfold known;rw[hother i (hlt j i o hp) fun k hk'=>hT ⟨k,hk'⟩]
    exact dK hk j i o hp
  ·unfold known;rw[hext a j ha];exact fun e=>hkj (k8.1 e)
 have hmono:∀i,known res i->known (Sx.merge pl ext r' res) i:=fun i hi=>by
  by_cases hT:∃k:Nat,pl[k]? =some (i,true)
  ·obtain⟨k,hk'⟩:=hT;exact hN k i (hback1 k i true hk') (hkr' k i true hk')
  ·unfold known;rw[hother i (aN hi) fun k hk'=>hT ⟨k,hk'⟩]
   exact hi
 have hag:Env.bp (known res) J (Env.join res.length ext J ρ2):=fun i hi=>by
  have:=aN hi;simp[Env.join,this]
 have hvia:Env.via (back pl ext res.length) ρ2 (Env.join res.length ext J ρ2):=fun j i hj=>by
  rcases hbackS j i hj with⟨o,hp⟩|⟨a,ha,rfl⟩
  ·have hil:=hlt j i o hp;have hj':=hg.1 j (hkr j (hpll j i o hp))
   have hsrc:src 0 (dA pl) j=i:=by
    unfold src;rw[XQ (by omega),Nat.sub_zero,XP,mC,hp];rfl
   simp only[Env.pull,hsrc]at hj';obtain⟨a1,a2,a3,a4,a5,a6⟩:=hj';simp[Env.join,hil,a1,a2,a3,a4,a5,a6]
  ·have hng:¬res.length+a<res.length:=by omega
   have:ext.getD (res.length+a-res.length) 0=j:=by
    rw[show res.length+a-res.length=a by omega,XP,ha];rfl
   simp only[Env.join,XQ hng,this];simp
 obtain⟨fps3,g⟩:=h.turn (res':=Sx.merge pl ext r' res) (K':=known (Sx.merge pl ext r' res)) (fun i=>∃k:Nat,pl[k]? =some (i,true)) (fun i=>(∃k:Nat,pl[k]? =some (i,true))\/res.length<=i)
  (fun i b=>(∃k:Nat,pl[k]? =some (i,true)/\fps2 k b)\/(res.length<=i/\∃j,ext[i-res.length]? =some j/\known r' j/\fps2 j b))
  (fun i hi=>hi) hmono hag
  (fun i hi hb=>by
   have hlt':i<res.length:=by
    rcases Nat.lt_or_ge i res.length with h|h
    ·exact h
    ·exact absurd (.inr h) hb
   have e:=hother i hlt' fun k hk'=>hb (.inl ⟨k,hk'⟩)
   exact⟨by unfold known at hi⊢;rw[e]at hi;exact hi,fun hT=>hb (.inl hT),e⟩)
  (fun i hi hb=>by
   have hfoot:∀k b,known r' k->fps2 k b->(∃t,(∃k:Nat,pl[k]? =some (t,true))/\known res t/\fps t b)\/(w.heap.size<=b/\b<w'.heap.size):=fun k b hk' hf=>by
    by_cases hbw:b<w.heap.size
    ·obtain⟨x,p,hp,hfp⟩:=h2.inF k b hk' hf hbw;exact .inl ⟨p,⟨x,hp⟩,dK hk x p true hp,hfp⟩
    ·exact .inr ⟨by omega,h2.lt k b hk' hf⟩
   by_cases hT:∃k:Nat,pl[k]? =some (i,true)
   ·obtain⟨k,hp⟩:=hT;have hkk:=hkr' k i true hp;have hil:=hlt k i true hp
    have e:(fun b=>(∃k:Nat,pl[k]? =some (i,true)/\fps2 k b)\/(res.length<=i/\∃j,ext[i-res.length]? =some j/\known r' j/\fps2 j b))=fps2 k:=by
     funext b
     apply propext
     constructor
     ·rintro(⟨k',hp',hf⟩|⟨hge,_⟩)
      ·rw[huniq k k' i true true hp hp'];exact hf
      ·omega
     ·exact fun hf=> .inl ⟨k,hp,hf⟩
    refine⟨?_,fun b hf=>hfoot k b hkk (by rw[<-e];exact hf)⟩
    rw[e,hown k i hp];exact ia hvia hN (hback1 k i true hp) _ _ _ (kK (ho1 k i hp) (h2.holds k hkk))
   ·have hge:res.length<=i:=hb.resolve_left hT
    have hj:∃j,ext[i-res.length]? =some j:=by
     unfold known at hi;rw[hget,XQ (by omega)]at hi
     cases hx:ext[i-res.length]? with
     |none=>rw[hx]at hi;exact absurd rfl hi
     |some j=>exact⟨j,rfl⟩
    obtain⟨j,hj⟩:=hj
    have hkj:known r' j:=by
     unfold known at hi;rw[hget,XQ (by omega),hj]at hi
     exact fun e=>hi (k8.2 e)
    have e:(fun b=>(∃k:Nat,pl[k]? =some (i,true)/\fps2 k b)\/(res.length<=i/\∃j,ext[i-res.length]? =some j/\known r' j/\fps2 j b))=fps2 j:=by
     funext b
     apply propext
     constructor
     ·rintro(⟨k',hp',hf⟩|⟨_,j',hj',_,hf⟩)
      ·exact absurd ⟨k',hp'⟩ hT
      ·rw[hj]at hj';simp at hj';subst hj';exact hf
     ·exact fun hf=> .inr ⟨hge,j,hj,hkj,hf⟩
    refine⟨?_,fun b hf=>hfoot j b hkj (by rw[<-e];exact hf)⟩
    have hie:i=res.length+(i-res.length):=by omega
    have hb2:=hback2 _ j hj;rw[<-hie]at hb2;have hx:=hext _ j hj;rw[<-hie]at hx;rw[e,hx];exact ia hvia hN hb2 _ _ _ (kK (ho2 j (List.mem_of_getElem? hj)) (h2.holds j hkj)))
  (fun i j b hbi hbj hne hf hf'=>by
   have sel:∀x,((∃k:Nat,pl[k]? =some (x,true)/\fps2 k b)\/(res.length<=x/\∃j,ext[x-res.length]? =some j/\known r' j/\fps2 j b))->∃k,known r' k/\fps2 k b/\((pl[k]? =some (x,true))\/(res.length<=x/\ext[x-res.length]? =some k)):=by
    rintro x (⟨k,hp,hf⟩|⟨hge,j,hj,hkj,hf⟩)
    ·exact⟨k,hkr' k x true hp,hf,.inl hp⟩
    ·exact⟨j,hkj,hf,.inr ⟨hge,hj⟩⟩
   obtain⟨k,k1,k2,k3⟩:=sel i hf;obtain⟨l,l1,l2,l3⟩:=sel j hf';refine h2.disj k l b k1 l1 (fun e=>hne ?_) k2 l2
   subst e;rcases k3 with k3|⟨k3,k4⟩<;>rcases l3 with l3|⟨l3,l4⟩
   ·rw[k3]at l3;simp at l3;exact l3
   ·have:=(e1 k (List.mem_of_getElem? l4)).1;have:=hpll k i true k3;omega
   ·have:=(e1 k (List.mem_of_getElem? k4)).1;have:=hpll k j true l3;omega
   ·have:=huniqE _ _ _ k4 l4;omega)
  h2.os h2.tape h2.output h2.old
  (fun b hb hno=>h2.same b hb fun⟨i,p,hp,hf⟩=>hno p ⟨i,hp⟩ (dK hk i p true hp) hf)
 exact⟨_,fps3,g,⟨hag,hmono⟩,hvia,hN⟩
end
end
end Go.Sx
namespace Go.Sx
open Go.RowKit (Below)
def jR (r':List aH):Nat->List (Nat×Bool)->Bool
 |_,[]=>true
 |i,(_,o)::l=>(if o then iH (ay r' i)else true)&&jR r' (i+1) l
theorem u0 {r':List aH}:∀{l:List (Nat×Bool)} {i:Nat},jR r' i l=true->∀k p:Nat,l[k]? =some (p,true)->iH (ay r' (i+k))=true
 | [],i,_,k,p,h=>by simp at h
 | (x,o)::l,i,ha,k,p,h=>by
   simp only[jR,XK]at ha;cases k with
   |zero=>simp at h;obtain⟨_,rfl⟩:=h;simpa using ha.1
   |succ k=>
    have:=u0 ha.2 k p (by simpa using h)
    rwa [show i+(k+1)=i+1+k by omega]
def lG (r':List aH):List Nat->Bool
 | []=>true
 |j::l=>iH (ay r' j)&&lG r' l
theorem s9 {r':List aH}:∀{l:List Nat},lG r' l=true->∀j∈l,iH (ay r' j)=true
 | [],_,j,h=>by simp at h
 |x::l,ha,j,h=>by
  simp only[lG,XK]at ha;rcases List.mem_cons.1 h with rfl|h
  ·exact ha.1
  ·exact s9 ha.2 j h
def iC (κ:Nat->Option Nat) (v v3:V):Prop:=∀(ρ2 ρ3:Env) (N N':Nat->Prop),Env.via κ ρ2 ρ3->(∀j i,κ j=some i->N j->N' i)->ok N v->den ρ3 v3=den ρ2 v/\ok N' v3
theorem iC.j4 {κ:Nat->Option Nat} {v x:V} (h:yt x v []) (hx:Sx.j4 x=true):iC κ v x:=fun ρ2 ρ3 N N' _ _ hv=>by
 obtain⟨s1,s2,_⟩:=h ρ2 N;exact⟨by rw[s1];exact oy hx (s2 hv) ρ2 ρ3,nn x hx (s2 hv)⟩
theorem iC.Xo {κ:Nat->Option Nat} {v v2 v3:V} (h:fk κ v=some v2) (hs:∀J N,pG J N v2 v3):iC κ v v3:=fun ρ2 ρ3 N N' h1 h2 hv=>by
 obtain⟨c1,c2,_⟩:=je h1 h2 v v2 h;obtain⟨s1,s2,_⟩:=hs ρ3 N';exact⟨s1.symm.trans c1,s2 (c2 hv)⟩
def RZ (pl:List (Nat×Bool)) (res:List aH) (v:V) (r':List aH) (K:V->List aH->Prop):Prop:=
 ∃(ext:List Nat) (v3:V),gN pl.length r'.length ext=true/\jR r' 0 pl=true/\lG r' ext=true/\iC (back pl ext res.length) v v3/\K v3 (merge pl ext r' res)
section
variable {P:Program}
theorem ai.frame {f:Nat} {args args0:List V} {res:List aH} {pl:List (Nat×Bool)} {K0 KP0 K KP:V->List aH->Prop} (hk:eA res pl=true) (hnd:gN 0 res.length (dA pl)=true)
  (ha:eT (kC 0 (dA pl)) args=some args0) (hc:ai P f args0 (ez (kC 0 (dA pl)) res pl) K0 KP0)
  (hK:∀v r',K0 v r'->RZ pl res v r' K) (hKP:∀v r',KP0 v r'->RZ pl res v r' KP):ai P f args res K KP:=by
 intro J fps w0 F0 w hH hargs;have hnd:=(oH hnd).2;obtain⟨g1,g2,g3,g4⟩:=hH.ez hk hnd;obtain⟨a1,_,a3,_⟩:=gV g3 g4 _ _ ha;rw[<-a1];refine(hc _ _ _ _ _ g1 (a3 hargs)).mono fun e w' ⟨x,ρ2,fps2,r',h1,h2,h3,h4⟩=>?_
 have fin:∀{K:V->List aH->Prop},RZ pl res x r' K->∃x' ρ' fps' res',bh ρ' fps' res' (known res') w0 F0 w'/\Good J res ρ' res'/\ok (known res') x'/\den ρ' x'=den ρ2 x/\K x' res':=by
  rintro K ⟨ext,v3,b1,b2,b3,b4,b5⟩
  obtain⟨ρ3,fps3,m1,m2,m3,m4⟩:=hH.merge hk hnd h1 h2 b1 (fun i p hp=>by have:=u0 b2 i p hp;rwa [Nat.zero_add]at this) (s9 b3)
  obtain⟨c1,c2⟩:=b4 ρ2 ρ3 _ _ m3 m4 h3;exact⟨v3,ρ3,fps3,_,m1,m2,c2,c1,b5⟩
 rcases h4 with⟨rfl,h4⟩|⟨rfl,h4⟩
 ·obtain⟨x',ρ',fps',res',f1,f2,f3,f4,f5⟩:=fin (hK _ _ h4);exact⟨x',ρ',fps',res',f1,f2,f3,.inl ⟨by rw[f4],f5⟩⟩
 ·obtain⟨x',ρ',fps',res',f1,f2,f3,f4,f5⟩:=fin (hKP _ _ h4);exact⟨x',ρ',fps',res',f1,f2,f3,.inr ⟨by rw[f4],f5⟩⟩
def qq:aH->Bool
 | .store _ _ _=>true
 | .arr _ _ _=>true
 |_=>false
theorem si {κ:Nat->Option Nat} {r:aH} (h:qq r=true):fW κ r=r:=by
 cases r<;>first|rfl|simp[qq]at h
def pf (res:List aH) (p:Nat) (r:aH):Prop:=known res p/\∀J fps K w0 F0 w,bh J fps res K w0 F0 w->
 ∃fp:Nat->Prop,r.holds K J p fp w0 F0 w/\∀b,fp b->(∃i,known res i/\fps i b)\/(b<w0.heap.size/\¬F0 b)
theorem pf.look {res:List aH} {p:Nat} {r:aH} (h:dr res p=r) (hne:r≠ .yet):pf res p r:=by
 have hk:=dV h hne;refine⟨hk,fun J fps K w0 F0 w hH=>?_⟩
 obtain⟨fp,g1,g2⟩:=hH.zL h hk;exact⟨fp,g1,fun b hb=>(g2 b hb).elim (fun h=> .inl ⟨p,hk,h⟩) .inr⟩
def qV:List (Nat×aH)->List aH
 | []=> []
 | (_,r)::l=> .ro r::qV l
theorem v9:∀(l:List (Nat×aH)) (i:Nat),ay (qV l) i=match l[i]? with|some p=> .ro p.2|none=> .yet
 | [],i=>by simp[qV,ay]
 | (p,r)::l,0=>by simp[qV,ay]
 | (p,r)::l,i+1=>by simp[qV,ay,v9 l i]
theorem rp:∀l:List (Nat×aH),(qV l).length=l.length
 | []=>rfl
 | (p,r)::l=>by simp[qV,rp l]
def pT:List (Nat×aH)->Nat->Nat
 | [],_=>0
 | (p,_)::_,0=>p
 |_::l,i+1=>pT l i
theorem sF:∀(l:List (Nat×aH)) (i:Nat) (p:Nat×aH),l[i]? =some p->pT l i=p.1
 | [],i,p,h=>by simp at h
 | (x,r)::l,0,p,h=>by simp at h;subst h;rfl
 | (x,r)::l,i+1,p,h=>by simp only[pT];exact sF l i p (by simpa using h)
theorem qm {f:Nat} {g:Ct} (h:∀res nid args q x new,g res nid args=some (q,x,new)->new= []/\j4 x=true/\
  ∃(pls:List (Nat×aH)) (args0:List V),(∀p∈pls,pf res p.1 p.2/\qq p.2=true)/\(∀(J:Env) K,ft K args->bu (J.pull (pT pls)) args0=bu J args)/\(∀K,ft K args->ft (known (qV pls)) args0)/\
   (dF q->ft (known (qV pls)) args0->ai P f args0 (qV pls) (yt x) (fun _ _=>False))):cj P f g:=by
 intro J fps res K w0 F0 w nid args q x new hH hargs hg hq hfr;obtain⟨rfl,hid,pls,args0,hcl,hden,hok,hc⟩:=h res nid args q x new hg;refine⟨?_,fun k hk=>by simp at hk⟩
 have hfr:∀b,b<w0.heap.size->¬F0 b->w.heap[b]? =w0.heap[b]? /\¬(fun _:Nat=>False) b:=fun b hb hF=>⟨hH.same b hb hF,fun h=>h⟩
 have hrep:bh (J.pull (pT pls)) (fun _ _=>False) (qV pls) (known (qV pls)) w (fun _=>False) w:=by
  refine⟨fun i hi=>hi,Nat.le_refl _,rfl,rfl,rfl,fun i hi=>?_,fun i b hi h=>h.elim,fun i j b hi hj hne h=>h.elim,fun i b hi h=>h.elim,fun _ _ _=>rfl⟩
  have hlt:=aN hi;rw[rp]at hlt;have hp:pls[i]? =some pls[i]:=List.getElem?_eq_getElem hlt;generalize pls[i]=p at hp
  rw[v9,hp];simp only;obtain⟨hs,hcl⟩:=hcl p (List.mem_of_getElem? hp);obtain⟨fp,g1,g2⟩:=hs.2 J fps K w0 F0 w hH
  have hv:Env.via (fun x=>if x=p.1 then some i else none) J (J.pull (pT pls)):=tE fun x j hx=>by
   split at hx
   ·simp only[XI]at hx;subst hx;rename_i e;subst e;exact sF pls i p hp
   ·simp at hx
  have:=ia (N':=known (qV pls)) hv (fun x j hx _=>by
   split at hx
   ·simp only[XI]at hx;subst hx;exact hi
   ·simp at hx) (p:=p.1) (i:=i) (by simp) _ _ _ (aH.uF hH.old hfr _ _ g1)
  rw[si hcl]at this;refine⟨fp,this,fun b hb=>⟨?_,fun h=>h⟩⟩
  rcases g2 b hb with⟨j,hj,hf⟩|⟨hl,_⟩
  ·exact hH.lt j b hj hf
  ·exact Nat.lt_of_lt_of_le hl hH.old
 have hok0:=hok K hargs;rw[<-hden J K hargs];refine(hc hq hok0 _ _ _ _ _ hrep hok0).mono fun e w' ⟨y,ρ',fps',res',g1,g2,g3,g4⟩=>?_
 rcases g4 with⟨rfl,hK⟩|⟨_,hK⟩
 ·refine⟨_,rfl,J,?_,?_,?_⟩
  ·exact⟨⟨g1.os,g1.tape,g1.output,g1.old,fun b hb=>g1.same b hb (fun h=>h)⟩,Env.bp.refl _ _,fun _ _=>False,fun k hk=>by simp at hk,fun k l b hk=>by simp at hk⟩
  ·obtain⟨e1,e2,_⟩:=hK ρ' (known res');rw[e1];exact oy hid (e2 g3) J ρ'
  ·obtain⟨e1,e2,_⟩:=hK ρ' (known res');exact nn x hid (e2 g3)
 ·exact hK.elim
theorem ai.th {f:Nat} {args:List V} {res res1:List aH} {K KP:V->List aH->Prop} (h:ai P f args res1 K KP)
  (ho:∀J fps w0 F0 w,bh J fps res (known res) w0 F0 w->∃ρ' fps',bh ρ' fps' res1 (known res1) w0 F0 w/\Good J res ρ' res1):ai P f args res K KP:=by
 intro J fps w0 F0 w hH hargs;obtain⟨ρ',fps',h1,h2⟩:=ho J fps w0 F0 w hH;rw[<-fA h2.1 args hargs];refine(h ρ' fps' w0 F0 w h1 (cP h2.2 _ hargs)).mono fun e w' ⟨x,ρ2,fps2,r',g1,g2,g3,g4⟩=>⟨x,ρ2,fps2,r',g1,h2.trans g2,g3,g4⟩
theorem ai.jA {f:Nat} {args:List V} {res:List aH} {k t e:Nat} {L:List Obj} {K KP:V->List aH->Prop} (hr:ay res k= .store t e L) (h:ai P f args (jA res k t e L) K KP):ai P f args res K KP:=
 h.th fun _ _ _ _ _ hH=>zM hr hH
theorem ai.eR {f:Nat} {args:List V} {res:List aH} {k t e:Nat} {L:List Obj} {K KP:V->List aH->Prop} (hr:ay res k= .ro (.store t e L)) (h:ai P f args (eR res k t e L) K KP):ai P f args res K KP:=
 h.th fun _ _ _ _ _ hH=>xV hr hH
theorem ai.shut {f:Nat} {args:List V} {res:List aH} {K0 KP K:V->List aH->Prop} (h:ai P f args res K0 KP) (hK:∀v r,K0 v r->K v r\/∃k r',sf r k=some r'/\K v r'):ai P f args res K KP:=by
 intro J fps w0 F0 w hH hargs;refine(h J fps w0 F0 w hH hargs).mono fun e w' ⟨x,ρ2,fps2,r',g1,g2,g3,g4⟩=>?_
 rcases g4 with⟨rfl,hk⟩|g4
 ·rcases hK _ _ hk with hk|⟨k,r2,s1,s2⟩
  ·exact⟨x,ρ2,fps2,r',g1,g2,g3,.inl ⟨rfl,hk⟩⟩
  ·obtain⟨fps3,m1,m2⟩:=yZ s1 g1;exact⟨x,ρ2,fps3,r2,m1,⟨g2.1,fun i hi=>m2 i (g2.2 i hi)⟩,du m2 _ g3,.inl ⟨rfl,s2⟩⟩
 ·exact⟨x,ρ2,fps2,r',g1,g2,g3,.inr g4⟩
end
end Go.Sx
namespace Go.Sx
open Go.RowKit (Below)
section
variable {P:Program}
theorem ai.fact {f:Nat} {args:List V} {res:List aH} {K KP:V->List aH->Prop} {k t e:Nat} {L:List Obj} (hr:dr res k= .store t e L)
  (h:(∀o∈L,o.wf)->L.length<=9223372036854775807->ai P f args res K KP):ai P f args res K KP:=by
 intro J fps w0 F0 w hH hargs;obtain⟨fp,hh,_⟩:=hH.look hr (by simp)
 obtain⟨_,h1,h2,_⟩:=hh;exact h h1 h2 J fps w0 F0 w hH hargs
theorem ai.B6 {f:Nat} {args:List V} {res:List aH} {K KP:V->List aH->Prop} {k esz:Nat} {own:Option Nat} {L:List Obj} (hr:dr res k= .arr own esz (.ob L))
  (h:(∀o∈L,o.wf)->L.length<=9223372036854775807->ai P f args res K KP):ai P f args res K KP:=by
 intro J fps w0 F0 w hH hargs;obtain⟨fp,hh,_⟩:=hH.look hr (by simp)
 obtain⟨h1,_,h2,_⟩:=hh;refine h (fun o ho=>?_) h2 J fps w0 F0 w hH hargs
 obtain⟨i,hi,rfl⟩:=List.getElem_of_mem ho;have:=(h1 i hi).1;simpa[TL.get,ah,XP,hi,ok]using this
theorem pf.open {res:List aH} {p j t e q:Nat} {L:List Obj} (hp:dr res p= .blk t (.ag [.sa j])) (hj:dr res j= .obs e q L) (hte:t≠e):pf res p (.store t e L):=by
 have hkp:=dV hp (by simp)
 have hkj:=dV hj (by simp)
 refine⟨hkp,fun J fps K w0 F0 w hH=>?_⟩
 obtain⟨fp1,⟨_,_,b3,b4⟩,g1⟩:=hH.zL hp hkp;obtain⟨fp2,⟨_,c1,c2,c3,c4,c5,c6,c7⟩,g2⟩:=hH.zL hj hkj
 have b4':w.heap[J.num p]? =some (.cells #[J.sl j] t (0,0)):=by
  rw[b4];have:den J (.sa j)=J.sl j:=rfl;simp[fo,bf,this,Env.sl,Value.cells]
 refine⟨fun b=>fp1 b\/fp2 b,⟨.inl b3,c1,c3,J.sl j,J.ob q,b4',c6,fun b hb=>?_,fun x hx=>?_⟩,fun b hb=>?_⟩
 ·have hb':=hb;cases ha:J.sa j with
  |none=>simp[Env.sl,ha,Value.ownBlock]at hb
  |some a=>
   simp only[Env.sl,ha,Value.ownBlock,XI]at hb;subst hb;refine⟨.inr (c4 a ha).2,fun e'=>?_⟩
   rcases c6.2 with⟨hh,_⟩|⟨g,cap,cur,hh,_,h3,_⟩
   ·simp[Env.sl,ha]at hh
   ·rw[hh]at hb';simp only[Value.ownBlock,XI]at hb';rw[hb',e',b4']at h3;simp only[XI,Go.Obj.cells.injEq]at h3;exact hte h3.2.1
 ·obtain⟨d1,t',d2⟩:=c7 x hx;refine⟨.inr d1,fun e'=>?_,t',d2⟩
  rw[e',b4']at d2;simp only[XI,Go.Obj.cells.injEq]at d2;have:=congrArg Array.size d2.1;simp[mh]at this
 ·rcases hb with hb|hb
  ·exact(g1 b hb).elim (fun h=> .inl ⟨p,hkp,h⟩) .inr
  ·exact(g2 b hb).elim (fun h=> .inl ⟨j,hkj,h⟩) .inr
theorem pf.zero {res:List aH} {p t e:Nat} (hp:dr res p= .blk t (.ag [.nl (.slice none 0 0)])):pf res p (.store t e []):=by
 have hkp:=dV hp (by simp)
 refine⟨hkp,fun J fps K w0 F0 w hH=>?_⟩
 obtain⟨fp1,⟨_,_,b3,b4⟩,g1⟩:=hH.zL hp hkp;refine⟨fp1,⟨b3,by simp,by simp,.slice none 0 0,fun _=>0,?_,World.ownsRow_nil w 0 e 1,fun b hb=>by simp[Value.ownBlock]at hb,fun x hx=>by simp at hx⟩,fun b hb=>(g1 b hb).elim (fun h=> .inl ⟨p,hkp,h⟩) .inr⟩
 rw[b4];simp[fo,bf,den,Value.cells]
def rS (t e:Nat) (res:List aH) (v:V):Option (Option Nat×List Obj):=
 match v with
 | .nl v=>match v with
   | .pointer p=>match p with
     |none=>some (none,[])
     |some _=>none
   |_=>none
 | .lp k off=>if off==0 then match dr res k with
   | .store t' e' L=>if t'==t&&e'==e then some (some k,L)else none
   | .blk t' c=>if t'==t&& !(t==e)then match c with
     | .ag l=>match l with
       | [x]=>match x with
         | .sa j=>match dr res j with
           | .obs e' _ L=>if e'==e then some (some k,L)else none
           |_=>none
         | .nl v=>match v with
           | .slice none 0 0=>some (some k,[])
           |_=>none
         |_=>none
       |_=>none
     |_=>none
     else none
   |_=>none
   else none
 |_=>none
theorem sC {t e:Nat} {res:List aH} {v:V} {o:Option Nat} {L:List Obj} (h:rS t e res v=some (o,L)):(o=none/\L= []/\v= .nl (.pointer none))\/∃k,o=some k/\v= .lp k 0/\pf res k (.store t e L):=by
 unfold rS at h;split at h
 ·split at h
  ·split at h
   ·simp only[XI,XJ]at h;exact .inl ⟨h.1.symm,h.2.symm,rfl⟩
   ·simp at h
  ·simp at h
 ·rename_i k off;split at h
  ·rename_i ho;have ho:=XM.1 ho;subst ho;split at h
   ·rename_i t' e' L' hl;split at h
    ·rename_i hc;simp only[XK,XM]at hc;obtain⟨rfl,rfl⟩:=hc;simp only[XI,XJ]at h;obtain⟨rfl,rfl⟩:=h;exact .inr ⟨k,rfl,rfl,pf.look hl (by simp)⟩
    ·simp at h
   ·rename_i t' c hl;split at h
    ·rename_i hc;simp only[XK,XM,Bool.not_eq_true',beq_eq_false_iff_ne]at hc;obtain⟨rfl,hte⟩:=hc;split at h
     ·split at h
      ·split at h
       ·split at h
        ·rename_i hj;split at h
         ·rename_i hc;have hc:=XM.1 hc;subst hc;simp only[XI,XJ]at h;obtain⟨rfl,rfl⟩:=h;exact .inr ⟨k,rfl,rfl,pf.open hl hj hte⟩
         ·simp at h
        ·simp at h
       ·split at h
        ·simp only[XI,XJ]at h;obtain⟨rfl,rfl⟩:=h;exact .inr ⟨k,rfl,rfl,pf.zero hl⟩
        ·simp at h
       ·simp at h
      ·simp at h
     ·simp at h
    ·simp at h
   ·simp at h
  ·simp at h
 ·simp at h
def k9:V:= .nl (.pointer none)
def Tf (t e:Nat) (F:List Obj->V):Ct:=fun res _ xs=>match xs with
 | [a]=>match rS t e res a with
   |some (_,L)=>some (none,F L,[])
   |none=>none
 |_=>none
def He {α:Type} (t e:Nat) (r:V->Option α) (F:List Obj->α->V):Ct:=fun res _ xs=>match xs with
 | [a,b]=>match rS t e res a with
   |some (_,L)=>match r b with
    |some x=>some (none,F L x,[])
    |none=>none
   |none=>none
 |_=>none
theorem MW {f t e:Nat} {F:List Obj->V} (hF:∀L,j4 (F L)=true) (h0:ai P f [k9] [] (nz (F [])) (fun _ _=>False))
  (h1:∀L,(∀o∈L,o.wf)->L.length<=9223372036854775807->ai P f [.lp 0 0] [.ro (.blk t (.ag [.sa 1])),.ro (.obs e 2 L),.gen 1] (nz (F L)) (fun _ _=>False)):cj P f (Tf t e F):=by
 refine qm fun res nid args q x new hg=>?_
 unfold Tf at hg;split at hg<;>(try split at hg)<;>simp only[XI,XJ,reduceCtorEq]at hg
 rename_i a o L hr;obtain⟨rfl,rfl,rfl⟩:=hg;rcases sC hr with⟨rfl,rfl,rfl⟩|⟨k,rfl,rfl,hs⟩
 ·exact⟨rfl,hF [],[],[k9],by simp,fun J _ _=>rfl,fun K hK=>⟨hK.1,trivial⟩,fun _ _=>h0.mono (fun _ _=>dt) fun _ _ h=>h⟩
 ·refine⟨rfl,hF L,[(k,.store t e L)],[.lp 0 0],by simpa using⟨hs,rfl⟩,fun J _ _=>rfl,fun K hK=>⟨by simp[ok,known,qV,ay],trivial⟩,fun _ _=>?_⟩
  exact ai.fact (k:=0) rfl fun w1 w2=>(ai.eR (res:=qV [(k,.store t e L)]) (k:=0) rfl (h1 L w1 w2)).mono (fun _ _=>dt) fun _ _ h=>h
theorem vM {f t e:Nat} {α:Type} {r:V->Option α} {m:α->V} {F:List Obj->α->V} (hr:pg r m) (hF:∀L x,j4 (F L x)=true)
  (h0:∀x,ok (fun _=>False) (m x)->ai P f [k9,m x] [] (nz (F [] x)) (fun _ _=>False))
  (h1:∀L x,(∀o∈L,o.wf)->L.length<=9223372036854775807->ok (fun _=>False) (m x)->ai P f [.lp 0 0,m x] [.ro (.blk t (.ag [.sa 1])),.ro (.obs e 2 L),.gen 1] (nz (F L x)) (fun _ _=>False))
  (hid:∀x,j4 (m x)=true):cj P f (He t e r F):=by
 refine qm fun res nid args q x new hg=>?_
 unfold He at hg;split at hg<;>(try split at hg)<;>(try split at hg)<;>simp only[XI,XJ,reduceCtorEq]at hg
 rename_i a b _ o L hs _ x hb;obtain⟨rfl,rfl,rfl⟩:=hg;obtain⟨b1,b2⟩:=hr _ x hb;have hde:∀J ρ':Env,∀K,ok K b->den ρ' (m x)=den J b:=fun J ρ' K hk=>by rw[b1 J];exact oy (hid x) (b2 K hk) J ρ'
 rcases sC hs with⟨rfl,rfl,rfl⟩|⟨k,rfl,rfl,hse⟩
 ·refine⟨rfl,hF [] x,[],[k9,m x],by simp,fun J K hK=>?_,fun K hK=>⟨hK.1,fm (b2 K hK.2.1),trivial⟩,fun _ hok=>?_⟩
  ·simp only[bu,hde J (J.pull (pT [])) K hK.2.1];rfl
  ·exact(h0 x (nn _ (hid x) hok.2.1)).mono (fun _ _=>dt) fun _ _ h=>h
 ·refine⟨rfl,hF L x,[(k,.store t e L)],[.lp 0 0,m x],by simpa using⟨hse,rfl⟩,fun J K hK=>?_,fun K hK=>⟨by simp[ok,known,qV,ay],fm (b2 K hK.2.1),trivial⟩,fun _ hok=>?_⟩
  ·simp only[bu,hde J (J.pull (pT [(k,.store t e L)])) K hK.2.1];rfl
  ·exact ai.fact (k:=0) rfl fun w1 w2=>(ai.eR (res:=qV [(k,.store t e L)]) (k:=0) rfl (h1 L x w1 w2 (nn _ (hid x) hok.2.1))).mono (fun _ _=>dt) fun _ _ h=>h
theorem pf.arr {res:List aH} {p esz:Nat} {own:Option Nat} {l:TL} (h:dr res p= .arr own esz l):pf res p (.arr none esz l):=by
 have hk:=dV h (by simp)
 refine⟨hk,fun J fps K w0 F0 w hH=>?_⟩
 obtain⟨fp,⟨h1,h2,h3,h4,h5,h6,h7⟩,g2⟩:=hH.zL h hk;refine⟨fp,⟨h1,h2,h3,h4,h5,h6,?_⟩,fun b hb=>(g2 b hb).elim (fun h=> .inl ⟨p,hk,h⟩) .inr⟩
 rcases h7 with⟨e,h7⟩|⟨e,e1,e2⟩
 ·exact .inl ⟨rfl,h7⟩
 ·exact .inr ⟨e,by simp,e2⟩
def rA (res:List aH) (v:V):Option (Nat×List Obj):=
 match v with
 | .sa k=>match dr res k with
   | .arr _ e l=>if e==163 then match l with
     | .ob l=>some (k,l)
     |_=>none
     else none
   |_=>none
 |_=>none
theorem vU {res:List aH} {v:V} {k:Nat} {l:List Obj} (h:rA res v=some (k,l)):v= .sa k/\pf res k (.arr none 163 (.ob l))/\∃own,dr res k= .arr own 163 (.ob l):=by
 unfold rA at h;split at h
 ·split at h
  ·rename_i own e l' hl;split at h
   ·rename_i he;have he:=XM.1 he;subst he;split at h
    ·simp only[XI,XJ]at h;obtain⟨rfl,rfl⟩:=h;exact⟨rfl,pf.arr hl,_,hl⟩
    ·simp at h
   ·simp at h
  ·simp at h
 ·simp at h
def Xa (F:List Obj->V):Ct:=fun res _ xs=>match xs with
 | [a]=>match rA res a with
   |some (_,L)=>some (none,F L,[])
   |none=>none
 |_=>none
def OI {α:Type} (r:V->Option α) (F:List Obj->α->V):Ct:=fun res _ xs=>match xs with
 | [a,b]=>match rA res a with
   |some (_,L)=>match r b with
    |some x=>some (none,F L x,[])
    |none=>none
   |none=>none
 |_=>none
theorem wx {J:Env} {i k:Nat} {pls:List (Nat×aH)} (h:pT pls i=k):den (J.pull (pT pls)) (.sa i)=den J (.sa k):=by
 simp only[den,Env.pull,h]
theorem S6 {f:Nat} {F:List Obj->V} (hF:∀L,j4 (F L)=true)
  (h1:∀L,(∀o∈L,o.wf)->L.length<=9223372036854775807->ai P f [.sa 0] [.ro (.arr none 163 (.ob L))] (nz (F L)) (fun _ _=>False)):cj P f (Xa F):=by
 refine qm fun res nid args q x new hg=>?_
 unfold Xa at hg;split at hg<;>(try split at hg)<;>simp only[XI,XJ,reduceCtorEq]at hg
 rename_i a k L hr;obtain⟨rfl,rfl,rfl⟩:=hg;obtain⟨rfl,hs,_⟩:=vU hr
 exact⟨rfl,hF L,[(k,.arr none 163 (.ob L))],[.sa 0],by simpa using⟨hs,rfl⟩,fun J _ _=>by simp only[bu,wx (pls:= [(k,.arr none 163 (.ob L))]) (i:=0) (k:=k) rfl],fun K hK=>⟨by simp[ok,known,qV,ay],trivial⟩,
  fun _ _=>ai.B6 (k:=0) rfl fun w1 w2=>(h1 L w1 w2).mono (fun _ _=>dt) fun _ _ h=>h⟩
theorem Fl {f:Nat} {α:Type} {r:V->Option α} {m:α->V} {F:List Obj->α->V} (hr:pg r m) (hF:∀L x,j4 (F L x)=true)
  (h1:∀L x,(∀o∈L,o.wf)->L.length<=9223372036854775807->ok (fun _=>False) (m x)->ai P f [.sa 0,m x] [.ro (.arr none 163 (.ob L))] (nz (F L x)) (fun _ _=>False)) (hid:∀x,j4 (m x)=true):cj P f (OI r F):=by
 refine qm fun res nid args q x new hg=>?_
 unfold OI at hg;split at hg<;>(try split at hg)<;>(try split at hg)<;>simp only[XI,XJ,reduceCtorEq]at hg
 rename_i a b _ k L hs _ x hb;obtain⟨rfl,rfl,rfl⟩:=hg;obtain⟨rfl,hse,_⟩:=vU hs;obtain⟨b1,b2⟩:=hr _ x hb;have hde:∀J ρ':Env,∀K,ok K b->den ρ' (m x)=den J b:=fun J ρ' K hk=>by rw[b1 J];exact oy (hid x) (b2 K hk) J ρ'
 refine⟨rfl,hF L x,[(k,.arr none 163 (.ob L))],[.sa 0,m x],by simpa using⟨hse,rfl⟩,fun J K hK=>?_,fun K hK=>⟨by simp[ok,known,qV,ay],fm (b2 K hK.2.1),trivial⟩,fun _ hok=>?_⟩
 ·simp only[bu,hde J (J.pull (pT [(k,.arr none 163 (.ob L))])) K hK.2.1,wx (pls:= [(k,.arr none 163 (.ob L))]) (i:=0) (k:=k) rfl]
 ·exact ai.B6 (k:=0) rfl fun w1 w2=>(h1 L x w1 w2 (nn _ (hid x) hok.2.1)).mono (fun _ _=>dt) fun _ _ h=>h
def Tg (t e:Nat) (F:List Obj->List Obj->V):Ct:=fun res _ xs=>match xs with
 | [a,b]=>match rS t e res a with
   |some (_,L)=>match rA res b with
    |some (_,M)=>some (none,F L M,[])
    |none=>none
   |none=>none
 |_=>none
theorem NI {f t e:Nat} {F:List Obj->List Obj->V} (hF:∀L M,j4 (F L M)=true)
  (h0:∀M,(∀o∈M,o.wf)->M.length<=9223372036854775807->ai P f [k9,.sa 0] [.ro (.arr none 163 (.ob M))] (nz (F [] M)) (fun _ _=>False))
  (h1:∀L M,(∀o∈L,o.wf)->L.length<=9223372036854775807->(∀o∈M,o.wf)->M.length<=9223372036854775807->
   ai P f [.lp 0 0,.sa 1] [.ro (.blk t (.ag [.sa 2])),.ro (.arr none 163 (.ob M)),.ro (.obs e 3 L),.gen 2] (nz (F L M)) (fun _ _=>False)):cj P f (Tg t e F):=by
 refine qm fun res nid args q x new hg=>?_
 unfold Tg at hg;split at hg<;>(try split at hg)<;>(try split at hg)<;>simp only[XI,XJ,reduceCtorEq]at hg
 rename_i a b _ o L hs _ j M hb;obtain⟨rfl,rfl,rfl⟩:=hg;obtain⟨rfl,hbe,_⟩:=vU hb;rcases sC hs with⟨rfl,rfl,rfl⟩|⟨k,rfl,rfl,hse⟩
 ·refine⟨rfl,hF [] M,[(j,.arr none 163 (.ob M))],[k9,.sa 0],by simpa using⟨hbe,rfl⟩,fun J K hK=>?_,fun K hK=>⟨hK.1,by simp[ok,known,qV,ay],trivial⟩,fun _ hok=>?_⟩
  ·simp only[bu,wx (pls:= [(j,.arr none 163 (.ob M))]) (i:=0) (k:=j) rfl];rfl
  ·exact ai.B6 (k:=0) rfl fun w1 w2=>(h0 M w1 w2).mono (fun _ _=>dt) fun _ _ h=>h
 ·refine⟨rfl,hF L M,[(k,.store t e L),(j,.arr none 163 (.ob M))],[.lp 0 0,.sa 1],by simpa using⟨⟨hse,rfl⟩,hbe,rfl⟩,fun J K hK=>?_,fun K hK=>⟨by simp[ok,known,qV,ay],by simp[ok,known,qV,ay],trivial⟩,fun _ hok=>?_⟩
  ·simp only[bu,wx (pls:= [(k,.store t e L),(j,.arr none 163 (.ob M))]) (i:=1) (k:=j) rfl];rfl
  ·exact ai.fact (k:=0) rfl fun w1 w2=>ai.B6 (k:=1) rfl fun w3 w4=>
    (ai.eR (res:=qV [(k,.store t e L),(j,.arr none 163 (.ob M))]) (k:=0) rfl (h1 L M w1 w2 w3 w4)).mono (fun _ _=>dt) fun _ _ h=>h
end
end Go.Sx
namespace Go.Sx
open Go.RowKit (Below)
abbrev kz:=List V->List aH->(V->List aH->Prop)->Prop
def ll (P:Program) (f:Nat) (h:kz):Prop:=∀args res K KP,h args res K->ai P f args res K KP
def Bw:List (Nat×kz)->Handler
 | [],_,_,_,_,_=>False
 | (g,h)::l,f,args,res,K,KP=>if f==g then h args res K else Bw l f args res K KP
theorem xY {P:Program}:∀{l:List (Nat×kz)},(∀p∈l,ll P p.1 p.2)->Handler.OK P (Bw l)
 | [],_,f,args,res,K,KP,h=>h.elim
 | (g,x)::l,hl,f,args,res,K,KP,h=>by
   simp only[Bw]at h;split at h
   ·rename_i e;have e:=XM.1 e;subst e;exact hl (f,x) (by simp) args res K KP h
   ·exact xY (fun p hp=>hl p (by simp[hp])) f args res K KP h
theorem aC {P:Program}:∀p∈([]:List (Nat×kz)),ll P p.1 p.2:=by simp
theorem aF {P:Program} {f:Nat} {g:kz} {l:List (Nat×kz)} (h:ll P f g) (t:∀p∈l,ll P p.1 p.2):∀p∈(f,g)::l,ll P p.1 p.2:=by
 intro p hp;rcases List.mem_cons.1 hp with rfl|hp
 ·exact h
 ·exact t p hp
theorem sI {κ:Nat->Option Nat}:∀v,j4 v=true->fk κ v=some v:=by
 intro v
 exact V.rec (motive_1:=fun v=>j4 v=true->fk κ v=some v) (motive_2:=fun l=>kG l=true->eT κ l=some l)
  (fun b _=>rfl) (fun b _=>rfl) (fun k n _=>rfl) (fun k n _=>rfl) (fun b _=>rfl) (fun s _=>rfl) (fun v _=>rfl) (fun _ _ h=>by simp[j4]at h) (fun _ _ _ _ _ _ h=>by simp[j4]at h)
  (fun _ _ _ h=>by simp[j4]at h) (fun _ _ h=>by simp[j4]at h) (fun _ _ _ _ h=>by simp[j4]at h) (fun _ h=>by simp[j4]at h) (fun _ _ h=>by simp[j4]at h) (fun _ h=>by simp[j4]at h)
  (fun f l ih h=>by simp only[fk];rw[ih h]) (fun t x ih h=>by simp only[fk];rw[ih h]) (fun l ih h=>by simp only[fk];rw[ih h]) (fun l ih h=>by simp only[fk];rw[ih h])
  (fun _ _=>rfl) (fun _ _=>rfl) (fun _ _=>rfl) (fun _ _=>rfl) (fun _ h=>by simp[j4]at h) (fun _ _ _ _ _ _ h=>by simp[j4]at h) (fun _ _ _ _ _ _ _ _ h=>by simp[j4]at h) (fun _ _ _ _ h=>by simp[j4]at h) (fun _ _ _ _ _ _ h=>by simp[j4]at h) (fun _=>rfl)
  (fun x l ih1 ih2 h=>by simp only[kG,XK]at h;simp only[eT];rw[ih1 h.1];simp only;rw[ih2 h.2]) v
theorem iX {κ:Nat->Option Nat}:∀l,kG l=true->eT κ l=some l
 | [],_=>rfl
 |x::l,h=>by
  simp only[kG,XK]at h;simp only[eT];rw[sI x h.1];simp only;rw[iX l h.2]
def eg (l m:List V):Prop:=∀(J:Env) K,ft K l->bu J l=bu J m/\ft K m
theorem eg.nil:eg [] []:=fun _ _ _=>⟨rfl,trivial⟩
theorem eg.iT {x:V} {l m:List V} (h:eg l m):eg (x::l) (x::m):=fun J K hk=>⟨by simp only[bu,(h J K hk.2).1],hk.1,(h J K hk.2).2⟩
theorem eg.rd {α:Type} {r:V->Option α} {f:α->V} (hr:pg r f) {a:V} {x:α} (hx:r a=some x) {l m:List V} (h:eg l m):eg (a::l) (f x::m):=fun J K hk=>by
 obtain⟨a1,a2⟩:=hr a x hx;exact⟨by simp only[bu,(h J K hk.2).1,a1],fm (a2 K hk.1),(h J K hk.2).2⟩
section
variable {P:Program}
theorem ai.args {f:Nat} {args args':List V} {res:List aH} {K KP:V->List aH->Prop} (h:eg args args') (hc:ai P f args' res K KP):ai P f args res K KP:=by
 intro J fps w0 F0 w hH hargs;obtain⟨h1,h2⟩:=h J _ hargs;rw[h1];exact hc J fps w0 F0 w hH h2
theorem ai.Ah {f:Nat} {rest:List V} {res:List aH} {K KP:V->List aH->Prop} {k t e:Nat} {L M:List Obj} {x:V} (hr:ay res k= .store t e L) (hid:kG rest=true) (hx:j4 x=true)
  (h:ai P f (.lp 0 0::rest) [.store t e L] (fun v r=>yt x v r/\ay r 0= .store t e M) (fun _ _=>False)) (hK:K x (b8 res k (.store t e M))):ai P f (.lp k 0::rest) res K KP:=by
 have hk:known res k:=by unfold known;rw[hr];simp
 have hlt:=aN hk;refine ai.frame (pl:= [(k,true)]) (args0:= .lp 0 0::rest) (K0:=fun v r=>yt x v r/\ay r 0= .store t e M) (KP0:=fun _ _=>False) (by simp[eA,cV.2 hk]) (by simpa[gN,dA,na]using hlt) ?_ ?_ (fun v r hv=>?_) (fun _ _ h=>h.elim)
 ·simp only[eT,fk,kC,idxOf,dA];rw[iX rest hid];simp
 ·have:ez (kC 0 (dA [(k,true)])) res [(k,true)]= [.store t e L]:=by simp[ez,hr,fW]
  rw[this];exact h
 ·obtain⟨h1,h2⟩:=hv;have hm:merge [(k,true)] [] r res=b8 res k (.store t e M):=by simp[merge,eP,h2,fW,fO]
  exact⟨[],x,rfl,by simp[jR,h2,iH],rfl,iC.j4 h1 hx,by rw[hm];exact hK⟩
theorem ai.pure {f:Nat} {args:List V} {res:List aH} {K KP:V->List aH->Prop} {x:V} (hid:kG args=true) (hx:j4 x=true)
  (h:ai P f args [] (fun v _=>yt x v []) (fun _ _=>False)) (hK:K x res):ai P f args res K KP:=by
 refine ai.frame (pl:= []) (args0:=args) (K0:=fun v _=>yt x v []) (KP0:=fun _ _=>False) rfl rfl (iX args hid) h (fun v r hv=>?_) (fun _ _ h=>h.elim)
 have hm:merge [] [] r res=res:=by simp[merge,eP,fO]
 exact⟨[],x,rfl,rfl,rfl,iC.j4 hv hx,by rw[hm];exact hK⟩
theorem ai.Jl {f:Nat} {rest:List V} {res:List aH} {K KP:V->List aH->Prop} {k:Nat} {r0:aH} {x:V} (hr:dr res k=r0) (hne:r0≠ .yet) (hren:∀κ,fW κ r0=r0) (hid:kG rest=true) (hx:j4 x=true)
  (h:ai P f (.lp 0 0::rest) [.ro r0] (fun v _=>yt x v []) (fun _ _=>False)) (hK:K x res):ai P f (.lp k 0::rest) res K KP:=by
 have hk:=dV hr hne;have hlt:=aN hk;refine ai.frame (pl:= [(k,false)]) (args0:= .lp 0 0::rest) (K0:=fun v _=>yt x v []) (KP0:=fun _ _=>False) (by simp[eA,cV.2 hk]) (by simpa[gN,dA,na]using hlt) ?_ ?_ (fun v r hv=>?_) (fun _ _ h=>h.elim)
 ·simp only[eT,fk,kC,idxOf,dA];rw[iX rest hid];simp
 ·have:ez (kC 0 (dA [(k,false)])) res [(k,false)]= [.ro r0]:=by simp[ez,hr,hren]
  rw[this];exact h
 ·have hm:merge [(k,false)] [] r res=res:=by simp[merge,eP,fO]
  exact⟨[],x,rfl,by simp[jR],rfl,iC.j4 hv hx,by rw[hm];exact hK⟩
theorem bh.weaken {J:Env} {fps:Nat->Nat->Prop} {res res':List aH} {w0 w:World} {F0:Nat->Prop} (h:bh J fps res (known res) w0 F0 w)
  (hk:∀i,known res' i->known res i/\∀fp,(ay res i).holds (known res) J i fp w0 F0 w->(ay res' i).holds (known res') J i fp w0 F0 w):bh J fps res' (known res') w0 F0 w:=
 ⟨fun i hi=>hi,h.old,h.os,h.tape,h.output,fun i hi=>(hk i hi).2 _ (h.holds i (hk i hi).1),fun i b hi=>h.lt i b (hk i hi).1,fun i j b hi hj=>h.disj i j b (hk i hi).1 (hk j hj).1,fun i b hi=>h.inF i b (hk i hi).1,h.same⟩
theorem xi {K K':Nat->Prop} {J:Env} {i:Nat} {fp:Nat->Prop} {w0 w:World} {F0:Nat->Prop} {own:Option Nat} {e:Nat} {l:TL} (h:(aH.arr own e l).holds K J i fp w0 F0 w):(aH.arr none e l).holds K' J i fp w0 F0 w:=by
 obtain⟨h1,h2,h3,h4,h5,h6,h7⟩:=h;refine⟨h1,h2,h3,h4,h5,h6,?_⟩;rcases h7 with⟨e,h7⟩|⟨e,e1,e2⟩
 ·exact .inl ⟨rfl,h7⟩
 ·exact .inr ⟨e,by simp,e2⟩
theorem ai.Uw {f:Nat} {args:List V} {K KP:V->List aH->Prop} {own:Option Nat} {e:Nat} {l:TL} (h:ai P f args [.ro (.arr none e l)] K KP):ai P f args [.ro (.arr own e l)] K KP:=by
 have hk:∀i (own:Option Nat),known [.ro (.arr own e l)] i↔i=0:=fun i own=>by
  unfold known;cases i with
  |zero=>simp[ay]
  |succ i=>simp[ay]
 refine h.th fun J fps w0 F0 w hH=>⟨J,fps,hH.weaken fun i hi=>?_,Env.bp.refl _ _,fun i hi=>(hk i _).2 ((hk i _).1 hi)⟩
 have:=(hk i _).1 hi;subst this;refine⟨(hk 0 _).2 rfl,fun fp hh=>?_⟩
 obtain⟨fp',g1,g2⟩:=hh;exact⟨fp',xi g1,g2⟩
theorem ai.Iw {f:Nat} {rest:List V} {res:List aH} {K KP:V->List aH->Prop} {t e k esz:Nat} {own:Option Nat} {l:TL} {M:List Obj} {F:Nat->V} (hr:dr res k= .arr own esz l) (hid:kG rest=true)
  (h:ai P f (.sa 0::rest) [.ro (.arr own esz l)] (fun v r=>∃j,1<=j/\ay r j= .store t e M/\(∀(κ:Nat->Option Nat) (i:Nat),κ j=some i->iC κ v (F i))) (fun _ _=>False)) (hK:K (F res.length) (res++ [.store t e M])):ai P f (.sa k::rest) res K KP:=by
 have hk:=dV hr (by simp)
 have hlt:=aN hk;refine ai.frame (pl:= [(k,false)]) (args0:= .sa 0::rest) (K0:=fun v r=>∃j,1<=j/\ay r j= .store t e M/\(∀(κ:Nat->Option Nat) (i:Nat),κ j=some i->iC κ v (F i))) (KP0:=fun _ _=>False) (by simp[eA,cV.2 hk]) (by simpa[gN,dA,na]using hlt) ?_ ?_ (fun v r hv=>?_) (fun _ _ h=>h.elim)
 ·simp only[eT,fk,kC,idxOf,dA];rw[iX rest hid];simp
 ·have:ez (kC 0 (dA [(k,false)])) res [(k,false)]= [.ro (.arr own esz l)]:=by simp[ez,hr,fW]
  rw[this];exact h
 ·obtain⟨j,hj1,hj,hv⟩:=hv;have hjl:j<r.length:=aN (by rw[hj];simp)
  have hm:merge [(k,false)] [j] r res=res++ [.store t e M]:=by simp[merge,eP,fO,hj,fW]
  refine⟨[j],F res.length,by simpa[gN,na]using⟨hj1,hjl⟩,by simp[jR],by simp[lG,hj,iH],hv _ _ ?_,by rw[hm];exact hK⟩
  obtain⟨m,rfl⟩:∃m,j=m+1:=⟨j-1,by omega⟩
  simp[back,vD,idxOf]
theorem ai.U1 {f:Nat} {rest:List V} {res:List aH} {K KP:V->List aH->Prop} {k esz:Nat} {own:Option Nat} {l:TL} {x:V} (hr:dr res k= .arr own esz l) (hid:kG rest=true) (hx:j4 x=true)
  (h:ai P f (.sa 0::rest) [.ro (.arr own esz l)] (fun v _=>yt x v []) (fun _ _=>False)) (hK:K x res):ai P f (.sa k::rest) res K KP:=by
 have hk:=dV hr (by simp)
 have hlt:=aN hk;refine ai.frame (pl:= [(k,false)]) (args0:= .sa 0::rest) (K0:=fun v _=>yt x v []) (KP0:=fun _ _=>False) (by simp[eA,cV.2 hk]) (by simpa[gN,dA,na]using hlt) ?_ ?_ (fun v r hv=>?_) (fun _ _ h=>h.elim)
 ·simp only[eT,fk,kC,idxOf,dA];rw[iX rest hid];simp
 ·have:ez (kC 0 (dA [(k,false)])) res [(k,false)]= [.ro (.arr own esz l)]:=by simp[ez,hr,fW]
  rw[this];exact h
 ·have hm:merge [(k,false)] [] r res=res:=by simp[merge,eP,fO]
  exact⟨[],x,rfl,by simp[jR],rfl,iC.j4 hv hx,by rw[hm];exact hK⟩
theorem rT (κ2:Nat->Option Nat) (r':List aH):∀(l:List (Nat×Bool)) (i:Nat) (res:List aH),(∀p∈l,p.2=false)->eP κ2 r' i l res=res
 | [],_,_,_=>rfl
 | (p,o)::l,i,res,h=>by
   have:=h (p,o) (by simp)
   simp only at this;subst this;simp only[eP,Bool.false_eq_true,if_false];exact rT κ2 r' l _ _ fun p hp=>h p (by simp[hp])
theorem uM (r':List aH):∀(l:List (Nat×Bool)) (i:Nat),(∀p∈l,p.2=false)->jR r' i l=true
 | [],_,_=>rfl
 | (p,o)::l,i,h=>by
   have:=h (p,o) (by simp)
   simp only at this;subst this;simp only[jR,Bool.false_eq_true,if_false,Bool.true_and];exact uM r' l _ fun p hp=>h p (by simp[hp])
theorem qS:∀(l:List (Nat×Bool)) (j:Nat),l.length<=j->vD l j=none
 | [],_,_=>rfl
 | (p,o)::l,0,h=>by simp at h
 | (p,o)::l,j+1,h=>by simp only[vD];exact qS l j (by simpa using h)
theorem ai.UM {f:Nat} {args args0:List V} {res:List aH} {K KP:V->List aH->Prop} {pl:List (Nat×Bool)} {new:aH} {F:Nat->V} (hk:eA res pl=true) (hnd:gN 0 res.length (dA pl)=true) (hro:∀p∈pl,p.2=false)
  (ha:eT (kC 0 (dA pl)) args=some args0) (hnew:iH new=true) (hne:new≠ .yet) (hren:∀κ,fW κ new=new)
  (h:ai P f args0 (ez (kC 0 (dA pl)) res pl) (fun v r=>∃j,pl.length<=j/\ay r j=new/\(∀(κ:Nat->Option Nat) (i:Nat),κ j=some i->iC κ v (F i))) (fun _ _=>False))
  (hK:K (F res.length) (res++ [new])):ai P f args res K KP:=by
 refine ai.frame hk hnd ha h (fun v r hv=>?_) (fun _ _ h=>h.elim)
 obtain⟨j,hj1,hj,hv⟩:=hv;have hjl:j<r.length:=aN (by rw[hj];exact hne)
 have hm:merge pl [j] r res=res++ [new]:=by simp[merge,rT _ _ pl 0 res hro,fO,hj,hren]
 refine⟨[j],F res.length,by simpa[gN,na]using⟨hj1,hjl⟩,uM _ _ _ hro,by simp[lG,hj,hnew],hv _ _ ?_,by rw[hm];exact hK⟩
 simp[back,qS pl j hj1,idxOf]
theorem ai.TU {f:Nat} {args args0:List V} {res:List aH} {K KP:V->List aH->Prop} {pl:List (Nat×Bool)} {x:V} (hk:eA res pl=true) (hnd:gN 0 res.length (dA pl)=true) (hro:∀p∈pl,p.2=false)
  (ha:eT (kC 0 (dA pl)) args=some args0) (hx:j4 x=true)
  (h:ai P f args0 (ez (kC 0 (dA pl)) res pl) (fun v _=>yt x v []) (fun _ _=>False)) (hK:K x res):ai P f args res K KP:=by
 refine ai.frame hk hnd ha h (fun v r hv=>?_) (fun _ _ h=>h.elim)
 have hm:merge pl [] r res=res:=by simp[merge,rT _ _ pl 0 res hro,fO]
 exact⟨[],x,rfl,uM _ _ _ hro,rfl,iC.j4 hv hx,by rw[hm];exact hK⟩
theorem yT {r:List aH} {k t e j:Nat} {L:List Obj} (h:CH r k=some (t,e,j,L)):∃r',sf r k=some r'/\ay r' k= .store t e L:=by
 unfold sf;rw[h];refine⟨_,rfl,?_⟩
 have hk:k<r.length:=by
  unfold CH at h;split at h
  ·rename_i hr;exact aN (by rw[hr];simp)
  ·simp at h
 rw[ca _ _ _ _ (by rw[cJ];exact hk),XR rfl]
def Cz (r:List aH) (k:Nat):Option (Nat×Nat×List Obj):=
 match ay r k with
 | .store t e L=>some (t,e,L)
 |_=>match CH r k with
  |some (t,e,_,L)=>some (t,e,L)
  |none=>none
theorem B3 {r:List aH} {k t e:Nat} {L:List Obj} (h:Cz r k=some (t,e,L)):ay r k= .store t e L\/∃r',sf r k=some r'/\ay r' k= .store t e L:=by
 unfold Cz at h;split at h
 ·rename_i hr;simp only[XI,XJ]at h;obtain⟨rfl,rfl,rfl⟩:=h;exact .inl hr
 ·split at h
  ·rename_i hst;simp only[XI,XJ]at h;obtain⟨rfl,rfl,rfl⟩:=h;exact .inr (yT hst)
  ·simp at h
theorem O6 {a b c:V} (h:yt c b []):yt (.tp [a,c]) (.tp [a,b]) []:=fun J K=>by
 obtain⟨s1,s2,_⟩:=h J K;exact⟨by simp only[den,bu,s1],fun hk=>⟨hk.1,s2 hk.2.1,trivial⟩,rfl⟩
theorem ai.On {f:Nat} {args:List V} {res:List aH} {K KP:V->List aH->Prop} {t e:Nat} {M:List Obj} {F:Nat->V} (hid:kG args=true)
  (h:ai P f args [] (fun v r=>∃j,ay r j= .store t e M/\(∀(κ:Nat->Option Nat) (i:Nat),κ j=some i->iC κ v (F i))) (fun _ _=>False)) (hK:K (F res.length) (res++ [.store t e M])):ai P f args res K KP:=by
 refine ai.frame (pl:= []) (args0:=args) (K0:=fun v r=>∃j,ay r j= .store t e M/\(∀(κ:Nat->Option Nat) (i:Nat),κ j=some i->iC κ v (F i))) (KP0:=fun _ _=>False) rfl rfl (iX args hid) h (fun v r hv=>?_) (fun _ _ h=>h.elim)
 obtain⟨j,hj,hv⟩:=hv;have hlt:j<r.length:=aN (by rw[hj];simp)
 have hm:merge [] [j] r res=res++ [.store t e M]:=by simp[merge,eP,fO,hj,fW]
 exact⟨[j],F res.length,by simpa[gN,na]using hlt,rfl,by simp[lG,hj,iH],hv _ _ (by simp[back,vD,idxOf]),by rw[hm];exact hK⟩
end
def UG (v:V):Option Nat:=
 match v with
 | .sa j=>some j
 | .ag l=>match l with
   | [x]=>match x with
     | .sa j=>some j
     |_=>none
   |_=>none
 |_=>none
def UX (c:Nat) (U:St):Option (List Nat):=
 match ay U.res c with
 | .blk _ x=>match UG x with
   |some j=>match ay U.res j with
    | .obs _ q _=>some [j,q]
    |_=>some [j]
   |none=>some []
 |_=>some []
def Uh (iT:List Nat) (set:Int->List (Nat×V)) (k:Nat) (R:Int->aH) (inv:Int->Prop) (m:Int):dE:=
 {γ:=Int,head:=fun U g=> {U with slots:=G8 iT (set g) 0 U.slots,res:=b8 U.res k (R g)},inv:=inv,μ:=fun g=>ot (rW m g)}
def EW:List (Nat×aH)->List aH->List aH
 | [],r=>r
 | (k,x)::l,r=>EW l (b8 r k x)
def Xn {γ:Type} (iT:List Nat) (set:γ->List (Nat×V)) (rs:γ->List (Nat×aH)) (inv:γ->Prop) (μ:γ->Nat):dE:=
 {γ:=γ,head:=fun U g=> {U with slots:=G8 iT (set g) 0 U.slots,res:=EW (rs g) U.res},inv:=inv,μ:=μ}
def TL.emp:TL->TL
 | .ob _=> .ob []
 | .key _=> .key []
 | .it k _=> .it k []
 | .bo _=> .bo []
 | .st _=> .st []
 | .fn n g=> .fn n g
def UY (t:Nat) (U:St):Option (List Nat):=
 match bN U.slots t with
 | .v x=>match UG x with
   |some j=>some [j]
   |none=>some []
 |_=>some []
def VB (iT:List Nat) (set:Int->List (Nat×V)) (t e esz:Nat) (L:Int->TL) (inv inv2:Int->Prop) (m:Int):dE:=
 {γ:=Int,head:=fun U g=> {U with slots:=G8 iT (set g) 0 U.slots},inv:=inv,μ:=fun g=>ot (rW m g),m2:=true,
  head2:=fun U g=> {U with slots:=G8 iT ((t,.sa U.res.length)::set g) 0 U.slots,res:=U.res++ [.arr (some e) esz (L g)]},inv2:=inv2,ext2:=UY t}
def Ve (n:Nat):dE:= {γ:=Unit,head:=fun U _=>U,inv:=fun _=>True,μ:=fun _=>0,unr:=some n}
def Vt {γ:Type} (iT:List Nat) (set:γ->List (Nat×V)) (t esz:Nat) (L:γ->TL) (rs:γ->List (Nat×aH)) (inv:γ->Prop) (μ:γ->Nat):dE:=
 {γ:=γ,head:=fun U g=> {U with slots:=G8 iT ((t,.sa U.res.length)::set g) 0 U.slots,res:=EW (rs g) U.res++ [.arr none esz (L g)]},
  inv:=inv,μ:=μ,pre:= [.al t],ext:=UY t}
def XD (iT:List Nat) (set:Int->List (Nat×V)) (c ty e esz:Nat) (L:Int->TL) (inv:Int->Prop) (m:Int):dE:=
 {γ:=Int,head:=fun U g=> {U with slots:=G8 iT (set g) 0 U.slots,res:=b8 U.res c (.blk ty (.sa U.res.length))++ [.arr (some e) esz (L g)]},
  inv:=inv,μ:=fun g=>ot (rW m g),pre:= [.bv c e esz (TL.emp (L 0))],ext:=UX c}
def U7 {γ:Type} (iT:List Nat) (set:γ->List (Nat×V)) (t:Nat) (R:γ->aH) (inv:γ->Prop) (μ:γ->Nat):dE:=
 {γ:=γ,head:=fun U g=>match bN U.slots t with
   | .v x=>match x with
     | .lp k _=> {U with slots:=G8 iT (set g) 0 U.slots,res:=b8 U.res k (R g)}
     |_=>U
   |_=>U,inv:=inv,μ:=μ}
def EF (sl:List S):List (Nat×aH)->List aH->List aH
 | [],r=>r
 | (t,x)::l,r=>match bN sl t with
   | .v y=>match y with
     | .lp k _=>EF sl l (b8 r k x)
     |_=>EF sl l r
   |_=>EF sl l r
mutual
def Ro:V->List Nat
 | .lp i _=> [i]
 | .lx i _ _ _ _ _=> [i]
 | .sc i _ _=> [i]
 | .so i _=> [i]
 | .ap i _ _ _=> [i]
 | .ax i _ _ _ _ _ _ _=> [i]
 | .sa i=> [i]
 | .op i _=> [i]
 | .yl i=> [i]
 | .bs x _ _=>Ro x
 | .ks x _ _ _ _=>Ro x
 | .fn _ l=>Si l
 | .ic _ x=>Ro x
 | .ag l=>Si l
 | .tp l=>Si l
 | .ch _ _ l y=>Si l++Ro y
 |_=> []
def Si:List V->List Nat
 | []=> []
 |x::l=>Ro x++Si l
end
def Xv:aH->List Nat
 | .blk _ c=>Ro c
 | .ro r=>match r with
   | .blk _ c=>Ro c
   |_=> []
 |_=> []
def Xr:List S->List Nat
 | []=> []
 |x::l=>(match x with| .v y=>Ro y|_=> [])++Xr l
def Xm:List (Nat×List V×List V)->List Nat
 | []=> []
 |x::l=>Si x.2.1++Si x.2.2++Xm l
def Xk (res:List aH):Nat->List Nat->List Nat
 |0,l=>l
 |n+1,l=>Xk res n (l.foldr (fun i m=>(Xv (ay res i)).foldr (fun j k=>if UW k j then k else j::k) m) l)
def Xq (l:List Nat):Nat->List aH->List aH
 |_,[]=> []
 |i,x::r=>(match x with| .mp _ _ _=> .gone| .mq _ _=> .gone| .blk t c=>if UW l i then .blk t c else .gone| .ro y=>(match y with| .blk t c=>if UW l i then .ro (.blk t c)else .gone|y=> .ro y)|x=>x)::Xq l (i+1) r
def Xu (U:St):St:= {U with res:=Xq (Xk U.res 4 (Xr U.slots++Xm U.defs)) 0 U.res}
def XC {γ:Type} (iT:List Nat) (set:γ->List (Nat×V)) (bl:γ->List (Nat×aH)) (rs:γ->List (Nat×aH)) (inv:γ->Prop):dE:=
 {γ:=γ,head:=fun U g=>Xu {U with slots:=G8 iT (set g) 0 U.slots,res:=EW (rs g) (EF U.slots (bl g) U.res)},inv:=inv,μ:=fun _=>0}
def Xj (iT:List Nat) (set:Int->List (Nat×V)) (c t e:Nat) (L:Int->List Obj) (inv:Int->Prop) (m:Int):dE:=
 {γ:=Int,head:=fun U g=> {U with slots:=G8 iT (set g) 0 U.slots,res:=b8 U.res c (.blk t (.ag [.sa U.res.length]))++ [.obs e (U.res.length+1) (L g),.gen U.res.length]},
  inv:=inv,μ:=fun g=>ot (rW m g),pre:= [.bl c e],ext:=UX c}
end Go.Sx
namespace Go.Proofs.YtghpaegglbbocaaGreat
open Go.Sx
noncomputable def RB (l:List (Nat×Ct)) (hl:List (Nat×kz)) (inl:Nat->Bool) (ann:Nat->Nat->Option dE):Qm:= {P:=Tryz.prog,Z:=zeroOf,Γ:=oG l,H0:=Bw hl,inl:=inl,ann:=ann,opn:=JT inl}
theorem zN {l:List (Nat×Ct)} {hl:List (Nat×kz)} {inl:Nat->Bool} {ann:Nat->Nat->Option dE} (h:∀p∈l,cj Tryz.prog p.1 p.2):(RB l hl inl ann).toCtx.Sound:=
 ⟨yh nO,Tryz.checked.mixed,fun f g hg=>lK h f g hg,fun f ts te h=>by simp[RB]at h⟩
abbrev Xx (l:List (Nat×Ct)) (hl:List (Nat×kz)) (inl:Nat->Bool) (ann:Nat->Nat->Option dE) (f:Nat) (args:List V) (res:List aH) (K KP:V->List aH->Prop):Prop:=
 enter (RB l hl inl ann).toCtx (exec (RB l hl inl ann) 100 ⟨false,none⟩) (exec (RB l hl inl ann) 100 ⟨false,none⟩ f) f args res K KP
set_option maxRecDepth 100000 in
theorem br {l:List (Nat×Ct)} {hl:List (Nat×kz)} {inl:Nat->Bool} {ann:Nat->Nat->Option dE} (h:∀p∈l,cj Tryz.prog p.1 p.2) (hh:∀p∈hl,ll Tryz.prog p.1 p.2) {f:Nat} {args:List V} {res:List aH}
  {K KP:V->List aH->Prop} {G:Prop} (hG:G) (he:G=Xx l hl inl ann f args res K KP):ai Tryz.prog f args res K KP:=
 AA (C:=RB l hl inl ann) (n:=100) (zN h) (xY hh) (Eq.mp he hG)
def CI:List (Nat×Nat×Nat)->Nat->Option (Nat×Nat)
 | [],_=>none
 | (g,ts,te)::l,f=>if f==g then some (ts,te)else CI l f
theorem B2 {P:Program}:∀{l:List (Nat×Nat×Nat)},(∀p∈l,ur P p.1 p.2.1 p.2.2)->∀f ts te,CI l f=some (ts,te)->ur P f ts te
 | [],_,f,ts,te,h=>by simp[CI]at h
 | (g,a,b)::l,hl,f,ts,te,h=>by
   simp only[CI]at h;split at h
   ·rename_i e;have e:=XM.1 e;simp only[XI,XJ]at h;obtain⟨rfl,rfl⟩:=h;subst e;exact hl (f,a,b) (by simp)
   ·exact B2 (fun p hp=>hl p (by simp[hp])) f ts te h
noncomputable def Uo (l:List (Nat×Ct)) (hl:List (Nat×kz)) (dl:List (Nat×Nat×Nat)) (inl:Nat->Bool) (ann:Nat->Nat->Option dE):Qm:= {P:=Tryz.prog,Z:=zeroOf,Γ:=oG l,D:=CI dl,H0:=Bw hl,inl:=inl,ann:=ann,opn:=JT inl}
abbrev Xz (l:List (Nat×Ct)) (hl:List (Nat×kz)) (dl:List (Nat×Nat×Nat)) (inl:Nat->Bool) (ann:Nat->Nat->Option dE) (f:Nat) (args:List V) (res:List aH) (K KP:V->List aH->Prop):Prop:=
 enter (Uo l hl dl inl ann).toCtx (exec (Uo l hl dl inl ann) 100 ⟨false,none⟩) (exec (Uo l hl dl inl ann) 100 ⟨false,none⟩ f) f args res K KP
set_option maxRecDepth 100000 in
theorem aV {l:List (Nat×Ct)} {hl:List (Nat×kz)} {dl:List (Nat×Nat×Nat)} {inl:Nat->Bool} {ann:Nat->Nat->Option dE} (h:∀p∈l,cj Tryz.prog p.1 p.2) (hh:∀p∈hl,ll Tryz.prog p.1 p.2) (hd:∀p∈dl,ur Tryz.prog p.1 p.2.1 p.2.2) {f:Nat} {args:List V} {res:List aH}
  {K KP:V->List aH->Prop} {G:Prop} (hG:G) (he:G=Xz l hl dl inl ann f args res K KP):ai Tryz.prog f args res K KP:=
 AA (C:=Uo l hl dl inl ann) (n:=100) ⟨yh nO,Tryz.checked.mixed,fun f g hg=>lK h f g hg,B2 hd⟩ (xY hh) (Eq.mp he hG)
end Go.Proofs.YtghpaegglbbocaaGreat
namespace Go.Sx
open Go.RowKit (Below)
def H7 (κ:Nat->Option Nat) (r:List aH):List Nat->Option (List aH)
 | []=>some []
 |p::l=>if jK r p&&iH (ay r p)then match H7 κ r l with
   |some m=>some (fW κ (ay r p)::m)
   |none=>none
  else none
def xw (π:List Nat) (x:Nat->V) (new:Nat->List aH) (v:V) (r:List aH):Prop:=
 ∀nid,fk (idxOf π nid) v=some (x nid)/\H7 (idxOf π nid) r π=some (new nid)
def CB (x:Nat->V) (new:Nat->List aH):Ct:=fun _ nid args=>match args with
 | []=>some (none,x nid,new nid)
 |_=>none
def UC:List aH->Bool
 | []=>true
 |r::l=>match r with
  | .yet=>false
  |_=>UC l
theorem xK:∀{l:List aH},UC l=true->∀k,k<l.length->ay l k≠ .yet
 | [],_,k,hk=>by simp at hk
 |r::l,h,k,hk=>by
  simp only[UC]at h;split at h
  ·simp at h
  ·rename_i hr;cases k with
   |zero=>exact hr
   |succ k=>exact xK h k (by simpa using hk)
theorem uD {κ:Nat->Option Nat} {r:List aH}:∀{π:List Nat} {new:List aH},H7 κ r π=some new->new.length=π.length/\
  ∀(k p:Nat),π[k]? =some p->known r p/\iH (ay r p)=true/\ay new k=fW κ (ay r p)
 | [],new,h=>by simp only[H7,XI]at h;subst h;exact⟨rfl,fun k p h=>by simp at h⟩
 |q::π,new,h=>by
  simp only[H7]at h;split at h
  ·rename_i hc;simp only[XK]at hc;split at h<;>simp only[XI,reduceCtorEq]at h
   rename_i m hm;subst h;obtain⟨a,b⟩:=uD hm;refine⟨by simp[a],fun k p hk=>?_⟩
   cases k with
   |zero=>simp at hk;subst hk;exact⟨cV.1 hc.1,hc.2,rfl⟩
   |succ k=>exact b k p (by simpa using hk)
  ·simp at h
theorem wV {P:Program} {f:Nat} {π:List Nat} {x:Nat->V} {new:Nat->List aH} (hnd:π.Nodup) (hy:∀nid,UC (new nid)=true) (h:ai P f [] [] (xw π x new) (fun _ _=>False)):cj P f (CB x new):=by
 intro J fps res K w0 F0 w nid args q y new' hH hargs hg hq hfr;unfold CB at hg;split at hg<;>simp only[XI,XJ,reduceCtorEq]at hg
 obtain⟨_,rfl,rfl⟩:=hg
 have hE:bh J (fun _ _=>False) [] (known []) w (fun _=>False) w:=
  ⟨fun i hi=>hi,Nat.le_refl _,rfl,rfl,rfl,fun i hi=>by simp[known,ay]at hi,fun i b hi=>by simp[known,ay]at hi,fun i j b hi=>by simp[known,ay]at hi,fun i b hi=>by simp[known,ay]at hi,fun _ _ _=>rfl⟩
 have hc:=h J _ w (fun _=>False) w hE trivial
 refine⟨?_,?_⟩
 ·refine hc.mono fun e w' ⟨v,ρ1,fps1,r,g1,g2,g3,g4⟩=>?_
  rcases g4 with⟨rfl,hN⟩|⟨_,hF⟩
  ·obtain⟨n1,n2⟩:=hN nid;obtain⟨l1,l2⟩:=uD n2;refine⟨_,rfl,?_⟩
   let ρ':Env:=⟨fun i=>if i<nid then J.num i else if i<nid+π.length then ρ1.num (π.getD (i-nid) 0)else J.num i,fun i=>if i<nid then J.cap i else if i<nid+π.length then ρ1.cap (π.getD (i-nid) 0)else J.cap i,
    fun i=>if i<nid then J.adr i else if i<nid+π.length then ρ1.adr (π.getD (i-nid) 0)else J.adr i,fun i=>if i<nid then J.sa i else if i<nid+π.length then ρ1.sa (π.getD (i-nid) 0)else J.sa i,
    fun i=>if i<nid then J.sn i else if i<nid+π.length then ρ1.sn (π.getD (i-nid) 0)else J.sn i,fun i=>if i<nid then J.ob i else if i<nid+π.length then ρ1.ob (π.getD (i-nid) 0)else J.ob i⟩
   have hvia:Env.via (idxOf π nid) ρ1 ρ':=by
    intro p i hp;obtain⟨a1,a2,a3⟩:=gT hp;have:π.getD (i-nid) 0=p:=by simp[XP,a3]
    simp[ρ',XQ (show¬i<nid by omega),XR a2,a3]
   have hat:∀k,k<(new nid).length->∃p,π[k]? =some p/\idxOf π nid p=some (nid+k):=fun k hk=>by
    have hk':k<π.length:=by omega
    exact⟨π[k],by simp[hk'],mK π nid k hnd (by simp[hk'])⟩
   have hNN:∀p i,idxOf π nid p=some i->known r p->K i\/fresh nid (new nid).length i:=fun p i hp _=>by
    obtain⟨a1,a2,a3⟩:=gT hp;exact .inr ⟨a1,by omega⟩
   refine⟨ρ',⟨⟨g1.os,g1.tape,g1.output,g1.old,fun b hb=>g1.same b hb (by simp)⟩,fun i hi=>?_,fun k=>fps1 (π.getD k 0),fun k hk=>?_,fun k l b hk hl hne=>?_⟩,?_,?_⟩
   ·have:¬(nid<=i/\i<nid+π.length):=fun⟨a,b⟩=>hi ⟨a,by omega⟩
    by_cases hlt:i<nid
    ·simp[ρ',XR hlt]
    ·simp[ρ',XQ hlt,XQ (show¬i<nid+π.length by omega)]
   ·obtain⟨p,p1,p2⟩:=hat k hk;obtain⟨m1,m2,m3⟩:=l2 k p p1;have hgd:π.getD k 0=p:=by simp[XP,p1]
    simp only[hgd];refine⟨?_,fun b hb=>⟨?_,g1.lt p b m1 hb⟩⟩
    ·rw[m3];exact ia hvia hNN p2 _ _ _ (kK m2 (g1.holds p m1))
    ·refine Nat.le_of_not_lt fun hlt=>?_
     exact g1.inF p b m1 hb hlt
   ·obtain⟨p,p1,p2⟩:=hat k hk;obtain⟨p',p1',p2'⟩:=hat l hl;have hgd:π.getD k 0=p:=by simp[XP,p1]
    have hgd':π.getD l 0=p':=by simp[XP,p1']
    simp only[hgd,hgd']
    have hpp:p≠p':=by
     rintro rfl
     rw[p2]at p2';simp at p2';omega
    exact g1.disj p p' b (l2 k p p1).1 (l2 l p' p1').1 hpp
   ·exact(je hvia hNN _ _ n1).1.symm
   ·exact(je hvia hNN _ _ n1).2.1 g3
  ·exact hF.elim
 ·intro k hk;exact xK (hy nid) k hk
end Go.Sx
namespace Go.Sx
open Go.RowKit (Below)
structure Arg (α:Type) where
 rd:List aH->V->Option (List (Nat×aH)×α)
 cn:α->Nat->V
 pl:α->List aH
structure lj (α:Type) where
 rd:List aH->List V->Option (List (Nat×aH)×α)
 cn:α->Nat->List V
 pl:α->List aH
def qg {α:Type} (A:Arg α):Prop:=∀res v pls a,A.rd res v=some (pls,a)->pls.map (·.2)=A.pl a/\(∀p∈pls,pf res p.1 p.2/\qq p.2=true)/\cz (A.cn a 0)=cz v/\(∀n,cz (A.cn a n)=cz (A.cn a 0))/\
 ∀(pre post:List (Nat×aH)),(∀J K,ok K v->den (J.pull (pT (pre++(pls++post)))) (A.cn a pre.length)=den J v)/\∀K,ok K v->ok (known (qV (pre++(pls++post)))) (A.cn a pre.length)
def iu {α:Type} (A:lj α):Prop:=∀res l pls a,A.rd res l=some (pls,a)->pls.map (·.2)=A.pl a/\(∀p∈pls,pf res p.1 p.2/\qq p.2=true)/\(qY l->∀n,qY (A.cn a n))/\
 ∀(pre post:List (Nat×aH)),(∀J K,ft K l->bu (J.pull (pT (pre++(pls++post)))) (A.cn a pre.length)=bu J l/\bf (J.pull (pT (pre++(pls++post)))) (A.cn a pre.length)=bf J l)/\∀K,ft K l->ft (known (qV (pre++(pls++post)))) (A.cn a pre.length)
def iI:lj Unit:=⟨fun _ l=>match l with| []=>some ([],())|_=>none,fun _ _=> [],fun _=> []⟩
def bk {α β:Type} (A:Arg α) (B:lj β):lj (α×β):=
 ⟨fun res l=>match l with
  |v::l=>match A.rd res v with
   |some (p,a)=>match B.rd res l with
    |some (q,b)=>some (p++q,(a,b))
    |none=>none
   |none=>none
  | []=>none,fun x n=>A.cn x.1 n::B.cn x.2 (n+(A.pl x.1).length),fun x=>A.pl x.1++B.pl x.2⟩
def DK {α:Type} (r:V->Option α) (m:α->V):Arg α:=⟨fun _ v=>match r v with|some x=>some ([],x)|none=>none,fun x _=>m x,fun _=> []⟩
def Wm (t e:Nat):Arg (Option (List Obj)):=
 ⟨fun res v=>match rS t e res v with
  |some (o,L)=>match o with
   |none=>some ([],none)
   |some k=>some ([(k,.store t e L)],some L)
  |none=>none,fun o n=>match o with|none=>k9|some _=> .lp n 0,fun o=>match o with|none=> []|some L=> [.store t e L]⟩
def A6:Arg (List Obj):=
 ⟨fun res v=>match rA res v with
  |some (k,L)=>some ([(k,.arr none 163 (.ob L))],L)
  |none=>none,fun _ n=> .sa n,fun L=> [.arr none 163 (.ob L)]⟩
def We {α:Type} (B:lj α):Arg α:=
 ⟨fun res v=>match v with
  | .ag l=>B.rd res l
  |_=>none,fun x n=> .ag (B.cn x n),B.pl⟩
theorem BD {pre pls post:List (Nat×aH)} {k:Nat} {r:aH}:pT (pre++((k,r)::pls++post)) pre.length=k:=sF _ _ (k,r) (by simp)
theorem zX {pre pls post:List (Nat×aH)} {k:Nat} {r:aH}:known (qV (pre++((k,r)::pls++post))) pre.length:=by
 unfold known;rw[v9];simp
theorem cK:iu iI:=by
 intro res l pls a h;simp only[iI]at h;split at h<;>simp only[XI,XJ,reduceCtorEq]at h
 obtain⟨rfl,_⟩:=h;exact⟨rfl,by simp,fun _ _=>trivial,fun pre post=>⟨fun _ _ _=>⟨rfl,rfl⟩,fun _ _=>trivial⟩⟩
theorem aJ {α β:Type} {A:Arg α} {B:lj β} (hA:qg A) (hB:iu B):iu (bk A B):=by
 intro res l pls x h;simp only[bk]at h;split at h
 case h_2=>simp at h
 rename_i v l;split at h
 case h_2=>simp at h
 rename_i p a ha;split at h
 case h_2=>simp at h
 rename_i q b hb;simp only[XI,XJ]at h;obtain⟨rfl,rfl⟩:=h;obtain⟨a1,a2,a3,a3',a4⟩:=hA _ _ _ _ ha;obtain⟨b1,b2,b3,b4⟩:=hB _ _ _ _ hb;refine⟨by simp[bk,a1,b1],fun p' hp'=>?_,fun hc n=>?_,fun pre post=>?_⟩
 ·rcases List.mem_append.1 hp' with hp'|hp'
  ·exact a2 p' hp'
  ·exact b2 p' hp'
 ·rw[dv]at hc⊢;intro z hz;simp only[bk]at hz;rcases List.mem_cons.1 hz with rfl|hz
  ·rw[a3',a3];exact hc v (by simp)
  ·exact(dv _).1 (b3 ((dv _).2 fun y hy=>hc y (by simp[hy])) _) z hz
 ·have hlen:(A.pl a).length=p.length:=by rw[<-a1];simp
  obtain⟨c1,c2⟩:=a4 pre (q++post);obtain⟨d1,d2⟩:=b4 (pre++p) post;have e1:pre++(p++q++post)=pre++(p++(q++post)):=by simp
  have e2:(pre++p)++(q++post)=pre++(p++(q++post)):=by simp
  have e3:(pre++p).length=pre.length+(A.pl a).length:=by simp[hlen]
  rw[e2,e3]at d1 d2;rw[e1];refine⟨fun J K hK=>?_,fun K hK=>?_⟩
  ·obtain⟨f1,f2⟩:=d1 J K hK.2;have f3:=c1 J K hK.1;simp only[bk];exact⟨by simp only[bu];rw[f3,f1],by simp only[bf];rw[f3,f2]⟩
  ·exact⟨c2 K hK.1,d2 K hK.2⟩
theorem tC {α:Type} {r:V->Option α} {m:α->V} (hr:pg r m) (hid:∀x,j4 (m x)=true) (ht:∀v x,r v=some x->cz v=cz (m x)):qg (DK r m):=by
 intro res v pls a h;simp only[DK]at h;split at h<;>simp only[XI,XJ,reduceCtorEq]at h
 rename_i x hx;obtain⟨rfl,rfl⟩:=h;obtain⟨b1,b2⟩:=hr _ x hx;refine⟨rfl,by simp,(ht v x hx).symm,fun _=>rfl,fun pre post=>⟨fun J K hK=>?_,fun K hK=>fm (b2 K hK)⟩⟩
 show den _ (m x)=_
 rw[b1 J];exact oy (hid x) (b2 K hK) J _
theorem SW (t e:Nat):qg (Wm t e):=by
 intro res v pls a h;simp only[Wm]at h;split at h
 case h_2=>simp at h
 rename_i o L hs;rcases sC hs with⟨rfl,rfl,rfl⟩|⟨k,rfl,rfl,hse⟩<;>simp only[XI,XJ]at h<;>obtain⟨rfl,rfl⟩:=h
 ·exact⟨rfl,by simp,rfl,fun _=>rfl,fun pre post=>⟨fun _ _ _=>rfl,fun _ _=>rfl⟩⟩
 ·refine⟨rfl,by simpa using⟨hse,rfl⟩,rfl,fun _=>rfl,fun pre post=>⟨fun J K hK=>?_,fun K hK=>zX (pls:= [])⟩⟩
  simp only[Wm,den,Env.pull];rw[BD (pls:= [])]
theorem jo:qg A6:=by
 intro res v pls a h;simp only[A6]at h;split at h<;>simp only[XI,XJ,reduceCtorEq]at h
 rename_i k L hs;obtain⟨rfl,rfl⟩:=h;obtain⟨rfl,hse,_⟩:=vU hs;refine⟨rfl,by simpa using⟨hse,rfl⟩,rfl,fun _=>rfl,fun pre post=>⟨fun J K hK=>?_,fun K hK=>zX (pls:= [])⟩⟩
 simp only[A6,den,Env.pull];rw[BD (pls:= [])]
theorem S0 {α:Type} {B:lj α} (hB:iu B):qg (We B):=by
 intro res v pls a h;simp only[We]at h;split at h
 case h_2=>simp at h
 rename_i l;obtain⟨b1,b2,b3,b4⟩:=hB _ _ _ _ h;refine⟨b1,b2,rfl,fun _=>rfl,fun pre post=>?_⟩
 obtain⟨c1,c2⟩:=b4 pre post;refine⟨fun J K hK=>?_,fun K hK=>⟨c2 K hK.1,b3 hK.2 _⟩⟩
 simp only[We,den];rw[(c1 J K hK.1).2]
def tB {α:Type} (B:lj α) (Q:α->Option Prop) (F:α->V):Ct:=fun res _ xs=>match B.rd res xs with
 |some (_,a)=>some (Q a,F a,[])
 |none=>none
def mG (l:List aH):List aH:=l.map .ro
theorem DL (pls:List (Nat×aH)):qV pls=mG (pls.map (·.2)):=by
 induction pls with
 |nil=>rfl
 |cons p l ih=>obtain⟨p,r⟩:=p;simp[qV,mG,ih]
theorem eY {P:Program} {f:Nat} {α:Type} {B:lj α} {Q:α->Option Prop} {F:α->V} (hB:iu B) (hF:∀a,j4 (F a)=true)
  (h:∀a,dF (Q a)->ft (known (mG (B.pl a))) (B.cn a 0)->ai P f (B.cn a 0) (mG (B.pl a)) (nz (F a)) (fun _ _=>False)):cj P f (tB B Q F):=by
 refine qm fun res nid args q x new hg=>?_
 unfold tB at hg;split at hg<;>simp only[XI,XJ,reduceCtorEq]at hg
 rename_i pls a ha;obtain⟨rfl,rfl,rfl⟩:=hg;obtain⟨b1,b2,_,b4⟩:=hB _ _ _ _ ha;obtain⟨c1,c2⟩:=b4 [] [];simp only[List.nil_append,List.append_nil,List.length_nil]at c1 c2;refine⟨rfl,hF a,pls,B.cn a 0,b2,fun J K hK=>(c1 J K hK).1,c2,fun hq hok=>?_⟩
 rw[DL,b1]at hok⊢;exact(h a hq hok).mono (fun _ _=>dt) fun _ _ h=>h
def S3 {α:Type} (B:lj α) (Q:α->Option Prop) (x:α->Nat->V) (new:α->Nat->List aH):Ct:=fun res nid xs=>match B.rd res xs with
 |some (_,a)=>some (Q a,x a nid,new a nid)
 |none=>none
theorem Fh {J:Env} {fps:Nat->Nat->Prop} {res:List aH} {K:Nat->Prop} {w0 w:World} {F0:Nat->Prop} (hH:bh J fps res K w0 F0 w) {pls:List (Nat×aH)} (hcl:∀p∈pls,pf res p.1 p.2/\qq p.2=true):
  bh (J.pull (pT pls)) (fun _ _=>False) (qV pls) (known (qV pls)) w (fun _=>False) w:=by
 have hfr:∀b,b<w0.heap.size->¬F0 b->w.heap[b]? =w0.heap[b]? /\¬(fun _:Nat=>False) b:=fun b hb hF=>⟨hH.same b hb hF,fun h=>h⟩
 refine⟨fun i hi=>hi,Nat.le_refl _,rfl,rfl,rfl,fun i hi=>?_,fun i b hi h=>h.elim,fun i j b hi hj hne h=>h.elim,fun i b hi h=>h.elim,fun _ _ _=>rfl⟩
 have hlt:=aN hi;rw[rp]at hlt;have hp:pls[i]? =some pls[i]:=List.getElem?_eq_getElem hlt;generalize pls[i]=p at hp
 rw[v9,hp];simp only;obtain⟨hs,hcl⟩:=hcl p (List.mem_of_getElem? hp);obtain⟨fp,g1,g2⟩:=hs.2 J fps K w0 F0 w hH
 have hv:Env.via (fun x=>if x=p.1 then some i else none) J (J.pull (pT pls)):=tE fun x j hx=>by
  split at hx
  ·simp only[XI]at hx;subst hx;rename_i e;subst e;exact sF pls i p hp
  ·simp at hx
 have:=ia (N':=known (qV pls)) hv (fun x j hx _=>by
  split at hx
  ·simp only[XI]at hx;subst hx;exact hi
  ·simp at hx) (p:=p.1) (i:=i) (by simp) _ _ _ (aH.uF hH.old hfr _ _ g1)
 rw[si hcl]at this;refine⟨fp,this,fun b hb=>⟨?_,fun h=>h⟩⟩
 rcases g2 b hb with⟨j,hj,hf⟩|⟨hl,_⟩
 ·exact hH.lt j b hj hf
 ·exact Nat.lt_of_lt_of_le hl hH.old
theorem wY {J ρ1:Env} {K:Nat->Prop} {fps1:Nat->Nat->Prop} {r:List aH} {w0 w w':World} {F0:Nat->Prop} {nid:Nat} {π:List Nat} {x:Nat->V} {new:Nat->List aH} {v:V} (hnd:π.Nodup)
  (g1:bh ρ1 fps1 r (known r) w (fun _=>False) w') (g3:ok (known r) v) (hN:xw π x new v r):pX K J nid (x nid) (new nid) w0 F0 w (den ρ1 v) w':=by
 obtain⟨n1,n2⟩:=hN nid;obtain⟨l1,l2⟩:=uD n2
 let ρ':Env:=⟨fun i=>if i<nid then J.num i else if i<nid+π.length then ρ1.num (π.getD (i-nid) 0)else J.num i,fun i=>if i<nid then J.cap i else if i<nid+π.length then ρ1.cap (π.getD (i-nid) 0)else J.cap i,
  fun i=>if i<nid then J.adr i else if i<nid+π.length then ρ1.adr (π.getD (i-nid) 0)else J.adr i,fun i=>if i<nid then J.sa i else if i<nid+π.length then ρ1.sa (π.getD (i-nid) 0)else J.sa i,
  fun i=>if i<nid then J.sn i else if i<nid+π.length then ρ1.sn (π.getD (i-nid) 0)else J.sn i,fun i=>if i<nid then J.ob i else if i<nid+π.length then ρ1.ob (π.getD (i-nid) 0)else J.ob i⟩
 have hvia:Env.via (idxOf π nid) ρ1 ρ':=by
  intro p i hp;obtain⟨a1,a2,a3⟩:=gT hp;simp[ρ',XQ (show¬i<nid by omega),XR a2,a3]
 have hat:∀k,k<(new nid).length->∃p,π[k]? =some p/\idxOf π nid p=some (nid+k):=fun k hk=>by
  have hk':k<π.length:=by omega
  exact⟨π[k],by simp[hk'],mK π nid k hnd (by simp[hk'])⟩
 have hNN:∀p i,idxOf π nid p=some i->known r p->K i\/fresh nid (new nid).length i:=fun p i hp _=>by
  obtain⟨a1,a2,a3⟩:=gT hp;exact .inr ⟨a1,by omega⟩
 refine⟨ρ',⟨⟨g1.os,g1.tape,g1.output,g1.old,fun b hb=>g1.same b hb (by simp)⟩,fun i hi=>?_,fun k=>fps1 (π.getD k 0),fun k hk=>?_,fun k l b hk hl hne=>?_⟩,?_,?_⟩
 ·have:¬(nid<=i/\i<nid+π.length):=fun⟨a,b⟩=>hi ⟨a,by omega⟩
  by_cases hlt:i<nid
  ·simp[ρ',XR hlt]
  ·simp[ρ',XQ hlt,XQ (show¬i<nid+π.length by omega)]
 ·obtain⟨p,p1,p2⟩:=hat k hk;obtain⟨m1,m2,m3⟩:=l2 k p p1;have hgd:π.getD k 0=p:=by simp[XP,p1]
  simp only[hgd];refine⟨?_,fun b hb=>⟨?_,g1.lt p b m1 hb⟩⟩
  ·rw[m3];exact ia hvia hNN p2 _ _ _ (kK m2 (g1.holds p m1))
  ·refine Nat.le_of_not_lt fun hlt=>?_
   exact g1.inF p b m1 hb hlt
 ·obtain⟨p,p1,p2⟩:=hat k hk;obtain⟨p',p1',p2'⟩:=hat l hl;have hgd:π.getD k 0=p:=by simp[XP,p1]
  have hgd':π.getD l 0=p':=by simp[XP,p1']
  simp only[hgd,hgd']
  have hpp:p≠p':=by
   rintro rfl
   rw[p2]at p2';simp at p2';omega
  exact g1.disj p p' b (l2 k p p1).1 (l2 l p' p1').1 hpp
 ·exact(je hvia hNN _ _ n1).1.symm
 ·exact(je hvia hNN _ _ n1).2.1 g3
theorem Ny {P:Program} {f:Nat} {α:Type} {B:lj α} {Q:α->Option Prop} {x:α->Nat->V} {new:α->Nat->List aH} {π:α->List Nat} (hB:iu B) (hnd:∀a,(π a).Nodup) (hy:∀a nid,UC (new a nid)=true)
  (h:∀a,dF (Q a)->ft (known (mG (B.pl a))) (B.cn a 0)->ai P f (B.cn a 0) (mG (B.pl a)) (fun v r=>xw (π a) (x a) (new a) v r) (fun _ _=>False)):cj P f (S3 B Q x new):=by
 intro J fps res K w0 F0 w nid args q y new' hH hargs hg hq hfr;unfold S3 at hg;split at hg<;>simp only[XI,XJ,reduceCtorEq]at hg
 rename_i pls a ha;obtain⟨rfl,rfl,rfl⟩:=hg;obtain⟨b1,b2,_,b4⟩:=hB _ _ _ _ ha;obtain⟨c1,c2⟩:=b4 [] [];simp only[List.nil_append,List.append_nil,List.length_nil]at c1 c2;refine⟨?_,fun k hk=>xK (hy a nid) k hk⟩
 have hrep:=Fh hH b2;have hok:=c2 K hargs;rw[<-(c1 J K hargs).1];have hro:qV pls=mG (B.pl a):=by rw[DL,b1]
 rw[hro]at hrep hok;refine(h a hq hok _ _ _ _ _ hrep hok).mono fun e w' ⟨v,ρ1,fps1,r,g1,g2,g3,g4⟩=>?_
 rcases g4 with⟨rfl,hN⟩|⟨_,hF⟩
 ·exact⟨_,rfl,wY (hnd a) g1 g3 hN⟩
 ·exact hF.elim
theorem ai.EN {P:Program} {f:Nat} {args:List V} {res:List aH} {x:V} {new:List aH} {K KP:V->List aH->Prop} (hy:∀k,k<new.length->ay new k≠ .yet)
  (h:∀J fps w0 F0 w,bh J fps res (known res) w0 F0 w->ft (known res) args->CallsIn (FF P none) 0 P f (bu J args).toArray w fun e w'=>∃v,e= .returned v/\pX (known res) J res.length x new w0 F0 w v w') (hK:K x (res++new)):ai P f args res K KP:=by
 intro J fps w0 F0 w hH hargs;refine(h J fps w0 F0 w hH hargs).mono fun e w' ⟨v,he,ρ',hg,hv,hx⟩=>?_
 have hfr':∀i,known res i->¬fresh res.length new.length i:=fun i hi hf=>by have:=aN hi;unfold fresh at hf;omega
 have hK':∀i,known res i\/fresh res.length new.length i->known (res++new) i:=by
  intro i hi;obtain⟨b1,b2,b3⟩:=jY res new;rcases hi with hi|⟨f1,f2⟩
  ·unfold known;rw[(b1 i hi).1];exact hi
  ·have:=b3 (i-res.length) (by omega)
   rw[show res.length+(i-res.length)=i by omega]at this
   unfold known;rw[this];exact hy _ (by omega)
 obtain⟨fps',g1,g2⟩:=hH.grow (res':=res++new) (jY _ _) hfr' hK' hg;exact⟨x,ρ',fps',res++new,g1,⟨g2,fun i hi=>hK' i (.inl hi)⟩,du hK' _ hx,.inl ⟨by rw[he,hv],hK⟩⟩
def Uj {α:Type} (B:lj α) (Q:α->Prop) (c:α->Bool) (F0:α->V) (F1:α->Nat->V) (new:α->aH):kz:=fun args res K=>
 match B.rd res args with
 |some (_,a)=>Q a/\(c a=false->K (F0 a) res)/\(c a=true->K (F1 a res.length) (res++ [new a]))
 |none=>False
def TR (c:Bool) (x0:V) (F1:Nat->V) (new:aH) (p:Option Nat) (v:V) (r:List aH):Prop:=
 match p with
 |some p=>c=true/\xw [p] F1 (fun _=> [new]) v r
 |none=>c=false/\nz x0 v r
def Ww (v:V):Option Nat:=
 match v with
 | .sa p=>some p
 | .lp p _=>some p
 | .tp l=>match l with
   |x::_=>match x with
    | .sa p=>some p
    | .lp p _=>some p
    |_=>none
   | []=>none
 |_=>none
def QS (c:Bool) (x0:V) (F1:Nat->V) (new:aH) (v:V) (r:List aH):Prop:=TR c x0 F1 new (Ww v) v r
theorem S7 {P:Program} {f:Nat} {α:Type} {B:lj α} {Q:α->Prop} {c:α->Bool} {F0:α->V} {F1:α->Nat->V} {new:α->aH} (hB:iu B) (hF:∀a,j4 (F0 a)=true) (hn:∀a,new a≠ .yet)
  (h:∀a,Q a->ft (known (mG (B.pl a))) (B.cn a 0)->ai P f (B.cn a 0) (mG (B.pl a)) (QS (c a) (F0 a) (F1 a) (new a)) (fun _ _=>False)):ll P f (Uj B Q c F0 F1 new):=by
 intro args res K KP hh;unfold Uj at hh;split at hh
 case h_2=>exact hh.elim
 rename_i pls a ha;obtain⟨hQ,h0,h1⟩:=hh;obtain⟨b1,b2,_,b4⟩:=hB _ _ _ _ ha;obtain⟨c1,c2⟩:=b4 [] [];simp only[List.nil_append,List.append_nil,List.length_nil]at c1 c2;have hro:qV pls=mG (B.pl a):=by rw[DL,b1]
 have main:∀J fps w0 F0' w,bh J fps res (known res) w0 F0' w->ft (known res) args->CallsIn (FF P none) 0 P f (bu J args).toArray w fun e w'=>∃v ρ1 fps1 r,e= .returned (den ρ1 v)/\bh ρ1 fps1 r (known r) w (fun _=>False) w'/\ok (known r) v/\QS (c a) (F0 a) (F1 a) (new a) v r:=by
  intro J fps w0 F0' w hH hargs;have hrep:=Fh hH b2;have hok:=c2 _ hargs;rw[hro]at hrep hok;rw[<-(c1 J _ hargs).1];refine(h a hQ hok _ _ _ _ _ hrep hok).mono fun e w' ⟨v,ρ1,fps1,r,g1,g2,g3,g4⟩=>?_
  rcases g4 with⟨rfl,hN⟩|⟨_,hF⟩
  ·exact⟨v,ρ1,fps1,r,rfl,g1,g3,hN⟩
  ·exact hF.elim
 cases hc:c a with
 |true=>
  refine ai.EN (x:=F1 a res.length) (new:= [new a]) (fun k hk=>by simp at hk;subst hk;exact hn a) (fun J fps w0 F0' w hH hargs=>?_) (h1 hc)
  refine(main J fps w0 F0' w hH hargs).mono fun e w' ⟨v,ρ1,fps1,r,he,g1,g3,hv⟩=>?_
  unfold QS TR at hv;split at hv
  ·exact⟨_,he,wY (new:=fun _=> [new a]) (by simp) g1 g3 hv.2⟩
  ·rw[hc]at hv;simp at hv
 |false=>
  have h0':=h0 hc;rw[<-List.append_nil res]at h0';refine ai.EN (x:=F0 a) (new:= []) (fun k hk=>by simp at hk) (fun J fps w0 F0' w hH hargs=>?_) h0'
  refine(main J fps w0 F0' w hH hargs).mono fun e w' ⟨v,ρ1,fps1,r,he,g1,g3,hv⟩=>?_
  unfold QS TR at hv;split at hv
  ·rw[hc]at hv;simp at hv
  ·refine⟨_,he,J,⟨⟨g1.os,g1.tape,g1.output,g1.old,fun b hb=>g1.same b hb (fun h=>h)⟩,Env.bp.refl _ _,fun _ _=>False,fun k hk=>by simp at hk,fun k l b hk=>by simp at hk⟩,?_,?_⟩
   ·obtain⟨e1,e2,_⟩:=dt hv.2 ρ1 (known r);rw[e1];exact oy (hF a) (e2 g3) J ρ1
   ·obtain⟨e1,e2,_⟩:=dt hv.2 ρ1 (known r);exact nn _ (hF a) (e2 g3)
end Go.Sx
namespace Go.Sx
open Go.RowKit (Below)
end Go.Sx
