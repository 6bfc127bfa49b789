import Derived.Test.YtlblcfaclmpekaaGreatMa7
set_option linter.unusedSimpArgs false
set_option linter.unusedVariables false
namespace Go.Sx
open Go.RowKit (Below)
abbrev Ct:=List aK->Nat->List V->RR
def cq (P:Program) (f:Nat) (g:Ct):Prop:=
 ∀J fps res K w0 F0 w nid args q x new,bq J fps res K w0 F0 w->fM K args->g res nid args=some (q,x,new)->dX q->
  (∀k,k<new.length->¬K (nid+k))->
  (CallsIn (FF P none) 0 P f (bB J args).toArray w fun e w'=>∃v,e= .returned v/\ru K J nid x new w0 F0 w v w')/\∀k,k<new.length->ay new k≠ .yet
def pI:List (Nat×Ct)->Nat->Option Ct
 | [],_=>none
 | (g,c)::l,f=>if f==g then some c else pI l f
theorem ng {P:Program}:∀{l:List (Nat×Ct)},(∀p∈l,cq P p.1 p.2)->∀f g,pI l f=some g->cq P f g
 | [],_,f,g,h=>by simp[pI]at h
 | (k,c)::l,hl,f,g,h=>by
   simp only[pI]at h;split at h
   ·simp_all
   ·exact ng (fun p hp=>hl p (by simp[hp])) f g h
mutual
def ke:V->Bool
 | .lp _ _=>false
 | .lx _ _ _ _ _ _=>false
 | .sc _ _ _=>false
 | .so _ _=>false
 | .ap _ _ _ _=>false
 | .ax _ _ _ _ _ _ _ _=>false
 | .sa _=>false
 | .op _ _=>false
 | .yl _=>false
 | .mp _=>false
 | .ch _ _ _ _=>false
 | .bs _ _ _=>false
 | .ks _ _ _ _ _=>false
 | .fn _ l=>lf l
 | .ic _ x=>ke x
 | .ag l=>lf l
 | .tp l=>lf l
 |_=>true
def lf:List V->Bool
 | []=>true
 |x::l=>ke x&&lf l
end
mutual
theorem oJ {K K':Nat->Prop}:∀v,ke v=true->ok K v->ok K' v
 | .lp _ _,h,_| .lx _ _ _ _ _ _,h,_| .sc _ _ _,h,_| .so _ _,h,_| .ap _ _ _ _,h,_| .sa _,h,_| .op _ _,h,_| .yl _,h,_| .mp _,h,_| .ch _ _ _ _,h,_| .ax _ _ _ _ _ _ _ _,h,_| .bs _ _ _,h,_| .ks _ _ _ _ _,h,_=>by simp[ke]at h
 | .fn _ l,h,hk=>mo l h hk
 | .ic _ x,h,hk=>oJ x h hk
 | .ag l,h,hk=>⟨mo l h hk.1,hk.2⟩
 | .tp l,h,hk=>mo l h hk
 | .cb _,_,hk| .bo _,_,hk| .ci _ _,_,hk| .it _ _,_,hk| .bt _,_,hk| .st _,_,hk| .nl _,_,hk| .key _,_,hk| .sl _,_,hk| .by _,_,hk| .ob _,_,hk=>hk
theorem mo {K K':Nat->Prop}:∀l,lf l=true->fM K l->fM K' l
 | [],_,_=>trivial
 |x::l,h,hk=>by
  simp only[lf,aa2]at h;exact⟨oJ x h.1 hk.1,mo l h.2 hk.2⟩
end
theorem p9 {K:Nat->Prop} {v:V} (h:ke v=true) (hk:ok K v) (J ρ':Env):den ρ' v=den J v:=
 gj (N:=fun _=>False) (fun _ h=>h.elim) v (oJ v h hk)
def oq (v:V) (v':V) (_:List aK):Prop:=
 match xA v' v with
 |some l=>jI l
 |none=>False
def xa (x v:V) (_:List aK):Prop:=∀J K,tt J K v x
theorem dD {x v:V} {r:List aK} (h:oq x v r):xa x v r:=by
 unfold oq at h;split at h
 ·rename_i l hl;exact fun J K=>qT J K _ _ l hl h
 ·exact h.elim
theorem an.mono {P:Program} {f:Nat} {args:List V} {res:List aK} {K K' KP KP':V->List aK->Prop} (h:an P f args res K KP) (hK:∀v r,K v r->K' v r) (hP:∀v r,KP v r->KP' v r):
  an P f args res K' KP':=by
 intro J fps w0 F0 w hH ha;refine(h J fps w0 F0 w hH ha).mono fun e w' ⟨x,ρ',fps',res',g1,g2,g3,g4⟩=>⟨x,ρ',fps',res',g1,g2,g3,?_⟩
 rcases g4 with⟨e1,e2⟩|⟨e1,e2⟩
 ·exact .inl ⟨e1,hK _ _ e2⟩
 ·exact .inr ⟨e1,hP _ _ e2⟩
def ZD (l m:List V):Prop:=(∀J,bB J l=bB J m)/\∀K,fM K l->fM (fun _=>False) m
theorem vg {P:Program} {f:Nat} {g:Ct} (h:∀res nid args q x new,g res nid args=some (q,x,new)->new= []/\ke x=true/\
  ∃args',ZD args args'/\(dX q->fM (fun _=>False) args'->an P f args' [] (xa x) (fun _ _=>False))):cq P f g:=by
 intro J fps res K w0 F0 w nid args q x new hH hargs hg hq hfr;obtain⟨rfl,hid,args',⟨s1,s2⟩,hc⟩:=h res nid args q x new hg;refine⟨?_,fun k hk=>by simp at hk⟩
 have hok:=s2 K hargs
 have hrep:bq J (fun _ _=>False) [] (known []) w (fun _=>False) w:=
  ⟨fun i hi=>hi,Nat.le_refl _,rfl,rfl,rfl,fun i hi=>by simp[known,ay]at hi,fun i b hi=>by simp[known,ay]at hi,fun i j b hi=>by simp[known,ay]at hi,fun i b hi=>by simp[known,ay]at hi,fun _ _ _=>rfl⟩
 have hcall:=hc hq hok J (fun _ _=>False) w (fun _=>False) w hrep (by rw[jg]at hok⊢;exact fun z hz=>fP (hok z hz))
 rw[s1 J];refine hcall.mono fun e w' ⟨y,ρ',fps',res',g1,g2,g3,g4⟩=>?_
 rcases g4 with⟨rfl,hK⟩|⟨_,hK⟩
 ·refine⟨_,rfl,J,?_,?_,?_⟩
  ·have hb:Below w.heap.size w w':=by
    refine⟨g1.os,g1.tape,g1.output,g1.old,fun b hb=>g1.same b hb (fun h=>h)⟩
   exact⟨hb,Env.bE.refl _ _,fun _ _=>False,fun k hk=>by simp at hk,fun k l b hk=>by simp at hk⟩
  ·obtain⟨e1,e2,_⟩:=hK ρ' (known res');rw[e1];exact p9 hid (e2 g3) J ρ'
  ·obtain⟨e1,e2,_⟩:=hK ρ' (known res');exact oJ x hid (e2 g3)
 ·exact hK.elim
def sV {α:Type} (r:V->Option α) (m:α->V):Prop:=∀v x,r v=some x->(∀J,den J v=den J (m x))/\∀K,ok K v->ok (fun _=>False) (m x)
def rI (k:IntKind) (v:V):Option Int:=
 match toInt v with
 |some (k',n)=>if k==k' then some n else none
 |none=>none
def rK (v:V):Option Key:=
 match v with
 | .key k=>some k
 | .ag l=>match l with
   | [a,b,c,d,e,f]=>match rI .i64 a with
     |some a=>match rI .i64 b with
      |some b=>match rI .i64 c with
       |some c=>match rI .i64 d with
        |some d=>match rI .i64 e with
         |some e=>match rI .i64 f with
          |some f=>some ⟨a,b,c,d,e,f⟩
          |none=>none
         |none=>none
        |none=>none
       |none=>none
      |none=>none
     |none=>none
   |_=>none
 |_=>none
def rO:V->Option Obj
 | .ob o=>some o
 |_=>none
theorem L7:sV toBool V.bo:=by
 intro v x h;cases v<;>simp[toBool]at h<;>subst h<;>exact⟨fun _=>rfl,fun _ _=>trivial⟩
theorem gi (k:IntKind):sV (rI k) (V.it k):=by
 intro v x h;unfold rI at h;cases v<;>simp[toInt]at h<;>obtain⟨rfl,rfl⟩:=h
 ·exact⟨fun _=>rfl,fun _ hk=>hk⟩
 ·exact⟨fun _=>rfl,fun _ hk=>hk⟩
 ·rename_i b;refine⟨fun _=>rfl,fun _ _=>?_⟩
  have:=b.toNat_lt;simp only[ok,bY,Ux];omega
theorem gH:sV rK V.key:=by
 intro v x h;unfold rK at h;split at h
 ·simp only[aa0]at h;subst h;exact⟨fun _=>rfl,fun _ hk=>hk⟩
 ·split at h
  case h_2=>simp at h
  split at h<;>try(simp at h;done)
  rename_i h1;split at h<;>try(simp at h;done)
  rename_i h2;split at h<;>try(simp at h;done)
  rename_i h3;split at h<;>try(simp at h;done)
  rename_i h4;split at h<;>try(simp at h;done)
  rename_i h5;split at h<;>simp only[aa0,reduceCtorEq]at h
  rename_i h6;subst h;have e1:=gi .i64 _ _ h1;have e2:=gi .i64 _ _ h2;have e3:=gi .i64 _ _ h3;have e4:=gi .i64 _ _ h4;have e5:=gi .i64 _ _ h5;have e6:=gi .i64 _ _ h6;refine⟨fun J=>?_,fun K hK=>?_⟩
  ·simp only[den,bp,e1.1 J,e2.1 J,e3.1 J,e4.1 J,e5.1 J,e6.1 J];rfl
  ·obtain⟨⟨k1,k2,k3,k4,k5,k6,_⟩,_⟩:=hK;exact⟨e1.2 K k1,e2.2 K k2,e3.2 K k3,e4.2 K k4,e5.2 K k5,e6.2 K k6⟩
 ·simp at h
theorem Zh {v:V} {x:Key} (h:rK v=some x):cS v=false:=by
 cases v<;>first|rfl|simp[rK]at h
theorem zr:sV rO V.ob:=by
 intro v x h;cases v<;>simp[rO]at h<;>subst h<;>exact⟨fun _=>rfl,fun _ hk=>hk⟩
def YJ (F:V):Ct:=fun _ _ xs=>match xs with
 | []=>some (none,F,[])
 |_=>none
def QB {α:Type} (r:V->Option α) (F:α->V):Ct:=fun _ _ xs=>match xs with
 | [a]=>match r a with
   |some x=>some (none,F x,[])
   |none=>none
 |_=>none
def Sg {α β:Type} (r:V->Option α) (s:V->Option β) (F:α->β->V):Ct:=fun _ _ xs=>match xs with
 | [a,b]=>match r a,s b with
   |some x,some y=>some (none,F x y,[])
   |_,_=>none
 |_=>none
def mk3 {α β γ:Type} (r:V->Option α) (s:V->Option β) (t:V->Option γ) (F:α->β->γ->V):Ct:=fun _ _ xs=>match xs with
 | [a,b,c]=>match r a,s b,t c with
   |some x,some y,some z=>some (none,F x y z,[])
   |_,_,_=>none
 |_=>none
theorem Wo {P:Program} {f:Nat} {F:V} (hF:ke F=true) (h:an P f [] [] (oq F) (fun _ _=>False)):cq P f (YJ F):=by
 refine vg fun res nid args q x new hg=>?_
 unfold YJ at hg;split at hg<;>simp only[aa0,aa1,reduceCtorEq]at hg
 obtain⟨rfl,rfl,rfl⟩:=hg;exact⟨rfl,hF,[],⟨fun _=>rfl,fun _ _=>trivial⟩,fun _ _=>h.mono (fun _ _=>dD) fun _ _ h=>h⟩
theorem Xq {P:Program} {f:Nat} {F:V} (hF:ke F=true) (h:an P f [] [] (fun v _=>v=F) (fun _ _=>False)):cq P f (YJ F):=by
 refine vg fun res nid args q x new hg=>?_
 unfold YJ at hg;split at hg<;>simp only[aa0,aa1,reduceCtorEq]at hg
 obtain⟨rfl,rfl,rfl⟩:=hg;exact⟨rfl,hF,[],⟨fun _=>rfl,fun _ _=>trivial⟩,fun _ _=>h.mono (fun v _ e=>by subst e;exact fun J K=>tt.refl J K v) fun _ _ h=>h⟩
theorem pU {P:Program} {f:Nat} {α:Type} {r:V->Option α} {m:α->V} {F:α->V} (hr:sV r m) (hF:∀x,ke (F x)=true)
  (h:∀x,ok (fun _=>False) (m x)->an P f [m x] [] (oq (F x)) (fun _ _=>False)):cq P f (QB r F):=by
 refine vg fun res nid args q x new hg=>?_
 unfold QB at hg;split at hg<;>(try split at hg)<;>simp only[aa0,aa1,reduceCtorEq]at hg
 rename_i a x h1;obtain⟨rfl,rfl,rfl⟩:=hg;obtain⟨a1,a2⟩:=hr _ x h1;exact⟨rfl,hF x,[m x],⟨fun J=>by simp[bB,a1 J],fun K hK=>⟨a2 K hK.1,trivial⟩⟩,fun _ hok=>(h x hok.1).mono (fun _ _=>dD) fun _ _ h=>h⟩
theorem nQ {P:Program} {f:Nat} {α β:Type} {r:V->Option α} {s:V->Option β} {m:α->V} {n:β->V} {F:α->β->V} (hr:sV r m) (hs:sV s n) (hF:∀x y,ke (F x y)=true)
  (h:∀x y,ok (fun _=>False) (m x)->ok (fun _=>False) (n y)->an P f [m x,n y] [] (oq (F x y)) (fun _ _=>False)):cq P f (Sg r s F):=by
 refine vg fun res nid args q x new hg=>?_
 unfold Sg at hg;split at hg<;>(try split at hg)<;>simp only[aa0,aa1,reduceCtorEq]at hg
 rename_i a b x y h1 h2;obtain⟨rfl,rfl,rfl⟩:=hg;obtain⟨a1,a2⟩:=hr _ x h1;obtain⟨b1,b2⟩:=hs _ y h2;exact⟨rfl,hF x y,[m x,n y],⟨fun J=>by simp[bB,a1 J,b1 J],fun K hK=>⟨a2 K hK.1,b2 K hK.2.1,trivial⟩⟩,fun _ hok=>(h x y hok.1 hok.2.1).mono (fun _ _=>dD) fun _ _ h=>h⟩
theorem O8 {P:Program} {f:Nat} {α β γ:Type} {r:V->Option α} {s:V->Option β} {t:V->Option γ} {m:α->V} {n:β->V} {o:γ->V} {F:α->β->γ->V} (hr:sV r m) (hs:sV s n) (ht:sV t o)
  (hF:∀x y z,ke (F x y z)=true)
  (h:∀x y z,ok (fun _=>False) (m x)->ok (fun _=>False) (n y)->ok (fun _=>False) (o z)->an P f [m x,n y,o z] [] (oq (F x y z)) (fun _ _=>False)):cq P f (mk3 r s t F):=by
 refine vg fun res nid args q x new hg=>?_
 unfold mk3 at hg;split at hg<;>(try split at hg)<;>simp only[aa0,aa1,reduceCtorEq]at hg
 rename_i a b c x y z h1 h2 h3;obtain⟨rfl,rfl,rfl⟩:=hg;obtain⟨a1,a2⟩:=hr _ x h1;obtain⟨b1,b2⟩:=hs _ y h2;obtain⟨c1,c2⟩:=ht _ z h3;exact⟨rfl,hF x y z,[m x,n y,o z],⟨fun J=>by simp[bB,a1 J,b1 J,c1 J],fun K hK=>⟨a2 K hK.1,b2 K hK.2.1,c2 K hK.2.2.1,trivial⟩⟩,fun _ hok=>(h x y z hok.1 hok.2.1 hok.2.2.1).mono (fun _ _=>dD) fun _ _ h=>h⟩
def Zu:List Nat->Nat->Bool
 | [],_=>false
 |x::l,i=>x==i||Zu l i
def aau:List (Nat×V)->Nat->Option V
 | [],_=>none
 | (j,v)::l,i=>if j==i then some v else aau l i
def H8 (jH:List Nat) (set:List (Nat×V)):Nat->List S->List S
 |_,[]=> []
 |i,s::l=>(match aau set i with
  |some v=> .v v
  |none=>if Zu jH i then s else .und)::H8 jH set (i+1) l
def lpI (jH:List Nat) (t:Nat) (inv:Int->Prop) (m:Int):dv:=
 {γ:=Int,head:=fun U g=> {U with slots:=H8 jH [(t,.it .i64 g)] 0 U.slots},inv:=inv,μ:=fun g=>pH (sU m g)}
def UO (jH:List Nat) (set:Int->List (Nat×V)) (inv:Int->Prop) (m:Int):dv:=
 {γ:=Int,head:=fun U g=> {U with slots:=H8 jH (set g) 0 U.slots},inv:=inv,μ:=fun g=>pH (sU m g)}
def iv:List (Nat×Nat×dv)->Nat->Nat->Option dv
 | [],_,_=>none
 | (f,r,A)::l,f',r'=>if f==f'&&r==r' then some A else iv l f' r'
def aQ (_ _:Nat):Option dv:=none
def bx (_:Nat):Bool:=false
def noH:Handler:=fun _ _ _ _ _=>False
end Go.Sx
namespace Go.Proofs.YtlblcfaclmpekaaGreat
open Go.Sx
noncomputable def cf (l:List (Nat×Ct)) (inl:Nat->Bool) (ann:Nat->Nat->Option dv):RP:= {P:=Tryz.prog,Z:=zeroOf,Γ:=pI l,H0:=noH,inl:=inl,ann:=ann,opn:=Lw inl}
theorem Li {l:List (Nat×Ct)} {inl:Nat->Bool} {ann:Nat->Nat->Option dv} (hl:∀p∈l,cq Tryz.prog p.1 p.2):(cf l inl ann).toCtx.Sound:=
 ⟨zL pC,Tryz.checked.mixed,fun f g hg=>ng hl f g hg,fun f ts te h=>by simp[cf]at h⟩
abbrev vc (l:List (Nat×Ct)) (inl:Nat->Bool) (ann:Nat->Nat->Option dv) (f:Nat) (args:List V) (res:List aK) (K KP:V->List aK->Prop):Prop:=
 enter (cf l inl ann).toCtx (exec (cf l inl ann) 100 ⟨false,none⟩) (exec (cf l inl ann) 100 ⟨false,none⟩ f) f args res K KP
set_option maxRecDepth 100000 in
theorem ba {l:List (Nat×Ct)} {inl:Nat->Bool} {ann:Nat->Nat->Option dv} (hl:∀p∈l,cq Tryz.prog p.1 p.2) {f:Nat} {args:List V} {res:List aK} {K KP:V->List aK->Prop}
  {G:Prop} (hG:G) (h:G=vc l inl ann f args res K KP):an Tryz.prog f args res K KP:=
 Dg (C:=cf l inl ann) (n:=100) (Li hl) (fun _ _ _ _ _ hh=>hh.elim) (Eq.mp h hG)
end Go.Proofs.YtlblcfaclmpekaaGreat
namespace Go.Sx
theorem aq {P:Program}:∀p∈([]:List (Nat×Ct)),cq P p.1 p.2:=by simp
theorem ae {P:Program} {f:Nat} {g:Ct} {l:List (Nat×Ct)} (h:cq P f g) (t:∀p∈l,cq P p.1 p.2):∀p∈(f,g)::l,cq P p.1 p.2:=by
 simp_all
open Go.RowKit (Below)
theorem bq.BM {J:Env} {fps:Nat->Nat->Prop} {res:List aK} {K:Nat->Prop} {w0:World} {F0:Nat->Prop} {w:World} (h:bq J fps res K w0 F0 w) {i:Nat} {r:aK}
  (hr:cH res i=r) (hk:known res i):∃fp:Nat->Prop,r.holds K J i fp w0 F0 w/\∀b,fp b->fps i b\/(b<w0.heap.size/\¬F0 b):=by
 have hh:=h.holds i hk;unfold cH at hr;split at hr
 ·rename_i r' he;rw[he]at hh;subst hr;obtain⟨fp',h1,h2⟩:=hh;exact⟨fp',aK.gm _ h1 fun b hb=>h.same b (h2 b hb).1 (h2 b hb).2,fun b hb=> .inr (h2 b hb)⟩
 ·subst hr;exact⟨fps i,hh,fun b hb=> .inl hb⟩
def eY (κ:Nat->Option Nat) (res:List aK):List (Nat×Bool)->List aK
 | []=> []
 | (p,o)::l=>(if o then gp κ (ay res p)else .ro (gp κ (cH res p)))::eY κ res l
def dB:List (Nat×Bool)->List Nat
 | []=> []
 | (p,_)::l=>p::dB l
def eI (res:List aK):List (Nat×Bool)->Bool
 | []=>true
 | (p,_)::l=>kQ res p&&eI res l
theorem nH:∀(l:List (Nat×Bool)) (i:Nat),(dB l)[i]? =(l[i]?).map (·.1)
 | [],i=>by simp[dB]
 | (p,o)::l,0=>by simp[dB]
 | (p,o)::l,i+1=>by simp[dB,nH l i]
theorem vW (κ:Nat->Option Nat) (res:List aK):∀(l:List (Nat×Bool)) (i:Nat),ay (eY κ res l) i=match l[i]? with
  |some (p,o)=>if o then gp κ (ay res p)else .ro (gp κ (cH res p))
  |none=> .yet
 | [],i=>by simp[eY,ay]
 | (p,o)::l,0=>by simp[eY,ay]
 | (p,o)::l,i+1=>by simp[eY,ay,vW κ res l i]
theorem uL (κ:Nat->Option Nat) (res:List aK):∀(l:List (Nat×Bool)),(eY κ res l).length=l.length
 | []=>rfl
 | (p,o)::l=>by simp[eY,uL κ res l]
theorem ew {res:List aK}:∀{l:List (Nat×Bool)},eI res l=true->∀(i:Nat) (p:Nat) (o:Bool),l[i]? =some (p,o)->known res p
 | [],_,i,p,o,h=>by simp at h
 | (x,y)::l,hk,i,p,o,h=>by
   simp only[eI,aa2]at hk;cases i with
   |zero=>simp at h;obtain⟨rfl,_⟩:=h;exact cC.1 hk.1
   |succ i=>exact ew hk.2 i p o (by simpa using h)
theorem nX {p:Nat}:∀(l:List Nat) (m k:Nat),l.Nodup->l[k]? =some p->idxOf l m p=some (m+k)
 | [],m,k,_,h=>by simp at h
 |x::l,m,k,hnd,h=>by
  simp only[idxOf];cases k with
  |zero=>simp at h;subst h;simp
  |succ k=>
   simp at h
   have hne:(x==p)=false:=by
    grind
   rw[hne];simp only[Bool.false_eq_true,if_false];rw[nX l (m+1) k (List.nodup_cons.1 hnd).2 h];congr 1;omega
theorem IQ {l:List Nat} {p i:Nat} (h:kX 0 l p=some i):l[i]? =some p:=by
 unfold kX at h;split at h
 ·rename_i hb;simp at hb
 ·have:=jd h;simpa using this.2.2
theorem Da {l:List Nat} {p i:Nat} (hnd:l.Nodup) (h:l[i]? =some p):kX 0 l p=some i:=by
 unfold kX;rw[aa8 (by simp),nX l 0 i hnd h];simp
def Frame (J:Env) (fps:Nat->Nat->Prop) (pl:List (Nat×Bool)) (b:Nat):Prop:=∃(i p:Nat),pl[i]? =some (p,true)/\fps p b
section
variable {J:Env} {fps:Nat->Nat->Prop} {res:List aK} {w0 w:World} {F0:Nat->Prop}
theorem bq.eY {K:Nat->Prop} (h:bq J fps res K w0 F0 w) {pl:List (Nat×Bool)} (hk:eI res pl=true) (hnd:(dB pl).Nodup):
  bq (J.pull (src 0 (dB pl))) (fun i b=>∃p:Nat,pl[i]? =some (p,true)/\fps p b) (eY (kX 0 (dB pl)) res pl) (known (eY (kX 0 (dB pl)) res pl)) w (Frame J fps pl) w/\
   (∀i,i<pl.length->known (eY (kX 0 (dB pl)) res pl) i)/\Env.via (kX 0 (dB pl)) J (J.pull (src 0 (dB pl)))/\∀p i,kX 0 (dB pl) p=some i->K p->known (Sx.eY (kX 0 (dB pl)) res pl) i:=by
 generalize hκ:kX 0 (dB pl)=κ
 have hπ:∀p i,κ p=some i->src 0 (dB pl) i=p:=fun p i hp=>by subst hκ;exact G6 hp
 have hv:Env.via κ J (J.pull (src 0 (dB pl))):=qF hπ
 have hsome:∀i p o,pl[i]? =some (p,o)->κ p=some i:=fun i p o hi=>by
  subst hκ;exact Da hnd (by rw[nH,hi];rfl)
 have hkn:∀i p o,pl[i]? =some (p,o)->known (Sx.eY κ res pl) i:=fun i p o hi=>by
  unfold known;rw[vW,hi];simp only;split
  ·exact fun e=>ew hk i p o hi (mB.1 e)
  ·simp
 have hget:∀i,known (Sx.eY κ res pl) i->∃p o,pl[i]? =some (p,o):=fun i hi=>by
  have:=aO hi;rw[uL]at this;exact⟨pl[i].1,pl[i].2,by rw[List.getElem?_eq_getElem this]⟩
 have hN:∀p i,κ p=some i->K p->known (Sx.eY κ res pl) i:=fun p i hp _=>by
  subst hκ;have:=IQ hp;rw[nH]at this;cases hi:pl[i]? with
  |none=>rw[hi]at this;simp at this
  |some po=>exact hkn i po.1 po.2 hi
 have huniq:∀i j p o o',pl[i]? =some (p,o)->pl[j]? =some (p,o')->i=j:=fun i j p o o' hi hj=>by
  have a:=hsome i p o hi;rw[hsome j p o' hj]at a;simpa using a.symm
 have hfr:∀b,b<w0.heap.size->¬F0 b->w.heap[b]? =w0.heap[b]? /\¬Frame J fps pl b:=fun b hb hF=>by
  refine⟨h.same b hb hF,?_⟩;rintro⟨i,p,hi,hf⟩
  exact hF (h.inF p b (ew hk i p true hi) hf hb)
 refine⟨⟨fun i hi=>hi,Nat.le_refl _,rfl,rfl,rfl,fun i hi=>?_,?_,?_,?_,fun _ _ _=>rfl⟩,fun i hi=>hkn i pl[i].1 pl[i].2 (by rw[List.getElem?_eq_getElem hi]),hv,hN⟩
 ·obtain⟨p,o,hp⟩:=hget i hi;have hkp:=ew hk i p o hp;rw[vW,hp];simp only;cases o with
  |true=>
   simp only[if_true];have:=aK.tR h.old hfr _ _ (h.holds p hkp);have:=iO hv hN (hsome i p true hp) _ _ _ this
   have e:(fun b=>∃p':Nat,some (p,true)=some (p',true)/\fps p' b)=fps p:=by
    funext b;simp
   rw[e];exact this
  |false=>
   simp only[Bool.false_eq_true,if_false];obtain⟨fp,g1,g2⟩:=h.BM rfl hkp;refine⟨fp,iO hv hN (hsome i p false hp) _ _ _ (aK.tR h.old hfr _ _ g1),fun b hb=>?_⟩
   rcases g2 b hb with hf|⟨hl,hF⟩
   ·refine⟨h.lt p b hkp hf,?_⟩;rintro⟨j,p',hj,hf'⟩
    have hkp':=ew hk j p' true hj;refine h.disj p p' b hkp hkp' (fun e=>?_) hf hf'
    subst e;have:=huniq i j p false true hp hj;subst this;rw[hp]at hj;simp at hj
   ·exact⟨Nat.lt_of_lt_of_le hl h.old,(hfr b hl hF).2⟩
 ·rintro i b hi ⟨p,hp,hf⟩
  exact h.lt p b (ew hk i p true hp) hf
 ·rintro i j b hi hj hne ⟨p,hp,hf⟩ ⟨p',hp',hf'⟩
  refine h.disj p p' b (ew hk i p true hp) (ew hk j p' true hp') (fun e=>hne ?_) hf hf'
  subst e;exact huniq i j p true true hp hp'
 ·rintro i b hi ⟨p,hp,hf⟩ _
  exact⟨i,p,hp,hf⟩
def eZ (κ2:Nat->Option Nat) (r':List aK):Nat->List (Nat×Bool)->List aK->List aK
 |_,[],res=>res
 |i,(p,o)::l,res=>if o then eZ κ2 r' (i+1) l (bO res p (gp κ2 (ay r' i)))else eZ κ2 r' (i+1) l res
def vF:List (Nat×Bool)->Nat->Option Nat
 | [],_=>none
 | (p,_)::_,0=>some p
 |_::l,i+1=>vF l i
def back (pl:List (Nat×Bool)) (ext:List Nat) (n j:Nat):Option Nat:=
 match vF pl j with
 |some p=>some p
 |none=>idxOf ext n j
def merge (pl:List (Nat×Bool)) (ext:List Nat) (r' res:List aK):List aK:=
 eZ (back pl ext res.length) r' 0 pl res++fZ (back pl ext res.length) r' ext
theorem xP:∀(l:List (Nat×Bool)) (i:Nat),vF l i=(l[i]?).map (·.1)
 | [],i=>by simp[vF]
 | (p,o)::l,0=>by simp[vF]
 | (p,o)::l,i+1=>by simp[vF,xP l i]
theorem nt (κ2:Nat->Option Nat) (r':List aK):∀(l:List (Nat×Bool)) (i:Nat) (res:List aK),(eZ κ2 r' i l res).length=res.length
 | [],_,_=>rfl
 | (p,o)::l,i,res=>by
   simp only[eZ];split
   ·rw[nt κ2 r' l,cE]
   ·exact nt κ2 r' l _ _
theorem mj (κ2:Nat->Option Nat) (r':List aK):∀(l:List (Nat×Bool)) (i:Nat) (res:List aK) (x:Nat),(∀k:Nat,l[k]? ≠some (x,true))->(∀(k p:Nat) (o:Bool),l[k]? =some (p,o)->p<res.length)->ay (eZ κ2 r' i l res) x=ay res x
 | [],_,_,_,_,_=>rfl
 | (p,o)::l,i,res,x,h,hb=>by
   have hl:∀k:Nat,l[k]? ≠some (x,true):=fun k=>by have:=h (k+1);simpa using this
   have hb':∀(k p:Nat) (o:Bool),l[k]? =some (p,o)->p<res.length:=fun k p o hk=>hb (k+1) p o (by simpa using hk)
   simp only[eZ];split
   ·rename_i ho;subst ho;have hne:x≠p:=fun e=>h 0 (by simp[e])
    rw[mj κ2 r' l _ _ x hl (fun k p o hk=>by rw[cE];exact hb' k p o hk),bK _ _ _ _ (hb 0 p true (by simp)),aa8 hne]
   ·exact mj κ2 r' l _ _ x hl hb'
theorem qL (κ2:Nat->Option Nat) (r':List aK):∀(l:List (Nat×Bool)) (i:Nat) (res:List aK) (x k:Nat),l[k]? =some (x,true)->(dB l).Nodup->(∀(k p:Nat) (o:Bool),l[k]? =some (p,o)->p<res.length)->
  ay (eZ κ2 r' i l res) x=gp κ2 (ay r' (i+k))
 | [],_,_,_,_,h,_,_=>by simp at h
 | (p,o)::l,i,res,x,k,h,hnd,hb=>by
   have hb':∀(k p:Nat) (o:Bool),l[k]? =some (p,o)->p<res.length:=fun k p o hk=>hb (k+1) p o (by simpa using hk)
   have hnd':=List.nodup_cons.1 (show(p::dB l).Nodup from hnd);simp only[eZ];cases k with
   |zero=>
    simp at h;obtain⟨rfl,rfl⟩:=h;simp only[if_true,Nat.add_zero];rw[mj κ2 r' l _ _ p (fun k hk=>hnd'.1 (List.mem_of_getElem? (i:=k) (by rw[nH,hk];rfl))) (fun k p o hk=>by rw[cE];exact hb' k p o hk),bK _ _ _ _ (hb 0 p true (by simp)),aa9 rfl]
   |succ k=>
    have h:l[k]? =some (x,true):=by simpa using h
    split
    ·rw[qL κ2 r' l _ _ x k h hnd'.2 (fun k p o hk=>by rw[cE];exact hb' k p o hk)]
     congr 2;omega
    ·rw[qL κ2 r' l _ _ x k h hnd'.2 hb'];congr 2;omega
def Env.join (n:Nat) (ext:List Nat) (J ρ2:Env):Env:=
 {num:=fun i=>if i<n then J.num i else ρ2.num (ext.getD (i-n) 0),cap:=fun i=>if i<n then J.cap i else ρ2.cap (ext.getD (i-n) 0),adr:=fun i=>if i<n then J.adr i else ρ2.adr (ext.getD (i-n) 0),
  sa:=fun i=>if i<n then J.sa i else ρ2.sa (ext.getD (i-n) 0),sn:=fun i=>if i<n then J.sn i else ρ2.sn (ext.getD (i-n) 0),ob:=fun i=>if i<n then J.ob i else ρ2.ob (ext.getD (i-n) 0)}
section
variable {J:Env} {fps:Nat->Nat->Prop} {res:List aK} {w0 w:World} {F0:Nat->Prop}
theorem bq.merge (h:bq J fps res (known res) w0 F0 w) {pl:List (Nat×Bool)} (hk:eI res pl=true) (hnd:(dB pl).Nodup) {ρ2:Env} {fps2:Nat->Nat->Prop} {r':List aK} {w':World}
  (h2:bq ρ2 fps2 r' (known r') w (Frame J fps pl) w') (hg:Good (J.pull (src 0 (dB pl))) (Sx.eY (kX 0 (dB pl)) res pl) ρ2 r') {ext:List Nat} (he:iD pl.length r'.length ext=true)
  (ho1:∀(i p:Nat),pl[i]? =some (p,true)->jF (ay r' i)=true) (ho2:∀j,j∈ext->jF (ay r' j)=true):
  ∃ρ3 fps3,bq ρ3 fps3 (Sx.merge pl ext r' res) (known (Sx.merge pl ext r' res)) w0 F0 w'/\Good J res ρ3 (Sx.merge pl ext r' res)/\Env.via (back pl ext res.length) ρ2 ρ3/\
   ∀j i,back pl ext res.length j=some i->known r' j->known (Sx.merge pl ext r' res) i:=by
 obtain⟨_,hkr,_,_⟩:=h.eY hk hnd;obtain⟨e1,e2⟩:=qj he;have hlt:∀(k p:Nat) (o:Bool),pl[k]? =some (p,o)->p<res.length:=fun k p o hp=>aO (ew hk k p o hp)
 have hpll:∀(k p:Nat) (o:Bool),pl[k]? =some (p,o)->k<pl.length:=fun k p o hp=>(List.getElem?_eq_some_iff.1 hp).1
 have huniq:∀i j p o o',pl[i]? =some (p,o)->pl[j]? =some (p,o')->i=j:=fun i j p o o' hi hj=>by
  have a:=Da hnd (show(dB pl)[i]? =some p by rw[nH,hi];rfl)
  rw[Da hnd (show(dB pl)[j]? =some p by rw[nH,hj];rfl)]at a
  simpa using a.symm
 have huniqE:∀(a b j:Nat),ext[a]? =some j->ext[b]? =some j->a=b:=fun a b j ha hb=>by
  have x:=nX ext 0 a e2 ha;rw[nX ext 0 b e2 hb]at x;simpa using x.symm
 have hback1:∀k p o,pl[k]? =some (p,o)->back pl ext res.length k=some p:=fun k p o hp=>by
  unfold back;rw[xP,hp];rfl
 have hback2:∀a j,ext[a]? =some j->back pl ext res.length j=some (res.length+a):=fun a j ha=>by
  unfold back;have:=(e1 j (List.mem_of_getElem? ha)).1;rw[xP,List.getElem?_eq_none this];exact nX ext _ a e2 ha
 have hbackS:∀j i,back pl ext res.length j=some i->(∃o,pl[j]? =some (i,o))\/(∃a,ext[a]? =some j/\i=res.length+a):=fun j i hj=>by
  unfold back at hj;rw[xP]at hj;cases hp:pl[j]? with
  |some po=>rw[hp]at hj;simp at hj;exact .inl ⟨po.2,by rw[<-hj]⟩
  |none=>
   rw[hp]at hj;simp at hj;obtain⟨a1,a2,a3⟩:=jd hj;exact .inr ⟨i-res.length,a3,by omega⟩
 have hget:∀i,ay (Sx.merge pl ext r' res) i=if i<res.length then ay (eZ (back pl ext res.length) r' 0 pl res) i else match ext[i-res.length]? with|some j=>gp (back pl ext res.length) (ay r' j)|none=> .yet:=fun i=>by
  unfold Sx.merge;rw[cF,nt];by_cases hi:i<res.length
  ·rw[aa9 hi,aa9 hi]
  ·grind[rh]
 have hown:∀k p,pl[k]? =some (p,true)->ay (Sx.merge pl ext r' res) p=gp (back pl ext res.length) (ay r' k):=fun k p hp=>by
  rw[hget,aa9 (hlt k p true hp),qL _ r' pl 0 res p k hp hnd hlt,Nat.zero_add]
 have hother:∀i,i<res.length->(∀k,pl[k]? ≠some (i,true))->ay (Sx.merge pl ext r' res) i=ay res i:=fun i hi hno=>by
  rw[hget,aa9 hi,mj _ r' pl 0 res i hno hlt]
 have hext:∀a j,ext[a]? =some j->ay (Sx.merge pl ext r' res) (res.length+a)=gp (back pl ext res.length) (ay r' j):=fun a j ha=>by
  grind
 have hkr':∀k p o,pl[k]? =some (p,o)->known r' k:=fun k p o hp=>hg.2 k (hkr k (hpll k p o hp))
 have hN:∀j i,back pl ext res.length j=some i->known r' j->known (Sx.merge pl ext r' res) i:=fun j i hj hkj=>by
  rcases hbackS j i hj with⟨o,hp⟩|⟨a,ha,rfl⟩
  ·by_cases hT:∃k:Nat,pl[k]? =some (i,true)
   ·obtain⟨k,hk'⟩:=hT;unfold known;rw[hown k i hk'];exact fun e=>hkr' k i true hk' (mB.1 e)
   ·unfold known;rw[hother i (hlt j i o hp) fun k hk'=>hT ⟨k,hk'⟩]
    exact ew hk j i o hp
  ·unfold known;rw[hext a j ha];exact fun e=>hkj (mB.1 e)
 have hmono:∀i,known res i->known (Sx.merge pl ext r' res) i:=fun i hi=>by
  grind[known,aO]
 have hag:Env.bE (known res) J (Env.join res.length ext J ρ2):=fun i hi=>by
  have:=aO hi;simp[Env.join,this]
 have hvia:Env.via (back pl ext res.length) ρ2 (Env.join res.length ext J ρ2):=fun j i hj=>by
  rcases hbackS j i hj with⟨o,hp⟩|⟨a,ha,rfl⟩
  ·have hil:=hlt j i o hp;have hj':=hg.1 j (hkr j (hpll j i o hp))
   have hsrc:src 0 (dB pl) j=i:=by
    grind[src,nH]
   simp only[Env.pull,hsrc]at hj';obtain⟨a1,a2,a3,a4,a5,a6⟩:=hj';simp[Env.join,hil,a1,a2,a3,a4,a5,a6]
  ·grind[Env.join]
 obtain⟨fps3,g⟩:=h.turn (res':=Sx.merge pl ext r' res) (K':=known (Sx.merge pl ext r' res)) (fun i=>∃k:Nat,pl[k]? =some (i,true)) (fun i=>(∃k:Nat,pl[k]? =some (i,true))\/res.length<=i)
  (fun i b=>(∃k:Nat,pl[k]? =some (i,true)/\fps2 k b)\/(res.length<=i/\∃j,ext[i-res.length]? =some j/\known r' j/\fps2 j b))
  (fun i hi=>hi) hmono hag
  (fun i hi hb=>by
   have hlt':i<res.length:=by
    rcases Nat.lt_or_ge i res.length with h|h
    ·exact h
    ·exact absurd (.inr h) hb
   have e:=hother i hlt' fun k hk'=>hb (.inl ⟨k,hk'⟩)
   exact⟨by unfold known at hi⊢;rw[e]at hi;exact hi,fun hT=>hb (.inl hT),e⟩)
  (fun i hi hb=>by
   have hfoot:∀k b,known r' k->fps2 k b->(∃t,(∃k:Nat,pl[k]? =some (t,true))/\known res t/\fps t b)\/(w.heap.size<=b/\b<w'.heap.size):=fun k b hk' hf=>by
    by_cases hbw:b<w.heap.size
    ·obtain⟨x,p,hp,hfp⟩:=h2.inF k b hk' hf hbw;exact .inl ⟨p,⟨x,hp⟩,ew hk x p true hp,hfp⟩
    ·exact .inr ⟨by omega,h2.lt k b hk' hf⟩
   by_cases hT:∃k:Nat,pl[k]? =some (i,true)
   ·obtain⟨k,hp⟩:=hT;have hkk:=hkr' k i true hp;have hil:=hlt k i true hp
    have e:(fun b=>(∃k:Nat,pl[k]? =some (i,true)/\fps2 k b)\/(res.length<=i/\∃j,ext[i-res.length]? =some j/\known r' j/\fps2 j b))=fps2 k:=by
     funext b
     apply propext
     constructor
     ·rintro(⟨k',hp',hf⟩|⟨hge,_⟩)
      ·rw[huniq k k' i true true hp hp'];exact hf
      ·omega
     ·exact fun hf=> .inl ⟨k,hp,hf⟩
    refine⟨?_,fun b hf=>hfoot k b hkk (by rw[<-e];exact hf)⟩
    rw[e,hown k i hp];exact iO hvia hN (hback1 k i true hp) _ _ _ (lU (ho1 k i hp) (h2.holds k hkk))
   ·have hge:res.length<=i:=hb.resolve_left hT
    have hj:∃j,ext[i-res.length]? =some j:=by
     unfold known at hi;rw[hget,aa8 (by omega)]at hi
     cases hx:ext[i-res.length]? with
     |none=>rw[hx]at hi;exact absurd rfl hi
     |some j=>exact⟨j,rfl⟩
    obtain⟨j,hj⟩:=hj
    have hkj:known r' j:=by
     unfold known at hi;rw[hget,aa8 (by omega),hj]at hi
     exact fun e=>hi (mB.2 e)
    have e:(fun b=>(∃k:Nat,pl[k]? =some (i,true)/\fps2 k b)\/(res.length<=i/\∃j,ext[i-res.length]? =some j/\known r' j/\fps2 j b))=fps2 j:=by
     grind
    refine⟨?_,fun b hf=>hfoot j b hkj (by rw[<-e];exact hf)⟩
    have hie:i=res.length+(i-res.length):=by omega
    have hb2:=hback2 _ j hj;rw[<-hie]at hb2;have hx:=hext _ j hj;rw[<-hie]at hx;rw[e,hx];exact iO hvia hN hb2 _ _ _ (lU (ho2 j (List.mem_of_getElem? hj)) (h2.holds j hkj)))
  (fun i j b hbi hbj hne hf hf'=>by
   have sel:∀x,((∃k:Nat,pl[k]? =some (x,true)/\fps2 k b)\/(res.length<=x/\∃j,ext[x-res.length]? =some j/\known r' j/\fps2 j b))->∃k,known r' k/\fps2 k b/\((pl[k]? =some (x,true))\/(res.length<=x/\ext[x-res.length]? =some k)):=by
    rintro x (⟨k,hp,hf⟩|⟨hge,j,hj,hkj,hf⟩)
    ·exact⟨k,hkr' k x true hp,hf,.inl hp⟩
    ·exact⟨j,hkj,hf,.inr ⟨hge,hj⟩⟩
   obtain⟨k,k1,k2,k3⟩:=sel i hf;obtain⟨l,l1,l2,l3⟩:=sel j hf';refine h2.disj k l b k1 l1 (fun e=>hne ?_) k2 l2
   subst e;rcases k3 with k3|⟨k3,k4⟩<;>rcases l3 with l3|⟨l3,l4⟩
   ·rw[k3]at l3;simp at l3;exact l3
   ·grind
   ·have:=(e1 k (List.mem_of_getElem? k4)).1;have:=hpll k j true l3;omega
   ·have:=huniqE _ _ _ k4 l4;omega)
  h2.os h2.tape h2.output h2.old
  (fun b hb hno=>h2.same b hb fun⟨i,p,hp,hf⟩=>hno p ⟨i,hp⟩ (ew hk i p true hp) hf)
 exact⟨_,fps3,g,⟨hag,hmono⟩,hvia,hN⟩
end
end
def jO (r':List aK):Nat->List (Nat×Bool)->Bool
 |_,[]=>true
 |i,(_,o)::l=>(if o then jF (ay r' i)else true)&&jO r' (i+1) l
theorem xh {r':List aK}:∀{l:List (Nat×Bool)} {i:Nat},jO r' i l=true->∀k p:Nat,l[k]? =some (p,true)->jF (ay r' (i+k))=true
 | [],i,_,k,p,h=>by simp at h
 | (x,o)::l,i,ha,k,p,h=>by
   simp only[jO,aa2]at ha;cases k with
   |zero=>simp at h;obtain⟨_,rfl⟩:=h;simpa using ha.1
   |succ k=>
    have:=xh ha.2 k p (by simpa using h)
    rwa [show i+(k+1)=i+1+k by omega]
def m9 (r':List aK):List Nat->Bool
 | []=>true
 |j::l=>jF (ay r' j)&&m9 r' l
theorem vO {r':List aK}:∀{l:List Nat},m9 r' l=true->∀j∈l,jF (ay r' j)=true
 | [],_,j,h=>by simp at h
 |x::l,ha,j,h=>by
  simp only[m9,aa2]at ha;rcases List.mem_cons.1 h with rfl|h
  ·exact ha.1
  ·exact vO ha.2 j h
def jT (κ:Nat->Option Nat) (v v3:V):Prop:=∀(ρ2 ρ3:Env) (N N':Nat->Prop),Env.via κ ρ2 ρ3->(∀j i,κ j=some i->N j->N' i)->ok N v->den ρ3 v3=den ρ2 v/\ok N' v3
theorem jT.ke {κ:Nat->Option Nat} {v x:V} (h:xa x v []) (hx:Sx.ke x=true):jT κ v x:=fun ρ2 ρ3 N N' _ _ hv=>by
 obtain⟨s1,s2,_⟩:=h ρ2 N;exact⟨by rw[s1];exact p9 hx (s2 hv) ρ2 ρ3,oJ x hx (s2 hv)⟩
def Vr (pl:List (Nat×Bool)) (res:List aK) (v:V) (r':List aK) (K:V->List aK->Prop):Prop:=
 ∃(ext:List Nat) (v3:V),iD pl.length r'.length ext=true/\jO r' 0 pl=true/\m9 r' ext=true/\jT (back pl ext res.length) v v3/\K v3 (merge pl ext r' res)
section
variable {P:Program}
theorem an.frame {f:Nat} {args args0:List V} {res:List aK} {pl:List (Nat×Bool)} {K0 KP0 K KP:V->List aK->Prop} (hk:eI res pl=true) (hnd:iD 0 res.length (dB pl)=true)
  (ha:eJ (kX 0 (dB pl)) args=some args0) (hc:an P f args0 (eY (kX 0 (dB pl)) res pl) K0 KP0)
  (hK:∀v r',K0 v r'->Vr pl res v r' K) (hKP:∀v r',KP0 v r'->Vr pl res v r' KP):an P f args res K KP:=by
 intro J fps w0 F0 w hH hargs;have hnd:=(qj hnd).2;obtain⟨g1,g2,g3,g4⟩:=hH.eY hk hnd;obtain⟨a1,_,a3,_⟩:=ja g3 g4 _ _ ha;rw[<-a1];refine(hc _ _ _ _ _ g1 (a3 hargs)).mono fun e w' ⟨x,ρ2,fps2,r',h1,h2,h3,h4⟩=>?_
 have fin:∀{K:V->List aK->Prop},Vr pl res x r' K->∃x' ρ' fps' res',bq ρ' fps' res' (known res') w0 F0 w'/\Good J res ρ' res'/\ok (known res') x'/\den ρ' x'=den ρ2 x/\K x' res':=by
  rintro K ⟨ext,v3,b1,b2,b3,b4,b5⟩
  obtain⟨ρ3,fps3,m1,m2,m3,m4⟩:=hH.merge hk hnd h1 h2 b1 (fun i p hp=>by have:=xh b2 i p hp;rwa [Nat.zero_add]at this) (vO b3)
  obtain⟨c1,c2⟩:=b4 ρ2 ρ3 _ _ m3 m4 h3;exact⟨v3,ρ3,fps3,_,m1,m2,c2,c1,b5⟩
 rcases h4 with⟨rfl,h4⟩|⟨rfl,h4⟩
 ·grind
 ·grind
def su:aK->Bool
 | .store _ _ _=>true
 | .arr _ _ _=>true
 |_=>false
theorem vh {κ:Nat->Option Nat} {r:aK} (h:su r=true):gp κ r=r:=by
 cases r<;>first|rfl|simp[su]at h
def o0 (res:List aK) (p:Nat) (r:aK):Prop:=known res p/\∀J fps K w0 F0 w,bq J fps res K w0 F0 w->
 ∃fp:Nat->Prop,r.holds K J p fp w0 F0 w/\∀b,fp b->(∃i,known res i/\fps i b)\/(b<w0.heap.size/\¬F0 b)
theorem o0.look {res:List aK} {p:Nat} {r:aK} (h:cH res p=r) (hne:r≠ .yet):o0 res p r:=by
 have hk:=dV h hne;refine⟨hk,fun J fps K w0 F0 w hH=>?_⟩
 obtain⟨fp,g1,g2⟩:=hH.BM h hk;exact⟨fp,g1,fun b hb=>(g2 b hb).elim (fun h=> .inl ⟨p,hk,h⟩) .inr⟩
def sW:List (Nat×aK)->List aK
 | []=> []
 | (_,r)::l=> .ro r::sW l
theorem xK:∀(l:List (Nat×aK)) (i:Nat),ay (sW l) i=match l[i]? with|some p=> .ro p.2|none=> .yet
 | [],i=>by simp[sW,ay]
 | (p,r)::l,0=>by simp[sW,ay]
 | (p,r)::l,i+1=>by simp[sW,ay,xK l i]
theorem uh:∀l:List (Nat×aK),(sW l).length=l.length
 | []=>rfl
 | (p,r)::l=>by simp[sW,uh l]
def qB:List (Nat×aK)->Nat->Nat
 | [],_=>0
 | (p,_)::_,0=>p
 |_::l,i+1=>qB l i
theorem vJ:∀(l:List (Nat×aK)) (i:Nat) (p:Nat×aK),l[i]? =some p->qB l i=p.1
 | [],i,p,h=>by simp at h
 | (x,r)::l,0,p,h=>by simp at h;subst h;rfl
 | (x,r)::l,i+1,p,h=>by simp only[qB];exact vJ l i p (by simpa using h)
theorem se {f:Nat} {g:Ct} (h:∀res nid args q x new,g res nid args=some (q,x,new)->new= []/\ke x=true/\
  ∃(pls:List (Nat×aK)) (args0:List V),(∀p∈pls,o0 res p.1 p.2/\su p.2=true)/\(∀(J:Env) K,fM K args->bB (J.pull (qB pls)) args0=bB J args)/\(∀K,fM K args->fM (known (sW pls)) args0)/\
   (dX q->fM (known (sW pls)) args0->an P f args0 (sW pls) (xa x) (fun _ _=>False))):cq P f g:=by
 intro J fps res K w0 F0 w nid args q x new hH hargs hg hq hfr;obtain⟨rfl,hid,pls,args0,hcl,hden,hok,hc⟩:=h res nid args q x new hg;refine⟨?_,fun k hk=>by simp at hk⟩
 have hfr:∀b,b<w0.heap.size->¬F0 b->w.heap[b]? =w0.heap[b]? /\¬(fun _:Nat=>False) b:=fun b hb hF=>⟨hH.same b hb hF,fun h=>h⟩
 have hrep:bq (J.pull (qB pls)) (fun _ _=>False) (sW pls) (known (sW pls)) w (fun _=>False) w:=by
  refine⟨fun i hi=>hi,Nat.le_refl _,rfl,rfl,rfl,fun i hi=>?_,fun i b hi h=>h.elim,fun i j b hi hj hne h=>h.elim,fun i b hi h=>h.elim,fun _ _ _=>rfl⟩
  have hlt:=aO hi;rw[uh]at hlt;have hp:pls[i]? =some pls[i]:=List.getElem?_eq_getElem hlt;generalize pls[i]=p at hp
  rw[xK,hp];simp only;obtain⟨hs,hcl⟩:=hcl p (List.mem_of_getElem? hp);obtain⟨fp,g1,g2⟩:=hs.2 J fps K w0 F0 w hH
  have hv:Env.via (fun x=>if x=p.1 then some i else none) J (J.pull (qB pls)):=qF fun x j hx=>by
   split at hx
   ·simp only[aa0]at hx;subst hx;rename_i e;subst e;exact vJ pls i p hp
   ·simp at hx
  have:=iO (N':=known (sW pls)) hv (fun x j hx _=>by
   split at hx
   ·simp only[aa0]at hx;subst hx;exact hi
   ·simp at hx) (p:=p.1) (i:=i) (by simp) _ _ _ (aK.tR hH.old hfr _ _ g1)
  rw[vh hcl]at this;refine⟨fp,this,fun b hb=>⟨?_,fun h=>h⟩⟩
  rcases g2 b hb with⟨j,hj,hf⟩|⟨hl,_⟩
  ·exact hH.lt j b hj hf
  ·exact Nat.lt_of_lt_of_le hl hH.old
 have hok0:=hok K hargs;rw[<-hden J K hargs];refine(hc hq hok0 _ _ _ _ _ hrep hok0).mono fun e w' ⟨y,ρ',fps',res',g1,g2,g3,g4⟩=>?_
 rcases g4 with⟨rfl,hK⟩|⟨_,hK⟩
 ·refine⟨_,rfl,J,?_,?_,?_⟩
  ·exact⟨⟨g1.os,g1.tape,g1.output,g1.old,fun b hb=>g1.same b hb (fun h=>h)⟩,Env.bE.refl _ _,fun _ _=>False,fun k hk=>by simp at hk,fun k l b hk=>by simp at hk⟩
  ·obtain⟨e1,e2,_⟩:=hK ρ' (known res');rw[e1];exact p9 hid (e2 g3) J ρ'
  ·obtain⟨e1,e2,_⟩:=hK ρ' (known res');exact oJ x hid (e2 g3)
 ·exact hK.elim
theorem an.tF {f:Nat} {args:List V} {res res1:List aK} {K KP:V->List aK->Prop} (h:an P f args res1 K KP)
  (ho:∀J fps w0 F0 w,bq J fps res (known res) w0 F0 w->∃ρ' fps',bq ρ' fps' res1 (known res1) w0 F0 w/\Good J res ρ' res1):an P f args res K KP:=by
 intro J fps w0 F0 w hH hargs;obtain⟨ρ',fps',h1,h2⟩:=ho J fps w0 F0 w hH;rw[<-fT h2.1 args hargs];refine(h ρ' fps' w0 F0 w h1 (dt h2.2 _ hargs)).mono fun e w' ⟨x,ρ2,fps2,r',g1,g2,g3,g4⟩=>⟨x,ρ2,fps2,r',g1,h2.trans g2,g3,g4⟩
theorem an.kD {f:Nat} {args:List V} {res:List aK} {k t e:Nat} {L:List Obj} {K KP:V->List aK->Prop} (hr:ay res k= .store t e L) (h:an P f args (kD res k t e L) K KP):an P f args res K KP:=
 h.tF fun _ _ _ _ _ hH=>BD hr hH
theorem an.fE {f:Nat} {args:List V} {res:List aK} {k t e:Nat} {L:List Obj} {K KP:V->List aK->Prop} (hr:ay res k= .ro (.store t e L)) (h:an P f args (fE res k t e L) K KP):an P f args res K KP:=
 h.tF fun _ _ _ _ _ hH=>yU hr hH
theorem an.shut {f:Nat} {args:List V} {res:List aK} {K0 KP K:V->List aK->Prop} (h:an P f args res K0 KP) (hK:∀v r,K0 v r->K v r\/∃k r',uD r k=some r'/\K v r'):an P f args res K KP:=by
 intro J fps w0 F0 w hH hargs;refine(h J fps w0 F0 w hH hargs).mono fun e w' ⟨x,ρ2,fps2,r',g1,g2,g3,g4⟩=>?_
 rcases g4 with⟨rfl,hk⟩|g4
 ·rcases hK _ _ hk with hk|⟨k,r2,s1,s2⟩
  ·exact⟨x,ρ2,fps2,r',g1,g2,g3,.inl ⟨rfl,hk⟩⟩
  ·obtain⟨fps3,m1,m2⟩:=AH s1 g1;exact⟨x,ρ2,fps3,r2,m1,⟨g2.1,fun i hi=>m2 i (g2.2 i hi)⟩,dY m2 _ g3,.inl ⟨rfl,s2⟩⟩
 ·exact⟨x,ρ2,fps2,r',g1,g2,g3,.inr g4⟩
end
section
variable {P:Program}
theorem an.fact {f:Nat} {args:List V} {res:List aK} {K KP:V->List aK->Prop} {k t e:Nat} {L:List Obj} (hr:cH res k= .store t e L)
  (h:(∀o∈L,o.wf)->L.length<=9223372036854775807->an P f args res K KP):an P f args res K KP:=by
 intro J fps w0 F0 w hH hargs;obtain⟨fp,hh,_⟩:=hH.look hr (by simp)
 obtain⟨_,h1,h2,_⟩:=hh;exact h h1 h2 J fps w0 F0 w hH hargs
theorem an.EY {f:Nat} {args:List V} {res:List aK} {K KP:V->List aK->Prop} {k esz:Nat} {own:Option Nat} {L:List Obj} (hr:cH res k= .arr own esz (.ob L))
  (h:(∀o∈L,o.wf)->L.length<=9223372036854775807->an P f args res K KP):an P f args res K KP:=by
 intro J fps w0 F0 w hH hargs;obtain⟨fp,hh,_⟩:=hH.look hr (by simp)
 obtain⟨h1,_,h2,_⟩:=hh;refine h (fun o ho=>?_) h2 J fps w0 F0 w hH hargs
 obtain⟨i,hi,rfl⟩:=List.getElem_of_mem ho;have:=(h1 i hi).1;simpa[TL.get,aj,aa7,hi,ok]using this
theorem o0.open {res:List aK} {p j t e q:Nat} {L:List Obj} (hp:cH res p= .blk t (.ag [.sa j])) (hj:cH res j= .obs e q L) (hte:t≠e):o0 res p (.store t e L):=by
 have hkp:=dV hp (by simp)
 have hkj:=dV hj (by simp)
 refine⟨hkp,fun J fps K w0 F0 w hH=>?_⟩
 obtain⟨fp1,⟨_,_,b3,b4⟩,g1⟩:=hH.BM hp hkp;obtain⟨fp2,⟨_,c1,c2,c3,c4,c5,c6,c7⟩,g2⟩:=hH.BM hj hkj
 have b4':w.heap[J.num p]? =some (.cells #[J.sl j] t (0,0)):=by
  rw[b4];have:den J (.sa j)=J.sl j:=rfl;simp[fB,bp,this,Env.sl,Value.cells]
 refine⟨fun b=>fp1 b\/fp2 b,⟨.inl b3,c1,c3,J.sl j,J.ob q,b4',c6,fun b hb=>?_,fun x hx=>?_⟩,fun b hb=>?_⟩
 ·have hb':=hb;cases ha:J.sa j with
  |none=>simp[Env.sl,ha,Value.ownBlock]at hb
  |some a=>
   simp only[Env.sl,ha,Value.ownBlock,aa0]at hb;subst hb;refine⟨.inr (c4 a ha).2,fun e'=>?_⟩
   rcases c6.2 with⟨hh,_⟩|⟨g,cap,cur,hh,_,h3,_⟩
   ·simp[Env.sl,ha]at hh
   ·rw[hh]at hb';simp only[Value.ownBlock,aa0]at hb';rw[hb',e',b4']at h3;simp only[aa0,Go.Obj.cells.injEq]at h3;exact hte h3.2.1
 ·grind[nD]
 ·grind
theorem o0.zero {res:List aK} {p t e:Nat} (hp:cH res p= .blk t (.ag [.nl (.slice none 0 0)])):o0 res p (.store t e []):=by
 have hkp:=dV hp (by simp)
 refine⟨hkp,fun J fps K w0 F0 w hH=>?_⟩
 obtain⟨fp1,⟨_,_,b3,b4⟩,g1⟩:=hH.BM hp hkp;refine⟨fp1,⟨b3,by simp,by simp,.slice none 0 0,fun _=>0,?_,World.ownsRow_nil w 0 e 1,fun b hb=>by simp[Value.ownBlock]at hb,fun x hx=>by simp at hx⟩,fun b hb=>(g1 b hb).elim (fun h=> .inl ⟨p,hkp,h⟩) .inr⟩
 rw[b4];simp[fB,bp,den,Value.cells]
def rS (t e:Nat) (res:List aK) (v:V):Option (Option Nat×List Obj):=
 match v with
 | .nl v=>match v with
   | .pointer p=>match p with
     |none=>some (none,[])
     |some _=>none
   |_=>none
 | .lp k off=>if off==0 then match cH res k with
   | .store t' e' L=>if t'==t&&e'==e then some (some k,L)else none
   | .blk t' c=>if t'==t&& !(t==e)then match c with
     | .ag l=>match l with
       | [x]=>match x with
         | .sa j=>match cH res j with
           | .obs e' _ L=>if e'==e then some (some k,L)else none
           |_=>none
         | .nl v=>match v with
           | .slice none 0 0=>some (some k,[])
           |_=>none
         |_=>none
       |_=>none
     |_=>none
     else none
   |_=>none
   else none
 |_=>none
theorem u9 {t e:Nat} {res:List aK} {v:V} {o:Option Nat} {L:List Obj} (h:rS t e res v=some (o,L)):(o=none/\L= []/\v= .nl (.pointer none))\/∃k,o=some k/\v= .lp k 0/\o0 res k (.store t e L):=by
 unfold rS at h;split at h
 ·grind
 ·rename_i k off;split at h
  ·rename_i ho;have ho:=aa4.1 ho;subst ho;split at h
   ·grind[o0.look]
   ·grind[o0.open,o0.zero]
   ·simp at h
  ·simp at h
 ·simp at h
def jJ:V:= .nl (.pointer none)
def XI (t e:Nat) (F:List Obj->V):Ct:=fun res _ xs=>match xs with
 | [a]=>match rS t e res a with
   |some (_,L)=>some (none,F L,[])
   |none=>none
 |_=>none
def Js {α:Type} (t e:Nat) (r:V->Option α) (F:List Obj->α->V):Ct:=fun res _ xs=>match xs with
 | [a,b]=>match rS t e res a with
   |some (_,L)=>match r b with
    |some x=>some (none,F L x,[])
    |none=>none
   |none=>none
 |_=>none
theorem Ly {f t e:Nat} {F:List Obj->V} (hF:∀L,ke (F L)=true) (h0:an P f [jJ] [] (oq (F [])) (fun _ _=>False))
  (h1:∀L,(∀o∈L,o.wf)->L.length<=9223372036854775807->an P f [.lp 0 0] [.ro (.blk t (.ag [.sa 1])),.ro (.obs e 2 L),.gen 1] (oq (F L)) (fun _ _=>False)):cq P f (XI t e F):=by
 refine se fun res nid args q x new hg=>?_
 unfold XI at hg;split at hg<;>(try split at hg)<;>simp only[aa0,aa1,reduceCtorEq]at hg
 rename_i a o L hr;obtain⟨rfl,rfl,rfl⟩:=hg;rcases u9 hr with⟨rfl,rfl,rfl⟩|⟨k,rfl,rfl,hs⟩
 ·exact⟨rfl,hF [],[],[jJ],by simp,fun J _ _=>rfl,fun K hK=>⟨hK.1,trivial⟩,fun _ _=>h0.mono (fun _ _=>dD) fun _ _ h=>h⟩
 ·refine⟨rfl,hF L,[(k,.store t e L)],[.lp 0 0],by simpa using⟨hs,rfl⟩,fun J _ _=>rfl,fun K hK=>⟨by simp[ok,known,sW,ay],trivial⟩,fun _ _=>?_⟩
  exact an.fact (k:=0) rfl fun w1 w2=>(an.fE (res:=sW [(k,.store t e L)]) (k:=0) rfl (h1 L w1 w2)).mono (fun _ _=>dD) fun _ _ h=>h
theorem yi {f t e:Nat} {α:Type} {r:V->Option α} {m:α->V} {F:List Obj->α->V} (hr:sV r m) (hF:∀L x,ke (F L x)=true)
  (h0:∀x,ok (fun _=>False) (m x)->an P f [jJ,m x] [] (oq (F [] x)) (fun _ _=>False))
  (h1:∀L x,(∀o∈L,o.wf)->L.length<=9223372036854775807->ok (fun _=>False) (m x)->an P f [.lp 0 0,m x] [.ro (.blk t (.ag [.sa 1])),.ro (.obs e 2 L),.gen 1] (oq (F L x)) (fun _ _=>False))
  (hid:∀x,ke (m x)=true):cq P f (Js t e r F):=by
 refine se fun res nid args q x new hg=>?_
 unfold Js at hg;split at hg<;>(try split at hg)<;>(try split at hg)<;>simp only[aa0,aa1,reduceCtorEq]at hg
 rename_i a b _ o L hs _ x hb;obtain⟨rfl,rfl,rfl⟩:=hg;obtain⟨b1,b2⟩:=hr _ x hb;have hde:∀J ρ':Env,∀K,ok K b->den ρ' (m x)=den J b:=fun J ρ' K hk=>by rw[b1 J];exact p9 (hid x) (b2 K hk) J ρ'
 rcases u9 hs with⟨rfl,rfl,rfl⟩|⟨k,rfl,rfl,hse⟩
 ·refine⟨rfl,hF [] x,[],[jJ,m x],by simp,fun J K hK=>?_,fun K hK=>⟨hK.1,fP (b2 K hK.2.1),trivial⟩,fun _ hok=>?_⟩
  ·simp only[bB,hde J (J.pull (qB [])) K hK.2.1];rfl
  ·exact(h0 x (oJ _ (hid x) hok.2.1)).mono (fun _ _=>dD) fun _ _ h=>h
 ·refine⟨rfl,hF L x,[(k,.store t e L)],[.lp 0 0,m x],by simpa using⟨hse,rfl⟩,fun J K hK=>?_,fun K hK=>⟨by simp[ok,known,sW,ay],fP (b2 K hK.2.1),trivial⟩,fun _ hok=>?_⟩
  ·simp only[bB,hde J (J.pull (qB [(k,.store t e L)])) K hK.2.1];rfl
  ·exact an.fact (k:=0) rfl fun w1 w2=>(an.fE (res:=sW [(k,.store t e L)]) (k:=0) rfl (h1 L x w1 w2 (oJ _ (hid x) hok.2.1))).mono (fun _ _=>dD) fun _ _ h=>h
theorem o0.arr {res:List aK} {p esz:Nat} {own:Option Nat} {l:TL} (h:cH res p= .arr own esz l):o0 res p (.arr none esz l):=by
 have hk:=dV h (by simp)
 refine⟨hk,fun J fps K w0 F0 w hH=>?_⟩
 obtain⟨fp,⟨h1,h2,h3,h4,h5,h6,h7⟩,g2⟩:=hH.BM h hk;refine⟨fp,⟨h1,h2,h3,h4,h5,h6,?_⟩,fun b hb=>(g2 b hb).elim (fun h=> .inl ⟨p,hk,h⟩) .inr⟩
 rcases h7 with⟨e,h7⟩|⟨e,e1,e2⟩
 ·exact .inl ⟨rfl,h7⟩
 ·exact .inr ⟨e,by simp,e2⟩
def rA (res:List aK) (v:V):Option (Nat×List Obj):=
 match v with
 | .sa k=>match cH res k with
   | .arr _ e l=>if e==163 then match l with
     | .ob l=>some (k,l)
     |_=>none
     else none
   |_=>none
 |_=>none
theorem yn {res:List aK} {v:V} {k:Nat} {l:List Obj} (h:rA res v=some (k,l)):v= .sa k/\o0 res k (.arr none 163 (.ob l))/\∃own,cH res k= .arr own 163 (.ob l):=by
 unfold rA at h;split at h
 ·grind[o0.arr]
 ·simp at h
def mkA (F:List Obj->V):Ct:=fun res _ xs=>match xs with
 | [a]=>match rA res a with
   |some (_,L)=>some (none,F L,[])
   |none=>none
 |_=>none
def TF {α:Type} (r:V->Option α) (F:List Obj->α->V):Ct:=fun res _ xs=>match xs with
 | [a,b]=>match rA res a with
   |some (_,L)=>match r b with
    |some x=>some (none,F L x,[])
    |none=>none
   |none=>none
 |_=>none
theorem IB {J:Env} {i k:Nat} {pls:List (Nat×aK)} (h:qB pls i=k):den (J.pull (qB pls)) (.sa i)=den J (.sa k):=by
 simp only[den,Env.pull,h]
theorem Vv {f:Nat} {F:List Obj->V} (hF:∀L,ke (F L)=true)
  (h1:∀L,(∀o∈L,o.wf)->L.length<=9223372036854775807->an P f [.sa 0] [.ro (.arr none 163 (.ob L))] (oq (F L)) (fun _ _=>False)):cq P f (mkA F):=by
 refine se fun res nid args q x new hg=>?_
 unfold mkA at hg;split at hg<;>(try split at hg)<;>simp only[aa0,aa1,reduceCtorEq]at hg
 rename_i a k L hr;obtain⟨rfl,rfl,rfl⟩:=hg;obtain⟨rfl,hs,_⟩:=yn hr
 exact⟨rfl,hF L,[(k,.arr none 163 (.ob L))],[.sa 0],by simpa using⟨hs,rfl⟩,fun J _ _=>by simp only[bB,IB (pls:= [(k,.arr none 163 (.ob L))]) (i:=0) (k:=k) rfl],fun K hK=>⟨by simp[ok,known,sW,ay],trivial⟩,
  fun _ _=>an.EY (k:=0) rfl fun w1 w2=>(h1 L w1 w2).mono (fun _ _=>dD) fun _ _ h=>h⟩
theorem H7 {f:Nat} {α:Type} {r:V->Option α} {m:α->V} {F:List Obj->α->V} (hr:sV r m) (hF:∀L x,ke (F L x)=true)
  (h1:∀L x,(∀o∈L,o.wf)->L.length<=9223372036854775807->ok (fun _=>False) (m x)->an P f [.sa 0,m x] [.ro (.arr none 163 (.ob L))] (oq (F L x)) (fun _ _=>False)) (hid:∀x,ke (m x)=true):cq P f (TF r F):=by
 refine se fun res nid args q x new hg=>?_
 unfold TF at hg;split at hg<;>(try split at hg)<;>(try split at hg)<;>simp only[aa0,aa1,reduceCtorEq]at hg
 rename_i a b _ k L hs _ x hb;obtain⟨rfl,rfl,rfl⟩:=hg;obtain⟨rfl,hse,_⟩:=yn hs;obtain⟨b1,b2⟩:=hr _ x hb;have hde:∀J ρ':Env,∀K,ok K b->den ρ' (m x)=den J b:=fun J ρ' K hk=>by rw[b1 J];exact p9 (hid x) (b2 K hk) J ρ'
 refine⟨rfl,hF L x,[(k,.arr none 163 (.ob L))],[.sa 0,m x],by simpa using⟨hse,rfl⟩,fun J K hK=>?_,fun K hK=>⟨by simp[ok,known,sW,ay],fP (b2 K hK.2.1),trivial⟩,fun _ hok=>?_⟩
 ·simp only[bB,hde J (J.pull (qB [(k,.arr none 163 (.ob L))])) K hK.2.1,IB (pls:= [(k,.arr none 163 (.ob L))]) (i:=0) (k:=k) rfl]
 ·exact an.EY (k:=0) rfl fun w1 w2=>(h1 L x w1 w2 (oJ _ (hid x) hok.2.1)).mono (fun _ _=>dD) fun _ _ h=>h
def WG (t e:Nat) (F:List Obj->List Obj->V):Ct:=fun res _ xs=>match xs with
 | [a,b]=>match rS t e res a with
   |some (_,L)=>match rA res b with
    |some (_,M)=>some (none,F L M,[])
    |none=>none
   |none=>none
 |_=>none
theorem Sv {f t e:Nat} {F:List Obj->List Obj->V} (hF:∀L M,ke (F L M)=true)
  (h0:∀M,(∀o∈M,o.wf)->M.length<=9223372036854775807->an P f [jJ,.sa 0] [.ro (.arr none 163 (.ob M))] (oq (F [] M)) (fun _ _=>False))
  (h1:∀L M,(∀o∈L,o.wf)->L.length<=9223372036854775807->(∀o∈M,o.wf)->M.length<=9223372036854775807->
   an P f [.lp 0 0,.sa 1] [.ro (.blk t (.ag [.sa 2])),.ro (.arr none 163 (.ob M)),.ro (.obs e 3 L),.gen 2] (oq (F L M)) (fun _ _=>False)):cq P f (WG t e F):=by
 refine se fun res nid args q x new hg=>?_
 unfold WG at hg;split at hg<;>(try split at hg)<;>(try split at hg)<;>simp only[aa0,aa1,reduceCtorEq]at hg
 rename_i a b _ o L hs _ j M hb;obtain⟨rfl,rfl,rfl⟩:=hg;obtain⟨rfl,hbe,_⟩:=yn hb;rcases u9 hs with⟨rfl,rfl,rfl⟩|⟨k,rfl,rfl,hse⟩
 ·refine⟨rfl,hF [] M,[(j,.arr none 163 (.ob M))],[jJ,.sa 0],by simpa using⟨hbe,rfl⟩,fun J K hK=>?_,fun K hK=>⟨hK.1,by simp[ok,known,sW,ay],trivial⟩,fun _ hok=>?_⟩
  ·rfl
  ·exact an.EY (k:=0) rfl fun w1 w2=>(h0 M w1 w2).mono (fun _ _=>dD) fun _ _ h=>h
 ·refine⟨rfl,hF L M,[(k,.store t e L),(j,.arr none 163 (.ob M))],[.lp 0 0,.sa 1],by simpa using⟨⟨hse,rfl⟩,hbe,rfl⟩,fun J K hK=>?_,fun K hK=>⟨by simp[ok,known,sW,ay],by simp[ok,known,sW,ay],trivial⟩,fun _ hok=>?_⟩
  ·rfl
  ·exact an.fact (k:=0) rfl fun w1 w2=>an.EY (k:=1) rfl fun w3 w4=>
    (an.fE (res:=sW [(k,.store t e L),(j,.arr none 163 (.ob M))]) (k:=0) rfl (h1 L M w1 w2 w3 w4)).mono (fun _ _=>dD) fun _ _ h=>h
end
abbrev kc:=List V->List aK->(V->List aK->Prop)->Prop
def kL (P:Program) (f:Nat) (h:kc):Prop:=∀args res K KP,h args res K->an P f args res K KP
def Eu:List (Nat×kc)->Handler
 | [],_,_,_,_,_=>False
 | (g,h)::l,f,args,res,K,KP=>if f==g then h args res K else Eu l f args res K KP
theorem zU {P:Program}:∀{l:List (Nat×kc)},(∀p∈l,kL P p.1 p.2)->Handler.OK P (Eu l)
 | [],_,f,args,res,K,KP,h=>h.elim
 | (g,x)::l,hl,f,args,res,K,KP,h=>by
   simp only[Eu]at h;split at h
   ·rename_i e;have e:=aa4.1 e;subst e;exact hl (f,x) (by simp) args res K KP h
   ·exact zU (fun p hp=>hl p (by simp[hp])) f args res K KP h
theorem aD {P:Program}:∀p∈([]:List (Nat×kc)),kL P p.1 p.2:=by simp
theorem aB {P:Program} {f:Nat} {g:kc} {l:List (Nat×kc)} (h:kL P f g) (t:∀p∈l,kL P p.1 p.2):∀p∈(f,g)::l,kL P p.1 p.2:=by
 simp_all
theorem uC {κ:Nat->Option Nat}:∀v,ke v=true->fS κ v=some v:=by
 intro v
 exact V.rec (motive_1:=fun v=>ke v=true->fS κ v=some v) (motive_2:=fun l=>lf l=true->eJ κ l=some l)
  (fun b _=>rfl) (fun b _=>rfl) (fun k n _=>rfl) (fun k n _=>rfl) (fun b _=>rfl) (fun s _=>rfl) (fun v _=>rfl) (fun _ _ h=>by simp[ke]at h) (fun _ _ _ _ _ _ h=>by simp[ke]at h)
  (fun _ _ _ h=>by simp[ke]at h) (fun _ _ h=>by simp[ke]at h) (fun _ _ _ _ h=>by simp[ke]at h) (fun _ h=>by simp[ke]at h) (fun _ _ h=>by simp[ke]at h) (fun _ h=>by simp[ke]at h)
  (fun f l ih h=>by simp only[fS];rw[ih h]) (fun t x ih h=>by simp only[fS];rw[ih h]) (fun l ih h=>by simp only[fS];rw[ih h]) (fun l ih h=>by simp only[fS];rw[ih h])
  (fun _ _=>rfl) (fun _ _=>rfl) (fun _ _=>rfl) (fun _ _=>rfl) (fun _ h=>by simp[ke]at h) (fun _ _ _ _ _ _ h=>by simp[ke]at h) (fun _ _ _ _ _ _ _ _ h=>by simp[ke]at h) (fun _ _ _ _ h=>by simp[ke]at h) (fun _ _ _ _ _ _ h=>by simp[ke]at h) (fun _=>rfl)
  (fun x l ih1 ih2 h=>by simp only[lf,aa2]at h;simp only[eJ];rw[ih1 h.1];simp only;rw[ih2 h.2]) v
theorem js {κ:Nat->Option Nat}:∀l,lf l=true->eJ κ l=some l
 | [],_=>rfl
 |x::l,h=>by
  simp_all[lf,eJ,uC,js]
def fc (l m:List V):Prop:=∀(J:Env) K,fM K l->bB J l=bB J m/\fM K m
theorem fc.nil:fc [] []:=fun _ _ _=>⟨rfl,trivial⟩
theorem fc.jH {x:V} {l m:List V} (h:fc l m):fc (x::l) (x::m):=fun J K hk=>⟨by simp only[bB,(h J K hk.2).1],hk.1,(h J K hk.2).2⟩
theorem fc.rd {α:Type} {r:V->Option α} {f:α->V} (hr:sV r f) {a:V} {x:α} (hx:r a=some x) {l m:List V} (h:fc l m):fc (a::l) (f x::m):=fun J K hk=>by
 obtain⟨a1,a2⟩:=hr a x hx;exact⟨by simp only[bB,(h J K hk.2).1,a1],fP (a2 K hk.1),(h J K hk.2).2⟩
section
variable {P:Program}
theorem an.args {f:Nat} {args args':List V} {res:List aK} {K KP:V->List aK->Prop} (h:fc args args') (hc:an P f args' res K KP):an P f args res K KP:=by
 intro J fps w0 F0 w hH hargs;obtain⟨h1,h2⟩:=h J _ hargs;rw[h1];exact hc J fps w0 F0 w hH h2
theorem an.Di {f:Nat} {rest:List V} {res:List aK} {K KP:V->List aK->Prop} {k t e:Nat} {L M:List Obj} {x:V} (hr:ay res k= .store t e L) (hid:lf rest=true) (hx:ke x=true)
  (h:an P f (.lp 0 0::rest) [.store t e L] (fun v r=>xa x v r/\ay r 0= .store t e M) (fun _ _=>False)) (hK:K x (bO res k (.store t e M))):an P f (.lp k 0::rest) res K KP:=by
 have hk:known res k:=by unfold known;rw[hr];simp
 have hlt:=aO hk;refine an.frame (pl:= [(k,true)]) (args0:= .lp 0 0::rest) (K0:=fun v r=>xa x v r/\ay r 0= .store t e M) (KP0:=fun _ _=>False) (by simp[eI,cC.2 hk]) (by simpa[iD,dB,nN]using hlt) ?_ ?_ (fun v r hv=>?_) (fun _ _ h=>h.elim)
 ·simp only[eJ,fS,kX,idxOf,dB];rw[js rest hid];simp
 ·simp_all[eY,kX,dB,gp]
 ·obtain⟨h1,h2⟩:=hv;have hm:merge [(k,true)] [] r res=bO res k (.store t e M):=by simp[merge,eZ,h2,gp,fZ]
  exact⟨[],x,rfl,by simp[jO,h2,jF],rfl,jT.ke h1 hx,by rw[hm];exact hK⟩
theorem an.pure {f:Nat} {args:List V} {res:List aK} {K KP:V->List aK->Prop} {x:V} (hid:lf args=true) (hx:ke x=true)
  (h:an P f args [] (fun v _=>xa x v []) (fun _ _=>False)) (hK:K x res):an P f args res K KP:=by
 refine an.frame (pl:= []) (args0:=args) (K0:=fun v _=>xa x v []) (KP0:=fun _ _=>False) rfl rfl (js args hid) h (fun v r hv=>?_) (fun _ _ h=>h.elim)
 have hm:merge [] [] r res=res:=by simp[merge,eZ,fZ]
 exact⟨[],x,rfl,rfl,rfl,jT.ke hv hx,by rw[hm];exact hK⟩
theorem an.Lu {f:Nat} {rest:List V} {res:List aK} {K KP:V->List aK->Prop} {k:Nat} {r0:aK} {x:V} (hr:cH res k=r0) (hne:r0≠ .yet) (hren:∀κ,gp κ r0=r0) (hid:lf rest=true) (hx:ke x=true)
  (h:an P f (.lp 0 0::rest) [.ro r0] (fun v _=>xa x v []) (fun _ _=>False)) (hK:K x res):an P f (.lp k 0::rest) res K KP:=by
 have hk:=dV hr hne;have hlt:=aO hk;refine an.frame (pl:= [(k,false)]) (args0:= .lp 0 0::rest) (K0:=fun v _=>xa x v []) (KP0:=fun _ _=>False) (by simp[eI,cC.2 hk]) (by simpa[iD,dB,nN]using hlt) ?_ ?_ (fun v r hv=>?_) (fun _ _ h=>h.elim)
 ·simp only[eJ,fS,kX,idxOf,dB];rw[js rest hid];simp
 ·simp_all[eY,kX,dB]
 ·have hm:merge [(k,false)] [] r res=res:=by simp[merge,eZ,fZ]
  exact⟨[],x,rfl,by simp[jO],rfl,jT.ke hv hx,by rw[hm];exact hK⟩
theorem bq.weaken {J:Env} {fps:Nat->Nat->Prop} {res res':List aK} {w0 w:World} {F0:Nat->Prop} (h:bq J fps res (known res) w0 F0 w)
  (hk:∀i,known res' i->known res i/\∀fp,(ay res i).holds (known res) J i fp w0 F0 w->(ay res' i).holds (known res') J i fp w0 F0 w):bq J fps res' (known res') w0 F0 w:=
 ⟨fun i hi=>hi,h.old,h.os,h.tape,h.output,fun i hi=>(hk i hi).2 _ (h.holds i (hk i hi).1),fun i b hi=>h.lt i b (hk i hi).1,fun i j b hi hj=>h.disj i j b (hk i hi).1 (hk j hj).1,fun i b hi=>h.inF i b (hk i hi).1,h.same⟩
theorem uP {K K':Nat->Prop} {J:Env} {i:Nat} {fp:Nat->Prop} {w0 w:World} {F0:Nat->Prop} {own:Option Nat} {e:Nat} {l:TL} (h:(aK.arr own e l).holds K J i fp w0 F0 w):(aK.arr none e l).holds K' J i fp w0 F0 w:=by
 obtain⟨h1,h2,h3,h4,h5,h6,h7⟩:=h;refine⟨h1,h2,h3,h4,h5,h6,?_⟩;rcases h7 with⟨e,h7⟩|⟨e,e1,e2⟩
 ·exact .inl ⟨rfl,h7⟩
 ·exact .inr ⟨e,by simp,e2⟩
theorem an.ZS {f:Nat} {args:List V} {K KP:V->List aK->Prop} {own:Option Nat} {e:Nat} {l:TL} (h:an P f args [.ro (.arr none e l)] K KP):an P f args [.ro (.arr own e l)] K KP:=by
 have hk:∀i (own:Option Nat),known [.ro (.arr own e l)] i↔i=0:=fun i own=>by
  unfold known;cases i with
  |zero=>simp[ay]
  |succ i=>simp[ay]
 refine h.tF fun J fps w0 F0 w hH=>⟨J,fps,hH.weaken fun i hi=>?_,Env.bE.refl _ _,fun i hi=>(hk i _).2 ((hk i _).1 hi)⟩
 have:=(hk i _).1 hi;subst this;refine⟨(hk 0 _).2 rfl,fun fp hh=>?_⟩
 obtain⟨fp',g1,g2⟩:=hh;exact⟨fp',uP g1,g2⟩
theorem an.MX {f:Nat} {rest:List V} {res:List aK} {K KP:V->List aK->Prop} {t e k esz:Nat} {own:Option Nat} {l:TL} {M:List Obj} {F:Nat->V} (hr:cH res k= .arr own esz l) (hid:lf rest=true)
  (h:an P f (.sa 0::rest) [.ro (.arr own esz l)] (fun v r=>∃j,1<=j/\ay r j= .store t e M/\(∀(κ:Nat->Option Nat) (i:Nat),κ j=some i->jT κ v (F i))) (fun _ _=>False)) (hK:K (F res.length) (res++ [.store t e M])):an P f (.sa k::rest) res K KP:=by
 have hk:=dV hr (by simp)
 have hlt:=aO hk;refine an.frame (pl:= [(k,false)]) (args0:= .sa 0::rest) (K0:=fun v r=>∃j,1<=j/\ay r j= .store t e M/\(∀(κ:Nat->Option Nat) (i:Nat),κ j=some i->jT κ v (F i))) (KP0:=fun _ _=>False) (by simp[eI,cC.2 hk]) (by simpa[iD,dB,nN]using hlt) ?_ ?_ (fun v r hv=>?_) (fun _ _ h=>h.elim)
 ·simp only[eJ,fS,kX,idxOf,dB];rw[js rest hid];simp
 ·have:eY (kX 0 (dB [(k,false)])) res [(k,false)]= [.ro (.arr own esz l)]:=by simp[eY,hr,gp]
  rw[this];exact h
 ·obtain⟨j,hj1,hj,hv⟩:=hv;have hjl:j<r.length:=aO (by rw[hj];simp)
  have hm:merge [(k,false)] [j] r res=res++ [.store t e M]:=by simp[merge,eZ,fZ,hj,gp]
  refine⟨[j],F res.length,by simpa[iD,nN]using⟨hj1,hjl⟩,by simp[jO],by simp[m9,hj,jF],hv _ _ ?_,by rw[hm];exact hK⟩
  obtain⟨m,rfl⟩:∃m,j=m+1:=⟨j-1,by omega⟩
  simp[back,vF,idxOf]
theorem an.Zb {f:Nat} {rest:List V} {res:List aK} {K KP:V->List aK->Prop} {k esz:Nat} {own:Option Nat} {l:TL} {x:V} (hr:cH res k= .arr own esz l) (hid:lf rest=true) (hx:ke x=true)
  (h:an P f (.sa 0::rest) [.ro (.arr own esz l)] (fun v _=>xa x v []) (fun _ _=>False)) (hK:K x res):an P f (.sa k::rest) res K KP:=by
 have hk:=dV hr (by simp)
 have hlt:=aO hk;refine an.frame (pl:= [(k,false)]) (args0:= .sa 0::rest) (K0:=fun v _=>xa x v []) (KP0:=fun _ _=>False) (by simp[eI,cC.2 hk]) (by simpa[iD,dB,nN]using hlt) ?_ ?_ (fun v r hv=>?_) (fun _ _ h=>h.elim)
 ·simp only[eJ,fS,kX,idxOf,dB];rw[js rest hid];simp
 ·have:eY (kX 0 (dB [(k,false)])) res [(k,false)]= [.ro (.arr own esz l)]:=by simp[eY,hr,gp]
  rw[this];exact h
 ·have hm:merge [(k,false)] [] r res=res:=by simp[merge,eZ,fZ]
  exact⟨[],x,rfl,by simp[jO],rfl,jT.ke hv hx,by rw[hm];exact hK⟩
theorem tT (κ2:Nat->Option Nat) (r':List aK):∀(l:List (Nat×Bool)) (i:Nat) (res:List aK),(∀p∈l,p.2=false)->eZ κ2 r' i l res=res
 | [],_,_,_=>rfl
 | (p,o)::l,i,res,h=>by
   simp_all[eZ,tT]
theorem v9 (r':List aK):∀(l:List (Nat×Bool)) (i:Nat),(∀p∈l,p.2=false)->jO r' i l=true
 | [],_,_=>rfl
 | (p,o)::l,i,h=>by
   simp_all[jO,v9]
theorem sk:∀(l:List (Nat×Bool)) (j:Nat),l.length<=j->vF l j=none
 | [],_,_=>rfl
 | (p,o)::l,0,h=>by simp at h
 | (p,o)::l,j+1,h=>by simp only[vF];exact sk l j (by simpa using h)
theorem an.Zj {f:Nat} {args args0:List V} {res:List aK} {K KP:V->List aK->Prop} {pl:List (Nat×Bool)} {new:aK} {F:Nat->V} (hk:eI res pl=true) (hnd:iD 0 res.length (dB pl)=true) (hro:∀p∈pl,p.2=false)
  (ha:eJ (kX 0 (dB pl)) args=some args0) (hnew:jF new=true) (hne:new≠ .yet) (hren:∀κ,gp κ new=new)
  (h:an P f args0 (eY (kX 0 (dB pl)) res pl) (fun v r=>∃j,pl.length<=j/\ay r j=new/\(∀(κ:Nat->Option Nat) (i:Nat),κ j=some i->jT κ v (F i))) (fun _ _=>False))
  (hK:K (F res.length) (res++ [new])):an P f args res K KP:=by
 refine an.frame hk hnd ha h (fun v r hv=>?_) (fun _ _ h=>h.elim)
 obtain⟨j,hj1,hj,hv⟩:=hv;have hjl:j<r.length:=aO (by rw[hj];exact hne)
 have hm:merge pl [j] r res=res++ [new]:=by simp[merge,tT _ _ pl 0 res hro,fZ,hj,hren]
 refine⟨[j],F res.length,by simpa[iD,nN]using⟨hj1,hjl⟩,v9 _ _ _ hro,by simp[m9,hj,hnew],hv _ _ ?_,by rw[hm];exact hK⟩
 simp[back,sk pl j hj1,idxOf]
theorem an.WA {f:Nat} {args args0:List V} {res:List aK} {K KP:V->List aK->Prop} {pl:List (Nat×Bool)} {x:V} (hk:eI res pl=true) (hnd:iD 0 res.length (dB pl)=true) (hro:∀p∈pl,p.2=false)
  (ha:eJ (kX 0 (dB pl)) args=some args0) (hx:ke x=true)
  (h:an P f args0 (eY (kX 0 (dB pl)) res pl) (fun v _=>xa x v []) (fun _ _=>False)) (hK:K x res):an P f args res K KP:=by
 refine an.frame hk hnd ha h (fun v r hv=>?_) (fun _ _ h=>h.elim)
 have hm:merge pl [] r res=res:=by simp[merge,tT _ _ pl 0 res hro,fZ]
 exact⟨[],x,rfl,v9 _ _ _ hro,rfl,jT.ke hv hx,by rw[hm];exact hK⟩
theorem BV {r:List aK} {k t e j:Nat} {L:List Obj} (h:E8 r k=some (t,e,j,L)):∃r',uD r k=some r'/\ay r' k= .store t e L:=by
 grind[uD,E8,aO,bK,cE]
def Fy (r:List aK) (k:Nat):Option (Nat×Nat×List Obj):=
 match ay r k with
 | .store t e L=>some (t,e,L)
 |_=>match E8 r k with
  |some (t,e,_,L)=>some (t,e,L)
  |none=>none
theorem Fu {r:List aK} {k t e:Nat} {L:List Obj} (h:Fy r k=some (t,e,L)):ay r k= .store t e L\/∃r',uD r k=some r'/\ay r' k= .store t e L:=by
 grind[Fy,BV]
theorem Ta {a b c:V} (h:xa c b []):xa (.tp [a,c]) (.tp [a,b]) []:=fun J K=>by
 obtain⟨s1,s2,_⟩:=h J K;exact⟨by simp only[den,bB,s1],fun hk=>⟨hk.1,s2 hk.2.1,trivial⟩,rfl⟩
theorem an.Uk {f:Nat} {args:List V} {res:List aK} {K KP:V->List aK->Prop} {t e:Nat} {M:List Obj} {F:Nat->V} (hid:lf args=true)
  (h:an P f args [] (fun v r=>∃j,ay r j= .store t e M/\(∀(κ:Nat->Option Nat) (i:Nat),κ j=some i->jT κ v (F i))) (fun _ _=>False)) (hK:K (F res.length) (res++ [.store t e M])):an P f args res K KP:=by
 refine an.frame (pl:= []) (args0:=args) (K0:=fun v r=>∃j,ay r j= .store t e M/\(∀(κ:Nat->Option Nat) (i:Nat),κ j=some i->jT κ v (F i))) (KP0:=fun _ _=>False) rfl rfl (js args hid) h (fun v r hv=>?_) (fun _ _ h=>h.elim)
 obtain⟨j,hj,hv⟩:=hv;have hlt:j<r.length:=aO (by rw[hj];simp)
 have hm:merge [] [j] r res=res++ [.store t e M]:=by simp[merge,eZ,fZ,hj,gp]
 exact⟨[j],F res.length,by simpa[iD,nN]using hlt,rfl,by simp[m9,hj,jF],hv _ _ (by simp[back,vF,idxOf]),by rw[hm];exact hK⟩
end
def YR (v:V):Option Nat:=
 match v with
 | .sa j=>some j
 | .ag l=>match l with
   | [x]=>match x with
     | .sa j=>some j
     |_=>none
   |_=>none
 |_=>none
def aaF (c:Nat) (U:St):Option (List Nat):=
 match ay U.res c with
 | .blk _ x=>match YR x with
   |some j=>match ay U.res j with
    | .obs _ q _=>some [j,q]
    |_=>some [j]
   |none=>some []
 |_=>some []
def YD (jH:List Nat) (set:Int->List (Nat×V)) (k:Nat) (R:Int->aK) (inv:Int->Prop) (m:Int):dv:=
 {γ:=Int,head:=fun U g=> {U with slots:=H8 jH (set g) 0 U.slots,res:=bO U.res k (R g)},inv:=inv,μ:=fun g=>pH (sU m g)}
def Ht:List (Nat×aK)->List aK->List aK
 | [],r=>r
 | (k,x)::l,r=>Ht l (bO r k x)
def lpT {γ:Type} (jH:List Nat) (set:γ->List (Nat×V)) (rs:γ->List (Nat×aK)) (inv:γ->Prop) (μ:γ->Nat):dv:=
 {γ:=γ,head:=fun U g=> {U with slots:=H8 jH (set g) 0 U.slots,res:=Ht (rs g) U.res},inv:=inv,μ:=μ}
def TL.emp:TL->TL
 | .ob _=> .ob []
 | .key _=> .key []
 | .it k _=> .it k []
 | .bo _=> .bo []
 | .st _=> .st []
 | .fn n g=> .fn n g
def Zc (t:Nat) (U:St):Option (List Nat):=
 match b9 U.slots t with
 | .v x=>match YR x with
   |some j=>some [j]
   |none=>some []
 |_=>some []
def lpS (jH:List Nat) (set:Int->List (Nat×V)) (t e esz:Nat) (L:Int->TL) (inv:Int->Prop) (m:Int):dv:=
 {γ:=Int,head:=fun U g=> {U with slots:=H8 jH ((t,.sa U.res.length)::set g) 0 U.slots,res:=U.res++ [.arr (some e) esz (L g)]},
  inv:=inv,μ:=fun g=>pH (sU m g),pre:= [.sl t e esz (TL.emp (L 0))],ext:=Zc t}
def ZA (jH:List Nat) (set:Int->List (Nat×V)) (t e esz:Nat) (L:Int->TL) (inv inv2:Int->Prop) (m:Int):dv:=
 {γ:=Int,head:=fun U g=> {U with slots:=H8 jH (set g) 0 U.slots},inv:=inv,μ:=fun g=>pH (sU m g),m2:=true,
  head2:=fun U g=> {U with slots:=H8 jH ((t,.sa U.res.length)::set g) 0 U.slots,res:=U.res++ [.arr (some e) esz (L g)]},inv2:=inv2,ext2:=Zc t}
def MO (n:Nat):dv:= {γ:=Unit,head:=fun U _=>U,inv:=fun _=>True,μ:=fun _=>0,unr:=some n}
def lpV (jH:List Nat) (set:Int->List (Nat×V)) (c ty e esz:Nat) (L:Int->TL) (inv:Int->Prop) (m:Int):dv:=
 {γ:=Int,head:=fun U g=> {U with slots:=H8 jH (set g) 0 U.slots,res:=bO U.res c (.blk ty (.sa U.res.length))++ [.arr (some e) esz (L g)]},
  inv:=inv,μ:=fun g=>pH (sU m g),pre:= [.bv c e esz (TL.emp (L 0))],ext:=aaF c}
def YK {γ:Type} (jH:List Nat) (set:γ->List (Nat×V)) (t:Nat) (R:γ->aK) (inv:γ->Prop) (μ:γ->Nat):dv:=
 {γ:=γ,head:=fun U g=>match b9 U.slots t with
   | .v x=>match x with
     | .lp k _=> {U with slots:=H8 jH (set g) 0 U.slots,res:=bO U.res k (R g)}
     |_=>U
   |_=>U,inv:=inv,μ:=μ}
def H4 (sl:List S):List (Nat×aK)->List aK->List aK
 | [],r=>r
 | (t,x)::l,r=>match b9 sl t with
   | .v y=>match y with
     | .lp k _=>H4 sl l (bO r k x)
     |_=>H4 sl l r
   |_=>H4 sl l r
mutual
def UM:V->List Nat
 | .lp i _=> [i]
 | .lx i _ _ _ _ _=> [i]
 | .sc i _ _=> [i]
 | .so i _=> [i]
 | .ap i _ _ _=> [i]
 | .ax i _ _ _ _ _ _ _=> [i]
 | .sa i=> [i]
 | .op i _=> [i]
 | .yl i=> [i]
 | .bs x _ _=>UM x
 | .ks x _ _ _ _=>UM x
 | .fn _ l=>WE l
 | .ic _ x=>UM x
 | .ag l=>WE l
 | .tp l=>WE l
 | .ch _ _ l y=>WE l++UM y
 |_=> []
def WE:List V->List Nat
 | []=> []
 |x::l=>UM x++WE l
end
def plR:aK->List Nat
 | .blk _ c=>UM c
 | .ro r=>match r with
   | .blk _ c=>UM c
   |_=> []
 |_=> []
def plS:List S->List Nat
 | []=> []
 |x::l=>(match x with| .v y=>UM y|_=> [])++plS l
def plD:List (Nat×List V×List V)->List Nat
 | []=> []
 |x::l=>WE x.2.1++WE x.2.2++plD l
def plN (res:List aK):Nat->List Nat->List Nat
 |0,l=>l
 |n+1,l=>plN res n (l.foldr (fun i m=>(plR (ay res i)).foldr (fun j k=>if Zu k j then k else j::k) m) l)
def gcR (l:List Nat):Nat->List aK->List aK
 |_,[]=> []
 |i,x::r=>(match x with| .mp _ _ _=> .gone| .mq _ _=> .gone| .blk t c=>if Zu l i then .blk t c else .gone| .ro y=>(match y with| .blk t c=>if Zu l i then .ro (.blk t c)else .gone|y=> .ro y)|x=>x)::gcR l (i+1) r
def gcS (U:St):St:= {U with res:=gcR (plN U.res 4 (plS U.slots++plD U.defs)) 0 U.res}
def QJ {γ:Type} (jH:List Nat) (set:γ->List (Nat×V)) (bl:γ->List (Nat×aK)) (rs:γ->List (Nat×aK)) (inv:γ->Prop):dv:=
 {γ:=γ,head:=fun U g=>gcS {U with slots:=H8 jH (set g) 0 U.slots,res:=Ht (rs g) (H4 U.slots (bl g) U.res)},inv:=inv,μ:=fun _=>0}
def lpB (jH:List Nat) (set:Int->List (Nat×V)) (c t e:Nat) (L:Int->List Obj) (inv:Int->Prop) (m:Int):dv:=
 {γ:=Int,head:=fun U g=> {U with slots:=H8 jH (set g) 0 U.slots,res:=bO U.res c (.blk t (.ag [.sa U.res.length]))++ [.obs e (U.res.length+1) (L g),.gen U.res.length]},
  inv:=inv,μ:=fun g=>pH (sU m g),pre:= [.bl c e],ext:=aaF c}
end Go.Sx
namespace Go.Proofs.YtlblcfaclmpekaaGreat
open Go.Sx
noncomputable def U3 (l:List (Nat×Ct)) (hl:List (Nat×kc)) (inl:Nat->Bool) (ann:Nat->Nat->Option dv):RP:= {P:=Tryz.prog,Z:=zeroOf,Γ:=pI l,H0:=Eu hl,inl:=inl,ann:=ann,opn:=Lw inl}
theorem BW {l:List (Nat×Ct)} {hl:List (Nat×kc)} {inl:Nat->Bool} {ann:Nat->Nat->Option dv} (h:∀p∈l,cq Tryz.prog p.1 p.2):(U3 l hl inl ann).toCtx.Sound:=
 ⟨zL pC,Tryz.checked.mixed,fun f g hg=>ng h f g hg,fun f ts te h=>by simp[U3]at h⟩
abbrev vch (l:List (Nat×Ct)) (hl:List (Nat×kc)) (inl:Nat->Bool) (ann:Nat->Nat->Option dv) (f:Nat) (args:List V) (res:List aK) (K KP:V->List aK->Prop):Prop:=
 enter (U3 l hl inl ann).toCtx (exec (U3 l hl inl ann) 100 ⟨false,none⟩) (exec (U3 l hl inl ann) 100 ⟨false,none⟩ f) f args res K KP
set_option maxRecDepth 100000 in
theorem bj {l:List (Nat×Ct)} {hl:List (Nat×kc)} {inl:Nat->Bool} {ann:Nat->Nat->Option dv} (h:∀p∈l,cq Tryz.prog p.1 p.2) (hh:∀p∈hl,kL Tryz.prog p.1 p.2) {f:Nat} {args:List V} {res:List aK}
  {K KP:V->List aK->Prop} {G:Prop} (hG:G) (he:G=vch l hl inl ann f args res K KP):an Tryz.prog f args res K KP:=
 Dg (C:=U3 l hl inl ann) (n:=100) (BW h) (zU hh) (Eq.mp he hG)
def Fh:List (Nat×Nat×Nat)->Nat->Option (Nat×Nat)
 | [],_=>none
 | (g,ts,te)::l,f=>if f==g then some (ts,te)else Fh l f
theorem E0 {P:Program}:∀{l:List (Nat×Nat×Nat)},(∀p∈l,wF P p.1 p.2.1 p.2.2)->∀f ts te,Fh l f=some (ts,te)->wF P f ts te
 | [],_,f,ts,te,h=>by simp[Fh]at h
 | (g,a,b)::l,hl,f,ts,te,h=>by
   simp only[Fh]at h;split at h
   ·simp_all
   ·exact E0 (fun p hp=>hl p (by simp[hp])) f ts te h
noncomputable def Yy (l:List (Nat×Ct)) (hl:List (Nat×kc)) (dl:List (Nat×Nat×Nat)) (inl:Nat->Bool) (ann:Nat->Nat->Option dv):RP:= {P:=Tryz.prog,Z:=zeroOf,Γ:=pI l,D:=Fh dl,H0:=Eu hl,inl:=inl,ann:=ann,opn:=Lw inl}
abbrev vcd (l:List (Nat×Ct)) (hl:List (Nat×kc)) (dl:List (Nat×Nat×Nat)) (inl:Nat->Bool) (ann:Nat->Nat->Option dv) (f:Nat) (args:List V) (res:List aK) (K KP:V->List aK->Prop):Prop:=
 enter (Yy l hl dl inl ann).toCtx (exec (Yy l hl dl inl ann) 100 ⟨false,none⟩) (exec (Yy l hl dl inl ann) 100 ⟨false,none⟩ f) f args res K KP
set_option maxRecDepth 100000 in
theorem aY {l:List (Nat×Ct)} {hl:List (Nat×kc)} {dl:List (Nat×Nat×Nat)} {inl:Nat->Bool} {ann:Nat->Nat->Option dv} (h:∀p∈l,cq Tryz.prog p.1 p.2) (hh:∀p∈hl,kL Tryz.prog p.1 p.2) (hd:∀p∈dl,wF Tryz.prog p.1 p.2.1 p.2.2) {f:Nat} {args:List V} {res:List aK}
  {K KP:V->List aK->Prop} {G:Prop} (hG:G) (he:G=vcd l hl dl inl ann f args res K KP):an Tryz.prog f args res K KP:=
 Dg (C:=Yy l hl dl inl ann) (n:=100) ⟨zL pC,Tryz.checked.mixed,fun f g hg=>ng h f g hg,E0 hd⟩ (zU hh) (Eq.mp he hG)
end Go.Proofs.YtlblcfaclmpekaaGreat
namespace Go.Sx
open Go.RowKit (Below)
def ME (κ:Nat->Option Nat) (r:List aK):List Nat->Option (List aK)
 | []=>some []
 |p::l=>if kQ r p&&jF (ay r p)then match ME κ r l with
   |some m=>some (gp κ (ay r p)::m)
   |none=>none
  else none
def xn (π:List Nat) (x:Nat->V) (new:Nat->List aK) (v:V) (r:List aK):Prop:=
 ∀nid,fS (idxOf π nid) v=some (x nid)/\ME (idxOf π nid) r π=some (new nid)
def A8 (x:Nat->V) (new:Nat->List aK):Ct:=fun _ nid args=>match args with
 | []=>some (none,x nid,new nid)
 |_=>none
def Yw:List aK->Bool
 | []=>true
 |r::l=>match r with
  | .yet=>false
  |_=>Yw l
theorem vI:∀{l:List aK},Yw l=true->∀k,k<l.length->ay l k≠ .yet
 | [],_,k,hk=>by simp at hk
 |r::l,h,k,hk=>by
  simp only[Yw]at h;split at h
  ·simp at h
  ·rename_i hr;cases k with
   |zero=>exact hr
   |succ k=>exact vI h k (by simpa using hk)
theorem wb {κ:Nat->Option Nat} {r:List aK}:∀{π:List Nat} {new:List aK},ME κ r π=some new->new.length=π.length/\
  ∀(k p:Nat),π[k]? =some p->known r p/\jF (ay r p)=true/\ay new k=gp κ (ay r p)
 | [],new,h=>by simp only[ME,aa0]at h;subst h;exact⟨rfl,fun k p h=>by simp at h⟩
 |q::π,new,h=>by
  simp only[ME]at h;split at h
  ·rename_i hc;simp only[aa2]at hc;split at h<;>simp only[aa0,reduceCtorEq]at h
   rename_i m hm;subst h;obtain⟨a,b⟩:=wb hm;refine⟨by simp[a],fun k p hk=>?_⟩
   cases k with
   |zero=>simp at hk;subst hk;exact⟨cC.1 hc.1,hc.2,rfl⟩
   |succ k=>exact b k p (by simpa using hk)
  ·simp at h
theorem u5 {P:Program} {f:Nat} {π:List Nat} {x:Nat->V} {new:Nat->List aK} (hnd:π.Nodup) (hy:∀nid,Yw (new nid)=true) (h:an P f [] [] (xn π x new) (fun _ _=>False)):cq P f (A8 x new):=by
 intro J fps res K w0 F0 w nid args q y new' hH hargs hg hq hfr;unfold A8 at hg;split at hg<;>simp only[aa0,aa1,reduceCtorEq]at hg
 obtain⟨_,rfl,rfl⟩:=hg
 have hE:bq J (fun _ _=>False) [] (known []) w (fun _=>False) w:=
  ⟨fun i hi=>hi,Nat.le_refl _,rfl,rfl,rfl,fun i hi=>by simp[known,ay]at hi,fun i b hi=>by simp[known,ay]at hi,fun i j b hi=>by simp[known,ay]at hi,fun i b hi=>by simp[known,ay]at hi,fun _ _ _=>rfl⟩
 have hc:=h J _ w (fun _=>False) w hE trivial
 refine⟨?_,?_⟩
 ·refine hc.mono fun e w' ⟨v,ρ1,fps1,r,g1,g2,g3,g4⟩=>?_
  rcases g4 with⟨rfl,hN⟩|⟨_,hF⟩
  ·obtain⟨n1,n2⟩:=hN nid;obtain⟨l1,l2⟩:=wb n2;refine⟨_,rfl,?_⟩
   let ρ':Env:=⟨fun i=>if i<nid then J.num i else if i<nid+π.length then ρ1.num (π.getD (i-nid) 0)else J.num i,fun i=>if i<nid then J.cap i else if i<nid+π.length then ρ1.cap (π.getD (i-nid) 0)else J.cap i,
    fun i=>if i<nid then J.adr i else if i<nid+π.length then ρ1.adr (π.getD (i-nid) 0)else J.adr i,fun i=>if i<nid then J.sa i else if i<nid+π.length then ρ1.sa (π.getD (i-nid) 0)else J.sa i,
    fun i=>if i<nid then J.sn i else if i<nid+π.length then ρ1.sn (π.getD (i-nid) 0)else J.sn i,fun i=>if i<nid then J.ob i else if i<nid+π.length then ρ1.ob (π.getD (i-nid) 0)else J.ob i⟩
   have hvia:Env.via (idxOf π nid) ρ1 ρ':=by
    intro p i hp;obtain⟨a1,a2,a3⟩:=jd hp;have:π.getD (i-nid) 0=p:=by simp[aa7,a3]
    simp[ρ',aa8 (show¬i<nid by omega),aa9 a2,a3]
   have hat:∀k,k<(new nid).length->∃p,π[k]? =some p/\idxOf π nid p=some (nid+k):=fun k hk=>by
    have hk':k<π.length:=by omega
    exact⟨π[k],by simp[hk'],nX π nid k hnd (by simp[hk'])⟩
   have hNN:∀p i,idxOf π nid p=some i->known r p->K i\/fresh nid (new nid).length i:=fun p i hp _=>by
    obtain⟨a1,a2,a3⟩:=jd hp;exact .inr ⟨a1,by omega⟩
   refine⟨ρ',⟨⟨g1.os,g1.tape,g1.output,g1.old,fun b hb=>g1.same b hb (by simp)⟩,fun i hi=>?_,fun k=>fps1 (π.getD k 0),fun k hk=>?_,fun k l b hk hl hne=>?_⟩,?_,?_⟩
   ·grind
   ·obtain⟨p,p1,p2⟩:=hat k hk;obtain⟨m1,m2,m3⟩:=l2 k p p1;have hgd:π.getD k 0=p:=by simp[aa7,p1]
    simp only[hgd];refine⟨?_,fun b hb=>⟨?_,g1.lt p b m1 hb⟩⟩
    ·rw[m3];exact iO hvia hNN p2 _ _ _ (lU m2 (g1.holds p m1))
    ·refine Nat.le_of_not_lt fun hlt=>?_
     exact g1.inF p b m1 hb hlt
   ·obtain⟨p,p1,p2⟩:=hat k hk;obtain⟨p',p1',p2'⟩:=hat l hl;have hgd:π.getD k 0=p:=by simp[aa7,p1]
    have hgd':π.getD l 0=p':=by simp[aa7,p1']
    simp only[hgd,hgd']
    have hpp:p≠p':=by
     grind
    exact g1.disj p p' b (l2 k p p1).1 (l2 l p' p1').1 hpp
   ·exact(kW hvia hNN _ _ n1).1.symm
   ·exact(kW hvia hNN _ _ n1).2.1 g3
  ·exact hF.elim
 ·intro k hk;exact vI (hy nid) k hk
structure Arg (α:Type) where
 rd:List aK->V->Option (List (Nat×aK)×α)
 cn:α->Nat->V
 pl:α->List aK
structure ld (α:Type) where
 rd:List aK->List V->Option (List (Nat×aK)×α)
 cn:α->Nat->List V
 pl:α->List aK
def mT {α:Type} (A:Arg α):Prop:=∀res v pls a,A.rd res v=some (pls,a)->pls.map (·.2)=A.pl a/\(∀p∈pls,o0 res p.1 p.2/\su p.2=true)/\cS (A.cn a 0)=cS v/\(∀n,cS (A.cn a n)=cS (A.cn a 0))/\
 ∀(pre post:List (Nat×aK)),(∀J K,ok K v->den (J.pull (qB (pre++(pls++post)))) (A.cn a pre.length)=den J v)/\∀K,ok K v->ok (known (sW (pre++(pls++post)))) (A.cn a pre.length)
def gS {α:Type} (A:ld α):Prop:=∀res l pls a,A.rd res l=some (pls,a)->pls.map (·.2)=A.pl a/\(∀p∈pls,o0 res p.1 p.2/\su p.2=true)/\(tg l->∀n,tg (A.cn a n))/\
 ∀(pre post:List (Nat×aK)),(∀J K,fM K l->bB (J.pull (qB (pre++(pls++post)))) (A.cn a pre.length)=bB J l/\bp (J.pull (qB (pre++(pls++post)))) (A.cn a pre.length)=bp J l)/\∀K,fM K l->fM (known (sW (pre++(pls++post)))) (A.cn a pre.length)
def gK:ld Unit:=⟨fun _ l=>match l with| []=>some ([],())|_=>none,fun _ _=> [],fun _=> []⟩
def bc {α β:Type} (A:Arg α) (B:ld β):ld (α×β):=
 ⟨fun res l=>match l with
  |v::l=>match A.rd res v with
   |some (p,a)=>match B.rd res l with
    |some (q,b)=>some (p++q,(a,b))
    |none=>none
   |none=>none
  | []=>none,fun x n=>A.cn x.1 n::B.cn x.2 (n+(A.pl x.1).length),fun x=>A.pl x.1++B.pl x.2⟩
def D3 {α:Type} (r:V->Option α) (m:α->V):Arg α:=⟨fun _ v=>match r v with|some x=>some ([],x)|none=>none,fun x _=>m x,fun _=> []⟩
def stA (t e:Nat):Arg (Option (List Obj)):=
 ⟨fun res v=>match rS t e res v with
  |some (o,L)=>match o with
   |none=>some ([],none)
   |some k=>some ([(k,.store t e L)],some L)
  |none=>none,fun o n=>match o with|none=>jJ|some _=> .lp n 0,fun o=>match o with|none=> []|some L=> [.store t e L]⟩
def As:Arg (List Obj):=
 ⟨fun res v=>match rA res v with
  |some (k,L)=>some ([(k,.arr none 163 (.ob L))],L)
  |none=>none,fun _ n=> .sa n,fun L=> [.arr none 163 (.ob L)]⟩
def laA {α:Type} (esz:Nat) (r:TL->Option α) (m:α->TL):Arg α:=
 ⟨fun res v=>match v with
  | .sa k=>match cH res k with
    | .arr _ e l=>if e==esz then match r l with
      |some x=>some ([(k,.arr none esz (m x))],x)
      |none=>none
      else none
    |_=>none
  |_=>none,fun _ n=> .sa n,fun x=> [.arr none esz (m x)]⟩
def YG {α:Type} (B:ld α):Arg α:=
 ⟨fun res v=>match v with
  | .ag l=>B.rd res l
  |_=>none,fun x n=> .ag (B.cn x n),B.pl⟩
theorem zp {pre pls post:List (Nat×aK)} {k:Nat} {r:aK}:qB (pre++((k,r)::pls++post)) pre.length=k:=vJ _ _ (k,r) (by simp)
theorem wo {pre pls post:List (Nat×aK)} {k:Nat} {r:aK}:known (sW (pre++((k,r)::pls++post))) pre.length:=by
 unfold known;rw[xK];simp
theorem bV:gS gK:=by
 intro res l pls a h;simp only[gK]at h;split at h<;>simp only[aa0,aa1,reduceCtorEq]at h
 obtain⟨rfl,_⟩:=h;exact⟨rfl,by simp,fun _ _=>trivial,fun pre post=>⟨fun _ _ _=>⟨rfl,rfl⟩,fun _ _=>trivial⟩⟩
theorem aA {α β:Type} {A:Arg α} {B:ld β} (hA:mT A) (hB:gS B):gS (bc A B):=by
 intro res l pls x h;simp only[bc]at h;split at h
 case h_2=>simp at h
 rename_i v l;split at h
 case h_2=>simp at h
 rename_i p a ha;split at h
 case h_2=>simp at h
 rename_i q b hb;simp only[aa0,aa1]at h;obtain⟨rfl,rfl⟩:=h;obtain⟨a1,a2,a3,a3',a4⟩:=hA _ _ _ _ ha;obtain⟨b1,b2,b3,b4⟩:=hB _ _ _ _ hb;refine⟨by simp[bc,a1,b1],fun p' hp'=>?_,fun hc n=>?_,fun pre post=>?_⟩
 ·grind
 ·grind[eF,bc]
 ·have hlen:(A.pl a).length=p.length:=by rw[<-a1];simp
  obtain⟨c1,c2⟩:=a4 pre (q++post);obtain⟨d1,d2⟩:=b4 (pre++p) post;have e1:pre++(p++q++post)=pre++(p++(q++post)):=by simp
  have e2:(pre++p)++(q++post)=pre++(p++(q++post)):=by simp
  have e3:(pre++p).length=pre.length+(A.pl a).length:=by simp[hlen]
  rw[e2,e3]at d1 d2;rw[e1];refine⟨fun J K hK=>?_,fun K hK=>?_⟩
  ·obtain⟨f1,f2⟩:=d1 J K hK.2;have f3:=c1 J K hK.1;simp only[bc];exact⟨by simp only[bB];rw[f3,f1],by simp only[bp];rw[f3,f2]⟩
  ·exact⟨c2 K hK.1,d2 K hK.2⟩
theorem sC {α:Type} {r:V->Option α} {m:α->V} (hr:sV r m) (hid:∀x,ke (m x)=true) (ht:∀v x,r v=some x->cS v=cS (m x)):mT (D3 r m):=by
 intro res v pls a h;simp only[D3]at h;split at h<;>simp only[aa0,aa1,reduceCtorEq]at h
 rename_i x hx;obtain⟨rfl,rfl⟩:=h;obtain⟨b1,b2⟩:=hr _ x hx;refine⟨rfl,by simp,(ht v x hx).symm,fun _=>rfl,fun pre post=>⟨fun J K hK=>?_,fun K hK=>fP (b2 K hK)⟩⟩
 show den _ (m x)=_
 rw[b1 J];exact p9 (hid x) (b2 K hK) J _
theorem Yd (t e:Nat):mT (stA t e):=by
 intro res v pls a h;simp only[stA]at h;split at h
 case h_2=>simp at h
 rename_i o L hs;rcases u9 hs with⟨rfl,rfl,rfl⟩|⟨k,rfl,rfl,hse⟩<;>simp only[aa0,aa1]at h<;>obtain⟨rfl,rfl⟩:=h
 ·exact⟨rfl,by simp,rfl,fun _=>rfl,fun pre post=>⟨fun _ _ _=>rfl,fun _ _=>rfl⟩⟩
 ·refine⟨rfl,by simpa using⟨hse,rfl⟩,rfl,fun _=>rfl,fun pre post=>⟨fun J K hK=>?_,fun K hK=>wo (pls:= [])⟩⟩
  simp only[stA,den,Env.pull];rw[zp (pls:= [])]
theorem jb:mT As:=by
 intro res v pls a h;simp only[As]at h;split at h<;>simp only[aa0,aa1,reduceCtorEq]at h
 rename_i k L hs;obtain⟨rfl,rfl⟩:=h;obtain⟨rfl,hse,_⟩:=yn hs;refine⟨rfl,by simpa using⟨hse,rfl⟩,rfl,fun _=>rfl,fun pre post=>⟨fun J K hK=>?_,fun K hK=>wo (pls:= [])⟩⟩
 simp only[As,den,Env.pull];rw[zp (pls:= [])]
theorem Xe {α:Type} {esz:Nat} {r:TL->Option α} {m:α->TL} (hr:∀l x,r l=some x->l=m x):mT (laA esz r m):=by
 intro res v pls a h;simp only[laA]at h;split at h
 case h_2=>simp at h
 rename_i k;split at h
 case h_2=>simp at h
 rename_i own e l hl;split at h
 case isFalse=>simp at h
 rename_i he;have he:=aa4.1 he;subst he;split at h<;>simp only[aa0,aa1,reduceCtorEq]at h
 rename_i x hx;obtain⟨rfl,rfl⟩:=h;have:=hr _ _ hx;subst this;refine⟨rfl,by simpa using⟨o0.arr hl,rfl⟩,rfl,fun _=>rfl,fun pre post=>⟨fun J K hK=>?_,fun K hK=>wo (pls:= [])⟩⟩
 simp only[laA,den,Env.pull];rw[zp (pls:= [])]
theorem GQ {α:Type} {B:ld α} (hB:gS B):mT (YG B):=by
 intro res v pls a h;simp only[YG]at h;split at h
 case h_2=>simp at h
 rename_i l;obtain⟨b1,b2,b3,b4⟩:=hB _ _ _ _ h;refine⟨b1,b2,rfl,fun _=>rfl,fun pre post=>?_⟩
 obtain⟨c1,c2⟩:=b4 pre post;refine⟨fun J K hK=>?_,fun K hK=>⟨c2 K hK.1,b3 hK.2 _⟩⟩
 simp only[YG,den];rw[(c1 J K hK.1).2]
def ti {α:Type} (B:ld α) (Q:α->Option Prop) (F:α->V):Ct:=fun res _ xs=>match B.rd res xs with
 |some (_,a)=>some (Q a,F a,[])
 |none=>none
def nR (l:List aK):List aK:=l.map .ro
theorem GF (pls:List (Nat×aK)):sW pls=nR (pls.map (·.2)):=by
 induction pls with
 |nil=>rfl
 |cons p l ih=>obtain⟨p,r⟩:=p;simp[sW,nR,ih]
theorem eW {P:Program} {f:Nat} {α:Type} {B:ld α} {Q:α->Option Prop} {F:α->V} (hB:gS B) (hF:∀a,ke (F a)=true)
  (h:∀a,dX (Q a)->fM (known (nR (B.pl a))) (B.cn a 0)->an P f (B.cn a 0) (nR (B.pl a)) (oq (F a)) (fun _ _=>False)):cq P f (ti B Q F):=by
 refine se fun res nid args q x new hg=>?_
 unfold ti at hg;split at hg<;>simp only[aa0,aa1,reduceCtorEq]at hg
 rename_i pls a ha;obtain⟨rfl,rfl,rfl⟩:=hg;obtain⟨b1,b2,_,b4⟩:=hB _ _ _ _ ha;obtain⟨c1,c2⟩:=b4 [] [];simp only[List.nil_append,List.append_nil,List.length_nil]at c1 c2;refine⟨rfl,hF a,pls,B.cn a 0,b2,fun J K hK=>(c1 J K hK).1,c2,fun hq hok=>?_⟩
 rw[GF,b1]at hok⊢;exact(h a hq hok).mono (fun _ _=>dD) fun _ _ h=>h
def Xy {α:Type} (B:ld α) (Q:α->Option Prop) (x:α->Nat->V) (new:α->Nat->List aK):Ct:=fun res nid xs=>match B.rd res xs with
 |some (_,a)=>some (Q a,x a nid,new a nid)
 |none=>none
theorem It {J:Env} {fps:Nat->Nat->Prop} {res:List aK} {K:Nat->Prop} {w0 w:World} {F0:Nat->Prop} (hH:bq J fps res K w0 F0 w) {pls:List (Nat×aK)} (hcl:∀p∈pls,o0 res p.1 p.2/\su p.2=true):
  bq (J.pull (qB pls)) (fun _ _=>False) (sW pls) (known (sW pls)) w (fun _=>False) w:=by
 have hfr:∀b,b<w0.heap.size->¬F0 b->w.heap[b]? =w0.heap[b]? /\¬(fun _:Nat=>False) b:=fun b hb hF=>⟨hH.same b hb hF,fun h=>h⟩
 refine⟨fun i hi=>hi,Nat.le_refl _,rfl,rfl,rfl,fun i hi=>?_,fun i b hi h=>h.elim,fun i j b hi hj hne h=>h.elim,fun i b hi h=>h.elim,fun _ _ _=>rfl⟩
 have hlt:=aO hi;rw[uh]at hlt;have hp:pls[i]? =some pls[i]:=List.getElem?_eq_getElem hlt;generalize pls[i]=p at hp
 rw[xK,hp];simp only;obtain⟨hs,hcl⟩:=hcl p (List.mem_of_getElem? hp);obtain⟨fp,g1,g2⟩:=hs.2 J fps K w0 F0 w hH
 have hv:Env.via (fun x=>if x=p.1 then some i else none) J (J.pull (qB pls)):=qF fun x j hx=>by
  split at hx
  ·simp only[aa0]at hx;subst hx;rename_i e;subst e;exact vJ pls i p hp
  ·simp at hx
 have:=iO (N':=known (sW pls)) hv (fun x j hx _=>by
  split at hx
  ·simp only[aa0]at hx;subst hx;exact hi
  ·simp at hx) (p:=p.1) (i:=i) (by simp) _ _ _ (aK.tR hH.old hfr _ _ g1)
 rw[vh hcl]at this;refine⟨fp,this,fun b hb=>⟨?_,fun h=>h⟩⟩
 rcases g2 b hb with⟨j,hj,hf⟩|⟨hl,_⟩
 ·exact hH.lt j b hj hf
 ·exact Nat.lt_of_lt_of_le hl hH.old
theorem tx {J ρ1:Env} {K:Nat->Prop} {fps1:Nat->Nat->Prop} {r:List aK} {w0 w w':World} {F0:Nat->Prop} {nid:Nat} {π:List Nat} {x:Nat->V} {new:Nat->List aK} {v:V} (hnd:π.Nodup)
  (g1:bq ρ1 fps1 r (known r) w (fun _=>False) w') (g3:ok (known r) v) (hN:xn π x new v r):ru K J nid (x nid) (new nid) w0 F0 w (den ρ1 v) w':=by
 obtain⟨n1,n2⟩:=hN nid;obtain⟨l1,l2⟩:=wb n2
 let ρ':Env:=⟨fun i=>if i<nid then J.num i else if i<nid+π.length then ρ1.num (π.getD (i-nid) 0)else J.num i,fun i=>if i<nid then J.cap i else if i<nid+π.length then ρ1.cap (π.getD (i-nid) 0)else J.cap i,
  fun i=>if i<nid then J.adr i else if i<nid+π.length then ρ1.adr (π.getD (i-nid) 0)else J.adr i,fun i=>if i<nid then J.sa i else if i<nid+π.length then ρ1.sa (π.getD (i-nid) 0)else J.sa i,
  fun i=>if i<nid then J.sn i else if i<nid+π.length then ρ1.sn (π.getD (i-nid) 0)else J.sn i,fun i=>if i<nid then J.ob i else if i<nid+π.length then ρ1.ob (π.getD (i-nid) 0)else J.ob i⟩
 have hvia:Env.via (idxOf π nid) ρ1 ρ':=by
  intro p i hp;obtain⟨a1,a2,a3⟩:=jd hp;simp[ρ',aa8 (show¬i<nid by omega),aa9 a2,a3]
 have hat:∀k,k<(new nid).length->∃p,π[k]? =some p/\idxOf π nid p=some (nid+k):=fun k hk=>by
  have hk':k<π.length:=by omega
  exact⟨π[k],by simp[hk'],nX π nid k hnd (by simp[hk'])⟩
 have hNN:∀p i,idxOf π nid p=some i->known r p->K i\/fresh nid (new nid).length i:=fun p i hp _=>by
  obtain⟨a1,a2,a3⟩:=jd hp;exact .inr ⟨a1,by omega⟩
 refine⟨ρ',⟨⟨g1.os,g1.tape,g1.output,g1.old,fun b hb=>g1.same b hb (by simp)⟩,fun i hi=>?_,fun k=>fps1 (π.getD k 0),fun k hk=>?_,fun k l b hk hl hne=>?_⟩,?_,?_⟩
 ·have:¬(nid<=i/\i<nid+π.length):=fun⟨a,b⟩=>hi ⟨a,by omega⟩
  by_cases hlt:i<nid
  ·simp[ρ',aa9 hlt]
  ·simp[ρ',aa8 hlt,aa8 (show¬i<nid+π.length by omega)]
 ·obtain⟨p,p1,p2⟩:=hat k hk;obtain⟨m1,m2,m3⟩:=l2 k p p1;have hgd:π.getD k 0=p:=by simp[aa7,p1]
  simp only[hgd];refine⟨?_,fun b hb=>⟨?_,g1.lt p b m1 hb⟩⟩
  ·rw[m3];exact iO hvia hNN p2 _ _ _ (lU m2 (g1.holds p m1))
  ·refine Nat.le_of_not_lt fun hlt=>?_
   exact g1.inF p b m1 hb hlt
 ·obtain⟨p,p1,p2⟩:=hat k hk;obtain⟨p',p1',p2'⟩:=hat l hl;have hgd:π.getD k 0=p:=by simp[aa7,p1]
  have hgd':π.getD l 0=p':=by simp[aa7,p1']
  simp only[hgd,hgd']
  have hpp:p≠p':=by
   rintro rfl
   rw[p2]at p2';simp at p2';omega
  exact g1.disj p p' b (l2 k p p1).1 (l2 l p' p1').1 hpp
 ·exact(kW hvia hNN _ _ n1).1.symm
 ·exact(kW hvia hNN _ _ n1).2.1 g3
theorem QW {P:Program} {f:Nat} {α:Type} {B:ld α} {Q:α->Option Prop} {x:α->Nat->V} {new:α->Nat->List aK} {π:α->List Nat} (hB:gS B) (hnd:∀a,(π a).Nodup) (hy:∀a nid,Yw (new a nid)=true)
  (h:∀a,dX (Q a)->fM (known (nR (B.pl a))) (B.cn a 0)->an P f (B.cn a 0) (nR (B.pl a)) (fun v r=>xn (π a) (x a) (new a) v r) (fun _ _=>False)):cq P f (Xy B Q x new):=by
 intro J fps res K w0 F0 w nid args q y new' hH hargs hg hq hfr;unfold Xy at hg;split at hg<;>simp only[aa0,aa1,reduceCtorEq]at hg
 rename_i pls a ha;obtain⟨rfl,rfl,rfl⟩:=hg;obtain⟨b1,b2,_,b4⟩:=hB _ _ _ _ ha;obtain⟨c1,c2⟩:=b4 [] [];simp only[List.nil_append,List.append_nil,List.length_nil]at c1 c2;refine⟨?_,fun k hk=>vI (hy a nid) k hk⟩
 have hrep:=It hH b2;have hok:=c2 K hargs;rw[<-(c1 J K hargs).1];have hro:sW pls=nR (B.pl a):=by rw[GF,b1]
 rw[hro]at hrep hok;refine(h a hq hok _ _ _ _ _ hrep hok).mono fun e w' ⟨v,ρ1,fps1,r,g1,g2,g3,g4⟩=>?_
 rcases g4 with⟨rfl,hN⟩|⟨_,hF⟩
 ·exact⟨_,rfl,tx (hnd a) g1 g3 hN⟩
 ·exact hF.elim
theorem an.Io {P:Program} {f:Nat} {args:List V} {res:List aK} {x:V} {new:List aK} {K KP:V->List aK->Prop} (hy:∀k,k<new.length->ay new k≠ .yet)
  (h:∀J fps w0 F0 w,bq J fps res (known res) w0 F0 w->fM (known res) args->CallsIn (FF P none) 0 P f (bB J args).toArray w fun e w'=>∃v,e= .returned v/\ru (known res) J res.length x new w0 F0 w v w') (hK:K x (res++new)):an P f args res K KP:=by
 intro J fps w0 F0 w hH hargs;refine(h J fps w0 F0 w hH hargs).mono fun e w' ⟨v,he,ρ',hg,hv,hx⟩=>?_
 have hfr':∀i,known res i->¬fresh res.length new.length i:=fun i hi hf=>by have:=aO hi;unfold fresh at hf;omega
 have hK':∀i,known res i\/fresh res.length new.length i->known (res++new) i:=by
  intro i hi;obtain⟨b1,b2,b3⟩:=kV res new;rcases hi with hi|⟨f1,f2⟩
  ·unfold known;rw[(b1 i hi).1];exact hi
  ·have:=b3 (i-res.length) (by omega)
   rw[show res.length+(i-res.length)=i by omega]at this
   unfold known;rw[this];exact hy _ (by omega)
 obtain⟨fps',g1,g2⟩:=hH.grow (res':=res++new) (kV _ _) hfr' hK' hg;exact⟨x,ρ',fps',res++new,g1,⟨g2,fun i hi=>hK' i (.inl hi)⟩,dY hK' _ hx,.inl ⟨by rw[he,hv],hK⟩⟩
def QG {α:Type} (B:ld α) (Q:α->Prop) (c:α->Bool) (F0:α->V) (F1:α->Nat->V) (new:α->aK):kc:=fun args res K=>
 match B.rd res args with
 |some (_,a)=>Q a/\(c a=false->K (F0 a) res)/\(c a=true->K (F1 a res.length) (res++ [new a]))
 |none=>False
def Vu (c:Bool) (x0:V) (F1:Nat->V) (new:aK) (p:Option Nat) (v:V) (r:List aK):Prop:=
 match p with
 |some p=>c=true/\xn [p] F1 (fun _=> [new]) v r
 |none=>c=false/\oq x0 v r
def aaU (v:V):Option Nat:=
 match v with
 | .sa p=>some p
 | .lp p _=>some p
 | .tp l=>match l with
   |x::_=>match x with
    | .sa p=>some p
    | .lp p _=>some p
    |_=>none
   | []=>none
 |_=>none
def Dd (c:Bool) (x0:V) (F1:Nat->V) (new:aK) (v:V) (r:List aK):Prop:=Vu c x0 F1 new (aaU v) v r
theorem Ac {P:Program} {f:Nat} {α:Type} {B:ld α} {Q:α->Prop} {c:α->Bool} {F0:α->V} {F1:α->Nat->V} {new:α->aK} (hB:gS B) (hF:∀a,ke (F0 a)=true) (hn:∀a,new a≠ .yet)
  (h:∀a,Q a->fM (known (nR (B.pl a))) (B.cn a 0)->an P f (B.cn a 0) (nR (B.pl a)) (Dd (c a) (F0 a) (F1 a) (new a)) (fun _ _=>False)):kL P f (QG B Q c F0 F1 new):=by
 intro args res K KP hh;unfold QG at hh;split at hh
 case h_2=>exact hh.elim
 rename_i pls a ha;obtain⟨hQ,h0,h1⟩:=hh;obtain⟨b1,b2,_,b4⟩:=hB _ _ _ _ ha;obtain⟨c1,c2⟩:=b4 [] [];simp only[List.nil_append,List.append_nil,List.length_nil]at c1 c2;have hro:sW pls=nR (B.pl a):=by rw[GF,b1]
 have main:∀J fps w0 F0' w,bq J fps res (known res) w0 F0' w->fM (known res) args->CallsIn (FF P none) 0 P f (bB J args).toArray w fun e w'=>∃v ρ1 fps1 r,e= .returned (den ρ1 v)/\bq ρ1 fps1 r (known r) w (fun _=>False) w'/\ok (known r) v/\Dd (c a) (F0 a) (F1 a) (new a) v r:=by
  intro J fps w0 F0' w hH hargs;have hrep:=It hH b2;have hok:=c2 _ hargs;rw[hro]at hrep hok;rw[<-(c1 J _ hargs).1];refine(h a hQ hok _ _ _ _ _ hrep hok).mono fun e w' ⟨v,ρ1,fps1,r,g1,g2,g3,g4⟩=>?_
  rcases g4 with⟨rfl,hN⟩|⟨_,hF⟩
  ·exact⟨v,ρ1,fps1,r,rfl,g1,g3,hN⟩
  ·exact hF.elim
 cases hc:c a with
 |true=>
  refine an.Io (x:=F1 a res.length) (new:= [new a]) (fun k hk=>by simp at hk;subst hk;exact hn a) (fun J fps w0 F0' w hH hargs=>?_) (h1 hc)
  refine(main J fps w0 F0' w hH hargs).mono fun e w' ⟨v,ρ1,fps1,r,he,g1,g3,hv⟩=>?_
  unfold Dd Vu at hv;split at hv
  ·exact⟨_,he,tx (new:=fun _=> [new a]) (by simp) g1 g3 hv.2⟩
  ·rw[hc]at hv;simp at hv
 |false=>
  have h0':=h0 hc;rw[<-List.append_nil res]at h0';refine an.Io (x:=F0 a) (new:= []) (fun k hk=>by simp at hk) (fun J fps w0 F0' w hH hargs=>?_) h0'
  refine(main J fps w0 F0' w hH hargs).mono fun e w' ⟨v,ρ1,fps1,r,he,g1,g3,hv⟩=>?_
  unfold Dd Vu at hv;split at hv
  ·rw[hc]at hv;simp at hv
  ·refine⟨_,he,J,⟨⟨g1.os,g1.tape,g1.output,g1.old,fun b hb=>g1.same b hb (fun h=>h)⟩,Env.bE.refl _ _,fun _ _=>False,fun k hk=>by simp at hk,fun k l b hk=>by simp at hk⟩,?_,?_⟩
   ·obtain⟨e1,e2,_⟩:=dD hv.2 ρ1 (known r);rw[e1];exact p9 (hF a) (e2 g3) J ρ1
   ·obtain⟨e1,e2,_⟩:=dD hv.2 ρ1 (known r);exact oJ _ (hF a) (e2 g3)
end Go.Sx
