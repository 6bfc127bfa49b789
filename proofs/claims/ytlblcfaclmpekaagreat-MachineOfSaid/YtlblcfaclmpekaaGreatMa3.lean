import Derived.Test.YtlblcfaclmpekaaGreatMa2
import Derived.RecoverIn
set_option linter.unusedSimpArgs false
set_option linter.unusedVariables false
set_option maxRecDepth 100000
namespace Go.Sx
open Go.RowKit (Below)
abbrev Ct:=List aK->Nat->List V->RR
def cq (P:Program) (f:Nat) (g:Ct):Prop:=
 ∀J fps res K w0 F0 w nid args q x new,bq J fps res K w0 F0 w->fM K args->g res nid args=some (q,x,new)->dX q->
  (∀k,k<new.length->¬K (nid+k))->
  (CallsIn (FF P none) 0 P f (bB J args).toArray w fun e w'=>∃v,e= .returned v/\qY K J nid x new w0 F0 w v w')/\∀k,k<new.length->ay new k≠ .yet
def qm:List (Nat×Ct)->Nat->Option Ct
 | [],_=>none
 | (g,c)::l,f=>if f==g then some c else qm l f
theorem mX {P:Program}:∀{l:List (Nat×Ct)},(∀p∈l,cq P p.1 p.2)->∀f g,qm l f=some g->cq P f g
 | [],_,f,g,h=>by simp[qm]at h
 | (k,c)::l,hl,f,g,h=>by
   simp only[qm]at h;split at h
   ·simp_all
   ·exact mX (fun p hp=>hl p (by simp[hp])) f g h
mutual
def kf:V->Bool
 | .lp _ _=>false
 | .lx _ _ _ _ _ _=>false
 | .sc _ _ _=>false
 | .so _ _=>false
 | .ap _ _ _ _=>false
 | .ax _ _ _ _ _ _ _ _=>false
 | .sa _=>false
 | .op _ _=>false
 | .yl _=>false
 | .mp _=>false
 | .ch _ _ _ _=>false
 | .bs _ _ _=>false
 | .ks _ _ _ _ _=>false
 | .fn _ l=>lf l
 | .ic _ x=>kf x
 | .ag l=>lf l
 | .tp l=>lf l
 |_=>true
def lf:List V->Bool
 | []=>true
 |x::l=>kf x&&lf l
end
mutual
theorem oH {K K':Nat->Prop}:∀v,kf v=true->ok K v->ok K' v
 | .lp _ _,h,_| .lx _ _ _ _ _ _,h,_| .sc _ _ _,h,_| .so _ _,h,_| .ap _ _ _ _,h,_| .sa _,h,_| .op _ _,h,_| .yl _,h,_| .mp _,h,_| .ch _ _ _ _,h,_| .ax _ _ _ _ _ _ _ _,h,_| .bs _ _ _,h,_| .ks _ _ _ _ _,h,_=>by simp[kf]at h
 | .fn _ l,h,hk=>mi l h hk
 | .ic _ x,h,hk=>oH x h hk
 | .ag l,h,hk=>⟨mi l h hk.1,hk.2⟩
 | .tp l,h,hk=>mi l h hk
 | .cb _,_,hk| .bo _,_,hk| .ci _ _,_,hk| .it _ _,_,hk| .bt _,_,hk| .st _,_,hk| .nl _,_,hk| .key _,_,hk| .sl _,_,hk| .by _,_,hk| .ob _,_,hk=>hk
theorem mi {K K':Nat->Prop}:∀l,lf l=true->fM K l->fM K' l
 | [],_,_=>trivial
 |x::l,h,hk=>by
  simp only[lf,aaX]at h;exact⟨oH x h.1 hk.1,mi l h.2 hk.2⟩
end
theorem pV {K:Nat->Prop} {v:V} (h:kf v=true) (hk:ok K v) (J ρ':Env):den ρ' v=den J v:=
 gh (N:=fun _=>False) (fun _ h=>h.elim) v (oH v h hk)
def oD (v:V) (v':V) (_:List aK):Prop:=
 match xx v' v with
 |some l=>jF l
 |none=>False
def xj (x v:V) (_:List aK):Prop:=∀J K,ub J K v x
theorem dE {x v:V} {r:List aK} (h:oD x v r):xj x v r:=by
 unfold oD at h;split at h
 ·rename_i l hl;exact fun J K=>qO J K _ _ l hl h
 ·exact h.elim
theorem an.mono {P:Program} {f:Nat} {args:List V} {res:List aK} {K K' KP KP':V->List aK->Prop} (h:an P f args res K KP) (hK:∀v r,K v r->K' v r) (hP:∀v r,KP v r->KP' v r):
  an P f args res K' KP':=by
 intro J fps w0 F0 w hH ha;refine(h J fps w0 F0 w hH ha).mono fun e w' ⟨x,ρ',fps',res',g1,g2,g3,g4⟩=>⟨x,ρ',fps',res',g1,g2,g3,?_⟩
 rcases g4 with⟨e1,e2⟩|⟨e1,e2⟩
 ·exact .inl ⟨e1,hK _ _ e2⟩
 ·exact .inr ⟨e1,hP _ _ e2⟩
def Z0 (l m:List V):Prop:=(∀J,bB J l=bB J m)/\∀K,fM K l->fM (fun _=>False) m
theorem vn {P:Program} {f:Nat} {g:Ct} (h:∀res nid args q x new,g res nid args=some (q,x,new)->new= []/\kf x=true/\
  ∃args',Z0 args args'/\(dX q->fM (fun _=>False) args'->an P f args' [] (xj x) (fun _ _=>False))):cq P f g:=by
 intro J fps res K w0 F0 w nid args q x new hH hargs hg hq hfr;obtain⟨rfl,hid,args',⟨s1,s2⟩,hc⟩:=h res nid args q x new hg;refine⟨?_,fun k hk=>by simp at hk⟩
 have hok:=s2 K hargs
 have hrep:bq J (fun _ _=>False) [] (known []) w (fun _=>False) w:=
  ⟨fun i hi=>hi,Nat.le_refl _,rfl,rfl,rfl,fun i hi=>by simp[known,ay]at hi,fun i b hi=>by simp[known,ay]at hi,fun i j b hi=>by simp[known,ay]at hi,fun i b hi=>by simp[known,ay]at hi,fun _ _ _=>rfl⟩
 have hcall:=hc hq hok J (fun _ _=>False) w (fun _=>False) w hrep (by rw[ja]at hok⊢;exact fun z hz=>fQ (hok z hz))
 rw[s1 J];refine hcall.mono fun e w' ⟨y,ρ',fps',res',g1,g2,g3,g4⟩=>?_
 rcases g4 with⟨rfl,hK⟩|⟨_,hK⟩
 ·refine⟨_,rfl,J,?_,?_,?_⟩
  ·have hb:Below w.heap.size w w':=by
    refine⟨g1.os,g1.tape,g1.output,g1.old,fun b hb=>g1.same b hb (fun h=>h)⟩
   exact⟨hb,Env.bE.refl _ _,fun _ _=>False,fun k hk=>by simp at hk,fun k l b hk=>by simp at hk⟩
  ·obtain⟨e1,e2,_⟩:=hK ρ' (known res');rw[e1];exact pV hid (e2 g3) J ρ'
  ·obtain⟨e1,e2,_⟩:=hK ρ' (known res');exact oH x hid (e2 g3)
 ·exact hK.elim
def sT {α:Type} (r:V->Option α) (m:α->V):Prop:=∀v x,r v=some x->(∀J,den J v=den J (m x))/\∀K,ok K v->ok (fun _=>False) (m x)
def rI (k:IntKind) (v:V):Option Int:=
 match toInt v with
 |some (k',n)=>if k==k' then some n else none
 |none=>none
def rK (v:V):Option Key:=
 match v with
 | .key k=>some k
 | .ag l=>match l with
   | [a,b,c,d,e,f]=>match rI .i64 a with
     |some a=>match rI .i64 b with
      |some b=>match rI .i64 c with
       |some c=>match rI .i64 d with
        |some d=>match rI .i64 e with
         |some e=>match rI .i64 f with
          |some f=>some ⟨a,b,c,d,e,f⟩
          |none=>none
         |none=>none
        |none=>none
       |none=>none
      |none=>none
     |none=>none
   |_=>none
 |_=>none
def rO:V->Option Obj
 | .ob o=>some o
 |_=>none
theorem O9:sT toBool V.bo:=by
 intro v x h;cases v<;>simp[toBool]at h<;>subst h<;>exact⟨fun _=>rfl,fun _ _=>trivial⟩
theorem gi (k:IntKind):sT (rI k) (V.it k):=by
 intro v x h;unfold rI at h;cases v<;>simp[toInt]at h<;>obtain⟨rfl,rfl⟩:=h
 ·exact⟨fun _=>rfl,fun _ hk=>hk⟩
 ·exact⟨fun _=>rfl,fun _ hk=>hk⟩
 ·rename_i b;refine⟨fun _=>rfl,fun _ _=>?_⟩
  have:=b.toNat_lt;simp only[ok,bY,Sw];omega
theorem gH:sT rK V.key:=by
 intro v x h;unfold rK at h;split at h
 ·simp only[aaV]at h;subst h;exact⟨fun _=>rfl,fun _ hk=>hk⟩
 ·split at h
  case h_2=>simp at h
  split at h<;>try(simp at h;done)
  rename_i h1;split at h<;>try(simp at h;done)
  rename_i h2;split at h<;>try(simp at h;done)
  rename_i h3;split at h<;>try(simp at h;done)
  rename_i h4;split at h<;>try(simp at h;done)
  rename_i h5;split at h<;>simp only[aaV,reduceCtorEq]at h
  rename_i h6;subst h;have e1:=gi .i64 _ _ h1;have e2:=gi .i64 _ _ h2;have e3:=gi .i64 _ _ h3;have e4:=gi .i64 _ _ h4;have e5:=gi .i64 _ _ h5;have e6:=gi .i64 _ _ h6;refine⟨fun J=>?_,fun K hK=>?_⟩
  ·simp only[den,bp,e1.1 J,e2.1 J,e3.1 J,e4.1 J,e5.1 J,e6.1 J];rfl
  ·obtain⟨⟨k1,k2,k3,k4,k5,k6,_⟩,_⟩:=hK;exact⟨e1.2 K k1,e2.2 K k2,e3.2 K k3,e4.2 K k4,e5.2 K k5,e6.2 K k6⟩
 ·simp at h
theorem Zl {v:V} {x:Key} (h:rK v=some x):cV v=false:=by
 cases v<;>first|rfl|simp[rK]at h
theorem yQ:sT rO V.ob:=by
 intro v x h;cases v<;>simp[rO]at h<;>subst h<;>exact⟨fun _=>rfl,fun _ hk=>hk⟩
def Yx (F:V):Ct:=fun _ _ xs=>match xs with
 | []=>some (none,F,[])
 |_=>none
def QE {α:Type} (r:V->Option α) (F:α->V):Ct:=fun _ _ xs=>match xs with
 | [a]=>match r a with
   |some x=>some (none,F x,[])
   |none=>none
 |_=>none
def QK {α β:Type} (r:V->Option α) (s:V->Option β) (F:α->β->V):Ct:=fun _ _ xs=>match xs with
 | [a,b]=>match r a,s b with
   |some x,some y=>some (none,F x y,[])
   |_,_=>none
 |_=>none
def mk3 {α β γ:Type} (r:V->Option α) (s:V->Option β) (t:V->Option γ) (F:α->β->γ->V):Ct:=fun _ _ xs=>match xs with
 | [a,b,c]=>match r a,s b,t c with
   |some x,some y,some z=>some (none,F x y z,[])
   |_,_,_=>none
 |_=>none
theorem XP {P:Program} {f:Nat} {F:V} (hF:kf F=true) (h:an P f [] [] (oD F) (fun _ _=>False)):cq P f (Yx F):=by
 refine vn fun res nid args q x new hg=>?_
 unfold Yx at hg;split at hg<;>simp only[aaV,aaW,reduceCtorEq]at hg
 obtain⟨rfl,rfl,rfl⟩:=hg;exact⟨rfl,hF,[],⟨fun _=>rfl,fun _ _=>trivial⟩,fun _ _=>h.mono (fun _ _=>dE) fun _ _ h=>h⟩
theorem Wz {P:Program} {f:Nat} {F:V} (hF:kf F=true) (h:an P f [] [] (fun v _=>v=F) (fun _ _=>False)):cq P f (Yx F):=by
 refine vn fun res nid args q x new hg=>?_
 unfold Yx at hg;split at hg<;>simp only[aaV,aaW,reduceCtorEq]at hg
 obtain⟨rfl,rfl,rfl⟩:=hg;exact⟨rfl,hF,[],⟨fun _=>rfl,fun _ _=>trivial⟩,fun _ _=>h.mono (fun v _ e=>by subst e;exact fun J K=>ub.refl J K v) fun _ _ h=>h⟩
theorem qe {P:Program} {f:Nat} {α:Type} {r:V->Option α} {m:α->V} {F:α->V} (hr:sT r m) (hF:∀x,kf (F x)=true)
  (h:∀x,ok (fun _=>False) (m x)->an P f [m x] [] (oD (F x)) (fun _ _=>False)):cq P f (QE r F):=by
 refine vn fun res nid args q x new hg=>?_
 unfold QE at hg;split at hg<;>(try split at hg)<;>simp only[aaV,aaW,reduceCtorEq]at hg
 rename_i a x h1;obtain⟨rfl,rfl,rfl⟩:=hg;obtain⟨a1,a2⟩:=hr _ x h1;exact⟨rfl,hF x,[m x],⟨fun J=>by simp[bB,a1 J],fun K hK=>⟨a2 K hK.1,trivial⟩⟩,fun _ hok=>(h x hok.1).mono (fun _ _=>dE) fun _ _ h=>h⟩
theorem nJ {P:Program} {f:Nat} {α β:Type} {r:V->Option α} {s:V->Option β} {m:α->V} {n:β->V} {F:α->β->V} (hr:sT r m) (hs:sT s n) (hF:∀x y,kf (F x y)=true)
  (h:∀x y,ok (fun _=>False) (m x)->ok (fun _=>False) (n y)->an P f [m x,n y] [] (oD (F x y)) (fun _ _=>False)):cq P f (QK r s F):=by
 refine vn fun res nid args q x new hg=>?_
 unfold QK at hg;split at hg<;>(try split at hg)<;>simp only[aaV,aaW,reduceCtorEq]at hg
 rename_i a b x y h1 h2;obtain⟨rfl,rfl,rfl⟩:=hg;obtain⟨a1,a2⟩:=hr _ x h1;obtain⟨b1,b2⟩:=hs _ y h2;exact⟨rfl,hF x y,[m x,n y],⟨fun J=>by simp[bB,a1 J,b1 J],fun K hK=>⟨a2 K hK.1,b2 K hK.2.1,trivial⟩⟩,fun _ hok=>(h x y hok.1 hok.2.1).mono (fun _ _=>dE) fun _ _ h=>h⟩
theorem KM {P:Program} {f:Nat} {α β γ:Type} {r:V->Option α} {s:V->Option β} {t:V->Option γ} {m:α->V} {n:β->V} {o:γ->V} {F:α->β->γ->V} (hr:sT r m) (hs:sT s n) (ht:sT t o)
  (hF:∀x y z,kf (F x y z)=true)
  (h:∀x y z,ok (fun _=>False) (m x)->ok (fun _=>False) (n y)->ok (fun _=>False) (o z)->an P f [m x,n y,o z] [] (oD (F x y z)) (fun _ _=>False)):cq P f (mk3 r s t F):=by
 refine vn fun res nid args q x new hg=>?_
 unfold mk3 at hg;split at hg<;>(try split at hg)<;>simp only[aaV,aaW,reduceCtorEq]at hg
 rename_i a b c x y z h1 h2 h3;obtain⟨rfl,rfl,rfl⟩:=hg;obtain⟨a1,a2⟩:=hr _ x h1;obtain⟨b1,b2⟩:=hs _ y h2;obtain⟨c1,c2⟩:=ht _ z h3;exact⟨rfl,hF x y z,[m x,n y,o z],⟨fun J=>by simp[bB,a1 J,b1 J,c1 J],fun K hK=>⟨a2 K hK.1,b2 K hK.2.1,c2 K hK.2.2.1,trivial⟩⟩,fun _ hok=>(h x y z hok.1 hok.2.1 hok.2.2.1).mono (fun _ _=>dE) fun _ _ h=>h⟩
def inL:List Nat->Nat->Bool
 | [],_=>false
 |x::l,i=>x==i||inL l i
def Z9:List (Nat×V)->Nat->Option V
 | [],_=>none
 | (j,v)::l,i=>if j==i then some v else Z9 l i
def Ib (jH:List Nat) (set:List (Nat×V)):Nat->List S->List S
 |_,[]=> []
 |i,s::l=>(match Z9 set i with
  |some v=> .v v
  |none=>if inL jH i then s else .und)::Ib jH set (i+1) l
def lpI (jH:List Nat) (t:Nat) (inv:Int->Prop) (m:Int):dv:=
 {γ:=Int,head:=fun U g=> {U with slots:=Ib jH [(t,.it .i64 g)] 0 U.slots},inv:=inv,μ:=fun g=>pH (sW m g)}
def Va (jH:List Nat) (set:Int->List (Nat×V)) (inv:Int->Prop) (m:Int):dv:=
 {γ:=Int,head:=fun U g=> {U with slots:=Ib jH (set g) 0 U.slots},inv:=inv,μ:=fun g=>pH (sW m g)}
def iu:List (Nat×Nat×dv)->Nat->Nat->Option dv
 | [],_,_=>none
 | (f,r,A)::l,f',r'=>if f==f'&&r==r' then some A else iu l f' r'
def aQ (_ _:Nat):Option dv:=none
def bx (_:Nat):Bool:=false
def noH:Handler:=fun _ _ _ _ _=>False
end Go.Sx
namespace Go.Proofs.YtlblcfaclmpekaaGreat
open Go.Sx
noncomputable def cf (l:List (Nat×Ct)) (inl:Nat->Bool) (ann:Nat->Nat->Option dv):S3:= {P:=Tryz.prog,Z:=zeroOf,Γ:=qm l,H0:=noH,inl:=inl,ann:=ann,opn:=Nd inl}
theorem P0 {l:List (Nat×Ct)} {inl:Nat->Bool} {ann:Nat->Nat->Option dv} (hl:∀p∈l,cq Tryz.prog p.1 p.2):(cf l inl ann).toCtx.Sound:=
 ⟨yG pj,Tryz.checked.mixed,fun f g hg=>mX hl f g hg,fun f ts te h=>by simp[cf]at h⟩
abbrev vc (l:List (Nat×Ct)) (inl:Nat->Bool) (ann:Nat->Nat->Option dv) (f:Nat) (args:List V) (res:List aK) (K KP:V->List aK->Prop):Prop:=
 enter (cf l inl ann).toCtx (exec (cf l inl ann) 100 ⟨false,none⟩) (exec (cf l inl ann) 100 ⟨false,none⟩ f) f args res K KP
set_option maxRecDepth 100000 in
theorem aZ {l:List (Nat×Ct)} {inl:Nat->Bool} {ann:Nat->Nat->Option dv} (hl:∀p∈l,cq Tryz.prog p.1 p.2) {f:Nat} {args:List V} {res:List aK} {K KP:V->List aK->Prop}
  {G:Prop} (hG:G) (h:G=vc l inl ann f args res K KP):an Tryz.prog f args res K KP:=
 B5 (C:=cf l inl ann) (n:=100) (P0 hl) (fun _ _ _ _ _ hh=>hh.elim) (Eq.mp h hG)
end Go.Proofs.YtlblcfaclmpekaaGreat
namespace Go.Sx
theorem aq {P:Program}:∀p∈([]:List (Nat×Ct)),cq P p.1 p.2:=by simp
theorem ae {P:Program} {f:Nat} {g:Ct} {l:List (Nat×Ct)} (h:cq P f g) (t:∀p∈l,cq P p.1 p.2):∀p∈(f,g)::l,cq P p.1 p.2:=by
 simp_all
open Go.RowKit (Below)
theorem bq.AG {J:Env} {fps:Nat->Nat->Prop} {res:List aK} {K:Nat->Prop} {w0:World} {F0:Nat->Prop} {w:World} (h:bq J fps res K w0 F0 w) {i:Nat} {r:aK}
  (hr:cG res i=r) (hk:known res i):∃fp:Nat->Prop,r.holds K J i fp w0 F0 w/\∀b,fp b->fps i b\/(b<w0.heap.size/\¬F0 b):=by
 have hh:=h.holds i hk;unfold cG at hr;split at hr
 ·rename_i r' he;rw[he]at hh;subst hr;obtain⟨fp',h1,h2⟩:=hh;exact⟨fp',aK.gp _ h1 fun b hb=>h.same b (h2 b hb).1 (h2 b hb).2,fun b hb=> .inr (h2 b hb)⟩
 ·subst hr;exact⟨fps i,hh,fun b hb=> .inl hb⟩
def eV (κ:Nat->Option Nat) (res:List aK):List (Nat×Bool)->List aK
 | []=> []
 | (p,o)::l=>(if o then gm κ (ay res p)else .ro (gm κ (cG res p)))::eV κ res l
def dB:List (Nat×Bool)->List Nat
 | []=> []
 | (p,_)::l=>p::dB l
def eH (res:List aK):List (Nat×Bool)->Bool
 | []=>true
 | (p,_)::l=>kS res p&&eH res l
theorem nH:∀(l:List (Nat×Bool)) (i:Nat),(dB l)[i]? =(l[i]?).map (·.1)
 | [],i=>by simp[dB]
 | (p,o)::l,0=>by simp[dB]
 | (p,o)::l,i+1=>by simp[dB,nH l i]
theorem wv (κ:Nat->Option Nat) (res:List aK):∀(l:List (Nat×Bool)) (i:Nat),ay (eV κ res l) i=match l[i]? with
  |some (p,o)=>if o then gm κ (ay res p)else .ro (gm κ (cG res p))
  |none=> .yet
 | [],i=>by simp[eV,ay]
 | (p,o)::l,0=>by simp[eV,ay]
 | (p,o)::l,i+1=>by simp[eV,ay,wv κ res l i]
theorem u7 (κ:Nat->Option Nat) (res:List aK):∀(l:List (Nat×Bool)),(eV κ res l).length=l.length
 | []=>rfl
 | (p,o)::l=>by simp[eV,u7 κ res l]
theorem ew {res:List aK}:∀{l:List (Nat×Bool)},eH res l=true->∀(i:Nat) (p:Nat) (o:Bool),l[i]? =some (p,o)->known res p
 | [],_,i,p,o,h=>by simp at h
 | (x,y)::l,hk,i,p,o,h=>by
   simp only[eH,aaX]at hk;cases i with
   |zero=>simp at h;obtain⟨rfl,_⟩:=h;exact cD.1 hk.1
   |succ i=>exact ew hk.2 i p o (by simpa using h)
theorem nA {p:Nat}:∀(l:List Nat) (m k:Nat),l.Nodup->l[k]? =some p->idxOf l m p=some (m+k)
 | [],m,k,_,h=>by simp at h
 |x::l,m,k,hnd,h=>by
  simp only[idxOf];cases k with
  |zero=>simp at h;subst h;simp
  |succ k=>
   simp at h
   have hne:(x==p)=false:=by
    grind
   rw[hne];simp only[Bool.false_eq_true,if_false];rw[nA l (m+1) k (List.nodup_cons.1 hnd).2 h];congr 1;omega
theorem Kk {l:List Nat} {p i:Nat} (h:k7 0 l p=some i):l[i]? =some p:=by
 unfold k7 at h;split at h
 ·rename_i hb;simp at hb
 ·have:=iZ h;simpa using this.2.2
theorem CB {l:List Nat} {p i:Nat} (hnd:l.Nodup) (h:l[i]? =some p):k7 0 l p=some i:=by
 unfold k7;rw[aa3 (by simp),nA l 0 i hnd h];simp
def Frame (J:Env) (fps:Nat->Nat->Prop) (pl:List (Nat×Bool)) (b:Nat):Prop:=∃(i p:Nat),pl[i]? =some (p,true)/\fps p b
section
variable {J:Env} {fps:Nat->Nat->Prop} {res:List aK} {w0 w:World} {F0:Nat->Prop}
theorem bq.eV {K:Nat->Prop} (h:bq J fps res K w0 F0 w) {pl:List (Nat×Bool)} (hk:eH res pl=true) (hnd:(dB pl).Nodup):
  bq (J.pull (src 0 (dB pl))) (fun i b=>∃p:Nat,pl[i]? =some (p,true)/\fps p b) (eV (k7 0 (dB pl)) res pl) (known (eV (k7 0 (dB pl)) res pl)) w (Frame J fps pl) w/\
   (∀i,i<pl.length->known (eV (k7 0 (dB pl)) res pl) i)/\Env.via (k7 0 (dB pl)) J (J.pull (src 0 (dB pl)))/\∀p i,k7 0 (dB pl) p=some i->K p->known (Sx.eV (k7 0 (dB pl)) res pl) i:=by
 generalize hκ:k7 0 (dB pl)=κ
 have hπ:∀p i,κ p=some i->src 0 (dB pl) i=p:=fun p i hp=>by subst hκ;exact IB hp
 have hv:Env.via κ J (J.pull (src 0 (dB pl))):=qN hπ
 have hsome:∀i p o,pl[i]? =some (p,o)->κ p=some i:=fun i p o hi=>by
  subst hκ;exact CB hnd (by rw[nH,hi];rfl)
 have hkn:∀i p o,pl[i]? =some (p,o)->known (Sx.eV κ res pl) i:=fun i p o hi=>by
  unfold known;rw[wv,hi];simp only;split
  ·exact fun e=>ew hk i p o hi (mD.1 e)
  ·simp
 have hget:∀i,known (Sx.eV κ res pl) i->∃p o,pl[i]? =some (p,o):=fun i hi=>by
  have:=aO hi;rw[u7]at this;exact⟨pl[i].1,pl[i].2,by rw[List.getElem?_eq_getElem this]⟩
 have hN:∀p i,κ p=some i->K p->known (Sx.eV κ res pl) i:=fun p i hp _=>by
  subst hκ;have:=Kk hp;rw[nH]at this;cases hi:pl[i]? with
  |none=>rw[hi]at this;simp at this
  |some po=>exact hkn i po.1 po.2 hi
 have huniq:∀i j p o o',pl[i]? =some (p,o)->pl[j]? =some (p,o')->i=j:=fun i j p o o' hi hj=>by
  have a:=hsome i p o hi;rw[hsome j p o' hj]at a;simpa using a.symm
 have hfr:∀b,b<w0.heap.size->¬F0 b->w.heap[b]? =w0.heap[b]? /\¬Frame J fps pl b:=fun b hb hF=>by
  refine⟨h.same b hb hF,?_⟩;rintro⟨i,p,hi,hf⟩
  exact hF (h.inF p b (ew hk i p true hi) hf hb)
 refine⟨⟨fun i hi=>hi,Nat.le_refl _,rfl,rfl,rfl,fun i hi=>?_,?_,?_,?_,fun _ _ _=>rfl⟩,fun i hi=>hkn i pl[i].1 pl[i].2 (by rw[List.getElem?_eq_getElem hi]),hv,hN⟩
 ·obtain⟨p,o,hp⟩:=hget i hi;have hkp:=ew hk i p o hp;rw[wv,hp];simp only;cases o with
  |true=>
   simp only[if_true];have:=aK.tk h.old hfr _ _ (h.holds p hkp);have:=iO hv hN (hsome i p true hp) _ _ _ this
   have e:(fun b=>∃p':Nat,some (p,true)=some (p',true)/\fps p' b)=fps p:=by
    funext b;simp
   rw[e];exact this
  |false=>
   simp only[Bool.false_eq_true,if_false];obtain⟨fp,g1,g2⟩:=h.AG rfl hkp;refine⟨fp,iO hv hN (hsome i p false hp) _ _ _ (aK.tk h.old hfr _ _ g1),fun b hb=>?_⟩
   rcases g2 b hb with hf|⟨hl,hF⟩
   ·refine⟨h.lt p b hkp hf,?_⟩;rintro⟨j,p',hj,hf'⟩
    have hkp':=ew hk j p' true hj;refine h.disj p p' b hkp hkp' (fun e=>?_) hf hf'
    subst e;have:=huniq i j p false true hp hj;subst this;rw[hp]at hj;simp at hj
   ·exact⟨Nat.lt_of_lt_of_le hl h.old,(hfr b hl hF).2⟩
 ·rintro i b hi ⟨p,hp,hf⟩
  exact h.lt p b (ew hk i p true hp) hf
 ·rintro i j b hi hj hne ⟨p,hp,hf⟩ ⟨p',hp',hf'⟩
  refine h.disj p p' b (ew hk i p true hp) (ew hk j p' true hp') (fun e=>hne ?_) hf hf'
  subst e;exact huniq i j p true true hp hp'
 ·rintro i b hi ⟨p,hp,hf⟩ _
  exact⟨i,p,hp,hf⟩
def eZ (κ2:Nat->Option Nat) (r':List aK):Nat->List (Nat×Bool)->List aK->List aK
 |_,[],res=>res
 |i,(p,o)::l,res=>if o then eZ κ2 r' (i+1) l (bO res p (gm κ2 (ay r' i)))else eZ κ2 r' (i+1) l res
def uN:List (Nat×Bool)->Nat->Option Nat
 | [],_=>none
 | (p,_)::_,0=>some p
 |_::l,i+1=>uN l i
def back (pl:List (Nat×Bool)) (ext:List Nat) (n j:Nat):Option Nat:=
 match uN pl j with
 |some p=>some p
 |none=>idxOf ext n j
def merge (pl:List (Nat×Bool)) (ext:List Nat) (r' res:List aK):List aK:=
 eZ (back pl ext res.length) r' 0 pl res++fZ (back pl ext res.length) r' ext
theorem xQ:∀(l:List (Nat×Bool)) (i:Nat),uN l i=(l[i]?).map (·.1)
 | [],i=>by simp[uN]
 | (p,o)::l,0=>by simp[uN]
 | (p,o)::l,i+1=>by simp[uN,xQ l i]
theorem nO (κ2:Nat->Option Nat) (r':List aK):∀(l:List (Nat×Bool)) (i:Nat) (res:List aK),(eZ κ2 r' i l res).length=res.length
 | [],_,_=>rfl
 | (p,o)::l,i,res=>by
   simp only[eZ];split
   ·rw[nO κ2 r' l,cE]
   ·exact nO κ2 r' l _ _
theorem my (κ2:Nat->Option Nat) (r':List aK):∀(l:List (Nat×Bool)) (i:Nat) (res:List aK) (x:Nat),(∀k:Nat,l[k]? ≠some (x,true))->(∀(k p:Nat) (o:Bool),l[k]? =some (p,o)->p<res.length)->ay (eZ κ2 r' i l res) x=ay res x
 | [],_,_,_,_,_=>rfl
 | (p,o)::l,i,res,x,h,hb=>by
   have hl:∀k:Nat,l[k]? ≠some (x,true):=fun k=>by have:=h (k+1);simpa using this
   have hb':∀(k p:Nat) (o:Bool),l[k]? =some (p,o)->p<res.length:=fun k p o hk=>hb (k+1) p o (by simpa using hk)
   simp only[eZ];split
   ·rename_i ho;subst ho;have hne:x≠p:=fun e=>h 0 (by simp[e])
    rw[my κ2 r' l _ _ x hl (fun k p o hk=>by rw[cE];exact hb' k p o hk),bJ _ _ _ _ (hb 0 p true (by simp)),aa3 hne]
   ·exact my κ2 r' l _ _ x hl hb'
theorem rL (κ2:Nat->Option Nat) (r':List aK):∀(l:List (Nat×Bool)) (i:Nat) (res:List aK) (x k:Nat),l[k]? =some (x,true)->(dB l).Nodup->(∀(k p:Nat) (o:Bool),l[k]? =some (p,o)->p<res.length)->
  ay (eZ κ2 r' i l res) x=gm κ2 (ay r' (i+k))
 | [],_,_,_,_,h,_,_=>by simp at h
 | (p,o)::l,i,res,x,k,h,hnd,hb=>by
   have hb':∀(k p:Nat) (o:Bool),l[k]? =some (p,o)->p<res.length:=fun k p o hk=>hb (k+1) p o (by simpa using hk)
   have hnd':=List.nodup_cons.1 (show(p::dB l).Nodup from hnd);simp only[eZ];cases k with
   |zero=>
    simp at h;obtain⟨rfl,rfl⟩:=h;simp only[if_true,Nat.add_zero];rw[my κ2 r' l _ _ p (fun k hk=>hnd'.1 (List.mem_of_getElem? (i:=k) (by rw[nH,hk];rfl))) (fun k p o hk=>by rw[cE];exact hb' k p o hk),bJ _ _ _ _ (hb 0 p true (by simp)),aa4 rfl]
   |succ k=>
    have h:l[k]? =some (x,true):=by simpa using h
    split
    ·rw[rL κ2 r' l _ _ x k h hnd'.2 (fun k p o hk=>by rw[cE];exact hb' k p o hk)]
     congr 2;omega
    ·rw[rL κ2 r' l _ _ x k h hnd'.2 hb'];congr 2;omega
def Env.join (n:Nat) (ext:List Nat) (J ρ2:Env):Env:=
 {num:=fun i=>if i<n then J.num i else ρ2.num (ext.getD (i-n) 0),cap:=fun i=>if i<n then J.cap i else ρ2.cap (ext.getD (i-n) 0),adr:=fun i=>if i<n then J.adr i else ρ2.adr (ext.getD (i-n) 0),
  sa:=fun i=>if i<n then J.sa i else ρ2.sa (ext.getD (i-n) 0),sn:=fun i=>if i<n then J.sn i else ρ2.sn (ext.getD (i-n) 0),ob:=fun i=>if i<n then J.ob i else ρ2.ob (ext.getD (i-n) 0)}
section
variable {J:Env} {fps:Nat->Nat->Prop} {res:List aK} {w0 w:World} {F0:Nat->Prop}
theorem bq.merge (h:bq J fps res (known res) w0 F0 w) {pl:List (Nat×Bool)} (hk:eH res pl=true) (hnd:(dB pl).Nodup) {ρ2:Env} {fps2:Nat->Nat->Prop} {r':List aK} {w':World}
  (h2:bq ρ2 fps2 r' (known r') w (Frame J fps pl) w') (hg:Good (J.pull (src 0 (dB pl))) (Sx.eV (k7 0 (dB pl)) res pl) ρ2 r') {ext:List Nat} (he:iD pl.length r'.length ext=true)
  (ho1:∀(i p:Nat),pl[i]? =some (p,true)->jI (ay r' i)=true) (ho2:∀j,j∈ext->jI (ay r' j)=true):
  ∃ρ3 fps3,bq ρ3 fps3 (Sx.merge pl ext r' res) (known (Sx.merge pl ext r' res)) w0 F0 w'/\Good J res ρ3 (Sx.merge pl ext r' res)/\Env.via (back pl ext res.length) ρ2 ρ3/\
   ∀j i,back pl ext res.length j=some i->known r' j->known (Sx.merge pl ext r' res) i:=by
 obtain⟨_,hkr,_,_⟩:=h.eV hk hnd;obtain⟨e1,e2⟩:=pS he;have hlt:∀(k p:Nat) (o:Bool),pl[k]? =some (p,o)->p<res.length:=fun k p o hp=>aO (ew hk k p o hp)
 have hpll:∀(k p:Nat) (o:Bool),pl[k]? =some (p,o)->k<pl.length:=fun k p o hp=>(List.getElem?_eq_some_iff.1 hp).1
 have huniq:∀i j p o o',pl[i]? =some (p,o)->pl[j]? =some (p,o')->i=j:=fun i j p o o' hi hj=>by
  have a:=CB hnd (show(dB pl)[i]? =some p by rw[nH,hi];rfl)
  rw[CB hnd (show(dB pl)[j]? =some p by rw[nH,hj];rfl)]at a
  simpa using a.symm
 have huniqE:∀(a b j:Nat),ext[a]? =some j->ext[b]? =some j->a=b:=fun a b j ha hb=>by
  have x:=nA ext 0 a e2 ha;rw[nA ext 0 b e2 hb]at x;simpa using x.symm
 have hback1:∀k p o,pl[k]? =some (p,o)->back pl ext res.length k=some p:=fun k p o hp=>by
  unfold back;rw[xQ,hp];rfl
 have hback2:∀a j,ext[a]? =some j->back pl ext res.length j=some (res.length+a):=fun a j ha=>by
  unfold back;have:=(e1 j (List.mem_of_getElem? ha)).1;rw[xQ,List.getElem?_eq_none this];exact nA ext _ a e2 ha
 have hbackS:∀j i,back pl ext res.length j=some i->(∃o,pl[j]? =some (i,o))\/(∃a,ext[a]? =some j/\i=res.length+a):=fun j i hj=>by
  unfold back at hj;rw[xQ]at hj;cases hp:pl[j]? with
  |some po=>rw[hp]at hj;simp at hj;exact .inl ⟨po.2,by rw[<-hj]⟩
  |none=>
   rw[hp]at hj;simp at hj;obtain⟨a1,a2,a3⟩:=iZ hj;exact .inr ⟨i-res.length,a3,by omega⟩
 have hget:∀i,ay (Sx.merge pl ext r' res) i=if i<res.length then ay (eZ (back pl ext res.length) r' 0 pl res) i else match ext[i-res.length]? with|some j=>gm (back pl ext res.length) (ay r' j)|none=> .yet:=fun i=>by
  unfold Sx.merge;rw[cF,nO];by_cases hi:i<res.length
  ·rw[aa4 hi,aa4 hi]
  ·grind[rD]
 have hown:∀k p,pl[k]? =some (p,true)->ay (Sx.merge pl ext r' res) p=gm (back pl ext res.length) (ay r' k):=fun k p hp=>by
  rw[hget,aa4 (hlt k p true hp),rL _ r' pl 0 res p k hp hnd hlt,Nat.zero_add]
 have hother:∀i,i<res.length->(∀k,pl[k]? ≠some (i,true))->ay (Sx.merge pl ext r' res) i=ay res i:=fun i hi hno=>by
  rw[hget,aa4 hi,my _ r' pl 0 res i hno hlt]
 have hext:∀a j,ext[a]? =some j->ay (Sx.merge pl ext r' res) (res.length+a)=gm (back pl ext res.length) (ay r' j):=fun a j ha=>by
  grind
 have hkr':∀k p o,pl[k]? =some (p,o)->known r' k:=fun k p o hp=>hg.2 k (hkr k (hpll k p o hp))
 have hN:∀j i,back pl ext res.length j=some i->known r' j->known (Sx.merge pl ext r' res) i:=fun j i hj hkj=>by
  rcases hbackS j i hj with⟨o,hp⟩|⟨a,ha,rfl⟩
  ·by_cases hT:∃k:Nat,pl[k]? =some (i,true)
   ·obtain⟨k,hk'⟩:=hT;unfold known;rw[hown k i hk'];exact fun e=>hkr' k i true hk' (mD.1 e)
   ·unfold known;rw[hother i (hlt j i o hp) fun k hk'=>hT ⟨k,hk'⟩]
    exact ew hk j i o hp
  ·unfold known;rw[hext a j ha];exact fun e=>hkj (mD.1 e)
 have hmono:∀i,known res i->known (Sx.merge pl ext r' res) i:=fun i hi=>by
  grind[known,aO]
 have hag:Env.bE (known res) J (Env.join res.length ext J ρ2):=fun i hi=>by
  have:=aO hi;simp[Env.join,this]
 have hvia:Env.via (back pl ext res.length) ρ2 (Env.join res.length ext J ρ2):=fun j i hj=>by
  rcases hbackS j i hj with⟨o,hp⟩|⟨a,ha,rfl⟩
  ·have hil:=hlt j i o hp;have hj':=hg.1 j (hkr j (hpll j i o hp))
   have hsrc:src 0 (dB pl) j=i:=by
    grind[src,nH]
   simp only[Env.pull,hsrc]at hj';obtain⟨a1,a2,a3,a4,a5,a6⟩:=hj';simp[Env.join,hil,a1,a2,a3,a4,a5,a6]
  ·grind[Env.join]
 obtain⟨fps3,g⟩:=h.turn (res':=Sx.merge pl ext r' res) (K':=known (Sx.merge pl ext r' res)) (fun i=>∃k:Nat,pl[k]? =some (i,true)) (fun i=>(∃k:Nat,pl[k]? =some (i,true))\/res.length<=i)
  (fun i b=>(∃k:Nat,pl[k]? =some (i,true)/\fps2 k b)\/(res.length<=i/\∃j,ext[i-res.length]? =some j/\known r' j/\fps2 j b))
  (fun i hi=>hi) hmono hag
  (fun i hi hb=>by
   have hlt':i<res.length:=by
    rcases Nat.lt_or_ge i res.length with h|h
    ·exact h
    ·exact absurd (.inr h) hb
   have e:=hother i hlt' fun k hk'=>hb (.inl ⟨k,hk'⟩)
   exact⟨by unfold known at hi⊢;rw[e]at hi;exact hi,fun hT=>hb (.inl hT),e⟩)
  (fun i hi hb=>by
   have hfoot:∀k b,known r' k->fps2 k b->(∃t,(∃k:Nat,pl[k]? =some (t,true))/\known res t/\fps t b)\/(w.heap.size<=b/\b<w'.heap.size):=fun k b hk' hf=>by
    by_cases hbw:b<w.heap.size
    ·obtain⟨x,p,hp,hfp⟩:=h2.inF k b hk' hf hbw;exact .inl ⟨p,⟨x,hp⟩,ew hk x p true hp,hfp⟩
    ·exact .inr ⟨by omega,h2.lt k b hk' hf⟩
   by_cases hT:∃k:Nat,pl[k]? =some (i,true)
   ·obtain⟨k,hp⟩:=hT;have hkk:=hkr' k i true hp;have hil:=hlt k i true hp
    have e:(fun b=>(∃k:Nat,pl[k]? =some (i,true)/\fps2 k b)\/(res.length<=i/\∃j,ext[i-res.length]? =some j/\known r' j/\fps2 j b))=fps2 k:=by
     funext b
     apply propext
     constructor
     ·rintro(⟨k',hp',hf⟩|⟨hge,_⟩)
      ·rw[huniq k k' i true true hp hp'];exact hf
      ·omega
     ·exact fun hf=> .inl ⟨k,hp,hf⟩
    refine⟨?_,fun b hf=>hfoot k b hkk (by rw[<-e];exact hf)⟩
    rw[e,hown k i hp];exact iO hvia hN (hback1 k i true hp) _ _ _ (mc (ho1 k i hp) (h2.holds k hkk))
   ·have hge:res.length<=i:=hb.resolve_left hT
    have hj:∃j,ext[i-res.length]? =some j:=by
     unfold known at hi;rw[hget,aa3 (by omega)]at hi
     cases hx:ext[i-res.length]? with
     |none=>rw[hx]at hi;exact absurd rfl hi
     |some j=>exact⟨j,rfl⟩
    obtain⟨j,hj⟩:=hj
    have hkj:known r' j:=by
     unfold known at hi;rw[hget,aa3 (by omega),hj]at hi
     exact fun e=>hi (mD.2 e)
    have e:(fun b=>(∃k:Nat,pl[k]? =some (i,true)/\fps2 k b)\/(res.length<=i/\∃j,ext[i-res.length]? =some j/\known r' j/\fps2 j b))=fps2 j:=by
     grind
    refine⟨?_,fun b hf=>hfoot j b hkj (by rw[<-e];exact hf)⟩
    have hie:i=res.length+(i-res.length):=by omega
    have hb2:=hback2 _ j hj;rw[<-hie]at hb2;have hx:=hext _ j hj;rw[<-hie]at hx;rw[e,hx];exact iO hvia hN hb2 _ _ _ (mc (ho2 j (List.mem_of_getElem? hj)) (h2.holds j hkj)))
  (fun i j b hbi hbj hne hf hf'=>by
   have sel:∀x,((∃k:Nat,pl[k]? =some (x,true)/\fps2 k b)\/(res.length<=x/\∃j,ext[x-res.length]? =some j/\known r' j/\fps2 j b))->∃k,known r' k/\fps2 k b/\((pl[k]? =some (x,true))\/(res.length<=x/\ext[x-res.length]? =some k)):=by
    rintro x (⟨k,hp,hf⟩|⟨hge,j,hj,hkj,hf⟩)
    ·exact⟨k,hkr' k x true hp,hf,.inl hp⟩
    ·exact⟨j,hkj,hf,.inr ⟨hge,hj⟩⟩
   obtain⟨k,k1,k2,k3⟩:=sel i hf;obtain⟨l,l1,l2,l3⟩:=sel j hf';refine h2.disj k l b k1 l1 (fun e=>hne ?_) k2 l2
   subst e;rcases k3 with k3|⟨k3,k4⟩<;>rcases l3 with l3|⟨l3,l4⟩
   ·rw[k3]at l3;simp at l3;exact l3
   ·grind
   ·have:=(e1 k (List.mem_of_getElem? k4)).1;have:=hpll k j true l3;omega
   ·have:=huniqE _ _ _ k4 l4;omega)
  h2.os h2.tape h2.output h2.old
  (fun b hb hno=>h2.same b hb fun⟨i,p,hp,hf⟩=>hno p ⟨i,hp⟩ (ew hk i p true hp) hf)
 exact⟨_,fps3,g,⟨hag,hmono⟩,hvia,hN⟩
end
end
def jP (r':List aK):Nat->List (Nat×Bool)->Bool
 |_,[]=>true
 |i,(_,o)::l=>(if o then jI (ay r' i)else true)&&jP r' (i+1) l
theorem xr {r':List aK}:∀{l:List (Nat×Bool)} {i:Nat},jP r' i l=true->∀k p:Nat,l[k]? =some (p,true)->jI (ay r' (i+k))=true
 | [],i,_,k,p,h=>by simp at h
 | (x,o)::l,i,ha,k,p,h=>by
   simp only[jP,aaX]at ha;cases k with
   |zero=>simp at h;obtain⟨_,rfl⟩:=h;simpa using ha.1
   |succ k=>
    have:=xr ha.2 k p (by simpa using h)
    rwa [show i+(k+1)=i+1+k by omega]
def nf (r':List aK):List Nat->Bool
 | []=>true
 |j::l=>jI (ay r' j)&&nf r' l
theorem vb {r':List aK}:∀{l:List Nat},nf r' l=true->∀j∈l,jI (ay r' j)=true
 | [],_,j,h=>by simp at h
 |x::l,ha,j,h=>by
  simp only[nf,aaX]at ha;rcases List.mem_cons.1 h with rfl|h
  ·exact ha.1
  ·exact vb ha.2 j h
def jR (κ:Nat->Option Nat) (v v3:V):Prop:=∀(ρ2 ρ3:Env) (N N':Nat->Prop),Env.via κ ρ2 ρ3->(∀j i,κ j=some i->N j->N' i)->ok N v->den ρ3 v3=den ρ2 v/\ok N' v3
theorem jR.kf {κ:Nat->Option Nat} {v x:V} (h:xj x v []) (hx:Sx.kf x=true):jR κ v x:=fun ρ2 ρ3 N N' _ _ hv=>by
 obtain⟨s1,s2,_⟩:=h ρ2 N;exact⟨by rw[s1];exact pV hx (s2 hv) ρ2 ρ3,oH x hx (s2 hv)⟩
def XC (pl:List (Nat×Bool)) (res:List aK) (v:V) (r':List aK) (K:V->List aK->Prop):Prop:=
 ∃(ext:List Nat) (v3:V),iD pl.length r'.length ext=true/\jP r' 0 pl=true/\nf r' ext=true/\jR (back pl ext res.length) v v3/\K v3 (merge pl ext r' res)
section
variable {P:Program}
theorem an.frame {f:Nat} {args args0:List V} {res:List aK} {pl:List (Nat×Bool)} {K0 KP0 K KP:V->List aK->Prop} (hk:eH res pl=true) (hnd:iD 0 res.length (dB pl)=true)
  (ha:eO (k7 0 (dB pl)) args=some args0) (hc:an P f args0 (eV (k7 0 (dB pl)) res pl) K0 KP0)
  (hK:∀v r',K0 v r'->XC pl res v r' K) (hKP:∀v r',KP0 v r'->XC pl res v r' KP):an P f args res K KP:=by
 intro J fps w0 F0 w hH hargs;have hnd:=(pS hnd).2;obtain⟨g1,g2,g3,g4⟩:=hH.eV hk hnd;obtain⟨a1,_,a3,_⟩:=jd g3 g4 _ _ ha;rw[<-a1];refine(hc _ _ _ _ _ g1 (a3 hargs)).mono fun e w' ⟨x,ρ2,fps2,r',h1,h2,h3,h4⟩=>?_
 have fin:∀{K:V->List aK->Prop},XC pl res x r' K->∃x' ρ' fps' res',bq ρ' fps' res' (known res') w0 F0 w'/\Good J res ρ' res'/\ok (known res') x'/\den ρ' x'=den ρ2 x/\K x' res':=by
  rintro K ⟨ext,v3,b1,b2,b3,b4,b5⟩
  obtain⟨ρ3,fps3,m1,m2,m3,m4⟩:=hH.merge hk hnd h1 h2 b1 (fun i p hp=>by have:=xr b2 i p hp;rwa [Nat.zero_add]at this) (vb b3)
  obtain⟨c1,c2⟩:=b4 ρ2 ρ3 _ _ m3 m4 h3;exact⟨v3,ρ3,fps3,_,m1,m2,c2,c1,b5⟩
 rcases h4 with⟨rfl,h4⟩|⟨rfl,h4⟩
 ·grind
 ·grind
def sG:aK->Bool
 | .store _ _ _=>true
 | .arr _ _ _=>true
 |_=>false
theorem uR {κ:Nat->Option Nat} {r:aK} (h:sG r=true):gm κ r=r:=by
 cases r<;>first|rfl|simp[sG]at h
def pA (res:List aK) (p:Nat) (r:aK):Prop:=known res p/\∀J fps K w0 F0 w,bq J fps res K w0 F0 w->
 ∃fp:Nat->Prop,r.holds K J p fp w0 F0 w/\∀b,fp b->(∃i,known res i/\fps i b)\/(b<w0.heap.size/\¬F0 b)
theorem pA.look {res:List aK} {p:Nat} {r:aK} (h:cG res p=r) (hne:r≠ .yet):pA res p r:=by
 have hk:=dU h hne;refine⟨hk,fun J fps K w0 F0 w hH=>?_⟩
 obtain⟨fp,g1,g2⟩:=hH.AG h hk;exact⟨fp,g1,fun b hb=>(g2 b hb).elim (fun h=> .inl ⟨p,hk,h⟩) .inr⟩
def sS:List (Nat×aK)->List aK
 | []=> []
 | (_,r)::l=> .ro r::sS l
theorem yn:∀(l:List (Nat×aK)) (i:Nat),ay (sS l) i=match l[i]? with|some p=> .ro p.2|none=> .yet
 | [],i=>by simp[sS,ay]
 | (p,r)::l,0=>by simp[sS,ay]
 | (p,r)::l,i+1=>by simp[sS,ay,yn l i]
theorem tj:∀l:List (Nat×aK),(sS l).length=l.length
 | []=>rfl
 | (p,r)::l=>by simp[sS,tj l]
def rn:List (Nat×aK)->Nat->Nat
 | [],_=>0
 | (p,_)::_,0=>p
 |_::l,i+1=>rn l i
theorem vp:∀(l:List (Nat×aK)) (i:Nat) (p:Nat×aK),l[i]? =some p->rn l i=p.1
 | [],i,p,h=>by simp at h
 | (x,r)::l,0,p,h=>by simp at h;subst h;rfl
 | (x,r)::l,i+1,p,h=>by simp only[rn];exact vp l i p (by simpa using h)
theorem sE {f:Nat} {g:Ct} (h:∀res nid args q x new,g res nid args=some (q,x,new)->new= []/\kf x=true/\
  ∃(pls:List (Nat×aK)) (args0:List V),(∀p∈pls,pA res p.1 p.2/\sG p.2=true)/\(∀(J:Env) K,fM K args->bB (J.pull (rn pls)) args0=bB J args)/\(∀K,fM K args->fM (known (sS pls)) args0)/\
   (dX q->fM (known (sS pls)) args0->an P f args0 (sS pls) (xj x) (fun _ _=>False))):cq P f g:=by
 intro J fps res K w0 F0 w nid args q x new hH hargs hg hq hfr;obtain⟨rfl,hid,pls,args0,hcl,hden,hok,hc⟩:=h res nid args q x new hg;refine⟨?_,fun k hk=>by simp at hk⟩
 have hfr:∀b,b<w0.heap.size->¬F0 b->w.heap[b]? =w0.heap[b]? /\¬(fun _:Nat=>False) b:=fun b hb hF=>⟨hH.same b hb hF,fun h=>h⟩
 have hrep:bq (J.pull (rn pls)) (fun _ _=>False) (sS pls) (known (sS pls)) w (fun _=>False) w:=by
  refine⟨fun i hi=>hi,Nat.le_refl _,rfl,rfl,rfl,fun i hi=>?_,fun i b hi h=>h.elim,fun i j b hi hj hne h=>h.elim,fun i b hi h=>h.elim,fun _ _ _=>rfl⟩
  have hlt:=aO hi;rw[tj]at hlt;have hp:pls[i]? =some pls[i]:=List.getElem?_eq_getElem hlt;generalize pls[i]=p at hp
  rw[yn,hp];simp only;obtain⟨hs,hcl⟩:=hcl p (List.mem_of_getElem? hp);obtain⟨fp,g1,g2⟩:=hs.2 J fps K w0 F0 w hH
  have hv:Env.via (fun x=>if x=p.1 then some i else none) J (J.pull (rn pls)):=qN fun x j hx=>by
   split at hx
   ·simp only[aaV]at hx;subst hx;rename_i e;subst e;exact vp pls i p hp
   ·simp at hx
  have:=iO (N':=known (sS pls)) hv (fun x j hx _=>by
   split at hx
   ·simp only[aaV]at hx;subst hx;exact hi
   ·simp at hx) (p:=p.1) (i:=i) (by simp) _ _ _ (aK.tk hH.old hfr _ _ g1)
  rw[uR hcl]at this;refine⟨fp,this,fun b hb=>⟨?_,fun h=>h⟩⟩
  rcases g2 b hb with⟨j,hj,hf⟩|⟨hl,_⟩
  ·exact hH.lt j b hj hf
  ·exact Nat.lt_of_lt_of_le hl hH.old
 have hok0:=hok K hargs;rw[<-hden J K hargs];refine(hc hq hok0 _ _ _ _ _ hrep hok0).mono fun e w' ⟨y,ρ',fps',res',g1,g2,g3,g4⟩=>?_
 rcases g4 with⟨rfl,hK⟩|⟨_,hK⟩
 ·refine⟨_,rfl,J,?_,?_,?_⟩
  ·exact⟨⟨g1.os,g1.tape,g1.output,g1.old,fun b hb=>g1.same b hb (fun h=>h)⟩,Env.bE.refl _ _,fun _ _=>False,fun k hk=>by simp at hk,fun k l b hk=>by simp at hk⟩
  ·obtain⟨e1,e2,_⟩:=hK ρ' (known res');rw[e1];exact pV hid (e2 g3) J ρ'
  ·obtain⟨e1,e2,_⟩:=hK ρ' (known res');exact oH x hid (e2 g3)
 ·exact hK.elim
theorem an.tx {f:Nat} {args:List V} {res res1:List aK} {K KP:V->List aK->Prop} (h:an P f args res1 K KP)
  (ho:∀J fps w0 F0 w,bq J fps res (known res) w0 F0 w->∃ρ' fps',bq ρ' fps' res1 (known res1) w0 F0 w/\Good J res ρ' res1):an P f args res K KP:=by
 intro J fps w0 F0 w hH hargs;obtain⟨ρ',fps',h1,h2⟩:=ho J fps w0 F0 w hH;rw[<-fS h2.1 args hargs];refine(h ρ' fps' w0 F0 w h1 (dt h2.2 _ hargs)).mono fun e w' ⟨x,ρ2,fps2,r',g1,g2,g3,g4⟩=>⟨x,ρ2,fps2,r',g1,h2.trans g2,g3,g4⟩
theorem an.kr {f:Nat} {args:List V} {res:List aK} {k t e:Nat} {L:List Obj} {K KP:V->List aK->Prop} (hr:ay res k= .store t e L) (h:an P f args (kr res k t e L) K KP):an P f args res K KP:=
 h.tx fun _ _ _ _ _ hH=>AF hr hH
theorem an.fy {f:Nat} {args:List V} {res:List aK} {k t e:Nat} {L:List Obj} {K KP:V->List aK->Prop} (hr:ay res k= .ro (.store t e L)) (h:an P f args (fy res k t e L) K KP):an P f args res K KP:=
 h.tx fun _ _ _ _ _ hH=>zF hr hH
theorem an.shut {f:Nat} {args:List V} {res:List aK} {K0 KP K:V->List aK->Prop} (h:an P f args res K0 KP) (hK:∀v r,K0 v r->K v r\/∃k r',uF r k=some r'/\K v r'):an P f args res K KP:=by
 intro J fps w0 F0 w hH hargs;refine(h J fps w0 F0 w hH hargs).mono fun e w' ⟨x,ρ2,fps2,r',g1,g2,g3,g4⟩=>?_
 rcases g4 with⟨rfl,hk⟩|g4
 ·rcases hK _ _ hk with hk|⟨k,r2,s1,s2⟩
  ·exact⟨x,ρ2,fps2,r',g1,g2,g3,.inl ⟨rfl,hk⟩⟩
  ·obtain⟨fps3,m1,m2⟩:=BG s1 g1;exact⟨x,ρ2,fps3,r2,m1,⟨g2.1,fun i hi=>m2 i (g2.2 i hi)⟩,ec m2 _ g3,.inl ⟨rfl,s2⟩⟩
 ·exact⟨x,ρ2,fps2,r',g1,g2,g3,.inr g4⟩
end
section
variable {P:Program}
theorem an.fact {f:Nat} {args:List V} {res:List aK} {K KP:V->List aK->Prop} {k t e:Nat} {L:List Obj} (hr:cG res k= .store t e L)
  (h:(∀o∈L,o.wf)->L.length<=9223372036854775807->an P f args res K KP):an P f args res K KP:=by
 intro J fps w0 F0 w hH hargs;obtain⟨fp,hh,_⟩:=hH.look hr (by simp)
 obtain⟨_,h1,h2,_⟩:=hh;exact h h1 h2 J fps w0 F0 w hH hargs
theorem an.ET {f:Nat} {args:List V} {res:List aK} {K KP:V->List aK->Prop} {k esz:Nat} {own:Option Nat} {L:List Obj} (hr:cG res k= .arr own esz (.ob L))
  (h:(∀o∈L,o.wf)->L.length<=9223372036854775807->an P f args res K KP):an P f args res K KP:=by
 intro J fps w0 F0 w hH hargs;obtain⟨fp,hh,_⟩:=hH.look hr (by simp)
 obtain⟨h1,_,h2,_⟩:=hh;refine h (fun o ho=>?_) h2 J fps w0 F0 w hH hargs
 obtain⟨i,hi,rfl⟩:=List.getElem_of_mem ho;have:=(h1 i hi).1;simpa[TL.get,aj,aa2,hi,ok]using this
theorem pA.open {res:List aK} {p j t e q:Nat} {L:List Obj} (hp:cG res p= .blk t (.ag [.sa j])) (hj:cG res j= .obs e q L) (hte:t≠e):pA res p (.store t e L):=by
 have hkp:=dU hp (by simp)
 have hkj:=dU hj (by simp)
 refine⟨hkp,fun J fps K w0 F0 w hH=>?_⟩
 obtain⟨fp1,⟨_,_,b3,b4⟩,g1⟩:=hH.AG hp hkp;obtain⟨fp2,⟨_,c1,c2,c3,c4,c5,c6,c7⟩,g2⟩:=hH.AG hj hkj
 have b4':w.heap[J.num p]? =some (.cells #[J.sl j] t (0,0)):=by
  rw[b4];have:den J (.sa j)=J.sl j:=rfl;simp[fE,bp,this,Env.sl,Value.cells]
 refine⟨fun b=>fp1 b\/fp2 b,⟨.inl b3,c1,c3,J.sl j,J.ob q,b4',c6,fun b hb=>?_,fun x hx=>?_⟩,fun b hb=>?_⟩
 ·have hb':=hb;cases ha:J.sa j with
  |none=>simp[Env.sl,ha,Value.ownBlock]at hb
  |some a=>
   simp only[Env.sl,ha,Value.ownBlock,aaV]at hb;subst hb;refine⟨.inr (c4 a ha).2,fun e'=>?_⟩
   rcases c6.2 with⟨hh,_⟩|⟨g,cap,cur,hh,_,h3,_⟩
   ·simp[Env.sl,ha]at hh
   ·rw[hh]at hb';simp only[Value.ownBlock,aaV]at hb';rw[hb',e',b4']at h3;simp only[aaV,Go.Obj.cells.injEq]at h3;exact hte h3.2.1
 ·grind[nC]
 ·grind
theorem pA.zero {res:List aK} {p t e:Nat} (hp:cG res p= .blk t (.ag [.nl (.slice none 0 0)])):pA res p (.store t e []):=by
 have hkp:=dU hp (by simp)
 refine⟨hkp,fun J fps K w0 F0 w hH=>?_⟩
 obtain⟨fp1,⟨_,_,b3,b4⟩,g1⟩:=hH.AG hp hkp;refine⟨fp1,⟨b3,by simp,by simp,.slice none 0 0,fun _=>0,?_,World.ownsRow_nil w 0 e 1,fun b hb=>by simp[Value.ownBlock]at hb,fun x hx=>by simp at hx⟩,fun b hb=>(g1 b hb).elim (fun h=> .inl ⟨p,hkp,h⟩) .inr⟩
 rw[b4];simp[fE,bp,den,Value.cells]
def rS (t e:Nat) (res:List aK) (v:V):Option (Option Nat×List Obj):=
 match v with
 | .nl v=>match v with
   | .pointer p=>match p with
     |none=>some (none,[])
     |some _=>none
   |_=>none
 | .lp k off=>if off==0 then match cG res k with
   | .store t' e' L=>if t'==t&&e'==e then some (some k,L)else none
   | .blk t' c=>if t'==t&& !(t==e)then match c with
     | .ag l=>match l with
       | [x]=>match x with
         | .sa j=>match cG res j with
           | .obs e' _ L=>if e'==e then some (some k,L)else none
           |_=>none
         | .nl v=>match v with
           | .slice none 0 0=>some (some k,[])
           |_=>none
         |_=>none
       |_=>none
     |_=>none
     else none
   |_=>none
   else none
 |_=>none
theorem u6 {t e:Nat} {res:List aK} {v:V} {o:Option Nat} {L:List Obj} (h:rS t e res v=some (o,L)):(o=none/\L= []/\v= .nl (.pointer none))\/∃k,o=some k/\v= .lp k 0/\pA res k (.store t e L):=by
 unfold rS at h;split at h
 ·grind
 ·rename_i k off;split at h
  ·rename_i ho;have ho:=aaZ.1 ho;subst ho;split at h
   ·grind[pA.look]
   ·grind[pA.open,pA.zero]
   ·simp at h
  ·simp at h
 ·simp at h
def jJ:V:= .nl (.pointer none)
def Vu (t e:Nat) (F:List Obj->V):Ct:=fun res _ xs=>match xs with
 | [a]=>match rS t e res a with
   |some (_,L)=>some (none,F L,[])
   |none=>none
 |_=>none
def Kb {α:Type} (t e:Nat) (r:V->Option α) (F:List Obj->α->V):Ct:=fun res _ xs=>match xs with
 | [a,b]=>match rS t e res a with
   |some (_,L)=>match r b with
    |some x=>some (none,F L x,[])
    |none=>none
   |none=>none
 |_=>none
theorem Ol {f t e:Nat} {F:List Obj->V} (hF:∀L,kf (F L)=true) (h0:an P f [jJ] [] (oD (F [])) (fun _ _=>False))
  (h1:∀L,(∀o∈L,o.wf)->L.length<=9223372036854775807->an P f [.lp 0 0] [.ro (.blk t (.ag [.sa 1])),.ro (.obs e 2 L),.gen 1] (oD (F L)) (fun _ _=>False)):cq P f (Vu t e F):=by
 refine sE fun res nid args q x new hg=>?_
 unfold Vu at hg;split at hg<;>(try split at hg)<;>simp only[aaV,aaW,reduceCtorEq]at hg
 rename_i a o L hr;obtain⟨rfl,rfl,rfl⟩:=hg;rcases u6 hr with⟨rfl,rfl,rfl⟩|⟨k,rfl,rfl,hs⟩
 ·exact⟨rfl,hF [],[],[jJ],by simp,fun J _ _=>rfl,fun K hK=>⟨hK.1,trivial⟩,fun _ _=>h0.mono (fun _ _=>dE) fun _ _ h=>h⟩
 ·refine⟨rfl,hF L,[(k,.store t e L)],[.lp 0 0],by simpa using⟨hs,rfl⟩,fun J _ _=>rfl,fun K hK=>⟨by simp[ok,known,sS,ay],trivial⟩,fun _ _=>?_⟩
  exact an.fact (k:=0) rfl fun w1 w2=>(an.fy (res:=sS [(k,.store t e L)]) (k:=0) rfl (h1 L w1 w2)).mono (fun _ _=>dE) fun _ _ h=>h
theorem xR {f t e:Nat} {α:Type} {r:V->Option α} {m:α->V} {F:List Obj->α->V} (hr:sT r m) (hF:∀L x,kf (F L x)=true)
  (h0:∀x,ok (fun _=>False) (m x)->an P f [jJ,m x] [] (oD (F [] x)) (fun _ _=>False))
  (h1:∀L x,(∀o∈L,o.wf)->L.length<=9223372036854775807->ok (fun _=>False) (m x)->an P f [.lp 0 0,m x] [.ro (.blk t (.ag [.sa 1])),.ro (.obs e 2 L),.gen 1] (oD (F L x)) (fun _ _=>False))
  (hid:∀x,kf (m x)=true):cq P f (Kb t e r F):=by
 refine sE fun res nid args q x new hg=>?_
 unfold Kb at hg;split at hg<;>(try split at hg)<;>(try split at hg)<;>simp only[aaV,aaW,reduceCtorEq]at hg
 rename_i a b _ o L hs _ x hb;obtain⟨rfl,rfl,rfl⟩:=hg;obtain⟨b1,b2⟩:=hr _ x hb;have hde:∀J ρ':Env,∀K,ok K b->den ρ' (m x)=den J b:=fun J ρ' K hk=>by rw[b1 J];exact pV (hid x) (b2 K hk) J ρ'
 rcases u6 hs with⟨rfl,rfl,rfl⟩|⟨k,rfl,rfl,hse⟩
 ·refine⟨rfl,hF [] x,[],[jJ,m x],by simp,fun J K hK=>?_,fun K hK=>⟨hK.1,fQ (b2 K hK.2.1),trivial⟩,fun _ hok=>?_⟩
  ·simp only[bB,hde J (J.pull (rn [])) K hK.2.1];rfl
  ·exact(h0 x (oH _ (hid x) hok.2.1)).mono (fun _ _=>dE) fun _ _ h=>h
 ·refine⟨rfl,hF L x,[(k,.store t e L)],[.lp 0 0,m x],by simpa using⟨hse,rfl⟩,fun J K hK=>?_,fun K hK=>⟨by simp[ok,known,sS,ay],fQ (b2 K hK.2.1),trivial⟩,fun _ hok=>?_⟩
  ·simp only[bB,hde J (J.pull (rn [(k,.store t e L)])) K hK.2.1];rfl
  ·exact an.fact (k:=0) rfl fun w1 w2=>(an.fy (res:=sS [(k,.store t e L)]) (k:=0) rfl (h1 L x w1 w2 (oH _ (hid x) hok.2.1))).mono (fun _ _=>dE) fun _ _ h=>h
theorem pA.arr {res:List aK} {p esz:Nat} {own:Option Nat} {l:TL} (h:cG res p= .arr own esz l):pA res p (.arr none esz l):=by
 have hk:=dU h (by simp)
 refine⟨hk,fun J fps K w0 F0 w hH=>?_⟩
 obtain⟨fp,⟨h1,h2,h3,h4,h5,h6,h7⟩,g2⟩:=hH.AG h hk;refine⟨fp,⟨h1,h2,h3,h4,h5,h6,?_⟩,fun b hb=>(g2 b hb).elim (fun h=> .inl ⟨p,hk,h⟩) .inr⟩
 rcases h7 with⟨e,h7⟩|⟨e,e1,e2⟩
 ·exact .inl ⟨rfl,h7⟩
 ·exact .inr ⟨e,by simp,e2⟩
def rA (res:List aK) (v:V):Option (Nat×List Obj):=
 match v with
 | .sa k=>match cG res k with
   | .arr _ e l=>if e==163 then match l with
     | .ob l=>some (k,l)
     |_=>none
     else none
   |_=>none
 |_=>none
theorem xL {res:List aK} {v:V} {k:Nat} {l:List Obj} (h:rA res v=some (k,l)):v= .sa k/\pA res k (.arr none 163 (.ob l))/\∃own,cG res k= .arr own 163 (.ob l):=by
 unfold rA at h;split at h
 ·grind[pA.arr]
 ·simp at h
def mkA (F:List Obj->V):Ct:=fun res _ xs=>match xs with
 | [a]=>match rA res a with
   |some (_,L)=>some (none,F L,[])
   |none=>none
 |_=>none
def Rj {α:Type} (r:V->Option α) (F:List Obj->α->V):Ct:=fun res _ xs=>match xs with
 | [a,b]=>match rA res a with
   |some (_,L)=>match r b with
    |some x=>some (none,F L x,[])
    |none=>none
   |none=>none
 |_=>none
theorem Hl {J:Env} {i k:Nat} {pls:List (Nat×aK)} (h:rn pls i=k):den (J.pull (rn pls)) (.sa i)=den J (.sa k):=by
 simp only[den,Env.pull,h]
theorem Yr {f:Nat} {F:List Obj->V} (hF:∀L,kf (F L)=true)
  (h1:∀L,(∀o∈L,o.wf)->L.length<=9223372036854775807->an P f [.sa 0] [.ro (.arr none 163 (.ob L))] (oD (F L)) (fun _ _=>False)):cq P f (mkA F):=by
 refine sE fun res nid args q x new hg=>?_
 unfold mkA at hg;split at hg<;>(try split at hg)<;>simp only[aaV,aaW,reduceCtorEq]at hg
 rename_i a k L hr;obtain⟨rfl,rfl,rfl⟩:=hg;obtain⟨rfl,hs,_⟩:=xL hr
 exact⟨rfl,hF L,[(k,.arr none 163 (.ob L))],[.sa 0],by simpa using⟨hs,rfl⟩,fun J _ _=>by simp only[bB,Hl (pls:= [(k,.arr none 163 (.ob L))]) (i:=0) (k:=k) rfl],fun K hK=>⟨by simp[ok,known,sS,ay],trivial⟩,
  fun _ _=>an.ET (k:=0) rfl fun w1 w2=>(h1 L w1 w2).mono (fun _ _=>dE) fun _ _ h=>h⟩
theorem Iw {f:Nat} {α:Type} {r:V->Option α} {m:α->V} {F:List Obj->α->V} (hr:sT r m) (hF:∀L x,kf (F L x)=true)
  (h1:∀L x,(∀o∈L,o.wf)->L.length<=9223372036854775807->ok (fun _=>False) (m x)->an P f [.sa 0,m x] [.ro (.arr none 163 (.ob L))] (oD (F L x)) (fun _ _=>False)) (hid:∀x,kf (m x)=true):cq P f (Rj r F):=by
 refine sE fun res nid args q x new hg=>?_
 unfold Rj at hg;split at hg<;>(try split at hg)<;>(try split at hg)<;>simp only[aaV,aaW,reduceCtorEq]at hg
 rename_i a b _ k L hs _ x hb;obtain⟨rfl,rfl,rfl⟩:=hg;obtain⟨rfl,hse,_⟩:=xL hs;obtain⟨b1,b2⟩:=hr _ x hb;have hde:∀J ρ':Env,∀K,ok K b->den ρ' (m x)=den J b:=fun J ρ' K hk=>by rw[b1 J];exact pV (hid x) (b2 K hk) J ρ'
 refine⟨rfl,hF L x,[(k,.arr none 163 (.ob L))],[.sa 0,m x],by simpa using⟨hse,rfl⟩,fun J K hK=>?_,fun K hK=>⟨by simp[ok,known,sS,ay],fQ (b2 K hK.2.1),trivial⟩,fun _ hok=>?_⟩
 ·simp only[bB,hde J (J.pull (rn [(k,.arr none 163 (.ob L))])) K hK.2.1,Hl (pls:= [(k,.arr none 163 (.ob L))]) (i:=0) (k:=k) rfl]
 ·exact an.ET (k:=0) rfl fun w1 w2=>(h1 L x w1 w2 (oH _ (hid x) hok.2.1)).mono (fun _ _=>dE) fun _ _ h=>h
def Xb (t e:Nat) (F:List Obj->List Obj->V):Ct:=fun res _ xs=>match xs with
 | [a,b]=>match rS t e res a with
   |some (_,L)=>match rA res b with
    |some (_,M)=>some (none,F L M,[])
    |none=>none
   |none=>none
 |_=>none
theorem Td {f t e:Nat} {F:List Obj->List Obj->V} (hF:∀L M,kf (F L M)=true)
  (h0:∀M,(∀o∈M,o.wf)->M.length<=9223372036854775807->an P f [jJ,.sa 0] [.ro (.arr none 163 (.ob M))] (oD (F [] M)) (fun _ _=>False))
  (h1:∀L M,(∀o∈L,o.wf)->L.length<=9223372036854775807->(∀o∈M,o.wf)->M.length<=9223372036854775807->
   an P f [.lp 0 0,.sa 1] [.ro (.blk t (.ag [.sa 2])),.ro (.arr none 163 (.ob M)),.ro (.obs e 3 L),.gen 2] (oD (F L M)) (fun _ _=>False)):cq P f (Xb t e F):=by
 refine sE fun res nid args q x new hg=>?_
 unfold Xb at hg;split at hg<;>(try split at hg)<;>(try split at hg)<;>simp only[aaV,aaW,reduceCtorEq]at hg
 rename_i a b _ o L hs _ j M hb;obtain⟨rfl,rfl,rfl⟩:=hg;obtain⟨rfl,hbe,_⟩:=xL hb;rcases u6 hs with⟨rfl,rfl,rfl⟩|⟨k,rfl,rfl,hse⟩
 ·refine⟨rfl,hF [] M,[(j,.arr none 163 (.ob M))],[jJ,.sa 0],by simpa using⟨hbe,rfl⟩,fun J K hK=>?_,fun K hK=>⟨hK.1,by simp[ok,known,sS,ay],trivial⟩,fun _ hok=>?_⟩
  ·rfl
  ·exact an.ET (k:=0) rfl fun w1 w2=>(h0 M w1 w2).mono (fun _ _=>dE) fun _ _ h=>h
 ·refine⟨rfl,hF L M,[(k,.store t e L),(j,.arr none 163 (.ob M))],[.lp 0 0,.sa 1],by simpa using⟨⟨hse,rfl⟩,hbe,rfl⟩,fun J K hK=>?_,fun K hK=>⟨by simp[ok,known,sS,ay],by simp[ok,known,sS,ay],trivial⟩,fun _ hok=>?_⟩
  ·rfl
  ·exact an.fact (k:=0) rfl fun w1 w2=>an.ET (k:=1) rfl fun w3 w4=>
    (an.fy (res:=sS [(k,.store t e L),(j,.arr none 163 (.ob M))]) (k:=0) rfl (h1 L M w1 w2 w3 w4)).mono (fun _ _=>dE) fun _ _ h=>h
end
abbrev ke:=List V->List aK->(V->List aK->Prop)->Prop
def kJ (P:Program) (f:Nat) (h:ke):Prop:=∀args res K KP,h args res K->an P f args res K KP
def EB:List (Nat×ke)->Handler
 | [],_,_,_,_,_=>False
 | (g,h)::l,f,args,res,K,KP=>if f==g then h args res K else EB l f args res K KP
theorem Ak {P:Program}:∀{l:List (Nat×ke)},(∀p∈l,kJ P p.1 p.2)->Handler.OK P (EB l)
 | [],_,f,args,res,K,KP,h=>h.elim
 | (g,x)::l,hl,f,args,res,K,KP,h=>by
   simp only[EB]at h;split at h
   ·rename_i e;have e:=aaZ.1 e;subst e;exact hl (f,x) (by simp) args res K KP h
   ·exact Ak (fun p hp=>hl p (by simp[hp])) f args res K KP h
theorem aD {P:Program}:∀p∈([]:List (Nat×ke)),kJ P p.1 p.2:=by simp
theorem aB {P:Program} {f:Nat} {g:ke} {l:List (Nat×ke)} (h:kJ P f g) (t:∀p∈l,kJ P p.1 p.2):∀p∈(f,g)::l,kJ P p.1 p.2:=by
 simp_all
theorem u5 {κ:Nat->Option Nat}:∀v,kf v=true->fU κ v=some v:=by
 intro v
 exact V.rec (motive_1:=fun v=>kf v=true->fU κ v=some v) (motive_2:=fun l=>lf l=true->eO κ l=some l)
  (fun b _=>rfl) (fun b _=>rfl) (fun k n _=>rfl) (fun k n _=>rfl) (fun b _=>rfl) (fun s _=>rfl) (fun v _=>rfl) (fun _ _ h=>by simp[kf]at h) (fun _ _ _ _ _ _ h=>by simp[kf]at h)
  (fun _ _ _ h=>by simp[kf]at h) (fun _ _ h=>by simp[kf]at h) (fun _ _ _ _ h=>by simp[kf]at h) (fun _ h=>by simp[kf]at h) (fun _ _ h=>by simp[kf]at h) (fun _ h=>by simp[kf]at h)
  (fun f l ih h=>by simp only[fU];rw[ih h]) (fun t x ih h=>by simp only[fU];rw[ih h]) (fun l ih h=>by simp only[fU];rw[ih h]) (fun l ih h=>by simp only[fU];rw[ih h])
  (fun _ _=>rfl) (fun _ _=>rfl) (fun _ _=>rfl) (fun _ _=>rfl) (fun _ h=>by simp[kf]at h) (fun _ _ _ _ _ _ h=>by simp[kf]at h) (fun _ _ _ _ _ _ _ _ h=>by simp[kf]at h) (fun _ _ _ _ h=>by simp[kf]at h) (fun _ _ _ _ _ _ h=>by simp[kf]at h) (fun _=>rfl)
  (fun x l ih1 ih2 h=>by simp only[lf,aaX]at h;simp only[eO];rw[ih1 h.1];simp only;rw[ih2 h.2]) v
theorem jt {κ:Nat->Option Nat}:∀l,lf l=true->eO κ l=some l
 | [],_=>rfl
 |x::l,h=>by
  simp_all[lf,eO,u5,jt]
def fc (l m:List V):Prop:=∀(J:Env) K,fM K l->bB J l=bB J m/\fM K m
theorem fc.nil:fc [] []:=fun _ _ _=>⟨rfl,trivial⟩
theorem fc.jH {x:V} {l m:List V} (h:fc l m):fc (x::l) (x::m):=fun J K hk=>⟨by simp only[bB,(h J K hk.2).1],hk.1,(h J K hk.2).2⟩
theorem fc.rd {α:Type} {r:V->Option α} {f:α->V} (hr:sT r f) {a:V} {x:α} (hx:r a=some x) {l m:List V} (h:fc l m):fc (a::l) (f x::m):=fun J K hk=>by
 obtain⟨a1,a2⟩:=hr a x hx;exact⟨by simp only[bB,(h J K hk.2).1,a1],fQ (a2 K hk.1),(h J K hk.2).2⟩
section
variable {P:Program}
theorem an.args {f:Nat} {args args':List V} {res:List aK} {K KP:V->List aK->Prop} (h:fc args args') (hc:an P f args' res K KP):an P f args res K KP:=by
 intro J fps w0 F0 w hH hargs;obtain⟨h1,h2⟩:=h J _ hargs;rw[h1];exact hc J fps w0 F0 w hH h2
theorem an.Ds {f:Nat} {rest:List V} {res:List aK} {K KP:V->List aK->Prop} {k t e:Nat} {L M:List Obj} {x:V} (hr:ay res k= .store t e L) (hid:lf rest=true) (hx:kf x=true)
  (h:an P f (.lp 0 0::rest) [.store t e L] (fun v r=>xj x v r/\ay r 0= .store t e M) (fun _ _=>False)) (hK:K x (bO res k (.store t e M))):an P f (.lp k 0::rest) res K KP:=by
 have hk:known res k:=by unfold known;rw[hr];simp
 have hlt:=aO hk;refine an.frame (pl:= [(k,true)]) (args0:= .lp 0 0::rest) (K0:=fun v r=>xj x v r/\ay r 0= .store t e M) (KP0:=fun _ _=>False) (by simp[eH,cD.2 hk]) (by simpa[iD,dB,nL]using hlt) ?_ ?_ (fun v r hv=>?_) (fun _ _ h=>h.elim)
 ·simp only[eO,fU,k7,idxOf,dB];rw[jt rest hid];simp
 ·simp_all[eV,k7,dB,gm]
 ·obtain⟨h1,h2⟩:=hv;have hm:merge [(k,true)] [] r res=bO res k (.store t e M):=by simp[merge,eZ,h2,gm,fZ]
  exact⟨[],x,rfl,by simp[jP,h2,jI],rfl,jR.kf h1 hx,by rw[hm];exact hK⟩
theorem an.pure {f:Nat} {args:List V} {res:List aK} {K KP:V->List aK->Prop} {x:V} (hid:lf args=true) (hx:kf x=true)
  (h:an P f args [] (fun v _=>xj x v []) (fun _ _=>False)) (hK:K x res):an P f args res K KP:=by
 refine an.frame (pl:= []) (args0:=args) (K0:=fun v _=>xj x v []) (KP0:=fun _ _=>False) rfl rfl (jt args hid) h (fun v r hv=>?_) (fun _ _ h=>h.elim)
 have hm:merge [] [] r res=res:=by simp[merge,eZ,fZ]
 exact⟨[],x,rfl,rfl,rfl,jR.kf hv hx,by rw[hm];exact hK⟩
theorem an.MG {f:Nat} {rest:List V} {res:List aK} {K KP:V->List aK->Prop} {k:Nat} {r0:aK} {x:V} (hr:cG res k=r0) (hne:r0≠ .yet) (hren:∀κ,gm κ r0=r0) (hid:lf rest=true) (hx:kf x=true)
  (h:an P f (.lp 0 0::rest) [.ro r0] (fun v _=>xj x v []) (fun _ _=>False)) (hK:K x res):an P f (.lp k 0::rest) res K KP:=by
 have hk:=dU hr hne;have hlt:=aO hk;refine an.frame (pl:= [(k,false)]) (args0:= .lp 0 0::rest) (K0:=fun v _=>xj x v []) (KP0:=fun _ _=>False) (by simp[eH,cD.2 hk]) (by simpa[iD,dB,nL]using hlt) ?_ ?_ (fun v r hv=>?_) (fun _ _ h=>h.elim)
 ·simp only[eO,fU,k7,idxOf,dB];rw[jt rest hid];simp
 ·simp_all[eV,k7,dB]
 ·have hm:merge [(k,false)] [] r res=res:=by simp[merge,eZ,fZ]
  exact⟨[],x,rfl,by simp[jP],rfl,jR.kf hv hx,by rw[hm];exact hK⟩
theorem bq.weaken {J:Env} {fps:Nat->Nat->Prop} {res res':List aK} {w0 w:World} {F0:Nat->Prop} (h:bq J fps res (known res) w0 F0 w)
  (hk:∀i,known res' i->known res i/\∀fp,(ay res i).holds (known res) J i fp w0 F0 w->(ay res' i).holds (known res') J i fp w0 F0 w):bq J fps res' (known res') w0 F0 w:=
 ⟨fun i hi=>hi,h.old,h.os,h.tape,h.output,fun i hi=>(hk i hi).2 _ (h.holds i (hk i hi).1),fun i b hi=>h.lt i b (hk i hi).1,fun i j b hi hj=>h.disj i j b (hk i hi).1 (hk j hj).1,fun i b hi=>h.inF i b (hk i hi).1,h.same⟩
theorem uP {K K':Nat->Prop} {J:Env} {i:Nat} {fp:Nat->Prop} {w0 w:World} {F0:Nat->Prop} {own:Option Nat} {e:Nat} {l:TL} (h:(aK.arr own e l).holds K J i fp w0 F0 w):(aK.arr none e l).holds K' J i fp w0 F0 w:=by
 obtain⟨h1,h2,h3,h4,h5,h6,h7⟩:=h;refine⟨h1,h2,h3,h4,h5,h6,?_⟩;rcases h7 with⟨e,h7⟩|⟨e,e1,e2⟩
 ·exact .inl ⟨rfl,h7⟩
 ·exact .inr ⟨e,by simp,e2⟩
theorem an.Y4 {f:Nat} {args:List V} {K KP:V->List aK->Prop} {own:Option Nat} {e:Nat} {l:TL} (h:an P f args [.ro (.arr none e l)] K KP):an P f args [.ro (.arr own e l)] K KP:=by
 have hk:∀i (own:Option Nat),known [.ro (.arr own e l)] i↔i=0:=fun i own=>by
  unfold known;cases i with
  |zero=>simp[ay]
  |succ i=>simp[ay]
 refine h.tx fun J fps w0 F0 w hH=>⟨J,fps,hH.weaken fun i hi=>?_,Env.bE.refl _ _,fun i hi=>(hk i _).2 ((hk i _).1 hi)⟩
 have:=(hk i _).1 hi;subst this;refine⟨(hk 0 _).2 rfl,fun fp hh=>?_⟩
 obtain⟨fp',g1,g2⟩:=hh;exact⟨fp',uP g1,g2⟩
theorem an.NA {f:Nat} {rest:List V} {res:List aK} {K KP:V->List aK->Prop} {t e k esz:Nat} {own:Option Nat} {l:TL} {M:List Obj} {F:Nat->V} (hr:cG res k= .arr own esz l) (hid:lf rest=true)
  (h:an P f (.sa 0::rest) [.ro (.arr own esz l)] (fun v r=>∃j,1<=j/\ay r j= .store t e M/\(∀(κ:Nat->Option Nat) (i:Nat),κ j=some i->jR κ v (F i))) (fun _ _=>False)) (hK:K (F res.length) (res++ [.store t e M])):an P f (.sa k::rest) res K KP:=by
 have hk:=dU hr (by simp)
 have hlt:=aO hk;refine an.frame (pl:= [(k,false)]) (args0:= .sa 0::rest) (K0:=fun v r=>∃j,1<=j/\ay r j= .store t e M/\(∀(κ:Nat->Option Nat) (i:Nat),κ j=some i->jR κ v (F i))) (KP0:=fun _ _=>False) (by simp[eH,cD.2 hk]) (by simpa[iD,dB,nL]using hlt) ?_ ?_ (fun v r hv=>?_) (fun _ _ h=>h.elim)
 ·simp only[eO,fU,k7,idxOf,dB];rw[jt rest hid];simp
 ·have:eV (k7 0 (dB [(k,false)])) res [(k,false)]= [.ro (.arr own esz l)]:=by simp[eV,hr,gm]
  rw[this];exact h
 ·obtain⟨j,hj1,hj,hv⟩:=hv;have hjl:j<r.length:=aO (by rw[hj];simp)
  have hm:merge [(k,false)] [j] r res=res++ [.store t e M]:=by simp[merge,eZ,fZ,hj,gm]
  refine⟨[j],F res.length,by simpa[iD,nL]using⟨hj1,hjl⟩,by simp[jP],by simp[nf,hj,jI],hv _ _ ?_,by rw[hm];exact hK⟩
  obtain⟨m,rfl⟩:∃m,j=m+1:=⟨j-1,by omega⟩
  simp[back,uN,idxOf]
theorem an.ZQ {f:Nat} {rest:List V} {res:List aK} {K KP:V->List aK->Prop} {k esz:Nat} {own:Option Nat} {l:TL} {x:V} (hr:cG res k= .arr own esz l) (hid:lf rest=true) (hx:kf x=true)
  (h:an P f (.sa 0::rest) [.ro (.arr own esz l)] (fun v _=>xj x v []) (fun _ _=>False)) (hK:K x res):an P f (.sa k::rest) res K KP:=by
 have hk:=dU hr (by simp)
 have hlt:=aO hk;refine an.frame (pl:= [(k,false)]) (args0:= .sa 0::rest) (K0:=fun v _=>xj x v []) (KP0:=fun _ _=>False) (by simp[eH,cD.2 hk]) (by simpa[iD,dB,nL]using hlt) ?_ ?_ (fun v r hv=>?_) (fun _ _ h=>h.elim)
 ·simp only[eO,fU,k7,idxOf,dB];rw[jt rest hid];simp
 ·have:eV (k7 0 (dB [(k,false)])) res [(k,false)]= [.ro (.arr own esz l)]:=by simp[eV,hr,gm]
  rw[this];exact h
 ·have hm:merge [(k,false)] [] r res=res:=by simp[merge,eZ,fZ]
  exact⟨[],x,rfl,by simp[jP],rfl,jR.kf hv hx,by rw[hm];exact hK⟩
theorem tn (κ2:Nat->Option Nat) (r':List aK):∀(l:List (Nat×Bool)) (i:Nat) (res:List aK),(∀p∈l,p.2=false)->eZ κ2 r' i l res=res
 | [],_,_,_=>rfl
 | (p,o)::l,i,res,h=>by
   simp_all[eZ,tn]
theorem wo (r':List aK):∀(l:List (Nat×Bool)) (i:Nat),(∀p∈l,p.2=false)->jP r' i l=true
 | [],_,_=>rfl
 | (p,o)::l,i,h=>by
   simp_all[jP,wo]
theorem r7:∀(l:List (Nat×Bool)) (j:Nat),l.length<=j->uN l j=none
 | [],_,_=>rfl
 | (p,o)::l,0,h=>by simp at h
 | (p,o)::l,j+1,h=>by simp only[uN];exact r7 l j (by simpa using h)
theorem an.Zn {f:Nat} {args args0:List V} {res:List aK} {K KP:V->List aK->Prop} {pl:List (Nat×Bool)} {new:aK} {F:Nat->V} (hk:eH res pl=true) (hnd:iD 0 res.length (dB pl)=true) (hro:∀p∈pl,p.2=false)
  (ha:eO (k7 0 (dB pl)) args=some args0) (hnew:jI new=true) (hne:new≠ .yet) (hren:∀κ,gm κ new=new)
  (h:an P f args0 (eV (k7 0 (dB pl)) res pl) (fun v r=>∃j,pl.length<=j/\ay r j=new/\(∀(κ:Nat->Option Nat) (i:Nat),κ j=some i->jR κ v (F i))) (fun _ _=>False))
  (hK:K (F res.length) (res++ [new])):an P f args res K KP:=by
 refine an.frame hk hnd ha h (fun v r hv=>?_) (fun _ _ h=>h.elim)
 obtain⟨j,hj1,hj,hv⟩:=hv;have hjl:j<r.length:=aO (by rw[hj];exact hne)
 have hm:merge pl [j] r res=res++ [new]:=by simp[merge,tn _ _ pl 0 res hro,fZ,hj,hren]
 refine⟨[j],F res.length,by simpa[iD,nL]using⟨hj1,hjl⟩,wo _ _ _ hro,by simp[nf,hj,hnew],hv _ _ ?_,by rw[hm];exact hK⟩
 simp[back,r7 pl j hj1,idxOf]
theorem an.VL {f:Nat} {args args0:List V} {res:List aK} {K KP:V->List aK->Prop} {pl:List (Nat×Bool)} {x:V} (hk:eH res pl=true) (hnd:iD 0 res.length (dB pl)=true) (hro:∀p∈pl,p.2=false)
  (ha:eO (k7 0 (dB pl)) args=some args0) (hx:kf x=true)
  (h:an P f args0 (eV (k7 0 (dB pl)) res pl) (fun v _=>xj x v []) (fun _ _=>False)) (hK:K x res):an P f args res K KP:=by
 refine an.frame hk hnd ha h (fun v r hv=>?_) (fun _ _ h=>h.elim)
 have hm:merge pl [] r res=res:=by simp[merge,tn _ _ pl 0 res hro,fZ]
 exact⟨[],x,rfl,wo _ _ _ hro,rfl,jR.kf hv hx,by rw[hm];exact hK⟩
theorem BU {r:List aK} {k t e j:Nat} {L:List Obj} (h:DV r k=some (t,e,j,L)):∃r',uF r k=some r'/\ay r' k= .store t e L:=by
 grind[uF,DV,aO,bJ,cE]
def D3 (r:List aK) (k:Nat):Option (Nat×Nat×List Obj):=
 match ay r k with
 | .store t e L=>some (t,e,L)
 |_=>match DV r k with
  |some (t,e,_,L)=>some (t,e,L)
  |none=>none
theorem DK {r:List aK} {k t e:Nat} {L:List Obj} (h:D3 r k=some (t,e,L)):ay r k= .store t e L\/∃r',uF r k=some r'/\ay r' k= .store t e L:=by
 grind[D3,BU]
theorem QU {a b c:V} (h:xj c b []):xj (.tp [a,c]) (.tp [a,b]) []:=fun J K=>by
 obtain⟨s1,s2,_⟩:=h J K;exact⟨by simp only[den,bB,s1],fun hk=>⟨hk.1,s2 hk.2.1,trivial⟩,rfl⟩
theorem an.SJ {f:Nat} {args:List V} {res:List aK} {K KP:V->List aK->Prop} {t e:Nat} {M:List Obj} {F:Nat->V} (hid:lf args=true)
  (h:an P f args [] (fun v r=>∃j,ay r j= .store t e M/\(∀(κ:Nat->Option Nat) (i:Nat),κ j=some i->jR κ v (F i))) (fun _ _=>False)) (hK:K (F res.length) (res++ [.store t e M])):an P f args res K KP:=by
 refine an.frame (pl:= []) (args0:=args) (K0:=fun v r=>∃j,ay r j= .store t e M/\(∀(κ:Nat->Option Nat) (i:Nat),κ j=some i->jR κ v (F i))) (KP0:=fun _ _=>False) rfl rfl (jt args hid) h (fun v r hv=>?_) (fun _ _ h=>h.elim)
 obtain⟨j,hj,hv⟩:=hv;have hlt:j<r.length:=aO (by rw[hj];simp)
 have hm:merge [] [j] r res=res++ [.store t e M]:=by simp[merge,eZ,fZ,hj,gm]
 exact⟨[j],F res.length,by simpa[iD,nL]using hlt,rfl,by simp[nf,hj,jI],hv _ _ (by simp[back,uN,idxOf]),by rw[hm];exact hK⟩
end
def aaz (v:V):Option Nat:=
 match v with
 | .sa j=>some j
 | .ag l=>match l with
   | [x]=>match x with
     | .sa j=>some j
     |_=>none
   |_=>none
 |_=>none
def Y2 (c:Nat) (U:St):Option (List Nat):=
 match ay U.res c with
 | .blk _ x=>match aaz x with
   |some j=>match ay U.res j with
    | .obs _ q _=>some [j,q]
    |_=>some [j]
   |none=>some []
 |_=>some []
def YI (jH:List Nat) (set:Int->List (Nat×V)) (k:Nat) (R:Int->aK) (inv:Int->Prop) (m:Int):dv:=
 {γ:=Int,head:=fun U g=> {U with slots:=Ib jH (set g) 0 U.slots,res:=bO U.res k (R g)},inv:=inv,μ:=fun g=>pH (sW m g)}
def II:List (Nat×aK)->List aK->List aK
 | [],r=>r
 | (k,x)::l,r=>II l (bO r k x)
def lpT {γ:Type} (jH:List Nat) (set:γ->List (Nat×V)) (rs:γ->List (Nat×aK)) (inv:γ->Prop) (μ:γ->Nat):dv:=
 {γ:=γ,head:=fun U g=> {U with slots:=Ib jH (set g) 0 U.slots,res:=II (rs g) U.res},inv:=inv,μ:=μ}
def TL.emp:TL->TL
 | .ob _=> .ob []
 | .key _=> .key []
 | .it k _=> .it k []
 | .bo _=> .bo []
 | .st _=> .st []
 | .fn n g=> .fn n g
def ZI (t:Nat) (U:St):Option (List Nat):=
 match b9 U.slots t with
 | .v x=>match aaz x with
   |some j=>some [j]
   |none=>some []
 |_=>some []
def lpS (jH:List Nat) (set:Int->List (Nat×V)) (t e esz:Nat) (L:Int->TL) (inv:Int->Prop) (m:Int):dv:=
 {γ:=Int,head:=fun U g=> {U with slots:=Ib jH ((t,.sa U.res.length)::set g) 0 U.slots,res:=U.res++ [.arr (some e) esz (L g)]},
  inv:=inv,μ:=fun g=>pH (sW m g),pre:= [.sl t e esz (TL.emp (L 0))],ext:=ZI t}
def Y9 (jH:List Nat) (set:Int->List (Nat×V)) (t e esz:Nat) (L:Int->TL) (inv inv2:Int->Prop) (m:Int):dv:=
 {γ:=Int,head:=fun U g=> {U with slots:=Ib jH (set g) 0 U.slots},inv:=inv,μ:=fun g=>pH (sW m g),m2:=true,
  head2:=fun U g=> {U with slots:=Ib jH ((t,.sa U.res.length)::set g) 0 U.slots,res:=U.res++ [.arr (some e) esz (L g)]},inv2:=inv2,ext2:=ZI t}
def MV (n:Nat):dv:= {γ:=Unit,head:=fun U _=>U,inv:=fun _=>True,μ:=fun _=>0,unr:=some n}
def lpV (jH:List Nat) (set:Int->List (Nat×V)) (c ty e esz:Nat) (L:Int->TL) (inv:Int->Prop) (m:Int):dv:=
 {γ:=Int,head:=fun U g=> {U with slots:=Ib jH (set g) 0 U.slots,res:=bO U.res c (.blk ty (.sa U.res.length))++ [.arr (some e) esz (L g)]},
  inv:=inv,μ:=fun g=>pH (sW m g),pre:= [.bv c e esz (TL.emp (L 0))],ext:=Y2 c}
def YB {γ:Type} (jH:List Nat) (set:γ->List (Nat×V)) (t:Nat) (R:γ->aK) (inv:γ->Prop) (μ:γ->Nat):dv:=
 {γ:=γ,head:=fun U g=>match b9 U.slots t with
   | .v x=>match x with
     | .lp k _=> {U with slots:=Ib jH (set g) 0 U.slots,res:=bO U.res k (R g)}
     |_=>U
   |_=>U,inv:=inv,μ:=μ}
def IC (sl:List S):List (Nat×aK)->List aK->List aK
 | [],r=>r
 | (t,x)::l,r=>match b9 sl t with
   | .v y=>match y with
     | .lp k _=>IC sl l (bO r k x)
     |_=>IC sl l r
   |_=>IC sl l r
mutual
def Vl:V->List Nat
 | .lp i _=> [i]
 | .lx i _ _ _ _ _=> [i]
 | .sc i _ _=> [i]
 | .so i _=> [i]
 | .ap i _ _ _=> [i]
 | .ax i _ _ _ _ _ _ _=> [i]
 | .sa i=> [i]
 | .op i _=> [i]
 | .yl i=> [i]
 | .bs x _ _=>Vl x
 | .ks x _ _ _ _=>Vl x
 | .fn _ l=>VU l
 | .ic _ x=>Vl x
 | .ag l=>VU l
 | .tp l=>VU l
 | .ch _ _ l y=>VU l++Vl y
 |_=> []
def VU:List V->List Nat
 | []=> []
 |x::l=>Vl x++VU l
end
def plR:aK->List Nat
 | .blk _ c=>Vl c
 | .ro r=>match r with
   | .blk _ c=>Vl c
   |_=> []
 |_=> []
def plS:List S->List Nat
 | []=> []
 |x::l=>(match x with| .v y=>Vl y|_=> [])++plS l
def plD:List (Nat×List V×List V)->List Nat
 | []=> []
 |x::l=>VU x.2.1++VU x.2.2++plD l
def plN (res:List aK):Nat->List Nat->List Nat
 |0,l=>l
 |n+1,l=>plN res n (l.foldr (fun i m=>(plR (ay res i)).foldr (fun j k=>if inL k j then k else j::k) m) l)
def gcR (l:List Nat):Nat->List aK->List aK
 |_,[]=> []
 |i,x::r=>(match x with| .mp _ _ _=> .gone| .mq _ _=> .gone| .blk t c=>if inL l i then .blk t c else .gone| .ro y=>(match y with| .blk t c=>if inL l i then .ro (.blk t c)else .gone|y=> .ro y)|x=>x)::gcR l (i+1) r
def gcS (U:St):St:= {U with res:=gcR (plN U.res 4 (plS U.slots++plD U.defs)) 0 U.res}
def QJ {γ:Type} (jH:List Nat) (set:γ->List (Nat×V)) (bl:γ->List (Nat×aK)) (rs:γ->List (Nat×aK)) (inv:γ->Prop):dv:=
 {γ:=γ,head:=fun U g=>gcS {U with slots:=Ib jH (set g) 0 U.slots,res:=II (rs g) (IC U.slots (bl g) U.res)},inv:=inv,μ:=fun _=>0}
def lpB (jH:List Nat) (set:Int->List (Nat×V)) (c t e:Nat) (L:Int->List Obj) (inv:Int->Prop) (m:Int):dv:=
 {γ:=Int,head:=fun U g=> {U with slots:=Ib jH (set g) 0 U.slots,res:=bO U.res c (.blk t (.ag [.sa U.res.length]))++ [.obs e (U.res.length+1) (L g),.gen U.res.length]},
  inv:=inv,μ:=fun g=>pH (sW m g),pre:= [.bl c e],ext:=Y2 c}
end Go.Sx
namespace Go.Proofs.YtlblcfaclmpekaaGreat
open Go.Sx
noncomputable def Vd (l:List (Nat×Ct)) (hl:List (Nat×ke)) (inl:Nat->Bool) (ann:Nat->Nat->Option dv):S3:= {P:=Tryz.prog,Z:=zeroOf,Γ:=qm l,H0:=EB hl,inl:=inl,ann:=ann,opn:=Nd inl}
theorem A9 {l:List (Nat×Ct)} {hl:List (Nat×ke)} {inl:Nat->Bool} {ann:Nat->Nat->Option dv} (h:∀p∈l,cq Tryz.prog p.1 p.2):(Vd l hl inl ann).toCtx.Sound:=
 ⟨yG pj,Tryz.checked.mixed,fun f g hg=>mX h f g hg,fun f ts te h=>by simp[Vd]at h⟩
abbrev vch (l:List (Nat×Ct)) (hl:List (Nat×ke)) (inl:Nat->Bool) (ann:Nat->Nat->Option dv) (f:Nat) (args:List V) (res:List aK) (K KP:V->List aK->Prop):Prop:=
 enter (Vd l hl inl ann).toCtx (exec (Vd l hl inl ann) 100 ⟨false,none⟩) (exec (Vd l hl inl ann) 100 ⟨false,none⟩ f) f args res K KP
set_option maxRecDepth 100000 in
theorem bj {l:List (Nat×Ct)} {hl:List (Nat×ke)} {inl:Nat->Bool} {ann:Nat->Nat->Option dv} (h:∀p∈l,cq Tryz.prog p.1 p.2) (hh:∀p∈hl,kJ Tryz.prog p.1 p.2) {f:Nat} {args:List V} {res:List aK}
  {K KP:V->List aK->Prop} {G:Prop} (hG:G) (he:G=vch l hl inl ann f args res K KP):an Tryz.prog f args res K KP:=
 B5 (C:=Vd l hl inl ann) (n:=100) (A9 h) (Ak hh) (Eq.mp he hG)
def DT:List (Nat×Nat×Nat)->Nat->Option (Nat×Nat)
 | [],_=>none
 | (g,ts,te)::l,f=>if f==g then some (ts,te)else DT l f
theorem Ea {P:Program}:∀{l:List (Nat×Nat×Nat)},(∀p∈l,wG P p.1 p.2.1 p.2.2)->∀f ts te,DT l f=some (ts,te)->wG P f ts te
 | [],_,f,ts,te,h=>by simp[DT]at h
 | (g,a,b)::l,hl,f,ts,te,h=>by
   simp only[DT]at h;split at h
   ·simp_all
   ·exact Ea (fun p hp=>hl p (by simp[hp])) f ts te h
noncomputable def YM (l:List (Nat×Ct)) (hl:List (Nat×ke)) (dl:List (Nat×Nat×Nat)) (inl:Nat->Bool) (ann:Nat->Nat->Option dv):S3:= {P:=Tryz.prog,Z:=zeroOf,Γ:=qm l,D:=DT dl,H0:=EB hl,inl:=inl,ann:=ann,opn:=Nd inl}
abbrev vcd (l:List (Nat×Ct)) (hl:List (Nat×ke)) (dl:List (Nat×Nat×Nat)) (inl:Nat->Bool) (ann:Nat->Nat->Option dv) (f:Nat) (args:List V) (res:List aK) (K KP:V->List aK->Prop):Prop:=
 enter (YM l hl dl inl ann).toCtx (exec (YM l hl dl inl ann) 100 ⟨false,none⟩) (exec (YM l hl dl inl ann) 100 ⟨false,none⟩ f) f args res K KP
set_option maxRecDepth 100000 in
theorem aY {l:List (Nat×Ct)} {hl:List (Nat×ke)} {dl:List (Nat×Nat×Nat)} {inl:Nat->Bool} {ann:Nat->Nat->Option dv} (h:∀p∈l,cq Tryz.prog p.1 p.2) (hh:∀p∈hl,kJ Tryz.prog p.1 p.2) (hd:∀p∈dl,wG Tryz.prog p.1 p.2.1 p.2.2) {f:Nat} {args:List V} {res:List aK}
  {K KP:V->List aK->Prop} {G:Prop} (hG:G) (he:G=vcd l hl dl inl ann f args res K KP):an Tryz.prog f args res K KP:=
 B5 (C:=YM l hl dl inl ann) (n:=100) ⟨yG pj,Tryz.checked.mixed,fun f g hg=>mX h f g hg,Ea hd⟩ (Ak hh) (Eq.mp he hG)
end Go.Proofs.YtlblcfaclmpekaaGreat
namespace Go.Sx
open Go.RowKit (Below)
def L0 (κ:Nat->Option Nat) (r:List aK):List Nat->Option (List aK)
 | []=>some []
 |p::l=>if kS r p&&jI (ay r p)then match L0 κ r l with
   |some m=>some (gm κ (ay r p)::m)
   |none=>none
  else none
def w8 (π:List Nat) (x:Nat->V) (new:Nat->List aK) (v:V) (r:List aK):Prop:=
 ∀nid,fU (idxOf π nid) v=some (x nid)/\L0 (idxOf π nid) r π=some (new nid)
def A0 (x:Nat->V) (new:Nat->List aK):Ct:=fun _ nid args=>match args with
 | []=>some (none,x nid,new nid)
 |_=>none
def YE:List aK->Bool
 | []=>true
 |r::l=>match r with
  | .yet=>false
  |_=>YE l
theorem uI:∀{l:List aK},YE l=true->∀k,k<l.length->ay l k≠ .yet
 | [],_,k,hk=>by simp at hk
 |r::l,h,k,hk=>by
  simp only[YE]at h;split at h
  ·simp at h
  ·rename_i hr;cases k with
   |zero=>exact hr
   |succ k=>exact uI h k (by simpa using hk)
theorem wa {κ:Nat->Option Nat} {r:List aK}:∀{π:List Nat} {new:List aK},L0 κ r π=some new->new.length=π.length/\
  ∀(k p:Nat),π[k]? =some p->known r p/\jI (ay r p)=true/\ay new k=gm κ (ay r p)
 | [],new,h=>by simp only[L0,aaV]at h;subst h;exact⟨rfl,fun k p h=>by simp at h⟩
 |q::π,new,h=>by
  simp only[L0]at h;split at h
  ·rename_i hc;simp only[aaX]at hc;split at h<;>simp only[aaV,reduceCtorEq]at h
   rename_i m hm;subst h;obtain⟨a,b⟩:=wa hm;refine⟨by simp[a],fun k p hk=>?_⟩
   cases k with
   |zero=>simp at hk;subst hk;exact⟨cD.1 hc.1,hc.2,rfl⟩
   |succ k=>exact b k p (by simpa using hk)
  ·simp at h
theorem vA {P:Program} {f:Nat} {π:List Nat} {x:Nat->V} {new:Nat->List aK} (hnd:π.Nodup) (hy:∀nid,YE (new nid)=true) (h:an P f [] [] (w8 π x new) (fun _ _=>False)):cq P f (A0 x new):=by
 intro J fps res K w0 F0 w nid args q y new' hH hargs hg hq hfr;unfold A0 at hg;split at hg<;>simp only[aaV,aaW,reduceCtorEq]at hg
 obtain⟨_,rfl,rfl⟩:=hg
 have hE:bq J (fun _ _=>False) [] (known []) w (fun _=>False) w:=
  ⟨fun i hi=>hi,Nat.le_refl _,rfl,rfl,rfl,fun i hi=>by simp[known,ay]at hi,fun i b hi=>by simp[known,ay]at hi,fun i j b hi=>by simp[known,ay]at hi,fun i b hi=>by simp[known,ay]at hi,fun _ _ _=>rfl⟩
 have hc:=h J _ w (fun _=>False) w hE trivial
 refine⟨?_,?_⟩
 ·refine hc.mono fun e w' ⟨v,ρ1,fps1,r,g1,g2,g3,g4⟩=>?_
  rcases g4 with⟨rfl,hN⟩|⟨_,hF⟩
  ·obtain⟨n1,n2⟩:=hN nid;obtain⟨l1,l2⟩:=wa n2;refine⟨_,rfl,?_⟩
   let ρ':Env:=⟨fun i=>if i<nid then J.num i else if i<nid+π.length then ρ1.num (π.getD (i-nid) 0)else J.num i,fun i=>if i<nid then J.cap i else if i<nid+π.length then ρ1.cap (π.getD (i-nid) 0)else J.cap i,
    fun i=>if i<nid then J.adr i else if i<nid+π.length then ρ1.adr (π.getD (i-nid) 0)else J.adr i,fun i=>if i<nid then J.sa i else if i<nid+π.length then ρ1.sa (π.getD (i-nid) 0)else J.sa i,
    fun i=>if i<nid then J.sn i else if i<nid+π.length then ρ1.sn (π.getD (i-nid) 0)else J.sn i,fun i=>if i<nid then J.ob i else if i<nid+π.length then ρ1.ob (π.getD (i-nid) 0)else J.ob i⟩
   have hvia:Env.via (idxOf π nid) ρ1 ρ':=by
    intro p i hp;obtain⟨a1,a2,a3⟩:=iZ hp;have:π.getD (i-nid) 0=p:=by simp[aa2,a3]
    simp[ρ',aa3 (show¬i<nid by omega),aa4 a2,a3]
   have hat:∀k,k<(new nid).length->∃p,π[k]? =some p/\idxOf π nid p=some (nid+k):=fun k hk=>by
    have hk':k<π.length:=by omega
    exact⟨π[k],by simp[hk'],nA π nid k hnd (by simp[hk'])⟩
   have hNN:∀p i,idxOf π nid p=some i->known r p->K i\/fresh nid (new nid).length i:=fun p i hp _=>by
    obtain⟨a1,a2,a3⟩:=iZ hp;exact .inr ⟨a1,by omega⟩
   refine⟨ρ',⟨⟨g1.os,g1.tape,g1.output,g1.old,fun b hb=>g1.same b hb (by simp)⟩,fun i hi=>?_,fun k=>fps1 (π.getD k 0),fun k hk=>?_,fun k l b hk hl hne=>?_⟩,?_,?_⟩
   ·grind
   ·obtain⟨p,p1,p2⟩:=hat k hk;obtain⟨m1,m2,m3⟩:=l2 k p p1;have hgd:π.getD k 0=p:=by simp[aa2,p1]
    simp only[hgd];refine⟨?_,fun b hb=>⟨?_,g1.lt p b m1 hb⟩⟩
    ·rw[m3];exact iO hvia hNN p2 _ _ _ (mc m2 (g1.holds p m1))
    ·refine Nat.le_of_not_lt fun hlt=>?_
     exact g1.inF p b m1 hb hlt
   ·obtain⟨p,p1,p2⟩:=hat k hk;obtain⟨p',p1',p2'⟩:=hat l hl;have hgd:π.getD k 0=p:=by simp[aa2,p1]
    have hgd':π.getD l 0=p':=by simp[aa2,p1']
    simp only[hgd,hgd']
    have hpp:p≠p':=by
     grind
    exact g1.disj p p' b (l2 k p p1).1 (l2 l p' p1').1 hpp
   ·exact(la hvia hNN _ _ n1).1.symm
   ·exact(la hvia hNN _ _ n1).2.1 g3
  ·exact hF.elim
 ·intro k hk;exact uI (hy nid) k hk
structure Arg (α:Type) where
 rd:List aK->V->Option (List (Nat×aK)×α)
 cn:α->Nat->V
 pl:α->List aK
structure ld (α:Type) where
 rd:List aK->List V->Option (List (Nat×aK)×α)
 cn:α->Nat->List V
 pl:α->List aK
def mU {α:Type} (A:Arg α):Prop:=∀res v pls a,A.rd res v=some (pls,a)->pls.map (·.2)=A.pl a/\(∀p∈pls,pA res p.1 p.2/\sG p.2=true)/\cV (A.cn a 0)=cV v/\(∀n,cV (A.cn a n)=cV (A.cn a 0))/\
 ∀(pre post:List (Nat×aK)),(∀J K,ok K v->den (J.pull (rn (pre++(pls++post)))) (A.cn a pre.length)=den J v)/\∀K,ok K v->ok (known (sS (pre++(pls++post)))) (A.cn a pre.length)
def gR {α:Type} (A:ld α):Prop:=∀res l pls a,A.rd res l=some (pls,a)->pls.map (·.2)=A.pl a/\(∀p∈pls,pA res p.1 p.2/\sG p.2=true)/\(ti l->∀n,ti (A.cn a n))/\
 ∀(pre post:List (Nat×aK)),(∀J K,fM K l->bB (J.pull (rn (pre++(pls++post)))) (A.cn a pre.length)=bB J l/\bp (J.pull (rn (pre++(pls++post)))) (A.cn a pre.length)=bp J l)/\∀K,fM K l->fM (known (sS (pre++(pls++post)))) (A.cn a pre.length)
def gK:ld Unit:=⟨fun _ l=>match l with| []=>some ([],())|_=>none,fun _ _=> [],fun _=> []⟩
def bc {α β:Type} (A:Arg α) (B:ld β):ld (α×β):=
 ⟨fun res l=>match l with
  |v::l=>match A.rd res v with
   |some (p,a)=>match B.rd res l with
    |some (q,b)=>some (p++q,(a,b))
    |none=>none
   |none=>none
  | []=>none,fun x n=>A.cn x.1 n::B.cn x.2 (n+(A.pl x.1).length),fun x=>A.pl x.1++B.pl x.2⟩
def Et {α:Type} (r:V->Option α) (m:α->V):Arg α:=⟨fun _ v=>match r v with|some x=>some ([],x)|none=>none,fun x _=>m x,fun _=> []⟩
def stA (t e:Nat):Arg (Option (List Obj)):=
 ⟨fun res v=>match rS t e res v with
  |some (o,L)=>match o with
   |none=>some ([],none)
   |some k=>some ([(k,.store t e L)],some L)
  |none=>none,fun o n=>match o with|none=>jJ|some _=> .lp n 0,fun o=>match o with|none=> []|some L=> [.store t e L]⟩
def As:Arg (List Obj):=
 ⟨fun res v=>match rA res v with
  |some (k,L)=>some ([(k,.arr none 163 (.ob L))],L)
  |none=>none,fun _ n=> .sa n,fun L=> [.arr none 163 (.ob L)]⟩
def laA {α:Type} (esz:Nat) (r:TL->Option α) (m:α->TL):Arg α:=
 ⟨fun res v=>match v with
  | .sa k=>match cG res k with
    | .arr _ e l=>if e==esz then match r l with
      |some x=>some ([(k,.arr none esz (m x))],x)
      |none=>none
      else none
    |_=>none
  |_=>none,fun _ n=> .sa n,fun x=> [.arr none esz (m x)]⟩
def YL {α:Type} (B:ld α):Arg α:=
 ⟨fun res v=>match v with
  | .ag l=>B.rd res l
  |_=>none,fun x n=> .ag (B.cn x n),B.pl⟩
theorem Af {pre pls post:List (Nat×aK)} {k:Nat} {r:aK}:rn (pre++((k,r)::pls++post)) pre.length=k:=vp _ _ (k,r) (by simp)
theorem wF {pre pls post:List (Nat×aK)} {k:Nat} {r:aK}:known (sS (pre++((k,r)::pls++post))) pre.length:=by
 unfold known;rw[yn];simp
theorem bW:gR gK:=by
 intro res l pls a h;simp only[gK]at h;split at h<;>simp only[aaV,aaW,reduceCtorEq]at h
 obtain⟨rfl,_⟩:=h;exact⟨rfl,by simp,fun _ _=>trivial,fun pre post=>⟨fun _ _ _=>⟨rfl,rfl⟩,fun _ _=>trivial⟩⟩
theorem aA {α β:Type} {A:Arg α} {B:ld β} (hA:mU A) (hB:gR B):gR (bc A B):=by
 intro res l pls x h;simp only[bc]at h;split at h
 case h_2=>simp at h
 rename_i v l;split at h
 case h_2=>simp at h
 rename_i p a ha;split at h
 case h_2=>simp at h
 rename_i q b hb;simp only[aaV,aaW]at h;obtain⟨rfl,rfl⟩:=h;obtain⟨a1,a2,a3,a3',a4⟩:=hA _ _ _ _ ha;obtain⟨b1,b2,b3,b4⟩:=hB _ _ _ _ hb;refine⟨by simp[bc,a1,b1],fun p' hp'=>?_,fun hc n=>?_,fun pre post=>?_⟩
 ·grind
 ·grind[eE,bc]
 ·have hlen:(A.pl a).length=p.length:=by rw[<-a1];simp
  obtain⟨c1,c2⟩:=a4 pre (q++post);obtain⟨d1,d2⟩:=b4 (pre++p) post;have e1:pre++(p++q++post)=pre++(p++(q++post)):=by simp
  have e2:(pre++p)++(q++post)=pre++(p++(q++post)):=by simp
  have e3:(pre++p).length=pre.length+(A.pl a).length:=by simp[hlen]
  rw[e2,e3]at d1 d2;rw[e1];refine⟨fun J K hK=>?_,fun K hK=>?_⟩
  ·obtain⟨f1,f2⟩:=d1 J K hK.2;have f3:=c1 J K hK.1;simp only[bc];exact⟨by simp only[bB];rw[f3,f1],by simp only[bp];rw[f3,f2]⟩
  ·exact⟨c2 K hK.1,d2 K hK.2⟩
theorem sr {α:Type} {r:V->Option α} {m:α->V} (hr:sT r m) (hid:∀x,kf (m x)=true) (ht:∀v x,r v=some x->cV v=cV (m x)):mU (Et r m):=by
 intro res v pls a h;simp only[Et]at h;split at h<;>simp only[aaV,aaW,reduceCtorEq]at h
 rename_i x hx;obtain⟨rfl,rfl⟩:=h;obtain⟨b1,b2⟩:=hr _ x hx;refine⟨rfl,by simp,(ht v x hx).symm,fun _=>rfl,fun pre post=>⟨fun J K hK=>?_,fun K hK=>fQ (b2 K hK)⟩⟩
 show den _ (m x)=_
 rw[b1 J];exact pV (hid x) (b2 K hK) J _
theorem VD (t e:Nat):mU (stA t e):=by
 intro res v pls a h;simp only[stA]at h;split at h
 case h_2=>simp at h
 rename_i o L hs;rcases u6 hs with⟨rfl,rfl,rfl⟩|⟨k,rfl,rfl,hse⟩<;>simp only[aaV,aaW]at h<;>obtain⟨rfl,rfl⟩:=h
 ·exact⟨rfl,by simp,rfl,fun _=>rfl,fun pre post=>⟨fun _ _ _=>rfl,fun _ _=>rfl⟩⟩
 ·refine⟨rfl,by simpa using⟨hse,rfl⟩,rfl,fun _=>rfl,fun pre post=>⟨fun J K hK=>?_,fun K hK=>wF (pls:= [])⟩⟩
  simp only[stA,den,Env.pull];rw[Af (pls:= [])]
theorem jc:mU As:=by
 intro res v pls a h;simp only[As]at h;split at h<;>simp only[aaV,aaW,reduceCtorEq]at h
 rename_i k L hs;obtain⟨rfl,rfl⟩:=h;obtain⟨rfl,hse,_⟩:=xL hs;refine⟨rfl,by simpa using⟨hse,rfl⟩,rfl,fun _=>rfl,fun pre post=>⟨fun J K hK=>?_,fun K hK=>wF (pls:= [])⟩⟩
 simp only[As,den,Env.pull];rw[Af (pls:= [])]
theorem Wx {α:Type} {esz:Nat} {r:TL->Option α} {m:α->TL} (hr:∀l x,r l=some x->l=m x):mU (laA esz r m):=by
 intro res v pls a h;simp only[laA]at h;split at h
 case h_2=>simp at h
 rename_i k;split at h
 case h_2=>simp at h
 rename_i own e l hl;split at h
 case isFalse=>simp at h
 rename_i he;have he:=aaZ.1 he;subst he;split at h<;>simp only[aaV,aaW,reduceCtorEq]at h
 rename_i x hx;obtain⟨rfl,rfl⟩:=h;have:=hr _ _ hx;subst this;refine⟨rfl,by simpa using⟨pA.arr hl,rfl⟩,rfl,fun _=>rfl,fun pre post=>⟨fun J K hK=>?_,fun K hK=>wF (pls:= [])⟩⟩
 simp only[laA,den,Env.pull];rw[Af (pls:= [])]
theorem Gf {α:Type} {B:ld α} (hB:gR B):mU (YL B):=by
 intro res v pls a h;simp only[YL]at h;split at h
 case h_2=>simp at h
 rename_i l;obtain⟨b1,b2,b3,b4⟩:=hB _ _ _ _ h;refine⟨b1,b2,rfl,fun _=>rfl,fun pre post=>?_⟩
 obtain⟨c1,c2⟩:=b4 pre post;refine⟨fun J K hK=>?_,fun K hK=>⟨c2 K hK.1,b3 hK.2 _⟩⟩
 simp only[YL,den];rw[(c1 J K hK.1).2]
def s6 {α:Type} (B:ld α) (Q:α->Option Prop) (F:α->V):Ct:=fun res _ xs=>match B.rd res xs with
 |some (_,a)=>some (Q a,F a,[])
 |none=>none
def nN (l:List aK):List aK:=l.map .ro
theorem GR (pls:List (Nat×aK)):sS pls=nN (pls.map (·.2)):=by
 induction pls with
 |nil=>rfl
 |cons p l ih=>obtain⟨p,r⟩:=p;simp[sS,nN,ih]
theorem eW {P:Program} {f:Nat} {α:Type} {B:ld α} {Q:α->Option Prop} {F:α->V} (hB:gR B) (hF:∀a,kf (F a)=true)
  (h:∀a,dX (Q a)->fM (known (nN (B.pl a))) (B.cn a 0)->an P f (B.cn a 0) (nN (B.pl a)) (oD (F a)) (fun _ _=>False)):cq P f (s6 B Q F):=by
 refine sE fun res nid args q x new hg=>?_
 unfold s6 at hg;split at hg<;>simp only[aaV,aaW,reduceCtorEq]at hg
 rename_i pls a ha;obtain⟨rfl,rfl,rfl⟩:=hg;obtain⟨b1,b2,_,b4⟩:=hB _ _ _ _ ha;obtain⟨c1,c2⟩:=b4 [] [];simp only[List.nil_append,List.append_nil,List.length_nil]at c1 c2;refine⟨rfl,hF a,pls,B.cn a 0,b2,fun J K hK=>(c1 J K hK).1,c2,fun hq hok=>?_⟩
 rw[GR,b1]at hok⊢;exact(h a hq hok).mono (fun _ _=>dE) fun _ _ h=>h
def X8 {α:Type} (B:ld α) (Q:α->Option Prop) (x:α->Nat->V) (new:α->Nat->List aK):Ct:=fun res nid xs=>match B.rd res xs with
 |some (_,a)=>some (Q a,x a nid,new a nid)
 |none=>none
theorem G6 {J:Env} {fps:Nat->Nat->Prop} {res:List aK} {K:Nat->Prop} {w0 w:World} {F0:Nat->Prop} (hH:bq J fps res K w0 F0 w) {pls:List (Nat×aK)} (hcl:∀p∈pls,pA res p.1 p.2/\sG p.2=true):
  bq (J.pull (rn pls)) (fun _ _=>False) (sS pls) (known (sS pls)) w (fun _=>False) w:=by
 have hfr:∀b,b<w0.heap.size->¬F0 b->w.heap[b]? =w0.heap[b]? /\¬(fun _:Nat=>False) b:=fun b hb hF=>⟨hH.same b hb hF,fun h=>h⟩
 refine⟨fun i hi=>hi,Nat.le_refl _,rfl,rfl,rfl,fun i hi=>?_,fun i b hi h=>h.elim,fun i j b hi hj hne h=>h.elim,fun i b hi h=>h.elim,fun _ _ _=>rfl⟩
 have hlt:=aO hi;rw[tj]at hlt;have hp:pls[i]? =some pls[i]:=List.getElem?_eq_getElem hlt;generalize pls[i]=p at hp
 rw[yn,hp];simp only;obtain⟨hs,hcl⟩:=hcl p (List.mem_of_getElem? hp);obtain⟨fp,g1,g2⟩:=hs.2 J fps K w0 F0 w hH
 have hv:Env.via (fun x=>if x=p.1 then some i else none) J (J.pull (rn pls)):=qN fun x j hx=>by
  split at hx
  ·simp only[aaV]at hx;subst hx;rename_i e;subst e;exact vp pls i p hp
  ·simp at hx
 have:=iO (N':=known (sS pls)) hv (fun x j hx _=>by
  split at hx
  ·simp only[aaV]at hx;subst hx;exact hi
  ·simp at hx) (p:=p.1) (i:=i) (by simp) _ _ _ (aK.tk hH.old hfr _ _ g1)
 rw[uR hcl]at this;refine⟨fp,this,fun b hb=>⟨?_,fun h=>h⟩⟩
 rcases g2 b hb with⟨j,hj,hf⟩|⟨hl,_⟩
 ·exact hH.lt j b hj hf
 ·exact Nat.lt_of_lt_of_le hl hH.old
theorem tE {J ρ1:Env} {K:Nat->Prop} {fps1:Nat->Nat->Prop} {r:List aK} {w0 w w':World} {F0:Nat->Prop} {nid:Nat} {π:List Nat} {x:Nat->V} {new:Nat->List aK} {v:V} (hnd:π.Nodup)
  (g1:bq ρ1 fps1 r (known r) w (fun _=>False) w') (g3:ok (known r) v) (hN:w8 π x new v r):qY K J nid (x nid) (new nid) w0 F0 w (den ρ1 v) w':=by
 obtain⟨n1,n2⟩:=hN nid;obtain⟨l1,l2⟩:=wa n2
 let ρ':Env:=⟨fun i=>if i<nid then J.num i else if i<nid+π.length then ρ1.num (π.getD (i-nid) 0)else J.num i,fun i=>if i<nid then J.cap i else if i<nid+π.length then ρ1.cap (π.getD (i-nid) 0)else J.cap i,
  fun i=>if i<nid then J.adr i else if i<nid+π.length then ρ1.adr (π.getD (i-nid) 0)else J.adr i,fun i=>if i<nid then J.sa i else if i<nid+π.length then ρ1.sa (π.getD (i-nid) 0)else J.sa i,
  fun i=>if i<nid then J.sn i else if i<nid+π.length then ρ1.sn (π.getD (i-nid) 0)else J.sn i,fun i=>if i<nid then J.ob i else if i<nid+π.length then ρ1.ob (π.getD (i-nid) 0)else J.ob i⟩
 have hvia:Env.via (idxOf π nid) ρ1 ρ':=by
  intro p i hp;obtain⟨a1,a2,a3⟩:=iZ hp;simp[ρ',aa3 (show¬i<nid by omega),aa4 a2,a3]
 have hat:∀k,k<(new nid).length->∃p,π[k]? =some p/\idxOf π nid p=some (nid+k):=fun k hk=>by
  have hk':k<π.length:=by omega
  exact⟨π[k],by simp[hk'],nA π nid k hnd (by simp[hk'])⟩
 have hNN:∀p i,idxOf π nid p=some i->known r p->K i\/fresh nid (new nid).length i:=fun p i hp _=>by
  obtain⟨a1,a2,a3⟩:=iZ hp;exact .inr ⟨a1,by omega⟩
 refine⟨ρ',⟨⟨g1.os,g1.tape,g1.output,g1.old,fun b hb=>g1.same b hb (by simp)⟩,fun i hi=>?_,fun k=>fps1 (π.getD k 0),fun k hk=>?_,fun k l b hk hl hne=>?_⟩,?_,?_⟩
 ·have:¬(nid<=i/\i<nid+π.length):=fun⟨a,b⟩=>hi ⟨a,by omega⟩
  by_cases hlt:i<nid
  ·simp[ρ',aa4 hlt]
  ·simp[ρ',aa3 hlt,aa3 (show¬i<nid+π.length by omega)]
 ·obtain⟨p,p1,p2⟩:=hat k hk;obtain⟨m1,m2,m3⟩:=l2 k p p1;have hgd:π.getD k 0=p:=by simp[aa2,p1]
  simp only[hgd];refine⟨?_,fun b hb=>⟨?_,g1.lt p b m1 hb⟩⟩
  ·rw[m3];exact iO hvia hNN p2 _ _ _ (mc m2 (g1.holds p m1))
  ·refine Nat.le_of_not_lt fun hlt=>?_
   exact g1.inF p b m1 hb hlt
 ·obtain⟨p,p1,p2⟩:=hat k hk;obtain⟨p',p1',p2'⟩:=hat l hl;have hgd:π.getD k 0=p:=by simp[aa2,p1]
  have hgd':π.getD l 0=p':=by simp[aa2,p1']
  simp only[hgd,hgd']
  have hpp:p≠p':=by
   rintro rfl
   rw[p2]at p2';simp at p2';omega
  exact g1.disj p p' b (l2 k p p1).1 (l2 l p' p1').1 hpp
 ·exact(la hvia hNN _ _ n1).1.symm
 ·exact(la hvia hNN _ _ n1).2.1 g3
theorem TM {P:Program} {f:Nat} {α:Type} {B:ld α} {Q:α->Option Prop} {x:α->Nat->V} {new:α->Nat->List aK} {π:α->List Nat} (hB:gR B) (hnd:∀a,(π a).Nodup) (hy:∀a nid,YE (new a nid)=true)
  (h:∀a,dX (Q a)->fM (known (nN (B.pl a))) (B.cn a 0)->an P f (B.cn a 0) (nN (B.pl a)) (fun v r=>w8 (π a) (x a) (new a) v r) (fun _ _=>False)):cq P f (X8 B Q x new):=by
 intro J fps res K w0 F0 w nid args q y new' hH hargs hg hq hfr;unfold X8 at hg;split at hg<;>simp only[aaV,aaW,reduceCtorEq]at hg
 rename_i pls a ha;obtain⟨rfl,rfl,rfl⟩:=hg;obtain⟨b1,b2,_,b4⟩:=hB _ _ _ _ ha;obtain⟨c1,c2⟩:=b4 [] [];simp only[List.nil_append,List.append_nil,List.length_nil]at c1 c2;refine⟨?_,fun k hk=>uI (hy a nid) k hk⟩
 have hrep:=G6 hH b2;have hok:=c2 K hargs;rw[<-(c1 J K hargs).1];have hro:sS pls=nN (B.pl a):=by rw[GR,b1]
 rw[hro]at hrep hok;refine(h a hq hok _ _ _ _ _ hrep hok).mono fun e w' ⟨v,ρ1,fps1,r,g1,g2,g3,g4⟩=>?_
 rcases g4 with⟨rfl,hN⟩|⟨_,hF⟩
 ·exact⟨_,rfl,tE (hnd a) g1 g3 hN⟩
 ·exact hF.elim
theorem an.IH {P:Program} {f:Nat} {args:List V} {res:List aK} {x:V} {new:List aK} {K KP:V->List aK->Prop} (hy:∀k,k<new.length->ay new k≠ .yet)
  (h:∀J fps w0 F0 w,bq J fps res (known res) w0 F0 w->fM (known res) args->CallsIn (FF P none) 0 P f (bB J args).toArray w fun e w'=>∃v,e= .returned v/\qY (known res) J res.length x new w0 F0 w v w') (hK:K x (res++new)):an P f args res K KP:=by
 intro J fps w0 F0 w hH hargs;refine(h J fps w0 F0 w hH hargs).mono fun e w' ⟨v,he,ρ',hg,hv,hx⟩=>?_
 have hfr':∀i,known res i->¬fresh res.length new.length i:=fun i hi hf=>by have:=aO hi;unfold fresh at hf;omega
 have hK':∀i,known res i\/fresh res.length new.length i->known (res++new) i:=by
  intro i hi;obtain⟨b1,b2,b3⟩:=k8 res new;rcases hi with hi|⟨f1,f2⟩
  ·unfold known;rw[(b1 i hi).1];exact hi
  ·have:=b3 (i-res.length) (by omega)
   rw[show res.length+(i-res.length)=i by omega]at this
   unfold known;rw[this];exact hy _ (by omega)
 obtain⟨fps',g1,g2⟩:=hH.grow (res':=res++new) (k8 _ _) hfr' hK' hg;exact⟨x,ρ',fps',res++new,g1,⟨g2,fun i hi=>hK' i (.inl hi)⟩,ec hK' _ hx,.inl ⟨by rw[he,hv],hK⟩⟩
def QG {α:Type} (B:ld α) (Q:α->Prop) (c:α->Bool) (F0:α->V) (F1:α->Nat->V) (new:α->aK):ke:=fun args res K=>
 match B.rd res args with
 |some (_,a)=>Q a/\(c a=false->K (F0 a) res)/\(c a=true->K (F1 a res.length) (res++ [new a]))
 |none=>False
def Wy (c:Bool) (x0:V) (F1:Nat->V) (new:aK) (p:Option Nat) (v:V) (r:List aK):Prop:=
 match p with
 |some p=>c=true/\w8 [p] F1 (fun _=> [new]) v r
 |none=>c=false/\oD x0 v r
def aaL (v:V):Option Nat:=
 match v with
 | .sa p=>some p
 | .lp p _=>some p
 | .tp l=>match l with
   |x::_=>match x with
    | .sa p=>some p
    | .lp p _=>some p
    |_=>none
   | []=>none
 |_=>none
def Cz (c:Bool) (x0:V) (F1:Nat->V) (new:aK) (v:V) (r:List aK):Prop:=Wy c x0 F1 new (aaL v) v r
theorem Ao {P:Program} {f:Nat} {α:Type} {B:ld α} {Q:α->Prop} {c:α->Bool} {F0:α->V} {F1:α->Nat->V} {new:α->aK} (hB:gR B) (hF:∀a,kf (F0 a)=true) (hn:∀a,new a≠ .yet)
  (h:∀a,Q a->fM (known (nN (B.pl a))) (B.cn a 0)->an P f (B.cn a 0) (nN (B.pl a)) (Cz (c a) (F0 a) (F1 a) (new a)) (fun _ _=>False)):kJ P f (QG B Q c F0 F1 new):=by
 intro args res K KP hh;unfold QG at hh;split at hh
 case h_2=>exact hh.elim
 rename_i pls a ha;obtain⟨hQ,h0,h1⟩:=hh;obtain⟨b1,b2,_,b4⟩:=hB _ _ _ _ ha;obtain⟨c1,c2⟩:=b4 [] [];simp only[List.nil_append,List.append_nil,List.length_nil]at c1 c2;have hro:sS pls=nN (B.pl a):=by rw[GR,b1]
 have main:∀J fps w0 F0' w,bq J fps res (known res) w0 F0' w->fM (known res) args->CallsIn (FF P none) 0 P f (bB J args).toArray w fun e w'=>∃v ρ1 fps1 r,e= .returned (den ρ1 v)/\bq ρ1 fps1 r (known r) w (fun _=>False) w'/\ok (known r) v/\Cz (c a) (F0 a) (F1 a) (new a) v r:=by
  intro J fps w0 F0' w hH hargs;have hrep:=G6 hH b2;have hok:=c2 _ hargs;rw[hro]at hrep hok;rw[<-(c1 J _ hargs).1];refine(h a hQ hok _ _ _ _ _ hrep hok).mono fun e w' ⟨v,ρ1,fps1,r,g1,g2,g3,g4⟩=>?_
  rcases g4 with⟨rfl,hN⟩|⟨_,hF⟩
  ·exact⟨v,ρ1,fps1,r,rfl,g1,g3,hN⟩
  ·exact hF.elim
 cases hc:c a with
 |true=>
  refine an.IH (x:=F1 a res.length) (new:= [new a]) (fun k hk=>by simp at hk;subst hk;exact hn a) (fun J fps w0 F0' w hH hargs=>?_) (h1 hc)
  refine(main J fps w0 F0' w hH hargs).mono fun e w' ⟨v,ρ1,fps1,r,he,g1,g3,hv⟩=>?_
  unfold Cz Wy at hv;split at hv
  ·exact⟨_,he,tE (new:=fun _=> [new a]) (by simp) g1 g3 hv.2⟩
  ·rw[hc]at hv;simp at hv
 |false=>
  have h0':=h0 hc;rw[<-List.append_nil res]at h0';refine an.IH (x:=F0 a) (new:= []) (fun k hk=>by simp at hk) (fun J fps w0 F0' w hH hargs=>?_) h0'
  refine(main J fps w0 F0' w hH hargs).mono fun e w' ⟨v,ρ1,fps1,r,he,g1,g3,hv⟩=>?_
  unfold Cz Wy at hv;split at hv
  ·rw[hc]at hv;simp at hv
  ·refine⟨_,he,J,⟨⟨g1.os,g1.tape,g1.output,g1.old,fun b hb=>g1.same b hb (fun h=>h)⟩,Env.bE.refl _ _,fun _ _=>False,fun k hk=>by simp at hk,fun k l b hk=>by simp at hk⟩,?_,?_⟩
   ·obtain⟨e1,e2,_⟩:=dE hv.2 ρ1 (known r);rw[e1];exact pV (hF a) (e2 g3) J ρ1
   ·obtain⟨e1,e2,_⟩:=dE hv.2 ρ1 (known r);exact oH _ (hF a) (e2 g3)
def ga (h:Bool) (n m:Int):Bool:=if h then decide (0<=n)&&decide (n<=m)else decide (n=0)
def ee (n:Int):Bool:=decide (2<=n)&&decide (n<=7)
def pt (n:Int):Bool:=decide (n=2)||decide (n=3)
def gM (n:Int):Bool:=decide (n=7)
def kG (n:Int):Bool:=decide (n=1)||decide (n=6)
def fu (n:Int):Int:=if n=2 then 7 else if n=3 then 1 else 0
def aV (k:Key):Bool:=
 decide (0<=k.kind)&&decide (k.kind<=10)&&decide (0<=k.rights)&&decide (k.rights<=fu k.kind)&&(kG k.kind||decide (k.value=0))&&
 ga (ee k.kind) k.oid 63&&ga (ee k.kind) k.count 4294967295&&ga (gM k.kind) k.call 4294967295
def bw (k:Key):Int:=if aV k then 0 else 2
def bd (k:Key):Int:=if aV k&&ee k.kind then k.oid else -1
def gD (k:Key):Int:=if bd k<0 then 0 else if k.kind=3 then 2 else 1
def cI (k:Key) (o:Obj):Bool:=
 aV k&&(decide (bd k<0)||(decide (o.kind=gD k)&&decide (o.count=k.count)&&(!decide (k.kind=7)||decide (o.calls=k.call))))
def U2 (k:Key):Bool:=decide (0<=k.kind)&&decide (k.kind<=10)
def nw (n:Nat):ByteArray:=
 match n with
 |0=> "void".toUTF8
 |1=> "number".toUTF8
 |2=> "node".toUTF8
 |3=> "page".toUTF8
 |4=> "bank".toUTF8
 |5=> "proc".toUTF8
 |6=> "start".toUTF8
 |7=> "resume".toUTF8
 |8=> "discrim".toUTF8
 |9=> "clock".toUTF8
 |10=> "check".toUTF8
 |_=>ByteArray.empty
def kd (s:ByteArray) (a b c d:Bool) (m w:Int):V:= .ag [.st s,.cb a,.cb b,.cb c,.cb d,.ci .i64 m,.ci .i64 w]
def Dp:V:= .ag [kd (nw 0) false false false false 0 0,kd (nw 1) false false false true 0 0,kd (nw 2) true true false false 7 1,kd (nw 3) true true false false 1 2,
 kd (nw 4) true false false false 0 1,kd (nw 5) true false false false 0 1,kd (nw 6) true false false true 0 1,kd (nw 7) true false true false 0 1,
 kd (nw 8) false false false false 0 0,kd (nw 9) false false false false 0 0,kd (nw 10) false false false false 0 0]
def xN (k:Key):ByteArray:=if U2 k then nw k.kind.toNat else ByteArray.empty
def sb (n:Int):Int:=if n=3 then 2 else if 2<=n/\n<=7 then 1 else 0
def Ms:Ct:=mk3 toBool (rI .i64) (rI .i64) fun h n m=> .bo (ga h n m)
def YV:Ct:=QE rK fun k=> .tp [.ag [.st (xN k),.bo (ee k.kind),.bo (pt k.kind),.bo (gM k.kind),.bo (kG k.kind),.it .i64 (fu k.kind),.it .i64 (sb k.kind)],.bo (aV k)]
def Ze:Ct:=QE (rI .i64) fun n=> .tp [.bo (ee n),.bo (pt n),.bo (gM n),.bo (kG n)]
def Vm:Ct:=QE rK fun k=> .it .i64 (bw k)
def ba (k:Key):Bool:=aV k&&ee k.kind
def cw (k:Key):Int:=if ba k then k.oid else 0
def L3:Ct:=QE rK fun k=> .tp [.it .i64 (cw k),.bo (ba k)]
def Ob:Ct:=QE rK fun k=> .it .i64 (bd k)
def MK:Ct:=QE rK fun k=> .it .i64 (gD k)
def DQ:Ct:=QK rK rO fun k o=> .bo (cI k o)
theorem wrap_i64 {n:Int} (h:bY .i64 n):IntKind.wrap .i64 n=n:=by
 have:=h;simp only[bY]at this;unfold IntKind.wrap;simp[IntKind.bits,IntKind.signed];omega
theorem tR {r:Int} (j:Nat) (hj:j<63) (h0:0<=r) (h1:r<=9223372036854775807):bm .andNot .i64 r ((2^j-1:Nat):Int)=0↔r<2^j:=by
 obtain⟨n,rfl⟩:=Int.eq_ofNat_of_zero_le h0;have hn:n<2^64:=by omega
 have hbit:∀i,(BitVec.ofInt 64 (n:Int)).getLsbD i=n.testBit i:=by
  intro i;rw[BitVec.ofInt_natCast,BitVec.getLsbD_ofNat];by_cases hi:i<64
  ·simp[hi]
  ·rw[Nat.testBit_lt_two_pow (Nat.lt_of_lt_of_le hn (Nat.pow_le_pow_right (by omega) (by omega)))];simp
 have hx:(BitVec.ofInt 64 (n:Int) &&& ~~~BitVec.ofInt 64 ((2^j-1:Nat):Int)).toNat=0↔n<2^j:=by
  constructor
  ·intro h;refine Nat.lt_pow_two_of_testBit _ fun i hi=>?_
   rcases Nat.lt_or_ge i 64 with h64|h64
   ·have h2:(BitVec.ofInt 64 (n:Int) &&& ~~~BitVec.ofInt 64 ((2^j-1:Nat):Int)).getLsbD i=false:=by
     rw[BitVec.getLsbD,h];simp
    rw[BitVec.getLsbD_and,hbit,BitVec.getLsbD_not,BitVec.ofInt_natCast,BitVec.getLsbD_ofNat,Nat.testBit_two_pow_sub_one]at h2;simp only[h64,decide_true,Bool.true_and,show¬i<j by omega,decide_false,Bool.not_false,Bool.and_true]at h2
    exact h2
   ·exact Nat.testBit_lt_two_pow (Nat.lt_of_lt_of_le hn (Nat.pow_le_pow_right (by omega) h64))
  ·intro h
   have:BitVec.ofInt 64 (n:Int) &&& ~~~BitVec.ofInt 64 ((2^j-1:Nat):Int)=0#64:=by
    refine BitVec.eq_of_getLsbD_eq fun i hi=>?_
    rw[BitVec.getLsbD_and,hbit,BitVec.getLsbD_not,BitVec.ofInt_natCast,BitVec.getLsbD_ofNat,Nat.testBit_two_pow_sub_one];by_cases hij:i<j
    ·simp[hij,hi]
    ·rw[Nat.testBit_lt_two_pow (Nat.lt_of_lt_of_le h (Nat.pow_le_pow_right (by omega) (by omega)))];simp
   rw[this];rfl
 have hle:(BitVec.ofInt 64 (n:Int) &&& ~~~BitVec.ofInt 64 ((2^j-1:Nat):Int)).toNat<=n:=by
  rw[BitVec.toNat_and];refine Nat.le_trans Nat.and_le_left ?_;rw[BitVec.ofInt_natCast,BitVec.toNat_ofNat];exact Nat.mod_le _ _
 have hp:((2^j:Nat):Int)=(2:Int)^j:=by simp
 change IntKind.wrap .i64 (((BitVec.ofInt 64 (n:Int) &&& ~~~BitVec.ofInt 64 ((2^j-1:Nat):Int)).toNat:Nat):Int)=0↔_
 generalize (BitVec.ofInt 64 (n:Int) &&& ~~~BitVec.ofInt 64 ((2^j-1:Nat):Int)).toNat=x at *
 rw[wrap_i64 (by simp only[bY];omega),<-hp]
 omega
theorem Sr {r:Int} (h0:0<=r) (h1:r<=9223372036854775807):bm .andNot .i64 r 7=0↔r<=7:=by
 have:=tR 3 (by omega) h0 h1
 rw[show((2^3-1:Nat):Int)=7 from rfl,show(2:Int)^3=8 from rfl]at this;rw[this];omega
theorem SY {r:Int} (h0:0<=r) (h1:r<=9223372036854775807):bm .andNot .i64 r 1=0↔r<=1:=by
 have:=tR 1 (by omega) h0 h1
 rw[show((2^1-1:Nat):Int)=1 from rfl,show(2:Int)^1=2 from rfl]at this;rw[this];omega
theorem Uo {r:Int} (h0:0<=r) (h1:r<=9223372036854775807):bm .andNot .i64 r 0=0↔r<=0:=by
 have:=tR 0 (by omega) h0 h1
 rw[show((2^0-1:Nat):Int)=0 from rfl,show(2:Int)^0=1 from rfl]at this;rw[this];omega
theorem MT {r m:Int} {b:Bool} (h:0<=r->(b=decide (r<=m))):(decide (0<=r)&&b)=(decide (0<=r)&&decide (r<=m)):=by
 by_cases h0:0<=r
 ·rw[h h0]
 ·simp[h0]
end Go.Sx
namespace Go.Proofs.YtlblcfaclmpekaaGreat
open Go.Sx
theorem Jh (h:Bool) (n m:Int):
 (h&&decide (0<=n)&&decide (n<=m)|| !h&&decide (n=0))=ga h n m:=by
 unfold ga;cases h<;>simp
theorem JL:cq Tryz.prog 105 Ms:=
 KM O9 (gi .i64) (gi .i64) (fun _ _ _=>rfl) fun h n m _ _ _=>aZ (inl:=bx) (ann:=aQ) aq (Jh h n m) (by kernel_rfl)
theorem Qb:cq Tryz.prog 104 (Yx Dp):=
 Wz rfl (aZ (inl:=bx) (ann:=aQ) aq (G:=Dp=Dp) rfl (by kernel_rfl):an _ _ _ _ (fun v _=>v=Dp) (fun _ _=>False))
abbrev acH(k:Key):=aj [false,false,true,true,true,true,true,true,false,false,false] k.kind.toNat false
theorem X3 (k:Key) (hk:k.wf):
 aba (decide (k.kind<0)||decide (10<k.kind)) ({data:={toList:=[]}}=xN k/\false=ee k.kind/\false=pt k.kind/\false=gM k.kind/\false=kG k.kind/\0=fu k.kind/\0=sb k.kind/\false=aV k) ((0<=k.kind/\k.kind< ↑11)/\aj [nw 0,nw 1,nw 2,nw 3,nw 4,nw 5,nw 6,nw 7,nw 8,nw 9,nw 10] k.kind.toNat {data:={toList:=[]}}=xN k/\aj [false,false,true,true,true,true,true,true,false,false,false] k.kind.toNat false=ee k.kind/\aj [false,false,true,true,false,false,false,false,false,false,false] k.kind.toNat false=pt k.kind/\aj [false,false,false,false,false,false,false,true,false,false,false] k.kind.toNat false=gM k.kind/\aj [false,true,false,false,false,false,true,false,false,false,false] k.kind.toNat false=kG k.kind/\aj [0,0,7,1,0,0,0,0,0,0,0] k.kind.toNat 0=fu k.kind/\aj [0,0,1,2,1,1,1,1,0,0,0] k.kind.toNat 0=sb k.kind/\(ga (acH k) k.oid 63&&ga (acH k) k.count 4294967295&&ga (aj [false,false,false,false,false,false,false,true,false,false,false] k.kind.toNat false) k.call 4294967295&&decide (0<=k.rights)&&decide (bm BinOp.andNot IntKind.i64 k.rights (aj [0,0,7,1,0,0,0,0,0,0,0] k.kind.toNat 0)=0)&&(aj [false,true,false,false,false,false,true,false,false,false,false] k.kind.toNat false||decide (k.value=0)))=aV k):=by
 delta aba acH
 obtain⟨kind,oid,count,call,rights,value⟩:=k;have hr:rights<=9223372036854775807:=hk.2.2.2.2.1.2;simp only;have he:(ByteArray.empty:ByteArray)= {data:= {toList:= []}}:=rfl;refine⟨fun h=>?_,fun h=>?_⟩
 ·simp only[Bool.or_eq_true,aaY]at h;refine⟨?_,?_,?_,?_,?_,?_,?_,?_⟩<;>simp only[xN,U2,ee,pt,gM,kG,fu,sb,aV]<;>grind
 ·simp only[Bool.or_eq_false_iff,decide_eq_false_iff_not]at h;have hb:∀m,(0<=rights->(decide (bm .andNot .i64 rights m=0))=decide (rights<=m))->(decide (0<=rights)&&decide (bm .andNot .i64 rights m=0))=(decide (0<=rights)&&decide (rights<=m)):=fun m hm=>MT hm
  have h7:=hb 7 fun h0=>by rw[decide_eq_decide];exact Sr h0 hr
  have h1:=hb 1 fun h0=>by rw[decide_eq_decide];exact SY h0 hr
  have h0:=hb 0 fun h0=>by rw[decide_eq_decide];exact Uo h0 hr
  have hc:kind=0\/kind=1\/kind=2\/kind=3\/kind=4\/kind=5\/kind=6\/kind=7\/kind=8\/kind=9\/kind=10:=by omega
  rcases hc with rfl|rfl|rfl|rfl|rfl|rfl|rfl|rfl|rfl|rfl|rfl<;>
   refine⟨⟨by decide,by decide⟩,rfl,rfl,rfl,rfl,rfl,rfl,rfl,?_⟩<;>
   simp only[aj,aV,ee,kG,gM,fu,Int.reduceToNat,List.getD_cons_zero,List.getD_cons_succ,Bool.and_assoc]<;>
   simp+decide [ga]<;>grind
theorem zk:cq Tryz.prog 67 YV:=
 qe gH (fun _=>rfl) fun k hk=>aZ (inl:=bx) (ann:=aQ) (ae JL (ae Qb aq)) (X3 k hk) (by kernel_rfl)
theorem Sq (k:Key) (hk:k.wf):
 ((!aV k)=true->2=bw k)/\((!aV k)=false->0=bw k):=by
 unfold bw;cases aV k<;>simp
theorem gx:cq Tryz.prog 69 Vm:=
 qe gH (fun _=>rfl) fun k hk=>aZ (inl:=bx) (ann:=aQ) (ae zk aq) (Sq k hk) (by kernel_rfl)
theorem IQ (k:Key) (hk:k.wf):
 ((!aV k|| !ee k.kind)=true->0=cw k/\false=ba k)/\
   ((!aV k|| !ee k.kind)=false->k.oid=cw k/\true=ba k):=by
 unfold cw ba;cases aV k<;>cases ee k.kind<;>simp
theorem dH:cq Tryz.prog 46 L3:=
 qe gH (fun _=>rfl) fun k hk=>aZ (inl:=bx) (ann:=aQ) (ae zk aq) (IQ k hk) (by kernel_rfl)
theorem Ga (k:Key) (o:Sx.Obj) (hk:k.wf):
 aba (!aV k) (false=cI k o) (aba (!ee k.kind) (true=cI k o) ((decide (o.kind=sb k.kind)&&decide (o.count=k.count)&&(!gM k.kind||decide (o.calls=k.call)))=cI k o)):=by
 delta aba
 cases hok:aV k
 ·simp[cI,hok]
 ·have h0:ee k.kind=true->0<=k.oid:=fun h=>by
   simp only[aV,ga,h,if_true,aaX,aaY]at hok;omega
  simp only[cI,gD,bd,sb,gM,hok,Bool.true_and];simp only[ee]at *;grind
theorem zp:cq Tryz.prog 47 DQ:=
 nJ gH yQ (fun _ _=>rfl) fun k o hk _=>aZ (inl:=bx) (ann:=aQ) (ae zk aq) (Ga k o hk) (by kernel_rfl)
theorem VF (n:Int):
 (decide (2<=n)&&decide (n<=7))=ee n/\
  (decide (n=2)||decide (n=3))=pt n/\
   decide (n=7)=gM n/\(decide (n=1)||decide (n=6))=kG n:=by
 exact⟨rfl,rfl,rfl,rfl⟩
theorem NZ:cq Tryz.prog 106 Ze:=
 qe (gi .i64) (fun _=>rfl) fun n _=>aZ (inl:=bx) (ann:=aQ) aq (VF n) (by kernel_rfl)
abbrev acI(k:Key):=aba (ee k.kind&&(decide (k.oid<0)||decide (64<=k.oid)||decide (k.count<0)||decide (4294967295<k.count))|| !ee k.kind&&(!decide (k.oid=0)|| !decide (k.count=0))) (2=bw k) (aba (gM k.kind&&(decide (k.call<0)||decide (4294967295<k.call))|| !gM k.kind&& !decide (k.call=0)) (2=bw k) (0=bw k))
abbrev acJ(k:Key):=aba (decide (k.kind<0)||decide (10<k.kind)||decide (k.rights<0)||decide (1<k.rights)|| !kG k.kind&& !decide (k.value=0)) (2=bw k) (acI k)
theorem Tf (k:Key) (hk:k.wf):
 aba (pt k.kind) (aba (decide (k.kind=3)) (acJ k) (aba (decide (k.kind<0)||decide (10<k.kind)||decide (k.rights<0)||decide (7<k.rights)|| !kG k.kind&& !decide (k.value=0)) (2=bw k) (acI k))) (aba (decide (k.kind=3)) (acJ k) (aba (decide (k.kind<0)||decide (10<k.kind)||decide (k.rights<0)||decide (0<k.rights)|| !kG k.kind&& !decide (k.value=0)) (2=bw k) (acI k))):=by
 delta aba acJ acI
 simp only[bw,aV,ga,fu,pt];rcases Bool.eq_false_or_eq_true (ee k.kind)with hA|hA<;>rcases Bool.eq_false_or_eq_true (gM k.kind)with hB|hB<;>rcases Bool.eq_false_or_eq_true (kG k.kind)with hC|hC<;>simp only[hA,hB,hC,Bool.true_and,Bool.false_and,Bool.not_true,Bool.not_false,Bool.or_false,Bool.false_or,Bool.true_or,if_true,Bool.false_eq_true,if_false,Bool.and_true]<;>grind
theorem sB:cq Tryz.prog 70 Vm:=
 qe gH (fun _=>rfl) fun k hk=>aZ (inl:=bx) (ann:=aQ) (ae NZ aq) (Tf k hk) (by kernel_rfl)
theorem IZ (k:Key) (hk:k.wf):
 ((!decide (bw k=0)|| !ee k.kind)=true-> -1=bd k)/\
   ((!decide (bw k=0)|| !ee k.kind)=false->k.oid=bd k):=by
 unfold bd bw;cases aV k<;>cases ee k.kind<;>simp
theorem ni:cq Tryz.prog 71 Ob:=
 qe gH (fun _=>rfl) fun k hk=>aZ (inl:=bx) (ann:=aQ) (ae NZ (ae sB aq)) (IZ k hk) (by kernel_rfl)
theorem JE (k:Key) (hk:k.wf):
 (decide (bd k<0)=true->0=gD k)/\
  (decide (bd k<0)=false->
   (decide (k.kind=3)=true->2=gD k)/\(decide (k.kind=3)=false->1=gD k)):=by
 unfold gD;grind
theorem JA:cq Tryz.prog 134 MK:=
 qe gH (fun _=>rfl) fun k hk=>aZ (inl:=bx) (ann:=aQ) (ae ni aq) (JE k hk) (by kernel_rfl)
theorem GN (k:Key) (o:Sx.Obj) (hk:k.wf):
 aba (!decide (bw k=0)) (false=cI k o) (aba (decide (bd k<0)) (true=cI k o) ((decide (o.kind=gD k)&&decide (o.count=k.count)&&(!decide (k.kind=7)||decide (o.calls=k.call)))=cI k o)):=by
 delta aba
 unfold cI bw;cases aV k<;>grind
theorem FW:cq Tryz.prog 107 DQ:=
 nJ gH yQ (fun _ _=>rfl) fun k o hk _=>aZ (inl:=bx) (ann:=aQ) (ae sB (ae ni (ae JA aq))) (GN k o hk) (by kernel_rfl)
end Go.Proofs.YtlblcfaclmpekaaGreat
namespace Go.Sx
def jm (kind n:Int) (k:Key):Bool:=aV k&&decide (bd k<n)&&(decide (kind=1)||decide (k=void))
def bP (o:Obj) (n:Int):Bool:=
 decide (1<=n)&&decide (n<=64)&&decide (0<=o.kind)&&decide (o.kind<=3)&&decide (0<=o.count)&&decide (o.count<=4294967295)&&decide (0<=o.calls)&&decide (o.calls<=4294967295)&&
 (decide (o.kind=1)||decide (o.calls=0))&&(List.range 16).all (fun i=>jm o.kind n (o.slots.at i))&&
 (List.range 64).all (fun i=>decide (o.kind=1)||decide (o.kind=2)||decide (o.bytes.at i=0))
def c8 (o:Obj) (n:Int):Int:=if bP o n then 0 else 2
def ll (o:Obj) (b:Bool):Bool:=decide (o.slots=gU)&&(b||decide (o.bytes=fa))&&decide (o.calls=0)
def Co (o:Obj) (n:Int) (i:Int):Prop:=0<=i/\i<=16/\∀j:Nat,(j:Int)<i->jm o.kind n (o.slots.at j)=true
def CX (o:Obj) (n:Int) (i:Int):Prop:=0<=i/\i<=64/\(∀j:Nat,j<16->jm o.kind n (o.slots.at j)=true)/\∀j:Nat,(j:Int)<i->(o.kind=1\/o.kind=2\/o.bytes.at j=0)
def ph (o:Obj) (n:Int) (i:Int):Bool:=(List.range i.toNat).all fun j=>aV (o.slots.at j)&&decide (bd (o.slots.at j)<n)
def Ce (i:Int):Prop:=0<=i/\i<=16
def Xm:Ct:=QK rO toBool fun o b=> .bo (ll o b)
def NG:Ct:=QK rO (rI .i64) fun o n=> .it .i64 (c8 o n)
theorem dT {o:Obj} {n:Int}:bP o n=true↔1<=n/\n<=64/\0<=o.kind/\o.kind<=3/\0<=o.count/\o.count<=4294967295/\0<=o.calls/\o.calls<=4294967295/\
  (o.kind=1\/o.calls=0)/\(∀i,i<16->jm o.kind n (o.slots.at i)=true)/\∀i,i<64->(o.kind=1\/o.kind=2)\/o.bytes.at i=0:=by
 simp only[bP,aaX,aaY,Bool.or_eq_true,List.all_eq_true,List.mem_range,and_assoc]
theorem qi {o:Obj} {n:Int} (h:¬bP o n=true):2=c8 o n:=by simp[c8,h]
theorem qM {o:Obj} {n:Int} (h:bP o n=true):0=c8 o n:=by simp[c8,h]
theorem IJ (kind n:Int) (k:Key):(!decide (bw k=0)||decide (n<=bd k)|| !decide (kind=1)&& !yf k void)= !jm kind n k:=by
 unfold jm bw yf;cases aV k<;>grind
theorem Sy (b:UInt8):decide (Sw b=0)=decide (b=0):=by
 rw[decide_eq_decide,Sw];constructor
 ·intro h;have:b.toNat=0:=by omega
  exact UInt8.toNat_inj.1 (by simpa using this)
 ·rintro rfl;rfl
theorem Hs {s:cL}:s=gU↔ ∀i,i<16->s.at i=void:=by
 constructor
 ·rintro rfl i _;exact yN i
 ·intro h;refine Vector.ext fun i hi=>?_
  have:=h i hi;unfold cL.at at this;simp only[gU,Vector.getElem_replicate];rw[<-this];simp[hi]
theorem Hh {s:Bytes}:s=fa↔ ∀i,i<64->s.at i=0:=by
 constructor
 ·rintro rfl i hi
  unfold Bytes.at fa;simp[hi]
 ·intro h;refine Vector.ext fun i hi=>?_
  have:=h i hi;unfold Bytes.at at this;simp only[fa,Vector.getElem_replicate];rw[<-this];simp[hi]
theorem nc:aV void=true/\bd void= -1:=by decide
theorem xp {kind n:Int} (hk:kind≠1) (hn:1<=n) (k:Key):jm kind n k=true↔k=void:=by
 unfold jm;simp only[aaX,aaY,Bool.or_eq_true];constructor
 ·rintro⟨_,h|h⟩
  ·exact absurd h hk
  ·exact h
 ·rintro rfl
  exact⟨⟨nc.1,by rw[nc.2];omega⟩,.inr rfl⟩
theorem Qn {o:Obj} {b:Bool}:ll o b=true↔(∀i,i<16->o.slots.at i=void)/\(b=true\/∀i,i<64->o.bytes.at i=0)/\o.calls=0:=by
 simp only[ll,aaX,aaY,Bool.or_eq_true,Hs,Hh,and_assoc]
theorem Gq {o:Obj} {n:Int} (h1:1<=n) (h2:n<=64) (h3:0<=o.count) (h4:o.count<=4294967295) (h5:0<=o.calls) (h6:o.calls<=4294967295) {b:Bool} (hk:0<=o.kind/\o.kind<=3/\o.kind≠1) (hb:b=decide (o.kind=2)):
  bP o n=ll o b:=by
 rw[Bool.eq_iff_iff,dT,Qn];subst hb;constructor
 ·rintro⟨_,_,_,_,_,_,_,_,h,hs,hz⟩
  refine⟨fun i hi=>(xp hk.2.2 h1 _).1 (hs i hi),?_,h.resolve_left hk.2.2⟩
  by_cases h2:o.kind=2
  ·exact .inl (by simp[h2])
  ·exact .inr fun i hi=>(hz i hi).resolve_left fun h=>h.elim hk.2.2 h2
 ·rintro⟨hs,hz,hc⟩
  refine⟨h1,h2,hk.1,hk.2.1,h3,h4,h5,h6,.inr hc,fun i hi=>(xp hk.2.2 h1 _).2 (hs i hi),fun i hi=>?_⟩
  rcases hz with h|h
  ·exact .inl (.inr (by simpa using h))
  ·exact .inr (h i hi)
theorem FK {o:Obj} {n:Int} (h1:1<=n) (h2:n<=64) (h3:0<=o.count) (h4:o.count<=4294967295) (h5:0<=o.calls) (h6:o.calls<=4294967295) (hk:o.kind=1):bP o n=ph o n 16:=by
 rw[Bool.eq_iff_iff,dT];simp only[ph,List.all_eq_true,List.mem_range,hk,jm,aaX,decide_true,Bool.true_or,and_true];constructor
 ·rintro⟨_,_,_,_,_,_,_,_,_,hs,_⟩
  exact fun i hi=>hs i hi
 ·intro hs;exact⟨h1,h2,by omega,by omega,h3,h4,h5,h6,.inl trivial,fun i hi=>hs i hi,fun i hi=> .inl (.inl trivial)⟩
theorem KZ {o:Obj} {n g:Int}:(ph o n g&&decide (bw (o.slots.at g.toNat)=0)&&(!ba (o.slots.at g.toNat)||decide (cw (o.slots.at g.toNat)<n)))=
  (ph o n g&&(aV (o.slots.at g.toNat)&&(!ba (o.slots.at g.toNat)||decide ((o.slots.at g.toNat).oid<n)))):=by
 unfold bw cw;cases aV (o.slots.at g.toNat)<;>cases ba (o.slots.at g.toNat)<;>simp
theorem KS {o:Obj} {n g:Int} (h0:0<=g) (hn:1<=n):(ph o n g&&decide (bw (o.slots.at g.toNat)=0)&&(!ba (o.slots.at g.toNat)||decide (cw (o.slots.at g.toNat)<n)))=ph o n (g+1):=by
 rw[KZ];unfold ph;rw[show(g+1).toNat=g.toNat+1 by omega,List.range_succ,List.all_append]
 simp only[List.all_cons,List.all_nil,Bool.and_true];congr 1
 unfold bd ba;cases aV (o.slots.at g.toNat)
 ·rfl
 ·cases ee (o.slots.at g.toNat).kind
  ·simp;omega
  ·simp
end Go.Sx
namespace Go.Proofs.YtlblcfaclmpekaaGreat
open Go.Sx
theorem UK (o:Sx.Obj) (b:Bool):
 (DC o.slots gU&&(b||DJ o.bytes fa)&&decide (o.calls=0))=ll o b:=by
 unfold ll DC DJ;rfl
theorem Re:cq Tryz.prog 68 Xm:=
 nJ yQ O9 (fun _ _=>rfl) fun o b _ _=>aZ (inl:=bx) (ann:=aQ) aq (UK o b) (by kernel_rfl)
theorem Ln (o:Sx.Obj) (n:Int):
 aba (decide (n<1)||decide (64<n)||decide (o.kind<0)||decide (3<o.kind)||decide (o.count<0)||decide (4294967295<o.count)||decide (o.calls<0)||decide (4294967295<o.calls)|| !decide (o.kind=1)&& !decide (o.calls=0)) (2=c8 o n) ((∃g,Co o n g/\n=n/\o.kind=o.kind/\0=g/\o=o)/\∀(g:Int),Co o n g->aba (decide (g<16)) ((0<=g/\g< ↑16)/\((!!decide (bw (o.slots.at g.toNat)=0))=true->0<=g/\g< ↑16)/\((!decide (o.kind=1)&& !(!decide (bw (o.slots.at g.toNat)=0)||decide (n<=bd (o.slots.at g.toNat))))=true->0<=g/\g< ↑16)/\aba (!decide (bw (o.slots.at g.toNat)=0)||decide (n<=bd (o.slots.at g.toNat))|| !decide (o.kind=1)&& !yf (o.slots.at g.toNat) void) (2=c8 o n) (abd (g+1)/\∃g',Co o n g'/\(16-g').toNat<(16-g).toNat/\n=n/\o.kind=o.kind/\g+1=g'/\o=o)) ((∃g,CX o n g/\n=n/\o.kind=o.kind/\0=g/\o=o)/\∀(g:Int),CX o n g->aba (decide (g<64)) (((!decide (o.kind=1)&& !decide (o.kind=2))=true->0<=g/\g< ↑64)/\aba (!decide (o.kind=1)&& !decide (o.kind=2)&& !decide (Sw (o.bytes.at g.toNat)=0)) (2=c8 o n) (abd (g+1)/\∃g',CX o n g'/\(64-g').toNat<(64-g).toNat/\n=n/\o.kind=o.kind/\g+1=g'/\o=o)) (0=c8 o n))):=by
 delta aba abd
 refine⟨fun h=>qi fun hh=>?_,fun h=>⟨⟨0,⟨by omega,by omega,fun j hj=>by omega⟩,rfl,rfl,rfl,rfl⟩,fun g hg=>⟨fun hlt=>?_,fun hge=>?_⟩⟩⟩
 ·have:=dT.1 hh;simp only[Bool.or_eq_true,aaX,Bool.not_eq_true',aaY,decide_eq_false_iff_not]at h;omega
 ·obtain⟨g0,g1,g2⟩:=hg;have hlt:=aa1 hlt;rw[IJ];refine⟨⟨g0,by omega⟩,fun _=>⟨g0,by omega⟩,fun _=>⟨g0,by omega⟩,fun hbad=>qi fun hh=>?_,fun hok=>⟨?_,g+1,⟨by omega,by omega,fun j hj=>?_⟩,by omega,rfl,rfl,rfl,rfl⟩⟩
  ·have:=(dT.1 hh).2.2.2.2.2.2.2.2.2.1 g.toNat (by omega)
   rw[this]at hbad;simp at hbad
  ·simp only[aF,bY];omega
  ·by_cases e:(j:Int)<g
   ·exact g2 j e
   ·have:j=g.toNat:=by omega
    subst this;simpa using hok
 ·obtain⟨g0,g1,g2⟩:=hg;have hge:¬g<16:=aa0 hge;refine⟨⟨0,⟨by omega,by omega,fun j hj=>g2 j (by omega),fun j hj=>by omega⟩,rfl,rfl,rfl,rfl⟩,fun g hg=>⟨fun hlt=>?_,fun hge=>qM ?_⟩⟩
  ·obtain⟨k0,k1,k2,k3⟩:=hg;have hlt:=aa1 hlt;simp only[Sy];refine⟨fun _=>⟨k0,by omega⟩,fun hbad=>qi fun hh=>?_,fun hok=>⟨?_,g+1,⟨by omega,by omega,k2,fun j hj=>?_⟩,by omega,by simp⟩⟩
   ·have:=(dT.1 hh).2.2.2.2.2.2.2.2.2.2 g.toNat (by omega)
    simp only[aaX,Bool.not_eq_true',decide_eq_false_iff_not]at hbad;grind
   ·simp only[aF,bY];omega
   ·by_cases e:(j:Int)<g
    ·exact k3 j e
    ·have:j=g.toNat:=by omega
     subst this;simp only[Bool.and_eq_false_iff,Bool.not_eq_false',aaY]at hok;grind
  ·obtain⟨k0,k1,k2,k3⟩:=hg;have hge:¬g<64:=aa0 hge;simp only[Bool.or_eq_false_iff,Bool.and_eq_false_iff,Bool.not_eq_false',aaY,decide_eq_false_iff_not]at h;refine dT.2 ⟨by omega,by omega,by omega,by omega,by omega,by omega,by omega,by omega,by omega,k2,fun i hi=>?_⟩
   have:=k3 i (by omega)
   grind
theorem Qu:cq Tryz.prog 65 NG:=
 nJ yQ (gi .i64) (fun _ _=>rfl) fun o n _ _=>aZ (inl:=bx) (ann:=(iu [(65,5,lpI [1,2,5] 6 (Co o n) 16),(65,10,lpI [1,2,5] 7 (CX o n) 64)])) (ae sB (ae ni aq)) (Ln o n) (by kernel_rfl)
theorem Tp (o:Sx.Obj) (n:Int):
 aba (decide (n<1)||decide (64<n)||decide (o.count<0)||decide (4294967295<o.count)||decide (o.calls<0)||decide (4294967295<o.calls)) (2=c8 o n) (aba (decide (o.kind=0)) (aba (!ll o false) (2=c8 o n) (0=c8 o n)) (aba (decide (o.kind=3)) (aba (!ll o false) (2=c8 o n) (0=c8 o n)) (aba (decide (o.kind=2)) (aba (!ll o true) (2=c8 o n) (0=c8 o n)) (aba (decide (o.kind=1)) ((∃g,Ce g/\n=n/\true=ph o n g/\o.slots=o.slots/\0=g/\o=o)/\∀(g:Int),Ce g->aba (decide (g<16)) ((0<=g/\g< ↑16)/\aF IntKind.i64 (g+1)/\∃g',Ce g'/\(16-g').toNat<(16-g).toNat/\n=n/\(ph o n g&&decide (bw (o.slots.at g.toNat)=0)&&(!ba (o.slots.at g.toNat)||decide (cw (o.slots.at g.toNat)<n)))=ph o n g'/\o.slots=o.slots/\g+1=g'/\o=o) (aba (!ph o n g) (2=c8 o n) (0=c8 o n))) (2=c8 o n))))):=by
 delta aba
 refine⟨fun h=>qi fun hh=>?_,fun h=>?_⟩
 ·have:=dT.1 hh;simp only[Bool.or_eq_true,aaY]at h;omega
 ·simp only[Bool.or_eq_false_iff,decide_eq_false_iff_not]at h
  have hb:∀(b:Bool),(0<=o.kind/\o.kind<=3/\o.kind≠1)->b=decide (o.kind=2)->((!ll o b)=true->2=c8 o n)/\((!ll o b)=false->0=c8 o n):=fun b h1 h2=>by
   have he:=Gq (o:=o) (n:=n) (b:=b) (by omega) (by omega) (by omega) (by omega) (by omega) (by omega) h1 h2
   exact⟨fun hn=>qi (by rw[he];simpa using hn),fun hy=>qM (by rw[he];simpa using hy)⟩
  refine⟨fun h0=>?_,fun h0=>⟨fun h3=>?_,fun h3=>⟨fun h2=>?_,fun h2=>⟨fun h1=>⟨⟨0,⟨by omega,by omega⟩,rfl,rfl,rfl,rfl,rfl⟩,fun g hg=>⟨fun hlt=>?_,fun hge=>?_⟩⟩,fun h1=>qi fun hh=>?_⟩⟩⟩⟩
  ·have h0:=aa1 h0;exact hb false (by omega) (by simp[h0])
  ·have h3:=aa1 h3;exact hb false (by omega) (by simp[h3])
  ·have h2:=aa1 h2;exact hb true (by omega) (by simp[h2])
  ·obtain⟨g0,g1⟩:=hg;have hlt:=aa1 hlt;refine⟨⟨g0,by omega⟩,by simp only[aF,bY];omega,g+1,⟨by omega,by omega⟩,by omega,rfl,KS g0 (by omega),rfl,rfl,rfl⟩
  ·obtain⟨g0,g1⟩:=hg;have hge:¬g<16:=aa0 hge;have h1:=aa1 h1;have e:g=16:=by omega
   subst e;have he:=FK (o:=o) (n:=n) (by omega) (by omega) (by omega) (by omega) (by omega) (by omega) h1
   exact⟨fun hn=>qi (by rw[he];simpa using hn),fun hy=>qM (by rw[he];simpa using hy)⟩
  ·have:=dT.1 hh;have h0:¬o.kind=0:=aa0 h0;have h1:¬o.kind=1:=aa0 h1;have h2:¬o.kind=2:=aa0 h2;have h3:¬o.kind=3:=aa0 h3;omega
theorem Cc:cq Tryz.prog 48 NG:=
 nJ yQ (gi .i64) (fun _ _=>rfl) fun o n _ _=>aZ (inl:=bx) (ann:=(iu [(48,12,Va [1,2,51] (fun g=> [(52,.it .i64 g),(5,.bo (ph o n g))]) Ce 16)])) (ae Re (ae gx (ae dH aq))) (Tp o n) (by kernel_rfl)
end Go.Proofs.YtlblcfaclmpekaaGreat
namespace Go.Sx
def bn (L:List Obj):Bool:=decide (ai L=0)
def du (L:List Obj) (oid:Int):Int:=if ai L=0 then 1 else if oid<0\/(ai L:Int)<=oid then 4 else 0
def aL (L:List Obj) (oid:Int):Obj:=if du L oid=0 then aj L oid.toNat free else free
def ak (L:List Obj):Int:=(ai L:Int)
def aU (L:List Obj) (k:Key):Bool:=ba k&&decide (du L k.oid=0)&&cI k (aj L k.oid.toNat free)
def aa (L:List Obj) (k:Key):Obj:=if aU L k then aj L k.oid.toNat free else free
abbrev abp(L:List Obj)(k:Key)(i:Nat):Key:=(aa L k).slots.at i
def ah (L:List Obj) (k:Key):Key:=if bn L|| !aV k||(ba k&& !aU L k)then void else k
def jA (n:Int):Bool:=decide (1<=n)&&decide (n<=64)
def mG (n:Int):List Obj:=List.replicate n.toNat free
def cM (L:List Obj) (i:Int) (o:Obj):List Obj:=if du L i=0/\c8 o (ai L:Int)=0 then cz L i.toNat o else L
def fz (L:List Obj) (i:Int) (o:Obj):Int:=if du L i=0 then c8 o (ai L:Int)else du L i
def fN (l:List Obj):Bool:=decide (1<=ai l)&&decide (ai l<=64)&&(List.range (ai l)).all fun i=>bP (aj l i free) (ai l:Int)
def kc (l:List Obj) (g:Int):List Obj:=l.take g.toNat++List.replicate (l.length-g.toNat) free
def qV (l:List Obj) (g:Int):Prop:=0<=g/\g<=(ai l:Int)/\∀j:Nat,(j:Int)<g->bP (aj l j free) (ai l:Int)=true
def Da (n i:Int):Prop:=0<=i/\i<=n
abbrev tS:Nat:=102
abbrev eS:Nat:=106
def Vc (c:Bool) (M:List Obj) (v:V) (r:List aK):Prop:=
 match v with
 | .tp l=>match l with
   | [a,b]=>match a with
     | .nl p=>match p with
       | .pointer none=>c=false/\oD (.ci .i64 2) b r
       |_=>False
     | .lp j off=>match D3 r j with
       |some (t,e,L)=>if off==0&&t==tS&&e==eS then c=true/\oD (.ci .i64 0) b r/\L=M else False
       |none=>False
     |_=>False
   |_=>False
 |_=>False
def aaI (n:Int):V->List aK->Prop:=Vc (jA n) (mG n)
def kOf (l:List Obj) (v:V) (r:List aK):Prop:=
 match ay r 0 with
 | .ro _=>Vc (fN l) l v r
 |_=>False
theorem Hu {l:List Obj} {v:V} {r:List aK} (h:kOf l v r):Vc (fN l) l v r/\D3 r 0=none:=by
 unfold kOf at h;split at h
 ·rename_i hr;refine⟨h,?_⟩;unfold D3 DV;rw[hr]
 ·exact h.elim
def kSt (x:V) (M:List Obj) (v:V) (r:List aK):Prop:=
 match DV r 0 with
 |some (t,e,_,L)=>if t==tS&&e==eS then oD x v r/\L=M else False
 |none=>False
def Ve:ke:=fun args res K=>
 match args with
 | [a]=>match rI .i64 a with
   |some n=>(jA n=false->K (.tp [jJ,.ci .i64 2]) res)/\(jA n=true->K (.tp [.lp res.length 0,.ci .i64 0]) (res++ [.store tS eS (mG n)]))
   |none=>False
 |_=>False
def isZ (c:V):Bool:=
 match c with
 | .ag l=>match l with
   | [x]=>match x with
     | .nl v=>match v with
       | .slice none 0 0=>true
       |_=>false
     |_=>false
   |_=>false
 |_=>false
theorem yD {c:V} (h:isZ c=true):c= .ag [.nl (.slice none 0 0)]:=by
 unfold isZ at h;split at h
 ·split at h
  ·split at h
   ·split at h
    ·rfl
    ·simp at h
   ·simp at h
  ·simp at h
 ·simp at h
def U3:ke:=fun args res K=>
 match args with
 | [a,b,c]=>match rI .i64 b with
   |some i=>match rO c with
    |some o=>match a with
     | .nl v=>match v with
       | .pointer none=>K (.it .i64 (fz [] i o)) res
       |_=>False
     | .lp k off=>if off==0 then match ay res k with
       | .store t e L=>if t==tS&&e==eS then K (.it .i64 (fz L i o)) (bO res k (.store tS eS (cM L i o)))else False
       | .blk t c=>if t==tS&&isZ c then K (.it .i64 (fz [] i o)) res else False
       |_=>False
       else False
     |_=>False
    |none=>False
   |none=>False
 |_=>False
structure Stp where
 puts:Bool
 oid:Int
 ob:Obj
def Stp.wf (x:Stp):Prop:=bY .i64 x.oid/\x.ob.wf
def TN:Ct:=Yx (.bo true)
def gP (L M:List Obj):Bool:=decide (L=M)
def qh (L M:List Obj) (g:Int):Prop:=0<=g/\g<=(ai L:Int)/\g<=(ai M:Int)/\∀j:Nat,(j:Int)<g->aj L j free=aj M j free
def X4:Ct:=Xb tS eS fun L M=> .bo (gP L M)
def iT (L M:List Obj) (g:Int):List Int:=((List.range g.toNat).filter fun j=> !C0 (aj L j free) (aj M j free)).map Int.ofNat
def j9 (L M:List Obj):Bool:=bn L||bn M|| !decide ((ai L:Int)=(ai M:Int))
def dN (L M:List Obj):List Int:=iT L M (ai L:Int)
def lS (L:List Obj) (g:Int):List Obj:=L.take g.toNat
def p9 (L:List Obj) (g:Int):Prop:=0<=g/\g<=(ai L:Int)
abbrev Yw:V:= .nl (.slice none 0 0)
abbrev tI:Nat:=3
def Fk (L:List Obj) (v:V) (r:List aK):Prop:=
 match v with
 | .nl p=>match p with
   | .pointer none=>bn L=true
   |_=>False
 | .lp j off=>match D3 r j with
   |some (t,e,M)=>if off==0&&t==tS&&e==eS&&Nat.ble 1 j then bn L=false/\M=L else False
   |none=>False
 |_=>False
def Pw (L M:List Obj) (v:V) (r:List aK):Prop:=
 match v with
 | .nl p=>match p with
   | .slice none 0 0=>j9 L M=true
   |_=>False
 | .sa j=>match ay r j with
   | .arr own esz l=>match own with
     |some e=>match l with
      | .it k l=>match k with
        | .i64=>if e==tI&&esz==1&&Nat.ble 2 j then j9 L M=false/\l=dN L M else False
        |_=>False
      |_=>False
     |none=>False
   |_=>False
 |_=>False
def Qf:ke:=fun args res K=>
 match args with
 | [a]=>match a with
   | .nl v=>match v with
     | .pointer none=>K jJ res
     |_=>False
   | .lp k off=>if off==0 then match cG res k with
     | .store t e L=>if t==tS&&e==eS then ai L<=1000/\(bn L=true->K jJ res)/\(bn L=false->K (.lp res.length 0) (res++ [.store tS eS L]))else False
     |_=>False
     else False
   |_=>False
 |_=>False
def UR:ke:=fun args res K=>
 match args with
 | [a,b]=>match b with
   | .lp j off=>if off==0 then match cG res j with
     | .store t e M=>if t==tS&&e==eS then match a with
       | .nl v=>match v with
         | .pointer none=>K Yw res
         |_=>False
       | .lp k off'=>if off'==0&& !(k==j)then match cG res k with
         | .store t e L=>if t==tS&&e==eS then ai L<=1000/\(j9 L M=true->K Yw res)/\(j9 L M=false->K (.sa res.length) (res++ [.arr (some tI) 1 (.it .i64 (dN L M))]))else False
         |_=>False
         else False
       |_=>False
       else False
     |_=>False
     else False
   |_=>False
 |_=>False
def HJ:Ct:=fun res nid xs=>match xs with
 | [a]=>match rS tS eS res a with
   |some (o,L)=>match o with
    |none=>some (none,.cb true,[])
    |some _=>some (none,.bo (bn L),[])
   |none=>none
 |_=>none
theorem iw {α:Type} (l:List α):bD (ai l)=(l.length:Int):=rfl
theorem mz {α:Type} (l:List α):((ai l:Nat):Int)=(l.length:Int):=rfl
def Zh:ke:=fun args res K=>
 match args with
 | [a]=>match a with
   | .sa k=>match cG res k with
     | .arr _ e l=>if e==163 then match l with
       | .ob l=>(fN l=false->K (.tp [jJ,.ci .i64 2]) res)/\(fN l=true->K (.tp [.lp res.length 0,.ci .i64 0]) (res++ [.store tS eS l]))
       |_=>False
       else False
     |_=>False
   |_=>False
 |_=>False
def QT:Ct:=mkA fun l=> .bo (fN l)
def Jo:Ct:=Rj rK fun l k=> .bo (aU l k)
def Rr:Ct:=Rj rK fun l k=> .key (ah l k)
def FO:Ct:=Vu tS eS fun L=> .bo (bn L)
def Zr:Ct:=Kb tS eS (rI .i64) fun L i=> .it .i64 (du L i)
def aae:Ct:=Kb tS eS (rI .i64) fun L i=> .tp [.ob (aL L i),.it .i64 (du L i)]
def Gg:Ct:=Vu tS eS fun L=> .it .i64 (ak L)
def SX:Ct:=Kb tS eS rK fun L k=> .tp [.ob (aa L k),.bo (aU L k)]
def Xa:Ct:=Kb tS eS rK fun L k=> .key (ah L k)
theorem Il {n:Nat} (h:n<1000):sU n 8:=by unfold sU;simp only[maxLen];omega
theorem Nh {L:List Obj} {g:Int} (h0:0<=g) (h1:g<(L.length:Int)):jl (lS L g) (aj L g.toNat free)=lS L (g+1):=by
 unfold jl lS aj;rw[show(g+1).toNat=g.toNat+1 by omega,List.take_add_one,aa2,List.getElem?_eq_getElem (by omega)];rfl
theorem Ld {L:List Obj} {g:Int} (h:(L.length:Int)<=g):lS L g=L:=by unfold lS;rw[List.take_of_length_le (by omega)]
theorem Mf {L:List Obj} {g:Int}:ai (lS L g)<=g.toNat:=by unfold ai lS;rw[List.length_take];omega
theorem N7 {L M:List Obj} {g:Int}:ai (iT L M g)<=g.toNat:=by
 unfold ai iT;rw[List.length_map];exact Nat.le_trans (List.length_filter_le _ _) (by rw[List.length_range];omega)
theorem Oz {L M:List Obj} {g:Int} (h0:0<=g) (h:(!C0 (aj L g.toNat free) (aj M g.toNat free))=true):jl (iT L M g) g=iT L M (g+1):=by
 unfold jl iT;rw[show(g+1).toNat=g.toNat+1 by omega,List.range_succ,List.filter_append,List.map_append]
 simp only[List.filter_cons,h,if_true,List.filter_nil,List.map_cons,List.map_nil];congr 2
 show g=((g.toNat:Nat):Int)
 omega
theorem Tn {L M:List Obj} {g:Int} (h0:0<=g) (h:(!C0 (aj L g.toNat free) (aj M g.toNat free))=false):iT L M g=iT L M (g+1):=by
 unfold iT;rw[show(g+1).toNat=g.toNat+1 by omega,List.range_succ,List.filter_append,List.map_append]
 simp only[List.filter_cons,h,Bool.false_eq_true,if_false,List.filter_nil,List.map_nil,List.append_nil]
theorem sg:bn []=true:=rfl
theorem wj {L:List Obj}:bn L=true↔L= []:=by
 unfold bn ai;simp[List.length_eq_zero_iff]
theorem se (i:Int):du [] i=1:=rfl
theorem KD {L:List Obj} (h:bn L=false) (i:Int):du L i=if i<0\/(L.length:Int)<=i then 4 else 0:=by
 have:L≠ []:=fun e=>by rw[e]at h;simp[sg]at h
 unfold du ai;rw[aa3 (by simpa[List.length_eq_zero_iff]using this)]
theorem lu {L:List Obj} {i:Int}:du L i=0↔0<=i/\i<(L.length:Int):=by
 unfold du ai;split
 ·omega
 ·split<;>omega
theorem BC (L:List Obj) (k:Key):((!ba k)=true->free=aa L k/\false=aU L k)/\
  ((!ba k)=false->
    ((!decide (du L (cw k)=0)|| !cI k (aL L (cw k)))=true->
      free=aa L k/\false=aU L k)/\
      ((!decide (du L (cw k)=0)|| !cI k (aL L (cw k)))=false->
        aL L (cw k)=aa L k/\true=aU L k)):=by
 have fin:∀b,aU L k=b->(b=false->free=aa L k)/\b=aU L k:=fun b h=>⟨fun hb=>by unfold aa;rw[h,hb];rfl,h.symm⟩
 refine⟨fun h=>?_,fun h=>?_⟩
 ·have h:ba k=false:=by simpa using h
  have:=fin false (by unfold aU;rw[h];rfl)
  exact⟨this.1 rfl,this.2⟩
 ·have h:ba k=true:=by simpa using h
  have ho:cw k=k.oid:=by unfold cw;rw[aa4 h]
  rw[ho];by_cases hh:du L k.oid=0
  ·have hg:aL L k.oid=aj L k.oid.toNat free:=by unfold aL;rw[aa4 hh]
   rw[hg];have e:aU L k=cI k (aj L k.oid.toNat free):=by unfold aU;simp[h,hh]
   refine⟨fun hc=>?_,fun hc=>?_⟩
   ·have hc:cI k (aj L k.oid.toNat free)=false:=by simpa[hh]using hc
    have:=fin false (by rw[e,hc])
    exact⟨this.1 rfl,this.2⟩
   ·have hc:cI k (aj L k.oid.toNat free)=true:=by simpa[hh]using hc
    have:=fin true (by rw[e,hc])
    refine⟨?_,this.2⟩;unfold aa;rw[e,hc];rfl
  ·have:=fin false (by unfold aU;simp[hh])
   exact⟨fun _=>⟨this.1 rfl,this.2⟩,fun hc=>by simp[hh]at hc⟩
theorem D8 (L:List Obj) (k:Key):((bn L|| !decide (bw k=0))=true->void=ah L k)/\
  ((bn L|| !decide (bw k=0))=false->
    ((ba k&& !aU L k)=true->void=ah L k)/\((ba k&& !aU L k)=false->k=ah L k)):=by
 have hc:(!decide (bw k=0))= !aV k:=by unfold bw;cases aV k<;>simp
 rw[hc];unfold ah;refine⟨fun h=>?_,fun h=>⟨fun h2=>?_,fun h2=>?_⟩⟩
 ·rw[aa4];simp only[h,Bool.true_or]
 ·rw[aa4];simp only[h2,Bool.or_true]
 ·rw[aa3];simp only[h,h2];simp
theorem rX {n:Int}:jA n=true↔1<=n/\n<=64:=by simp[jA]
theorem Si {g:Int} (h:0<=g):jl (mG g) free=mG (g+1):=by
 unfold jl mG;rw[show(g+1).toNat=g.toNat+1 by omega,List.replicate_succ']
theorem HY {i:Int} {o:Obj}:fz [] i o=1:=by unfold fz;rw[se];rfl
theorem SB {L:List Obj} {i:Int} {o:Obj} (h:du L i≠0):fz L i o=du L i/\cM L i o=L:=by
 unfold fz cM;rw[aa3 h,aa3 (fun hh=>h hh.1)];exact⟨rfl,rfl⟩
theorem Yf {L:List Obj} {i:Int} {o:Obj} (h:du L i=0) (h2:c8 o (ai L:Int)≠0):fz L i o=c8 o (ai L:Int)/\cM L i o=L:=by
 unfold fz cM;rw[aa4 h,aa3 (fun hh=>h2 hh.2)];exact⟨rfl,rfl⟩
theorem vB {L:List Obj} {i:Int} {o:Obj} (h:du L i=0) (h2:c8 o (ai L:Int)=0):fz L i o=0/\cM L i o=cz L i.toNat o:=by
 unfold fz cM;rw[aa4 h,aa4 ⟨h,h2⟩];exact⟨h2,rfl⟩
theorem MQ {c:Bool} {M:List Obj} (hn:c=false) {v:V} {r:List aK} (h:Vc c M v r):xj (.tp [jJ,.ci .i64 2]) v []:=by
 unfold Vc at h;split at h
 ·split at h
  ·split at h
   ·split at h
    ·exact QU (dE h.2)
    ·exact h.elim
   ·split at h
    ·split at h
     ·rw[hn]at h;simp at h
     ·exact h.elim
    ·exact h.elim
   ·exact h.elim
  ·exact h.elim
 ·exact h.elim
theorem S7 {c:Bool} {M:List Obj} (hn:c=true) {v:V} {r:List aK} (h:Vc c M v r):∃j b,v= .tp [.lp j 0,b]/\xj (.ci .i64 0) b []/\D3 r j=some (tS,eS,M):=by
 unfold Vc at h;split at h
 ·split at h
  ·split at h
   ·split at h
    ·rw[hn]at h;simp at h
    ·exact h.elim
   ·split at h
    ·rename_i hst;split at h
     ·rename_i hc;simp only[aaX,aaZ]at hc;obtain⟨⟨rfl,rfl⟩,rfl⟩:=hc;obtain⟨_,h2,rfl⟩:=h;exact⟨_,_,rfl,dE h2,hst⟩
     ·exact h.elim
    ·exact h.elim
   ·exact h.elim
  ·exact h.elim
 ·exact h.elim
theorem Hr {c:Bool} {M:List Obj} (hn:c=true) {v:V} {r:List aK} (h:Vc c M v r):∃j r',D3 r j=some (tS,eS,M)/\(r'=r\/uF r j=some r')/\ay r' j= .store tS eS M/\∀(κ:Nat->Option Nat) (i:Nat),κ j=some i->jR κ v (.tp [.lp i 0,.ci .i64 0]):=by
 obtain⟨j,b,rfl,hb,hst⟩:=S7 hn h
 have ht:∀(κ:Nat->Option Nat) (i:Nat),κ j=some i->jR κ (.tp [.lp j 0,b]) (.tp [.lp i 0,.ci .i64 0]):=fun κ i hi ρ2 ρ3 N N' hv hN hk=>by
  obtain⟨s1,s2,_⟩:=hb ρ2 N;refine⟨?_,hN j i hi hk.1,by simp[ok,bY],trivial⟩
  simp only[den,bB,(hv j i hi).1,s1]
 rcases DK hst with h1|⟨r',h1,h2⟩
 ·exact⟨j,r,hst,.inl rfl,h1,ht⟩
 ·exact⟨j,r',hst,.inr h1,h2,ht⟩
theorem TJ {x:V} {M:List Obj} {v:V} {r:List aK} (h:kSt x M v r):∃t,DV r 0=some (tS,eS,t,M)/\xj x v r:=by
 unfold kSt at h;split at h
 ·rename_i hst;split at h
  ·rename_i hc;simp only[aaX,aaZ]at hc;obtain⟨rfl,rfl⟩:=hc;obtain⟨h1,rfl⟩:=h;exact⟨_,hst,dE h1⟩
  ·exact h.elim
 ·exact h.elim
theorem aaC {P:Program} {f:Nat} {rest:List V} {res:List aK} {K KP:V->List aK->Prop} {k:Nat} {L M:List Obj} {x:V} (hr:ay res k= .store tS eS L) (hid:lf rest=true) (hx:kf x=true)
  (h:(∀o∈L,o.wf)->L.length<=9223372036854775807->an P f (.lp 0 0::rest) [.blk tS (.ag [.sa 1]),.obs eS 2 L,.gen 1] (kSt x M) (fun _ _=>False)) (hK:K x (bO res k (.store tS eS M))):an P f (.lp k 0::rest) res K KP:=by
 refine an.Ds hr hid hx ?_ hK;refine an.fact (k:=0) rfl fun w1 w2=>?_
 refine an.kr (k:=0) rfl ?_;refine an.shut (h w1 w2) fun v r hv=>?_
 obtain⟨t,h1,h2⟩:=TJ hv;obtain⟨r',g1,g2⟩:=BU h1;exact .inr ⟨0,r',g1,fun J K=>h2 J K,g2⟩
theorem fR {l:List Obj}:fN l=true↔1<=l.length/\l.length<=64/\∀i,i<l.length->bP (aj l i free) (l.length:Int)=true:=by
 unfold fN ai;simp only[aaX,aaY,List.all_eq_true,List.mem_range,and_assoc]
theorem ur {l:List Obj} (h:¬(1<=l.length/\l.length<=64/\∀i,i<l.length->bP (aj l i free) (l.length:Int)=true)):fN l=false:=by
 cases hr:fN l with
 |false=>rfl
 |true=>exact absurd (fR.1 hr) h
theorem yw {l:List Obj} {g:Int} (h1:g<=(l.length:Int)):(kc l g).length=l.length:=by
 unfold kc;simp only[List.length_append,List.length_take,List.length_replicate];omega
theorem OC {l:List Obj}:mG (l.length:Int)=kc l 0:=by unfold mG kc;simp
theorem Uy {l:List Obj} {g:Int} (h:(l.length:Int)<=g):kc l g=l:=by
 unfold kc;rw[List.take_of_length_le (by omega),show l.length-g.toNat=0 by omega];simp
theorem SR {l:List Obj} {g:Int} (h0:0<=g) (h1:g<(l.length:Int)):cz (kc l g) g.toNat (aj l g.toNat free)=kc l (g+1):=by
 unfold cz kc aj;obtain⟨n,rfl⟩:=Int.eq_ofNat_of_zero_le h0;have hn:n<l.length:=by omega
 have e1:((n:Int)+1).toNat=n+1:=by omega
 have e2:((n:Int)).toNat=n:=by omega
 rw[e1,e2];apply List.ext_getElem?
 intro i;rw[List.getElem?_set];have hlt:(List.take n l++List.replicate (l.length-n) free).length=l.length:=by simp;omega
 have htl:(List.take n l).length=n:=by simp;omega
 have htl1:(List.take (n+1) l).length=n+1:=by simp;omega
 by_cases hi:n=i
 ·subst hi;rw[aa4 rfl,aa4 (by rw[hlt];exact hn),List.getElem?_append_left (by rw[htl1];omega),List.getElem?_take,aa4 (by omega),aa2,List.getElem?_eq_getElem hn];rfl
 ·rw[aa3 hi];by_cases hl:i<n
  ·rw[List.getElem?_append_left (by rw[htl];exact hl),List.getElem?_append_left (by rw[htl1];omega),List.getElem?_take,List.getElem?_take,aa4 hl,aa4 (by omega)]
  ·rw[List.getElem?_append_right (by rw[htl];omega),List.getElem?_append_right (by rw[htl1];omega),htl,htl1,List.getElem?_replicate,List.getElem?_replicate]
   by_cases hb:i<l.length
   ·rw[aa4 (by omega),aa4 (by omega)]
   ·rw[aa3 (by omega),aa3 (by omega)]
theorem XJ {l:List Obj} {g:Int} (h0:0<=g) (h1:g<(l.length:Int)) (x:Obj):fz (kc l g) g x=c8 x (l.length:Int):=by
 have hh:du (kc l g) g=0:=lu.2 (by rw[yw (by omega)];exact⟨h0,h1⟩)
 unfold fz ai;rw[aa4 hh,yw (by omega)]
theorem T9 {l:List Obj} {g:Int} (h0:0<=g) (h1:g<(l.length:Int)) (hx:c8 (aj l g.toNat free) (l.length:Int)=0):cM (kc l g) g (aj l g.toNat free)=kc l (g+1):=by
 have hh:du (kc l g) g=0:=lu.2 (by rw[yw (by omega)];exact⟨h0,h1⟩)
 unfold cM ai;rw[aa4 ⟨hh,by rw[yw (by omega)];exact hx⟩]
 exact SR h0 h1
theorem tP (o:Obj) (n:Int):(c8 o n=0/\bP o n=true)\/(c8 o n=2/\bP o n=false):=by
 unfold c8;cases bP o n<;>simp
theorem k9 (k:Key):(ba k=true/\bd k=k.oid/\0<=k.oid)\/(ba k=false/\bd k= -1):=by
 have h:bd k=if ba k then k.oid else -1:=rfl
 cases hn:ba k
 ·exact .inr ⟨rfl,by rw[h,hn];rfl⟩
 ·refine .inl ⟨rfl,by rw[h,hn];rfl,?_⟩
  unfold ba at hn;simp only[aaX]at hn;have:=hn.1;simp only[aV,ga,hn.2,if_true,aaX,aaY]at this;omega
theorem EP (l:List Obj) (k:Key) (hl:l.length<=9223372036854775807):((decide (0<=bd k)&&decide (bd k<bD (ai l)))=true->aF IntKind.i64 (bD (ai l)-1))/\
  ((decide (0<=bd k)&&decide (bd k<bD (ai l)))=true->
    0<=lP (bd k) (bD (ai l)-1)/\lP (bd k) (bD (ai l)-1)< ↑(ai l))/\
    ((decide (0<=bd k)&&decide (bd k<bD (ai l)))=true->
      (lP (bd k) (bD (ai l)-1)).toNat<ai l)/\
      (decide (0<=bd k)&&decide (bd k<bD (ai l))&&
        cI k (aj l (lP (bd k) (bD (ai l)-1)).toNat free))=
       aU l k:=by
 unfold bD ai
 have hm:0<=bd k->bd k<(l.length:Int)->lP (bd k) ((l.length:Int)-1)=bd k:=fun h1 h2=>by
  unfold lP;rw[aa3 (by omega)]
 simp only[aaX,aaY];refine⟨fun h=>by simp only[aF,bY];omega,fun h=>by rw[hm h.1 h.2];exact h,fun h=>by rw[hm h.1 h.2];omega,?_⟩
 rcases k9 k with⟨h1,h2,h3⟩|⟨h1,h2⟩
 ·by_cases hh:k.oid<(l.length:Int)
  ·rw[hm (by omega) (by omega),h2]
   have h0:du l k.oid=0:=lu.2 ⟨h3,hh⟩;unfold aU;simp[h1,h0,h3,hh]
  ·have h0:¬du l k.oid=0:=fun h=>hh (lu.1 h).2
   unfold aU;rw[h2];simp[h0,hh]
 ·unfold aU;simp[h1,h2]
theorem Ja (l:List Obj) (k:Key):((decide (bD (ai l)=0)|| !decide (bw k=0)||decide (0<=bd k)&& !aU l k)=true->void=ah l k)/\
  ((decide (bD (ai l)=0)|| !decide (bw k=0)||decide (0<=bd k)&& !aU l k)=false->k=ah l k):=by
 have hc:(!decide (bw k=0))= !aV k:=by unfold bw;cases aV k<;>simp
 have hd:decide (0<=bd k)=ba k:=by
  rcases k9 k with⟨h1,h2,h3⟩|⟨h1,h2⟩
  ·rw[h1,h2];simpa using h3
  ·rw[h1,h2];simp
 have he:decide (bD (ai l)=0)=bn l:=by
  unfold bn bD;rw[decide_eq_decide];omega
 rw[hc,hd,he];unfold ah;exact⟨fun h=>by rw[h];rfl,fun h=>by rw[h];rfl⟩
theorem zb {l:List Obj} {k:Key} (h:aU l k=true):0<=bd k/\bd k<(l.length:Int)/\aa l k=aj l (bd k).toNat free:=by
 have h':=h;unfold aU at h;simp only[aaX,aaY]at h;have hb:=lu.1 h.1.2;rcases k9 k with⟨h1,h2,h3⟩|⟨h1,h2⟩
 ·rw[h2];exact⟨hb.1,hb.2,by unfold aa;rw[h',aa4 rfl]⟩
 ·rw[h1]at h;simp at h
theorem qT {L M:List Obj} (h:L.length=M.length) (h2:∀j:Nat,j<L.length->aj L j free=aj M j free):L=M:=by
 apply List.ext_getElem h
 intro i h3 h4;have:=h2 i h3;unfold aj at this;simpa[aa2,h3,h4]using this
theorem Lh {L M:List Obj} {g:Int} (hg:qh L M g) (hge:(ai L:Int)<=g):(decide (g=bD (ai M))&&decide (ak L=g))=gP L M:=by
 obtain⟨g0,g1,g2,g3⟩:=hg;have e:g=(L.length:Int):=by unfold ai at *;omega
 subst e;unfold gP ak bD ai;cases hd:decide (L=M)with
 |true=>
  have:=aa1 hd;subst this;simp
 |false=>
  have hne:=aa0 hd;simp only[decide_true,Bool.and_true,decide_eq_false_iff_not];intro hl;exact hne (qT (by omega) fun j hj=>g3 j (by omega))
end Go.Sx
namespace Go.Proofs.YtlblcfaclmpekaaGreat
open Go.Sx
theorem Lk:
 true=bn []:=by
 rfl
theorem Pz (L:List Sx.Obj):
 decide (bD (ai L)=0)=bn L:=by
 unfold bn bD ai;rw[decide_eq_decide];omega
theorem pY:cq Tryz.prog 42 FO:=
 Ol (fun _=>rfl) (aZ (inl:=bx) (ann:=aQ) aq Lk (by kernel_rfl)) (fun L _ _=>aZ (inl:=bx) (ann:=aQ) aq (Pz L) (by kernel_rfl))
theorem RG (i:Int):
 (bn []=true->1=du [] i)/\
  (bn []=false->((!decide (i<0))=true->False)/\((!decide (i<0))=false->4=du [] i)):=by
 exact⟨fun _=>rfl,fun h=>by simp[sg]at h⟩
theorem SI (L:List Sx.Obj) (i:Int):
 (bn L=true->1=du L i)/\
  (bn L=false->
   ((decide (i<0)||decide (bD (ai L)<=i))=true->4=du L i)/\
     ((decide (i<0)||decide (bD (ai L)<=i))=false->0=du L i)):=by
 refine⟨fun h=>?_,fun h=>?_⟩
 ·rw[wj.1 h];rfl
 ·rw[KD h];unfold bD ai;refine⟨fun h1=>?_,fun h1=>?_⟩
  ·simp only[Bool.or_eq_true,aaY]at h1;rw[aa4 h1]
  ·simp only[Bool.or_eq_false_iff,decide_eq_false_iff_not]at h1;rw[aa3 (by omega)]
theorem zP:cq Tryz.prog 45 Zr:=
 xR (gi .i64) (fun _ _=>rfl) (fun x _=>aZ (inl:=bx) (ann:=aQ) (ae pY aq) (RG x) (by kernel_rfl)) (fun L x _ _ _=>aZ (inl:=bx) (ann:=aQ) (ae pY aq) (SI L x) (by kernel_rfl)) fun _=>rfl
theorem OB:
 (bn []=true->0=ak [])/\(bn []=false->False):=by
 exact⟨fun _=>rfl,fun h=>by simp[sg]at h⟩
theorem Oq (L:List Sx.Obj):
 (bn L=true->0=ak L)/\(bn L=false->bD (ai L)=ak L):=by
 exact⟨fun h=>by rw[wj.1 h];rfl,fun _=>rfl⟩
theorem bC:cq Tryz.prog 36 Gg:=
 Ol (fun _=>rfl) (aZ (inl:=bx) (ann:=aQ) (ae pY aq) OB (by kernel_rfl)) (fun L _ _=>aZ (inl:=bx) (ann:=aQ) (ae pY aq) (Oq L) (by kernel_rfl))
theorem RU (i:Int):
 ((!decide (du [] i=0))=true->free=aL [] i/\du [] i=du [] i)/\
   ((!decide (du [] i=0))=false->False):=by
 exact⟨fun _=>⟨rfl,rfl⟩,fun h=>by simp[se]at h⟩
theorem Rk (L:List Sx.Obj) (i:Int):
 ((!decide (du L i=0))=true->free=aL L i/\du L i=du L i)/\
   ((!decide (du L i=0))=false->
     (0<=i/\i< ↑(ai L))/\i.toNat<ai L/\i.toNat<ai L/\aj L i.toNat free=aL L i/\0=du L i):=by
 refine⟨fun h=>⟨?_,rfl⟩,fun h=>?_⟩
 ·unfold aL;rw[aa3 (by simpa using h)]
 ·have h:du L i=0:=by simpa using h
  have hb:=lu.1 h;unfold aL ai;rw[aa4 h,h];exact⟨hb,by omega,by omega,rfl,rfl⟩
theorem gd:cq Tryz.prog 25 aae:=
 xR (gi .i64) (fun _ _=>rfl) (fun x _=>aZ (inl:=bx) (ann:=aQ) (ae zP aq) (RU x) (by kernel_rfl)) (fun L x _ _ _=>aZ (inl:=bx) (ann:=aQ) (ae zP aq) (Rk L x) (by kernel_rfl)) fun _=>rfl
theorem JB (k:Key):
 aba (!ba k) (free=aa [] k/\false=aU [] k) (aba (!decide (du [] (cw k)=0)|| !cI k (aL [] (cw k))) (free=aa [] k/\false=aU [] k) (aL [] (cw k)=aa [] k/\true=aU [] k)):=by
 delta aba
 exact BC [] k
theorem JN (L:List Sx.Obj) (k:Key):
 aba (!ba k) (free=aa L k/\false=aU L k) (aba (!decide (du L (cw k)=0)|| !cI k (aL L (cw k))) (free=aa L k/\false=aU L k) (aL L (cw k)=aa L k/\true=aU L k)):=by
 delta aba
 exact BC L k
theorem bQ:cq Tryz.prog 26 SX:=
 xR gH (fun _ _=>rfl) (fun x _=>aZ (inl:=bx) (ann:=aQ) (ae dH (ae gd (ae zp aq))) (JB x) (by kernel_rfl)) (fun L x _ _ _=>aZ (inl:=bx) (ann:=aQ) (ae dH (ae gd (ae zp aq))) (JN L x) (by kernel_rfl)) fun _=>rfl
theorem WT (n:Int):
 aba (decide (n<1)||decide (64<n)) (jA n=false/\True) ((∃g,Da n g/\Value.pointer none=Value.pointer none/\n=n/\0=g/\[]=mG g)/\∀(g:Int),Da n g->aba (decide (g<n)) (sU (ai (mG g)) 8/\aF IntKind.i64 (g+1)/\∃g',Da n g'/\(n-g').toNat<(n-g).toNat/\Value.pointer none=Value.pointer none/\n=n/\g+1=g'/\jl (mG g) free=mG g') (jA n=true/\True/\mG g=mG n)):=by
 delta aba
 refine⟨fun h=>⟨?_,trivial⟩,fun h=>⟨⟨0,?_,rfl,rfl,rfl,rfl⟩,fun g hg=>⟨fun hlt=>?_,fun hge=>?_⟩⟩⟩
 ·simp only[Bool.or_eq_true,aaY]at h;unfold jA;rw[Bool.and_eq_false_iff,decide_eq_false_iff_not,decide_eq_false_iff_not];omega
 ·simp only[Bool.or_eq_false_iff,decide_eq_false_iff_not]at h;exact⟨by omega,by omega⟩
 ·simp only[Bool.or_eq_false_iff,decide_eq_false_iff_not]at h;obtain⟨g0,g1⟩:=hg;have hlt:=aa1 hlt;refine⟨?_,?_,g+1,⟨by omega,by omega⟩,by omega,rfl,rfl,rfl,Si g0⟩
  ·unfold sU ai mG;simp only[List.length_replicate,maxLen];omega
  ·simp only[aF,bY];omega
 ·simp only[Bool.or_eq_false_iff,decide_eq_false_iff_not]at h;obtain⟨g0,g1⟩:=hg;have hge:=aa0 hge;exact⟨rX.2 (by omega),trivial,by rw[show g=n by omega]⟩
theorem Pp (n:Int):an Tryz.prog 28 [.it .i64 n] [] (aaI n) (fun _ _=>False):=aZ (inl:=bx) (ann:=(iu [(28,5,lpB [2,3,4,13] (fun g=> [(14,.it .i64 g)]) 0 tS eS mG (Da n) n)])) aq (WT n) (by kernel_rfl)
theorem OE:kJ Tryz.prog 28 Ve:=by
 intro args res K KP h;unfold Ve at h;split at h
 ·split at h
  ·rename_i n hn;refine an.args (fc.rd (gi .i64) hn fc.nil) ?_;cases hb:jA n with
   |false=>exact an.pure rfl rfl ((Pp n).mono (fun v r hv=>MQ hb hv) fun _ _ h=>h) (h.1 hb)
   |true=>
    refine an.SJ (F:=fun j=> .tp [.lp j 0,.ci .i64 0]) rfl ?_ (h.2 hb)
    refine an.shut (Pp n) fun v r hv=>?_
    obtain⟨j,r',_,h1,h2,h3⟩:=Hr hb hv;rcases h1 with rfl|h1
    ·exact .inl ⟨j,h2,h3⟩
    ·exact .inr ⟨j,r',h1,j,h2,h3⟩
  ·exact h.elim
 ·exact h.elim
theorem Q5 (i:Int) (o:Sx.Obj):
 ((!decide (du [] i=0))=true->du [] i=fz [] i o)/\((!decide (du [] i=0))=false->False):=by
 refine⟨fun _=>?_,fun h=>by simp[se]at h⟩
 rw[HY,se]
theorem Ul (i:Int) (o:Sx.Obj):an Tryz.prog 30 [jJ,.it .i64 i,.ob o] [] (oD (.it .i64 (fz [] i o))) (fun _ _=>False):=aZ (inl:=bx) (ann:=aQ) (ae zP (ae Cc aq)) (Q5 i o) (by kernel_rfl)
theorem TU (L:List Sx.Obj) (i:Int) (o:Sx.Obj):
 aba (!decide (du L i=0)) (du L i=fz L i o/\L=cM L i o) (aba (!decide (c8 o (bD (ai L))=0)) (c8 o (bD (ai L))=fz L i o/\L=cM L i o) ((0<=i/\i< ↑(ai L))/\i.toNat<ai L/\0=fz L i o/\cz L i.toNat o=cM L i o)):=by
 delta aba
 refine⟨fun h=>?_,fun h=>⟨fun h2=>?_,fun h2=>?_⟩⟩
 ·obtain⟨a,b⟩:=SB (o:=o) (show du L i≠0 by simpa using h)
  rw[a,b];exact⟨rfl,rfl⟩
 ·obtain⟨a,b⟩:=Yf (o:=o) (show du L i=0 by simpa using h) (show c8 o (ai L:Int)≠0 by unfold bD at h2;simpa using h2)
  rw[a,b];exact⟨rfl,rfl⟩
 ·have h:=(show du L i=0 by simpa using h)
  have hb:=lu.1 h;obtain⟨a,b⟩:=vB (o:=o) h (show c8 o (ai L:Int)=0 by unfold bD at h2;simpa using h2)
  rw[a,b];exact⟨hb,by unfold ai;omega,rfl,rfl⟩
theorem Sg (L:List Sx.Obj) (i:Int) (o:Sx.Obj):an Tryz.prog 30 [.lp 0 0,.it .i64 i,.ob o] [.blk tS (.ag [.sa 1]),.obs eS 2 L,.gen 1] (kSt (.it .i64 (fz L i o)) (cM L i o)) (fun _ _=>False):=aZ (inl:=bx) (ann:=aQ) (ae zP (ae Cc aq)) (TU L i o) (by kernel_rfl)
theorem SW (i:Int) (o:Sx.Obj):
 ((!decide (du [] i=0))=true->du [] i=fz [] i o)/\
   ((!decide (du [] i=0))=false->
     ((!decide (c8 o 0=0))=true->c8 o 0=fz [] i o)/\((!decide (c8 o 0=0))=false->False)):=by
 refine⟨fun _=>?_,fun h=>by simp[se]at h⟩
 rw[HY,se]
theorem Ut (i:Int) (o:Sx.Obj):an Tryz.prog 30 [.lp 0 0,.it .i64 i,.ob o] [.ro (.blk tS (.ag [.nl (.slice none 0 0)]))] (oD (.it .i64 (fz [] i o))) (fun _ _=>False):=aZ (inl:=bx) (ann:=aQ) (ae zP (ae Cc aq)) (SW i o) (by kernel_rfl)
theorem dz:kJ Tryz.prog 30 U3:=by
 intro args res K KP h;unfold U3 at h;split at h
 ·split at h
  ·rename_i i hi;split at h
   ·rename_i o ho;refine an.args (fc.jH (fc.rd (gi .i64) hi (fc.rd yQ ho fc.nil))) ?_;split at h
    ·split at h
     ·exact an.pure rfl rfl ((Ul i o).mono (fun _ _ h=>dE h) fun _ _ h=>h) h
     ·exact h.elim
    ·split at h
     ·rename_i hoff;have hoff:=aaZ.1 hoff;subst hoff;split at h
      ·rename_i hr;split at h
       ·rename_i hc;simp only[aaX,aaZ]at hc;obtain⟨rfl,rfl⟩:=hc;exact aaC hr rfl rfl (fun _ _=>Sg _ i o) h
       ·exact h.elim
      ·rename_i hr;split at h
       ·rename_i hc;simp only[aaX,aaZ]at hc;obtain⟨rfl,hz⟩:=hc;have:=yD hz;subst this;refine an.MG (r0:= .blk tS (.ag [.nl (.slice none 0 0)])) (by unfold cG;rw[hr]) (by simp) (fun κ=>rfl) rfl rfl ((Ut i o).mono (fun _ _ h=>dE h) fun _ _ h=>h) h
       ·exact h.elim
      ·exact h.elim
     ·exact h.elim
    ·exact h.elim
   ·exact h.elim
  ·exact h.elim
 ·exact h.elim
theorem Lo (l:List Sx.Obj) (hl:l.length<=9223372036854775807):
 aba (decide (bD (ai l)<1)||decide (64<bD (ai l))) (false=fN l) ((∃g,qV l g/\false=false/\0=g/\l=l)/\∀(g:Int),qV l g->aba (decide (g<bD (ai l))) ((0<=g/\g< ↑(ai l))/\g.toNat<ai l/\aba (!decide (c8 (aj l g.toNat free) (bD (ai l))=0)) (false=fN l) (aF IntKind.i64 (g+1)/\∃g',qV l g'/\(bD (ai l)-g').toNat<(bD (ai l)-g).toNat/\false=false/\g+1=g'/\l=l)) (true=fN l)):=by
 delta aba
 refine⟨fun h=>?_,fun h=>⟨⟨0,⟨by omega,by omega,fun j hj=>by omega⟩,rfl,rfl,rfl⟩,fun g hg=>⟨fun hlt=>?_,fun hge=>?_⟩⟩⟩
 ·simp only[Bool.or_eq_true,aaY]at h;simp only[iw]at h;exact(ur fun hh=>by have h1:=hh.1;have h2:=hh.2.1;omega).symm
 ·obtain⟨g0,g1,g2⟩:=hg;have hlt:=aa1 hlt;unfold bD at *;refine⟨⟨g0,hlt⟩,by omega,fun hb=>(ur fun hh=>?_).symm,fun hb=>⟨?_,g+1,⟨by omega,by omega,fun j hj=>?_⟩,by omega,rfl,rfl,rfl⟩⟩
  ·have:=hh.2.2 g.toNat (by unfold ai at hlt;omega)
   unfold c8 ai at hb;rw[this]at hb;simp at hb
  ·simp only[aF,bY];unfold ai at *;omega
  ·by_cases e:(j:Int)<g
   ·exact g2 j e
   ·have:j=g.toNat:=by omega
    subst this;rcases tP (aj l g.toNat free) (ai l:Int)with⟨h1,h2⟩|⟨h1,h2⟩
    ·exact h2
    ·rw[h1]at hb;simp at hb
 ·obtain⟨g0,g1,g2⟩:=hg;have hge:=aa0 hge;have hle:=mz l;simp only[Bool.or_eq_false_iff,decide_eq_false_iff_not]at h;simp only[iw]at h hge;exact(fR.2 ⟨by omega,by omega,fun i hi=>g2 i (by omega)⟩).symm
theorem LJ:cq Tryz.prog 40 QT:=Yr (fun _=>rfl) fun l _ hl=>aZ (inl:=bx) (ann:=(iu [(40,4,Va [0,2] (fun g=> [(3,.it .i64 g)]) (qV l) (bD (ai l)))])) (ae Qu aq) (Lo l hl) (by kernel_rfl)
theorem G2 (l:List Sx.Obj) (k:Key) (hl:l.length<=9223372036854775807):
 ((decide (0<=bd k)&&decide (bd k<bD (ai l)))=true->aF IntKind.i64 (bD (ai l)-1))/\((decide (0<=bd k)&&decide (bd k<bD (ai l)))=true->0<=lP (bd k) (bD (ai l)-1)/\lP (bd k) (bD (ai l)-1)< ↑(ai l))/\((decide (0<=bd k)&&decide (bd k<bD (ai l)))=true->(lP (bd k) (bD (ai l)-1)).toNat<ai l)/\(decide (0<=bd k)&&decide (bd k<bD (ai l))&&cI k (aj l (lP (bd k) (bD (ai l)-1)).toNat free))=aU l k:=by
 exact EP l k hl
theorem mf:cq Tryz.prog 72 Jo:=Iw gH (fun _ _=>rfl) (fun l k _ hl _=>aZ (inl:=bx) (ann:=aQ) (ae ni (ae FW aq)) (G2 l k hl) (by kernel_rfl)) fun _=>rfl
theorem aat (l:List Sx.Obj) (hl:l.length<=9223372036854775807):
 true=true/\(jA (bD (ai l))=false->fN l=false/\True)/\(jA (bD (ai l))=true->(∃g,qV l g/\Value.pointer none=Value.pointer none/\bD (ai l)=bD (ai l)/\0=g/\l=l/\mG (bD (ai l))=kc l g)/\∀(g:Int),qV l g->aba (decide (g<bD (ai l))) ((0<=g/\g< ↑(ai l))/\g.toNat<ai l/\true=true/\aba (!decide (fz (kc l g) g (aj l g.toNat free)=0)) (fN l=false/\fz (kc l g) g (aj l g.toNat free)=2) (aF IntKind.i64 (g+1)/\∃g',qV l g'/\(bD (ai l)-g').toNat<(bD (ai l)-g).toNat/\Value.pointer none=Value.pointer none/\bD (ai l)=bD (ai l)/\g+1=g'/\l=l/\cM (kc l g) g (aj l g.toNat free)=kc l g')) (fN l=true/\True/\kc l g=l)):=by
 delta aba
 refine⟨rfl,fun h=>⟨ur fun hh=>?_,trivial⟩,fun h=>⟨⟨0,⟨by omega,by omega,fun j hj=>by omega⟩,rfl,rfl,rfl,rfl,OC⟩,fun g hg=>⟨fun hlt=>?_,fun hge=>?_⟩⟩⟩
 ·have:jA (bD (ai l))=true:=rX.2 (by unfold bD ai;omega)
  rw[this]at h;simp at h
 ·obtain⟨g0,g1,g2⟩:=hg;have hlt:=aa1 hlt;have h:=rX.1 h;have hle:=mz l;simp only[iw]at *;rw[XJ g0 hlt];refine⟨⟨g0,hlt⟩,by omega,trivial,fun hb=>⟨ur fun hh=>?_,?_⟩,fun hb=>⟨?_,g+1,⟨by omega,by omega,fun j hj=>?_⟩,by omega,trivial,trivial,rfl,trivial,T9 g0 hlt (by simpa using hb)⟩⟩
  ·have:=hh.2.2 g.toNat (by omega)
   unfold c8 at hb;rw[this]at hb;simp at hb
  ·rcases tP (aj l g.toNat free) (l.length:Int)with⟨h1,h2⟩|⟨h1,h2⟩
   ·rw[h1]at hb;simp at hb
   ·exact h1
  ·simp only[aF,bY];omega
  ·by_cases e:(j:Int)<g
   ·exact g2 j e
   ·have:j=g.toNat:=by omega
    subst this;rcases tP (aj l g.toNat free) (l.length:Int)with⟨h1,h2⟩|⟨h1,h2⟩
    ·exact h2
    ·rw[h1]at hb;simp at hb
 ·obtain⟨g0,g1,g2⟩:=hg;have hge:=aa0 hge;have h:=rX.1 h;have hle:=mz l;simp only[iw]at *;exact⟨fR.2 ⟨by omega,by omega,fun i hi=>g2 i (by omega)⟩,trivial,Uy (by omega)⟩
theorem U1 (l:List Sx.Obj) (own:Option Nat):an Tryz.prog 41 [.sa 0] [.ro (.arr own 163 (.ob l))] (kOf l) (fun _ _=>False):=
 an.Y4 (an.ET (k:=0) rfl fun _ hl=>(bj (inl:=bx) (ann:=(iu [(41,5,YI [0,2,3,4,5,18,19] (fun g=> [(20,.it .i64 g)]) 1 (fun g=> .store tS eS (kc l g)) (qV l) (bD (ai l)))])) aq (aB OE (aB dz aD)) (aat l hl) (by kernel_rfl):an Tryz.prog 41 [.sa 0] [.ro (.arr none 163 (.ob l))] (kOf l) (fun _ _=>False)))
theorem Zq:kJ Tryz.prog 41 Zh:=by
 intro args res K KP h;unfold Zh at h;split at h
 ·split at h
  ·split at h
   ·rename_i hr;split at h
    ·rename_i he;have he:=aaZ.1 he;subst he;split at h
     ·rename_i l;cases hb:fN l with
      |false=>exact an.ZQ hr rfl rfl ((U1 l _).mono (fun v r hv=>MQ hb (Hu hv).1) fun _ _ h=>h) (h.1 hb)
      |true=>
       refine an.NA (F:=fun j=> .tp [.lp j 0,.ci .i64 0]) hr rfl ?_ (h.2 hb)
       refine an.shut (U1 l _) fun v r hv=>?_
       obtain⟨hv,h0⟩:=Hu hv;obtain⟨j,r',hs,h1,h2,h3⟩:=Hr hb hv
       have hj:1<=j:=by
        rcases Nat.eq_zero_or_pos j with rfl|hj
        ·rw[h0]at hs;simp at hs
        ·exact hj
       rcases h1 with rfl|h1
       ·exact .inl ⟨j,hj,h2,h3⟩
       ·exact .inr ⟨j,r',h1,j,hj,h2,h3⟩
     ·exact h.elim
    ·exact h.elim
   ·exact h.elim
  ·exact h.elim
 ·exact h.elim
end Go.Proofs.YtlblcfaclmpekaaGreat
namespace Go.Sx
def gV (r b:Int):Bool:=decide ((r.tdiv b).tmod 2=1)
def gC (r m g:Int):Int:=(if 2<=g/\(gV r 1||gV m 1)=true then 1 else 0)+(if 4<=g/\(gV r 2||gV m 2)=true then 2 else 0)+(if 8<=g/\(gV r 4||gV m 4)=true then 4 else 0)
def iy (r m:Int):Int:=gC r m 8
def kP (g:Int):Prop:=g=1\/g=2\/g=4\/g=8
def di (k:Key) (r:Int):Key:= {k with rights:=r}
def kT (k:Key):Key:=if k.kind=2 then di k (iy k.rights 3)else if k.kind=3 then di k 1 else if k.kind=1\/k.kind=8 then k else void
def iM (k:Key):Key:=if aV k then kT k else void
def Ro:Ct:=QK (rI .i64) (rI .i64) fun r m=> .it .i64 (iy r m)
def RH:Ct:=QE rK fun k=> .key (kT k)
def Pu:Ct:=QE rK fun k=> .tp [.key (iM k),.it .i64 (bw k)]
def aC (L:List Obj) (k:Key) (kind:Int) (c:Bool):Int:=if ai L=0 then 1 else if(!aU L k|| !decide (k.kind=kind))=true then 190 else if(c&& !decide (k.rights.tmod 4=0))=true then 191 else 0
def sM (k:Key):Bool:=decide ((k.rights.tdiv 2).tmod 2=1)
def jv (L:List Obj) (o:Obj) (k:Key) (i:Int):Key:=if sM k then kT (ah L (o.slots.at i.toNat))else ah L (o.slots.at i.toNat)
def dh (L:List Obj) (k:Key) (i:Int):Key:=jv L (aj L k.oid.toNat free) k i
def oM (k:Key) (i:Int):Prop:=0<=i/\i<16/\aV k=true
def om (L:List Obj) (k:Key) (i:Int):Prop:=0<=i/\i<16/\0<=k.oid/\k.oid<(ai L:Int)
def km (i:Int):Bool:=decide (0<=i)&&decide (i<16)
def bV (L:List Obj) (k:Key) (i:Int):Int:=if aC L k 2 false=0 then(if km i then 0 else 4)else aC L k 2 false
def aJ (L:List Obj) (k:Key) (i:Int):Key:=if bV L k i=0 then dh L k i else void
def bK (L:List Obj) (v:Key):Bool:=aV v&&decide (bd v<(ai L:Int))
def bk (L:List Obj) (k:Key) (i:Int) (v:Key):Int:=if aC L k 2 true=0 then(if km i then(if bK L v then 0 else 2)else 4)else aC L k 2 true
def cU (L:List Obj) (k:Key) (i:Int) (v:Key):Key:=if bk L k i v=0 then dh L k i else void
def ev (o:Obj) (s:cL):Obj:= {o with slots:=s}
def tJ (L:List Obj) (k:Key) (s:cL):List Obj:=cz L k.oid.toNat (ev (aj L k.oid.toNat free) s)
def cA (L:List Obj) (k:Key) (i:Int) (v:Key):List Obj:=if bk L k i v=0 then tJ L k ((aj L k.oid.toNat free).slots.put i.toNat (ah L v))else L
def fG (L:List Obj) (k:Key):List Obj:=if aC L k 2 true=0 then tJ L k gU else L
def bS (L:List Obj) (t f:Key):Int:=if aC L t 2 true=0 then aC L f 2 false else aC L t 2 true
def dF (L:List Obj) (t f:Key) (g:Int):cL:=(List.range g.toNat).foldl (fun s (j:Nat)=>s.put j (dh L f (j:Int))) (aj L t.oid.toNat free).slots
def eQ (L:List Obj) (t f:Key):List Obj:=if bS L t f=0 then tJ L t (dF L t f 16)else L
def ar (L:List Obj):Prop:=fN L=true
def lE (g:Int):Prop:=0<=g/\g<=16
def kA:Arg Key:=Et rK V.key
def iA:Arg Int:=Et (rI .i64) (V.it .i64)
def bA:Arg Bool:=Et toBool V.bo
def oA:Arg Obj:=Et rO V.ob
def sA:Arg (Option (List Obj)):=stA tS eS
def Dx (o:Option (List Obj)):List Obj:=match o with
 |none=> []
 |some L=>L
def nB:ld (Obj×Option (List Obj)×Key×Unit):=bc oA (bc sA (bc kA gK))
def Vz:Ct:=s6 (bc (YL nB) (bc iA gK)) (fun x=>some (oM x.1.2.2.1 x.2.1)) fun x=> .key (jv (Dx x.1.2.1) x.1.1 x.1.2.2.1 x.2.1)
def QV:Ct:=s6 (bc As (bc kA (bc iA (bc bA gK)))) (fun _=>none) fun x=> .it .i64 (aC x.1 x.2.1 x.2.2.1 x.2.2.2.1)
def Wg:Ct:=s6 (bc As (bc kA (bc iA gK))) (fun x=>some (om x.1 x.2.1 x.2.2.1)) fun x=> .key (dh x.1 x.2.1 x.2.2.1)
def YO:Ct:=s6 (bc As (bc kA gK)) (fun _=>none) fun x=> .bo (bK x.1 x.2.1)
def XM:Ct:=s6 (bc sA (bc kA (bc iA gK))) (fun _=>none) fun x=> .tp [.key (aJ (Dx x.1) x.2.1 x.2.2.1),.it .i64 (bV (Dx x.1) x.2.1 x.2.2.1)]
def dL (L:List Obj) (i:Int):Prop:=0<=i/\i<(ai L:Int)/\ai L<=1000
def tO:Nat:=74
def VK:Ct:=X8 (bc As (bc iA (bc oA gK))) (fun x=>some (dL x.1 x.2.1)) (fun _ n=> .sa n) fun x _=> [.arr (some tO) 163 (.ob (cz x.1 (pH x.2.1) x.2.2.1))]
theorem vJ {r g:Int} (hr:bY .i64 r) (hg:g=1\/g=2\/g=4\/g=8):bY .i64 (r.tdiv g):=by
 simp only[bY]at *;rcases Int.le_total 0 r with h|h
 ·rw[Int.tdiv_eq_ediv_of_nonneg h];rcases hg with rfl|rfl|rfl|rfl<;>omega
 ·obtain⟨s,rfl⟩:∃s,r= -s:=⟨-r,by omega⟩
  rw[Int.neg_tdiv,Int.tdiv_eq_ediv_of_nonneg (by omega)]
  rcases hg with rfl|rfl|rfl|rfl<;>omega
theorem pF (x:Int):bY .i64 (x.tmod 2):=by
 have h1:=Int.tmod_lt_of_pos x (show(0:Int)<2 by omega)
 have h2:=Int.lt_tmod_of_pos x (show(0:Int)<2 by omega)
 simp only[bY];omega
theorem DG {r m g:Int}:0<=gC r m g/\gC r m g<=7:=by
 unfold gC;repeat' split
 all_goals omega
theorem PI {r:Int} (h0:0<=r) (h1:r<=7):bm .or .i64 r 3=iy r 3:=by
 have:r=0\/r=1\/r=2\/r=3\/r=4\/r=5\/r=6\/r=7:=by omega
 rcases this with rfl|rfl|rfl|rfl|rfl|rfl|rfl|rfl<;>decide
theorem DA {r:Int} (h0:0<=r) (h1:r<=1):bm .or .i64 r 1=1:=by
 have:r=0\/r=1:=by omega
 rcases this with rfl|rfl<;>decide
theorem jf {k:Key} (h:aV k=true):0<=k.rights/\k.rights<=fu k.kind:=by
 simp only[aV,aaX,aaY]at h;omega
theorem p7:aV void=true:=by decide
theorem qj (L:List Obj) (k:Key):aV (ah L k)=true:=by
 unfold ah;split
 ·exact p7
 ·rename_i h;simp only[Bool.or_eq_true,not_or,Bool.not_eq_true,Bool.not_eq_false']at h;exact h.1.2
theorem E6 (L:List Obj) (k:Key):iM (ah L k)=kT (ah L k):=by unfold iM;rw[qj,aa4 rfl]
theorem aaD {r:Int} (h0:0<=r) (h1:r<=7):decide (bm .and .i64 r 2=0)= !decide ((r.tdiv 2).tmod 2=1):=by
 have:r=0\/r=1\/r=2\/r=3\/r=4\/r=5\/r=6\/r=7:=by omega
 rcases this with rfl|rfl|rfl|rfl|rfl|rfl|rfl|rfl<;>decide
theorem S5 {r:Int} (h0:0<=r) (h1:r<=7):decide (bm .and .i64 r 3=0)=decide (r.tmod 4=0):=by
 have:r=0\/r=1\/r=2\/r=3\/r=4\/r=5\/r=6\/r=7:=by omega
 rcases this with rfl|rfl|rfl|rfl|rfl|rfl|rfl|rfl<;>decide
theorem RA (n:Int):fu n<=7:=by unfold fu;split<;>(try split)<;>omega
theorem pC {k:Key} (h:aV k=true):0<=k.rights/\k.rights<=7:=by
 have:=jf h;have:=RA k.kind;omega
theorem ef {L:List Obj} {k:Key} (h:aU L k=true):aV k=true/\0<=k.oid/\k.oid<(L.length:Int)/\aa L k=aj L k.oid.toNat free/\(aj L k.oid.toNat free).kind=gD k:=by
 have h':=h;unfold aU at h;simp only[aaX,aaY]at h;obtain⟨⟨h1,h2⟩,h3⟩:=h;have hb:=lu.1 h2;have hn:0<=bd k:=(zb h').1;simp only[cI,aaX,Bool.or_eq_true,aaY]at h3;refine⟨h3.1,hb.1,hb.2,by unfold aa;rw[h',aa4 rfl],?_⟩
 rcases h3.2 with h|h
 ·omega
 ·exact h.1.1
theorem Iy {L:List Obj} {o:Obj} {k:Key} {i:Int} (hq:oM k i):(0<=i/\i< ↑16)/\
  ((!decide (bm BinOp.and IntKind.i64 k.rights 2=0))=true->iM (ah L (o.slots.at i.toNat))=jv L o k i)/\
    ((!decide (bm BinOp.and IntKind.i64 k.rights 2=0))=false->ah L (o.slots.at i.toNat)=jv L o k i):=by
 obtain⟨h0,h1,h2⟩:=hq;have hr:=pC h2;rw[aaD hr.1 hr.2,E6];unfold jv sM;refine⟨⟨h0,by omega⟩,fun h=>?_,fun h=>?_⟩
 ·rw[aa4 (by simpa using h)]
 ·rw[aa3 (by simpa using h)]
theorem gw {L:List Obj} {k:Key} {d:Int} {c:Bool} (h:aC L k d c=0):aU L k=true/\k.kind=d/\(c=true->k.rights.tmod 4=0):=by
 unfold aC at h;split at h
 ·omega
 ·split at h
  ·omega
  ·rename_i h2;simp only[Bool.or_eq_true,Bool.not_eq_true',decide_eq_false_iff_not,not_or,Bool.not_eq_false,Decidable.not_not]at h2;split at h
   ·omega
   ·rename_i h3;refine⟨h2.1,h2.2,fun hc=>?_⟩
    simpa[hc]using h3
theorem iF:mU kA:=sr gH (fun _=>rfl) fun v x h=>Zl h
theorem Pk:mU oA:=sr yQ (fun _=>rfl) fun v x h=>by cases v<;>simp[rO]at h;rfl
theorem DI:mU bA:=sr O9 (fun _=>rfl) fun v x h=>by cases v<;>simp[toBool]at h<;>rfl
theorem dO:mU iA:=sr (gi .i64) (fun _=>rfl) fun v x h=>by cases v<;>simp[rI,toInt]at h<;>rfl
theorem tc:mU sA:=VD _ _
theorem YZ:gR nB:=aA Pk (aA tc (aA iF bW))
def C5 (x:V) (M:List Obj) (v:V) (r:List aK):Prop:=
 match ay r 0 with
 | .store t e L=>if t==tS&&e==eS then oD x v r/\L=M else False
 |_=>False
theorem Hx {x:V} {M:List Obj} {v:V} {r:List aK} (h:C5 x M v r):xj x v r/\ay r 0= .store tS eS M:=by
 unfold C5 at h;split at h
 ·rename_i hr;split at h
  ·rename_i hc;simp only[aaX,aaZ]at hc;obtain⟨rfl,rfl⟩:=hc;obtain⟨h1,rfl⟩:=h;exact⟨dE h1,hr⟩
  ·exact h.elim
 ·exact h.elim
def IP {α:Type} (B:List V->Option α) (Q:List Obj->α->Prop) (F:List Obj->α->V) (M:List Obj->α->List Obj):ke:=fun args res K=>
 match args with
 |a::l=>match B l with
  |some x=>match a with
   | .nl v=>match v with
     | .pointer none=>K (F [] x) res
     |_=>False
   | .lp k off=>if off==0 then match ay res k with
     | .store t e L=>if t==tS&&e==eS then Q L x/\K (F L x) (bO res k (.store tS eS (M L x)))else False
     | .blk t c=>if t==tS&&isZ c then K (F [] x) res else False
     |_=>False
     else False
   |_=>False
  |none=>False
 |_=>False
def zst:V:= .ag [.nl (.slice none 0 0)]
theorem nV {P:Program} {f:Nat} {α:Type} {B:List V->Option α} {m:α->List V} {Q:List Obj->α->Prop} {F:List Obj->α->V} {M:List Obj->α->List Obj} (hB:∀l x,B l=some x->fc l (m x)) (hid:∀x,lf (m x)=true) (hF:∀L x,kf (F L x)=true)
  (h0:∀x,an P f (jJ::m x) [] (oD (F [] x)) (fun _ _=>False)) (hz:∀x,an P f (.lp 0 0::m x) [.ro (.blk tS zst)] (oD (F [] x)) (fun _ _=>False))
  (h1:∀L x,Q L x->(∀o∈L,o.wf)->L.length<=9223372036854775807->an P f (.lp 0 0::m x) [.store tS eS L] (C5 (F L x) (M L x)) (fun _ _=>False)):kJ P f (IP B Q F M):=by
 intro args res K KP h;unfold IP at h;split at h
 case h_2=>exact h.elim
 split at h
 case h_2=>exact h.elim
 rename_i x hx;refine an.args (fc.jH (hB _ _ hx)) ?_;split at h
 ·split at h
  ·exact an.pure (by simp only[lf,kf,Bool.true_and];exact hid x) (hF _ _) ((h0 x).mono (fun _ _ h=>dE h) fun _ _ h=>h) h
  ·exact h.elim
 ·split at h
  ·rename_i hoff;have hoff:=aaZ.1 hoff;subst hoff;split at h
   ·rename_i hr;split at h
    ·rename_i hc;simp only[aaX,aaZ]at hc;obtain⟨rfl,rfl⟩:=hc;refine an.Ds hr (hid x) (hF _ _) (an.fact (k:=0) rfl fun w1 w2=>(h1 _ x h.1 w1 w2).mono (fun v r hv=>Hx hv |> fun⟨a,b⟩=>⟨fun J K=>a J K,b⟩) fun _ _ h=>h) h.2
    ·exact h.elim
   ·rename_i hr;split at h
    ·rename_i hc;simp only[aaX,aaZ]at hc;obtain⟨rfl,hz'⟩:=hc;have:=yD hz';subst this;exact an.MG (r0:= .blk tS zst) (by unfold cG;rw[hr];rfl) (by simp) (fun κ=>rfl) (hid x) (hF _ _) ((hz x).mono (fun _ _ h=>dE h) fun _ _ h=>h) h
    ·exact h.elim
   ·exact h.elim
  ·exact h.elim
 ·exact h.elim
def rdK (l:List V):Option Key:=match l with
 | [a]=>rK a
 |_=>none
def R9 (l:List V):Option (Key×Key):=match l with
 | [a,b]=>match rK a with
   |some k=>match rK b with
    |some k'=>some (k,k')
    |none=>none
   |none=>none
 |_=>none
def N0 (l:List V):Option (Key×Int×Key):=match l with
 | [a,b,c]=>match rK a with
   |some k=>match rI .i64 b with
    |some i=>match rK c with
     |some k'=>some (k,i,k')
     |none=>none
    |none=>none
   |none=>none
 |_=>none
theorem OU:∀l x,rdK l=some x->fc l [.key x]:=fun l x h=>by
 unfold rdK at h;split at h
 ·exact fc.rd gH h fc.nil
 ·simp at h
theorem IF:∀l x,R9 l=some x->fc l [.key x.1,.key x.2]:=fun l x h=>by
 unfold R9 at h;split at h
 ·split at h
  ·rename_i h1;split at h<;>simp only[aaV,reduceCtorEq]at h
   rename_i h2;subst h;exact fc.rd gH h1 (fc.rd gH h2 fc.nil)
  ·simp at h
 ·simp at h
theorem Qt:∀l x,N0 l=some x->fc l [.key x.1,.it .i64 x.2.1,.key x.2.2]:=fun l x h=>by
 unfold N0 at h;split at h
 ·split at h
  ·rename_i h1;split at h
   ·rename_i h2;split at h<;>simp only[aaV,reduceCtorEq]at h
    rename_i h3;subst h;exact fc.rd gH h1 (fc.rd (gi .i64) h2 (fc.rd gH h3 fc.nil))
   ·simp at h
  ·simp at h
 ·simp at h
def tK:Nat:=44
def oW (g:Int):Nat:=(16-g).toNat
def VX:ke:=IP N0 (fun L _=>ar L) (fun L x=> .tp [.key (cU L x.1 x.2.1 x.2.2),.it .i64 (bk L x.1 x.2.1 x.2.2)]) fun L x=>cA L x.1 x.2.1 x.2.2
def Yg:ke:=IP rdK (fun L _=>ar L) (fun L x=> .it .i64 (aC L x 2 true)) fun L x=>fG L x
def VO:ke:=IP R9 (fun L _=>ar L) (fun L x=> .it .i64 (bS L x.1 x.2)) fun L x=>eQ L x.1 x.2
theorem Qk {L:List Obj} {k:Key} {d:Int} {c:Bool} (h:(!decide (0<ak L))=true):aC L k d c=1:=by
 unfold aC;unfold ak at h;rw[aa4 (by simp at h;omega)]
theorem JG {L:List Obj} {k:Key} {d:Int} {c:Bool} (h:(!decide (0<ak L))=false) (h2:(!(aU L k&&decide (k.kind=d)))=true):aC L k d c=190:=by
 unfold aC;unfold ak at h;rw[aa3 (by simp at h;omega),aa4 (by simpa using h2)]
theorem nZ {L:List Obj} {k:Key} {d:Int} (h2:(!(aU L k&&decide (k.kind=d)))=false):aU L k=true/\k.kind=d:=by simpa using h2
theorem XF {L:List Obj} {k:Key} {d:Int} (h:(!decide (0<ak L))=false) (h2:(!(aU L k&&decide (k.kind=d)))=false) (h3:(!decide (bm BinOp.and IntKind.i64 k.rights 3=0))=true):aC L k d true=191:=by
 have hr:=pC (ef (nZ h2).1).1;rw[S5 hr.1 hr.2]at h3;unfold aC;unfold ak at h;rw[aa3 (by simp at h;omega),aa3 (by simpa using h2),aa4 (by simpa using h3)]
theorem Jt {L:List Obj} {k:Key} {d:Int} (h:(!decide (0<ak L))=false) (h2:(!(aU L k&&decide (k.kind=d)))=false) (h3:(!decide (bm BinOp.and IntKind.i64 k.rights 3=0))=false):aC L k d true=0:=by
 have hr:=pC (ef (nZ h2).1).1;rw[S5 hr.1 hr.2]at h3;unfold aC;unfold ak at h;rw[aa3 (by simp at h;omega),aa3 (by simpa using h2),aa3 (by simpa using h3)]
theorem HS {L:List Obj} {k:Key} {d:Int} (h:(!decide (0<ak L))=false) (h2:(!(aU L k&&decide (k.kind=d)))=false):aC L k d false=0:=by
 unfold aC;unfold ak at h;rw[aa3 (by simp at h;omega),aa3 (by simpa using h2),aa3 (by simp)]
def dD (n:Int) (k:Key):Prop:=aV k=true/\bd k<n
theorem PX {n:Int} {k:Key}:jm 1 n k=true↔dD n k:=by simp[jm,dD]
theorem Qe (r:Int):0<=iy r 3/\iy r 3<=7:=DG
theorem Ml {n:Int} (hn:0<=n) {k:Key} (h:dD n k):dD n (kT k):=by
 obtain⟨h1,h2⟩:=h;have hv:dD n void:=⟨p7,by have:=nc.2;omega⟩
 unfold kT;split
 ·rename_i e;have hw:=Qe k.rights
  have h1':aV (di k (iy k.rights 3))=true:=by
   simp only[aV,di,e,aaX,aaY]at h1⊢;have:fu 2=7:=rfl;grind
  refine⟨h1',?_⟩;unfold bd at h2⊢;rw[h1'];rw[h1]at h2;exact h2
 ·split
  ·rename_i e
   have h1':aV (di k 1)=true:=by
    simp only[aV,di,e,aaX,aaY]at h1⊢;have:fu 3=1:=rfl;grind
   refine⟨h1',?_⟩;unfold bd at h2⊢;rw[h1'];rw[h1]at h2;exact h2
  ·split
   ·exact⟨h1,h2⟩
   ·exact hv
theorem pB {L:List Obj} (hL:0<L.length) (k:Key):dD (L.length:Int) (ah L k):=by
 have hv:dD (L.length:Int) void:=⟨p7,by have:=nc.2;omega⟩
 unfold ah;split
 ·exact hv
 ·rename_i h;simp only[Bool.or_eq_true,not_or,Bool.not_eq_true,Bool.not_eq_false',Bool.and_eq_false_imp]at h;refine⟨h.1.2,?_⟩;rcases k9 k with⟨a,b,c⟩|⟨a,b⟩
  ·rw[b];exact(ef (h.2 a)).2.2.1
  ·omega
theorem Tm {L:List Obj} (hL:0<L.length) (k:Key) (i:Int):dD (L.length:Int) (dh L k i):=by
 unfold dh jv;split
 ·exact Ml (by omega) (pB hL _)
 ·exact pB hL _
theorem Aa {o:Obj} {n:Int} {s:cL} (h:bP o n=true) (hk:o.kind=1) (hs:∀i,i<16->dD n (s.at i)):bP (ev o s) n=true:=by
 rw[dT]at h⊢;simp only[ev];obtain⟨a1,a2,a3,a4,a5,a6,a7,a8,a9,a10,a11⟩:=h;exact⟨a1,a2,a3,a4,a5,a6,a7,a8,a9,fun i hi=>by rw[hk];exact PX.2 (hs i hi),fun i hi=> .inl (.inl hk)⟩
theorem BN {L:List Obj} {k:Key} (h:aU L k=true) (h2:k.kind=2):(aj L k.oid.toNat free).kind=1:=by
 rw[(ef h).2.2.2.2];unfold gD;rw[aa3 (by have:=(zb h).1;omega),aa3 (by omega)]
theorem ua {L:List Obj} {k:Key} (hL:ar L) (h:aU L k=true) (h2:k.kind=2):∀i,i<16->dD (L.length:Int) ((aj L k.oid.toNat free).slots.at i):=fun i hi=>by
 obtain⟨_,b2,b3,_⟩:=ef h;have:=(fR.1 hL).2.2 k.oid.toNat (by omega)
 have:=(dT.1 this).2.2.2.2.2.2.2.2.2.1 i hi;rw[BN h h2]at this;exact PX.1 this
theorem pk {L:List Obj} {k:Key} {s:cL} (hL:ar L) (h:aU L k=true) (h2:k.kind=2) (hs:∀i,i<16->dD (L.length:Int) (s.at i)):cM L k.oid (ev (aa L k) s)=tJ L k s/\ar (tJ L k s):=by
 obtain⟨b1,b2,b3,b4,_⟩:=ef h;have hr:=fR.1 hL;have ho:=Aa (hr.2.2 k.oid.toNat (by omega)) (BN h h2) hs
 refine⟨?_,?_⟩
 ·rw[b4];exact(vB (lu.2 ⟨b2,b3⟩) (qM ho).symm).2
 ·refine fR.2 ?_;unfold tJ;have hl:(cz L k.oid.toNat (ev (aj L k.oid.toNat free) s)).length=L.length:=by simp[cz]
  rw[hl];refine⟨hr.1,hr.2.1,fun i hi=>?_⟩
  by_cases e:i=k.oid.toNat
  ·subst e;rw[show aj (cz L k.oid.toNat (ev (aj L k.oid.toNat free) s)) k.oid.toNat free=ev (aj L k.oid.toNat free) s by simp[aj,cz,aa2,hi]]
   exact ho
  ·rw[show aj (cz L k.oid.toNat (ev (aj L k.oid.toNat free) s)) i free=aj L i free by simp[aj,cz,aa2,List.getElem?_set,Ne.symm e]]
   exact hr.2.2 i hi
theorem E1 {L:List Obj} {k:Key} {i:Int} {v:Key} (hL:ar L) (h:aU L k=true) (h2:k.kind=2) (h0:0<=i) (h1:i<16):∀j,j<16->dD (L.length:Int) (((aj L k.oid.toNat free).slots.put i.toNat (ah L v)).at j):=fun j hj=>by
 rw[cL.fX _ _ _ _ (by omega)]
 split
 ·exact pB (fR.1 hL).1 v
 ·exact ua hL h h2 j hj
theorem HI {n:Int} (hn:0<=n):∀j,j<16->dD n (gU.at j):=fun j hj=>by
 rw[Hs.1 rfl j hj];exact⟨p7,by have:=nc.2;omega⟩
theorem ve (L:List Obj) (v:Key):(decide (bw v=0)&&(!ba v||decide (cw v<ak L)))=bK L v:=by
 unfold bK bw cw ak;rcases k9 v with⟨a,b,c⟩|⟨a,b⟩
 ·rw[a,b];cases aV v<;>simp
 ·rw[a,b];have:(-1:Int)<(ai L:Int):=by omega
  cases aV v<;>simp[this]
theorem BB {L:List Obj} {t f:Key} {g:Int} (h0:0<=g):dF L t f (g+1)=(dF L t f g).put g.toNat (dh L f g):=by
 unfold dF;rw[show(g+1).toNat=g.toNat+1 by omega,List.range_succ,List.foldl_append]
 simp only[List.foldl_cons,List.foldl_nil];rw[show((g.toNat:Nat):Int)=g by omega]
theorem Fb {L:List Obj} {t f:Key} (h:aa L t=aj L t.oid.toNat free):aa L t=ev (aa L t) (dF L t f 0):=by
 unfold dF ev;simp[h]
theorem Eo {L:List Obj} {t f:Key} {g:Int} (h0:0<=g) (h:aa L f=aj L f.oid.toNat free) (o:Obj) (s:cL):({kind:=(ev o (dF L t f g)).kind,count:=(ev o (dF L t f g)).count,calls:=(ev o (dF L t f g)).calls,slots:=(ev o (dF L t f g)).slots.put g.toNat (jv L (aa L f) f g),bytes:=(ev o (dF L t f g)).bytes}:Obj)=ev o (dF L t f (g+1)):=by
 rw[BB h0];unfold dh;rw[h];rfl
theorem zt {L:List Obj} {t f:Key} (hL:ar L) (h:aU L t=true) (h2:t.kind=2):∀n:Nat,n<=16->∀j,j<16->dD (L.length:Int) ((dF L t f n).at j)
 |0,_,j,hj=>by
  unfold dF;exact ua hL h h2 j hj
 |n+1,hn,j,hj=>by
  rw[show((n+1:Nat):Int)=(n:Int)+1 by omega,BB (by omega),cL.fX _ _ _ _ (by omega)]
  split
  ·exact Tm (fR.1 hL).1 _ _
  ·exact zt hL h h2 n (by omega) j hj
theorem BK {L M:List Obj} {g:Int} (hg:qh L M g) (hge:(ai L:Int)<=g):decide (g=bD (ai M))=gP L M:=by
 have:=Lh hg hge
 have e:ak L=g:=by
  have:=hg.2.1;unfold ak;omega
 rw[decide_eq_true e,Bool.and_true]at this;exact this
structure YX where
 kind:Int
 slot:Int
 key:Key
 other:Key
def nr (l:List Obj):Bool:=decide ((ai l:Int)<=20)&&fN l
def Yk:ke:=QG (bc As gK) (fun _=>True) (fun x=>nr x.1) (fun _=>jJ) (fun _ n=> .lp n 0) (fun x=> .store tS eS x.1)
def z7 (L:List Obj) (a:YX):Bool:=
 if a.kind=1 then false else if a.kind=2 then decide (bk L a.key a.slot a.other=0)else if a.kind=3 then decide (aC L a.key 2 true=0)else if a.kind=4 then decide (bS L a.key a.other=0)else false
def G9 (L:List Obj) (a:YX):List Obj:=
 if a.kind=1 then L else if a.kind=2 then cA L a.key a.slot a.other else if a.kind=3 then fG L a.key else if a.kind=4 then eQ L a.key a.other else L
theorem Nx {L:List Obj} {k:Key} {i:Int} (h:aC L k 2 false≠0):bV L k i=aC L k 2 false/\aJ L k i=void:=by
 have:bV L k i=aC L k 2 false:=by unfold bV;rw[aa3 h]
 exact⟨this,by unfold aJ;rw[this,aa3 h]⟩
theorem LS {L:List Obj} {k:Key} {i:Int} (h:aC L k 2 false=0) (hr:i<0\/15<i):bV L k i=4/\aJ L k i=void:=by
 have:bV L k i=4:=by
  unfold bV km;rw[aa4 h,aa3 (by simp;omega)]
 exact⟨this,by unfold aJ;rw[this];rfl⟩
theorem TY {L:List Obj} {k:Key} {i:Int} (h:aC L k 2 false=0) (hr:¬(i<0\/15<i)):bV L k i=0/\aJ L k i=dh L k i:=by
 have:bV L k i=0:=by
  unfold bV km;rw[aa4 h,aa4 (by simp;omega)]
 exact⟨this,by unfold aJ;rw[this];rfl⟩
theorem Cr {L:List Obj} {k:Key} {i:Int} {v:Key} {e:Int} (h:bk L k i v=e) (he:e≠0):bk L k i v=e/\cU L k i v=void/\cA L k i v=L:=⟨h,by unfold cU;rw[h,aa3 he],by unfold cA;rw[h,aa3 he]⟩
theorem Ng {L:List Obj} {k:Key} {i:Int} {v:Key} (h:aC L k 2 true≠0):bk L k i v=aC L k 2 true/\cU L k i v=void/\cA L k i v=L:=Cr (by unfold bk;rw[aa3 h]) h
theorem Qc {L:List Obj} {k:Key} {i:Int} {v:Key} (h:aC L k 2 true=0) (hr:i<0\/15<i):bk L k i v=4/\cU L k i v=void/\cA L k i v=L:=
 Cr (by unfold bk km;rw[aa4 h,aa3 (by simp;omega)]) (by omega)
theorem M6 {L:List Obj} {k:Key} {i:Int} {v:Key} (h:aC L k 2 true=0) (hr:¬(i<0\/15<i)) (hm:bK L v=false):bk L k i v=2/\cU L k i v=void/\cA L k i v=L:=
 Cr (by unfold bk km;rw[aa4 h,aa4 (by simp;omega),hm];rfl) (by omega)
theorem SZ {L:List Obj} {k:Key} {i:Int} {v:Key} (h:aC L k 2 true=0) (hr:¬(i<0\/15<i)) (hm:bK L v=true):
  bk L k i v=0/\cU L k i v=dh L k i/\cA L k i v=tJ L k ((aj L k.oid.toNat free).slots.put i.toNat (ah L v)):=by
 have:bk L k i v=0:=by unfold bk km;rw[aa4 h,aa4 (by simp;omega),hm];rfl
 exact⟨this,by unfold cU;rw[this];rfl,by unfold cA;rw[this];rfl⟩
theorem uA {L:List Obj} {k:Key} (hL:ar L) (h:aU L k=true):dL L k.oid/\0<=k.oid/\k.oid<(ai L:Int)/\k.oid.toNat<ai L:=by
 obtain⟨_,b2,b3,_⟩:=ef h;have:=(fR.1 hL).2.1;exact⟨⟨b2,b3,by unfold ai;omega⟩,b2,b3,by unfold ai;omega⟩
theorem ko (k:Key):yf k k=true:=by simp[yf]
def YX.wf (x:YX):Prop:=bY .i64 x.kind/\bY .i64 x.slot/\x.key.wf/\x.other.wf
theorem hU (L:List Obj):gP L L=true:=by unfold gP;simp
theorem F4 {L:List Obj} {k:Key} {i:Int} {v:Key} (h:bk L k i v=0):aC L k 2 true=0/\0<=i/\i<16:=by
 unfold bk km at h;split at h
 ·rename_i h1;split at h
  ·rename_i h2;simp at h2;exact⟨h1,h2.1,h2.2⟩
  ·omega
 ·rename_i h1;exact absurd h h1
theorem zw {L:List Obj} {a:YX} (hL:ar L) (h:z7 L a=true):ar (G9 L a):=by
 unfold z7 at h;unfold G9;split at h
 ·simp at h
 ·rename_i h1;rw[aa3 h1];split at h
  ·rename_i h2;rw[aa4 h2];have h:=aa1 h;obtain⟨e1,e2,e3⟩:=F4 h;obtain⟨a1,a2,_⟩:=gw e1;unfold cA;rw[aa4 h];exact(pk hL a1 a2 (E1 hL a1 a2 e2 e3)).2
  ·rename_i h2;rw[aa3 h2];split at h
   ·rename_i h3;rw[aa4 h3];have h:=aa1 h;obtain⟨a1,a2,_⟩:=gw h;unfold fG;rw[aa4 h];exact(pk hL a1 a2 (HI (by omega))).2
   ·rename_i h3;rw[aa3 h3];split at h
    ·rename_i h4;rw[aa4 h4];have h:=aa1 h;have h':=h;unfold bS at h';split at h'
     ·rename_i h5;obtain⟨a1,a2,_⟩:=gw h5;unfold eQ;rw[aa4 h];exact(pk hL a1 a2 (zt hL a1 a2 16 (by omega))).2
     ·rename_i h5;exact absurd h' h5
    ·simp at h
theorem Ub {l:List Obj} (h:nr l=true):ar l/\l.length<=20:=by
 unfold nr at h;simp only[aaX,aaY]at h;unfold ai at h;exact⟨h.2,by omega⟩
section
variable {L:List Obj} {k:Key} {s:cL} (h0:0<=k.oid) (h1:k.oid<(L.length:Int))
include h0 h1
end
theorem fH {L:List Obj} {j:Int} (h0:0<=j) (h1:j<(L.length:Int)):aL L j=aj L j.toNat free:=by
 unfold aL;rw[aa4 (lu.2 ⟨h0,h1⟩)]
theorem gg {L:List Obj} {i:Nat} {x:Obj} (hi:i<L.length) (j:Nat):aj (cz L i x) j free=if j=i then x else aj L j free:=by
 by_cases e:j=i
 ·subst e;rw[aa4 rfl];simp[aj,cz,aa2,hi]
 ·rw[aa3 e];simp[aj,cz,aa2,List.getElem?_set,Ne.symm e]
theorem iv {L:List Obj} {i:Nat} {x:Obj}:(cz L i x).length=L.length:=by simp[cz]
theorem lY {κ:Nat->Option Nat} {x a:V} {l m:List V} (h1:fU κ x=some a) (h2:eO κ l=some m):eO κ (x::l)=some (a::m):=by
 simp only[eO];rw[h1];simp only;rw[h2]
def um {α:Type} (B:ld α) (l:List V):Option α:=match B.rd [] l with
 |some p=>match p.1 with
  | []=>some p.2
  |_=>none
 |none=>none
theorem fL {α:Type} {B:ld α} (hB:gR B) (hid:∀a,lf (B.cn a 0)=true):∀l x,um B l=some x->fc l (B.cn x 0):=fun l x h=>by
 unfold um at h;split at h
 case h_2=>simp at h
 rename_i p hp;obtain⟨pls,a⟩:=p;split at h
 case h_2=>simp at h
 rename_i h1;simp only at h1;subst h1;simp only[aaV]at h;subst h;obtain⟨_,_,_,b4⟩:=hB _ _ _ _ hp;obtain⟨c1,c2⟩:=b4 [] [];intro J K hk;have e1:=(c1 J K hk).1;have e2:=c2 K hk;have e3:fM (fun _=>False) (B.cn a 0):=mi _ (hid a) e2
 refine⟨?_,mi _ (hid a) e2⟩;rw[<-e1];exact fS (N:=fun _=>False) (fun _ h=>h.elim) _ e3
def Ar {α:Type} (B:List V->Option α) (Q:List Obj->α->Prop) (chg:List Obj->α->Bool) (L1:List Obj->α->List Obj) (F:List Obj->α->List V):ke:=fun args res K=>
 match args with
 |b::l=>match B l with
  |some x=>match b with
   | .sa j=>match cG res j with
     | .arr _ z t=>if z==163 then match t with
       | .ob M=>Q M x/\(chg M x=false->K (.tp (.sa j::F M x)) res)/\(chg M x=true->K (.tp (.sa res.length::F M x)) (res++ [.arr (some tO) 163 (.ob (L1 M x))]))
       |_=>False
       else False
     |_=>False
   |_=>False
  |none=>False
 |_=>False
def xY (c:Bool) (L1:List Obj) (F:List V) (v:V) (r:List aK):Prop:=
 match v with
 | .tp l=>match l with
   |a::bs=>match a with
    | .sa p=>if p==0 then c=false/\oD (.tp F) (.tp bs) r else if Nat.ble 1 p then match ay r p with
      | .arr own z t=>match own with
        |some e=>match t with
         | .ob M=>if z==163&&e==tO then c=true/\oD (.tp F) (.tp bs) r/\M=L1 else False
         |_=>False
        |none=>False
      |_=>False
      else False
    |_=>False
   | []=>False
 |_=>False
theorem UG {c:Bool} {L1:List Obj} {F:List V} {v:V} {r:List aK} (h:xY c L1 F v r):∃p bs,v= .tp (.sa p::bs)/\oD (.tp F) (.tp bs) r/\((p=0/\c=false)\/(1<=p/\c=true/\ay r p= .arr (some tO) 163 (.ob L1))):=by
 unfold xY at h;split at h
 case h_2=>exact h.elim
 split at h
 case h_2=>exact h.elim
 split at h
 case h_2=>exact h.elim
 rename_i p;split at h
 ·rename_i e;have e:=aaZ.1 e;exact⟨p,_,rfl,h.2,.inl ⟨e,h.1⟩⟩
 ·split at h
  case isFalse=>exact h.elim
  rename_i hp;have hp:1<=p:=by simpa using hp
  split at h
  case h_2=>exact h.elim
  rename_i hrp;split at h
  case h_2=>exact h.elim
  split at h
  case h_2=>exact h.elim
  split at h
  case isFalse=>exact h.elim
  rename_i hc;simp only[aaX,aaZ]at hc;obtain⟨rfl,rfl⟩:=hc;obtain⟨h1,h2,rfl⟩:=h;exact⟨p,_,rfl,h2,.inr ⟨hp,h1,hrp⟩⟩
theorem an.UY {P:Program} {f:Nat} {args:List V} {K KP:V->List aK->Prop} {own:Option Nat} {z:Nat} {l:TL} (h:an P f args [.ro (.arr none z l)] K KP):an P f args [.ro (.arr own z l)] K KP:=by
 have hk:∀i (own:Option Nat),known [.ro (.arr own z l)] i↔i<1:=fun i own=>by
  unfold known;match i with
  |0=>simp[ay]
  |i+1=>simp[ay]
 refine h.tx fun J fps w0 F0 w hH=>⟨J,fps,hH.weaken fun i hi=>⟨(hk i _).2 ((hk i _).1 hi),fun fp hh=>?_⟩,Env.bE.refl _ _,fun i hi=>(hk i _).2 ((hk i _).1 hi)⟩
 match i,(hk i _).1 hi with
 |0,_=>
  obtain⟨fp',g1,g2⟩:=hh;exact⟨fp',uP g1,g2⟩
theorem ED {κ:Nat->Option Nat} {p j:Nat} {bs F:List V} {r:List aK} (hκ:κ p=some j) (hF:lf F=true) (hb:oD (.tp F) (.tp bs) r):jR κ (.tp (.sa p::bs)) (.tp (.sa j::F)):=by
 intro ρ2 ρ3 N N' h1 h2 hv;obtain⟨hp,hbs⟩:=hv;obtain⟨e1,e2,_⟩:=dE hb ρ2 N;obtain⟨a1,a2,a3,a4,a5,a6⟩:=h1 p j hκ;have hFN:fM N F:=e2 hbs;have hF0:fM (fun _=>False) F:=mi _ hF hFN
 have e3:bB ρ3 F=bB ρ2 F:=fS (N:=fun _=>False) (fun _ h=>h.elim) _ hF0
 simp only[den,Value.tuple.injEq]at e1;have e1:bB ρ2 bs=bB ρ2 F:=by simpa using e1
 refine⟨?_,h2 p j hκ hp,mi _ hF hFN⟩;simp only[den,bB,e3,e1,a2,a4,a5]
theorem iJ {P:Program} {f:Nat} {α:Type} {B:List V->Option α} {m:α->List V} {Q:List Obj->α->Prop} {chg:List Obj->α->Bool} {L1:List Obj->α->List Obj} {F:List Obj->α->List V} (hB:∀l x,B l=some x->fc l (m x)) (hid:∀x,lf (m x)=true)
  (hF:∀L x,lf (F L x)=true) (hcl:∀L x,Q L x->an P f (.sa 0::m x) [.ro (.arr none 163 (.ob L))] (xY (chg L x) (L1 L x) (F L x)) (fun _ _=>False)):kJ P f (Ar B Q chg L1 F):=by
 intro args res K KP h;unfold Ar at h;split at h
 case h_2=>exact h.elim
 split at h
 case h_2=>exact h.elim
 rename_i x hx;refine an.args (fc.jH (hB _ _ hx)) ?_;split at h
 case h_2=>exact h.elim
 rename_i j;split at h
 case h_2=>exact h.elim
 rename_i own z t hj;split at h
 case isFalse=>exact h.elim
 rename_i hz;have hz:=aaZ.1 hz;subst hz;split at h
 case h_2=>exact h.elim
 rename_i M;obtain⟨hQ,h0,h1⟩:=h;have hkj:=dU hj (by simp)
 have hjl:=aO hkj;have hres:eV (k7 0 (dB [(j,false)])) res [(j,false)]= [.ro (.arr own 163 (.ob M))]:=by simp[eV,hj,gm]
 refine an.frame (pl:= [(j,false)]) (args0:= .sa 0::m x) (K0:=xY (chg M x) (L1 M x) (F M x)) (KP0:=fun _ _=>False) (by simp[eH,cD.2 hkj]) (by simpa[iD,dB,nL]using hjl) ?_ ?_ (fun v r hv=>?_) (fun _ _ h=>h.elim)
 ·exact lY (by simp[fU,k7,idxOf,dB]) (jt _ (hid x))
 ·rw[hres];exact an.UY (hcl M x hQ)
 ·obtain⟨p,bs,rfl,hb,hv⟩:=UG hv;rcases hv with⟨rfl,hc⟩|⟨hp,hc,hrp⟩
  ·have hm:merge [(j,false)] [] r res=res:=by simp[merge,eZ,fZ]
   refine⟨[],.tp (.sa j::F M x),rfl,by simp[jP],rfl,ED (by simp[back,uN]) (hF M x) hb,by rw[hm];exact h0 hc⟩
  ·have hpl:p<r.length:=aO (by rw[hrp];simp)
   have hm:merge [(j,false)] [p] r res=res++ [.arr (some tO) 163 (.ob (L1 M x))]:=by simp[merge,eZ,hrp,gm,fZ]
   refine⟨[p],.tp (.sa res.length::F M x),by simpa[iD,nL]using⟨hp,hpl⟩,by simp[jP],by simp[nf,hrp,jI],ED ?_ (hF M x) hb,by rw[hm];exact h1 hc⟩
   unfold back;rw[r7 _ _ (by simpa using hp)]
   simp[idxOf]
def YJ {α:Type} (B:List V->Option α) (R:α->Prop) (Q:List Obj->α->Prop) (F:List Obj->α->V) (M:List Obj->α->List Obj):ke:=fun args res K=>
 match args with
 |a::l=>match B l with
  |some x=>R x/\match a with
   | .nl v=>match v with
     | .pointer none=>K (F [] x) res
     |_=>False
   | .lp k off=>if off==0 then match ay res k with
     | .store t e L=>if t==tS&&e==eS then Q L x/\K (F L x) (bO res k (.store tS eS (M L x)))else False
     | .blk t c=>if t==tS&&isZ c then K (F [] x) res else False
     |_=>False
     else False
   |_=>False
  |none=>False
 |_=>False
theorem Ci {P:Program} {f:Nat} {α:Type} {B:List V->Option α} {m:α->List V} {R:α->Prop} {Q:List Obj->α->Prop} {F:List Obj->α->V} {M:List Obj->α->List Obj} (hB:∀l x,B l=some x->fc l (m x)) (hid:∀x,lf (m x)=true) (hF:∀L x,kf (F L x)=true)
  (h0:∀x,R x->an P f (jJ::m x) [] (oD (F [] x)) (fun _ _=>False)) (hz:∀x,R x->an P f (.lp 0 0::m x) [.ro (.blk tS zst)] (oD (F [] x)) (fun _ _=>False))
  (h1:∀L x,Q L x->an P f (.lp 0 0::m x) [.store tS eS L] (C5 (F L x) (M L x)) (fun _ _=>False)):kJ P f (YJ B R Q F M):=by
 intro args res K KP h;unfold YJ at h;split at h
 case h_2=>exact h.elim
 split at h
 case h_2=>exact h.elim
 rename_i x hx;obtain⟨hR,h⟩:=h;refine an.args (fc.jH (hB _ _ hx)) ?_;split at h
 ·split at h
  ·exact an.pure (by simp only[lf,kf,Bool.true_and];exact hid x) (hF _ _) ((h0 x hR).mono (fun _ _ h=>dE h) fun _ _ h=>h) h
  ·exact h.elim
 ·split at h
  ·rename_i hoff;have hoff:=aaZ.1 hoff;subst hoff;split at h
   ·rename_i hr;split at h
    ·rename_i hc;simp only[aaX,aaZ]at hc;obtain⟨rfl,rfl⟩:=hc;exact an.Ds hr (hid x) (hF _ _) ((h1 _ x h.1).mono (fun v r hv=>Hx hv |> fun⟨a,b⟩=>⟨fun J K=>a J K,b⟩) fun _ _ h=>h) h.2
    ·exact h.elim
   ·rename_i hr;split at h
    ·rename_i hc;simp only[aaX,aaZ]at hc;obtain⟨rfl,hz'⟩:=hc;have:=yD hz';subst this;exact an.MG (r0:= .blk tS zst) (by unfold cG;rw[hr];rfl) (by simp) (fun κ=>rfl) (hid x) (hF _ _) ((hz x hR).mono (fun _ _ h=>dE h) fun _ _ h=>h) h
    ·exact h.elim
   ·exact h.elim
  ·exact h.elim
 ·exact h.elim
def cJ (n:Int):Key:=⟨1,0,0,0,0,n⟩
theorem dq {L:List Obj} (h:ar L) (j:Nat) (hj:j<L.length):bP (aj L j free) (L.length:Int)=true:=(fR.1 h).2.2 j hj
theorem gy {L:List Obj} (h:ar L):1<=L.length/\L.length<=64:=⟨(fR.1 h).1,(fR.1 h).2.1⟩
theorem L4 {L M:List Obj} (h:ar L) (hl:M.length=L.length) (hm:∀j,j<L.length->bP (aj M j free) (L.length:Int)=true):ar M:=by
 obtain⟨a,b⟩:=gy h;unfold ar;rw[fR,hl];exact⟨a,b,hm⟩
theorem lF {L:List Obj} {i:Nat} {x:Obj} (h:ar L) (hx:bP x (L.length:Int)=true):ar (cz L i x):=by
 by_cases hi:i<L.length
 ·refine L4 h iv fun j hj=>?_
  rw[gg hi];split
  ·exact hx
  ·exact dq h j hj
 ·rw[show cz L i x=L from List.set_eq_of_length_le (by omega)];exact h
theorem lV {L:List Obj} {i:Int} {x:Obj} (h0:0<=i) (h1:i<(L.length:Int)) (hx:bP x (L.length:Int)=true):cM L i x=cz L i.toNat x/\fz L i x=0:=by
 have e:du L i=0:=lu.2 ⟨h0,h1⟩;have e2:c8 x (ai L:Int)=0:=by unfold c8;exact aa4 hx
 exact⟨(vB e e2).2,(vB e e2).1⟩
theorem TK {n:Int} {s:cL} {k:Key} {j:Nat} (hj:j<16) (h:∀i,i<16->dD n (s.at i)) (hk:dD n k) (i:Nat) (hi:i<16):dD n ((s.put j k).at i):=by
 rw[cL.fX _ _ _ _ hj];split
 ·exact hk
 ·exact h i hi
theorem sI {n:Int} (hn:0<=n) (x:Int):dD n (cJ x):=by
 refine⟨by simp[cJ,aV,fu,kG,ee,gM,ga],?_⟩
 unfold bd;rw[show ee (cJ x).kind=false by simp[cJ,ee]]
 simp;omega
theorem sf {o:Obj} {n:Int} (h:bP o n=true) (hk:o.kind=1) (i:Nat) (hi:i<16):dD n (o.slots.at i):=by
 obtain⟨a1,a2,a3,a4,a5,a6,a7,a8,a9,a10,a11⟩:=dT.1 h;have:=a10 i hi;rw[hk]at this;exact PX.1 this
theorem mC (o:Obj):C0 o o=true:=by simp[C0]
end Go.Sx
namespace Go.Proofs.YtlblcfaclmpekaaGreat
open Go.Sx
open Go.RowKit (Below)
theorem gL {P:Program} {ro:Option Nat}:(FF P ro).round=ro:=rfl
theorem cQ {P:Program} {ops:Array Oper} {Q:Exit->Act->World->Prop} {i:Nat} {rest:List Nat} {a:Act} {w w':World} {o:Oper} {v:Value} (ho:ops[i]? =some o) (hg:o.guard=none)
  (hr:(execOp a.eval o).run P w= .ok (.value v) w') (hc:∀c,o.op≠ .call c) (h:wpOpsIn (FF P none) 0 P ops Q rest (a.put o.dst v) w'):wpOpsIn (FF P none) 0 P ops Q (i::rest) a w:=by
 simp only[wpOpsIn,ho];rw[aa4 (by simp[Region.wanted,hg])]
 refine eT (ro:=none) (by simp) (fun f hf=>by
  unfold Oper.about at hf;split at hf
  ·rename_i c hc';exact absurd hc' (hc c)
  ·simp at hf) ?_
 rw[hr];exact h
theorem kx {P:Program} {ops:Array Oper} {Q:Exit->Act->World->Prop} {i:Nat} {rest:List Nat} {a:Act} {w w':World} {o:Oper} (ho:ops[i]? =some o) (hg:o.guard=none)
  (hr:(execOp a.eval o).run P w= .ok .skip w') (hc:∀c,o.op≠ .call c) (h:wpOpsIn (FF P none) 0 P ops Q rest (a.put o.dst undef) w'):wpOpsIn (FF P none) 0 P ops Q (i::rest) a w:=by
 simp only[wpOpsIn,ho];rw[aa4 (by simp[Region.wanted,hg])]
 refine eT (ro:=none) (by simp) (fun f hf=>by
  unfold Oper.about at hf;split at hf
  ·rename_i c hc';exact absurd hc' (hc c)
  ·simp at hf) ?_
 rw[hr];exact h
theorem b8 (a:Act) (d:Option Nat) (v:Value):(a.put d v).tmps.size=a.tmps.size:=by cases d<;>simp[Act.put]
theorem cP (a:Act) (v:Value) (o:Operand):(a.put none v).eval o=a.eval o:=rfl
theorem ca (a:Act) (i j:Nat) (v:Value) (h:i<a.tmps.size):(a.put (some i) v).eval (.tmp j)=if i=j then v else a.eval (.tmp j):=by
 simp only[Act.put,Act.eval];by_cases e:i=j
 ·subst e;simp[h]
 ·simp[e]
theorem eh {P:Program} {f a b:Nat} (h:uz P f a b) (hb:b<1000000:=by decide):∀p∈ [(f,a,b)],wG P p.1 p.2.1 p.2.2:=fun p hp=>by
 simp only[List.mem_singleton]at hp;subst hp;refine⟨h.1,fun b off ty cs cs' k n w _ _ h1 h2=>h.2 b off ty cs cs' k n w h1 fun w1 hw1=>?_⟩
 have:=h2 w1 hw1;simp only[Dh,R3,aa4 hb]at this;exact this
theorem eP {P:Program} {f a b:Nat} (h:MU P f a b):∀p∈ [(f,a,b+1000000)],wG P p.1 p.2.1 p.2.2:=fun p hp=>by
 simp only[List.mem_singleton]at hp;subst hp;refine⟨h.1,fun c off ty cs cs' k n w hk hn h1 h2=>?_⟩
 obtain rfl:k= .i64:=hk.resolve_left (by simp)
 refine h.2 c off ty cs cs' n w hn h1 fun w1 hw1=>?_
 have:=h2 w1 hw1;simp only[Dh,R3,aa3 (show¬b+1000000<1000000 by omega),Nat.add_sub_cancel]at this
 exact this
theorem wM (k:IntKind) (n:Int) (w:World) (t:Nat):(Instr.typeAssert (.iface 280 (.agg #[.int k n])) t 280 true).run Tryz.prog w= .ok (.tuple #[.agg #[.int k n],.bool true]) w:=by
 simp[Instr.typeAssert,go_sem]
theorem iV:uz Tryz.prog 193 280 26:=by
 refine⟨fun p w=>?_,fun b off ty cs₁ cs' k n w hb hs=>?_⟩
 ·refine callsDIn_of_wpSIn Go.Proofs.Tryz.func193 rfl (by show(Tryz.prog.funcs[193]?).isSome=true;kernel_rfl) fun c₀ cs hu=>?_
  apply wpSIn_seq
  apply wpSIn_region
  simp[wpOpsSIn,go_sem,recoverD,hu,Exit.thenS];refine wpSIn_of_wpIn rfl (wpIn_block (wpIn_seq (wpIn_region ?_)));simp[wpOpsIn,go_sem,Exit.then,gL];refine wpIn_cond_true (by simp[Act.eval,Array.replicate]) (wpIn_region ?_)
  simp[wpOpsIn,go_sem,Exit.inBlock,gL];cases c₀;simp_all[bodyPostS,results,Go.Proofs.Tryz.f193]
 ·refine callsDIn_of_wpSIn Go.Proofs.Tryz.func193 rfl (by show(Tryz.prog.funcs[193]?).isSome=true;kernel_rfl) fun c₀ cs hu=>?_
  apply wpSIn_seq
  apply wpSIn_region
  simp[wpOpsSIn,go_sem,recoverD,hu,Exit.thenS];refine wpSIn_of_wpIn rfl (wpIn_block (wpIn_seq (wpIn_region ?_)));simp[wpOpsIn,go_sem,Exit.then,gL];refine wpIn_cond_false (by simp[Act.eval,Array.replicate]) ?_
  refine wpIn_seq (wpIn_region ?_);generalize hA:({tmps:=_,defers:= []}:Act)=A
  have hz:A.tmps.size=15:=by subst hA;simp
  have hdf:A.defers= []:=by subst hA;rfl
  have h0:A.eval (.tmp 0)= .pointer (some ⟨b,off,none⟩):=by subst hA;simp[Act.eval]
  have h5:A.eval (.tmp 5)= .iface 280 (.agg #[.int k n]):=by subst hA;simp[Act.eval]
  clear hA;have hbl:b<w.heap.size:=(Array.getElem?_eq_some_iff.1 hb).1
  have hb1:(w.alloc (.cells #[.int k n] 280)).heap[b]? =some (.cells cs₁ ty (0,0)):=
   (((Below.refl _ w).alloc (Nat.le_refl _) _).block b hbl).trans hb
  refine cQ (P:=Tryz.prog) rfl rfl (v:= .tuple #[.agg #[.int k n],.bool true]) (w':=w) (by simp[execOp,h5,wM]) (by intro c;simp) ?_
  refine cQ (P:=Tryz.prog) rfl rfl (v:= .bool true) (w':=w) (by simp[execOp,ca,cP,b8,hz,Instr.extract]) (by intro c;simp) ?_
  refine cQ (P:=Tryz.prog) rfl rfl (v:= .agg #[.int k n]) (w':=w) (by simp[execOp,ca,cP,b8,hz,Instr.extract]) (by intro c;simp) ?_
  show Code.wpIn _ _ _ _ _ _ _
  refine wpIn_cond_true (by simp[ca,b8,hz]) ?_
  refine wpIn_seq (wpIn_region ?_);refine cQ (P:=Tryz.prog) rfl rfl (v:= .pointer (some ⟨w.heap.size,0,none⟩)) (w':=w.alloc (.cells #[.int .i64 0] 280)) (by simp[execOp,Instr.alloc,go_sem]) (by intro c;simp) ?_
  refine kx (P:=Tryz.prog) rfl rfl (w':=w.alloc (.cells #[.int k n] 280)) (by simp[execOp,ca,cP,b8,hz,go_sem]) (by intro c;simp) ?_
  show Code.wpIn _ _ _ _ _ _ _
  refine wpIn_region ?_;refine cQ (P:=Tryz.prog) rfl rfl (v:= .pointer (some ⟨b,off,none⟩)) (w':=w.alloc (.cells #[.int k n] 280)) (by simp[execOp,ca,cP,b8,hz,h0]) (by intro c;simp) ?_
  refine cQ (P:=Tryz.prog) rfl rfl (v:= .pointer (some ⟨w.heap.size,0,none⟩)) (w':=w.alloc (.cells #[.int k n] 280)) (by simp[execOp,ca,cP,b8,hz,go_sem]) (by intro c;simp) ?_
  refine cQ (P:=Tryz.prog) rfl rfl (v:= .int k n) (w':=w.alloc (.cells #[.int k n] 280)) (by simp[execOp,ca,cP,b8,hz,go_sem]) (by intro c;simp) ?_
  refine cQ (P:=Tryz.prog) rfl rfl (v:= .pointer (some ⟨b,off,none⟩)) (w':=w.alloc (.cells #[.int k n] 280)) (by simp[execOp,ca,cP,b8,hz]) (by intro c;simp) ?_
  refine kx (P:=Tryz.prog) rfl rfl (w':=(w.alloc (.cells #[.int k n] 280)).setRow b cs') (by simp[execOp,ca,cP,b8,hz,hs _ hb1]) (by intro c;simp) ?_
  have hbe:Below w.heap.size (w.setRow b cs') ((w.alloc (.cells #[.int k n] 280)).setRow b cs'):=by
   have hs1:∀(v:World) (c:Array Value),(v.setRow b c).heap.size=v.heap.size:=fun v c=>by simp[World.setRow]
   refine⟨rfl,rfl,rfl,by rw[hs1,hs1];exact((Below.refl _ w).alloc (Nat.le_refl _) _).size,fun j hj=>?_⟩
   by_cases e:j=b
   ·subst e;rw[iK _ _ _ _ _ hb1,iK _ _ _ _ _ hb]
   ·rw[setRow_other _ _ _ _ e,setRow_other _ _ _ _ e];exact((Below.refl _ w).alloc (Nat.le_refl _) _).block j hj
  refine⟨by simp only[put_defers];exact hdf,_,rfl,.tuple #[],by simp[results,Go.Proofs.Tryz.f193],⟨_,rfl⟩,rfl,hbe⟩
theorem wB (k:IntKind) (n:Int) (w:World) (t:Nat):(Instr.typeAssert (.iface 283 (.agg #[.int k n])) t 283 true).run Tryz.prog w= .ok (.tuple #[.agg #[.int k n],.bool true]) w:=by
 simp[Instr.typeAssert,go_sem]
theorem ir:uz Tryz.prog 212 283 26:=by
 refine⟨fun p w=>?_,fun b off ty cs₁ cs' k n w hb hs=>?_⟩
 ·refine callsDIn_of_wpSIn Go.Proofs.Tryz.func212 rfl (by show(Tryz.prog.funcs[212]?).isSome=true;kernel_rfl) fun c₀ cs hu=>?_
  apply wpSIn_seq
  apply wpSIn_region
  simp[wpOpsSIn,go_sem,recoverD,hu,Exit.thenS];refine wpSIn_of_wpIn rfl (wpIn_block (wpIn_seq (wpIn_region ?_)));simp[wpOpsIn,go_sem,Exit.then,gL];refine wpIn_cond_true (by simp[Act.eval,Array.replicate]) (wpIn_region ?_)
  simp[wpOpsIn,go_sem,Exit.inBlock,gL];cases c₀;simp_all[bodyPostS,results,Go.Proofs.Tryz.f212]
 ·refine callsDIn_of_wpSIn Go.Proofs.Tryz.func212 rfl (by show(Tryz.prog.funcs[212]?).isSome=true;kernel_rfl) fun c₀ cs hu=>?_
  apply wpSIn_seq
  apply wpSIn_region
  simp[wpOpsSIn,go_sem,recoverD,hu,Exit.thenS];refine wpSIn_of_wpIn rfl (wpIn_block (wpIn_seq (wpIn_region ?_)));simp[wpOpsIn,go_sem,Exit.then,gL];refine wpIn_cond_false (by simp[Act.eval,Array.replicate]) ?_
  refine wpIn_seq (wpIn_region ?_);generalize hA:({tmps:=_,defers:= []}:Act)=A
  have hz:A.tmps.size=15:=by subst hA;simp
  have hdf:A.defers= []:=by subst hA;rfl
  have h0:A.eval (.tmp 0)= .pointer (some ⟨b,off,none⟩):=by subst hA;simp[Act.eval]
  have h5:A.eval (.tmp 5)= .iface 283 (.agg #[.int k n]):=by subst hA;simp[Act.eval]
  clear hA;have hbl:b<w.heap.size:=(Array.getElem?_eq_some_iff.1 hb).1
  have hb1:(w.alloc (.cells #[.int k n] 283)).heap[b]? =some (.cells cs₁ ty (0,0)):=
   (((Below.refl _ w).alloc (Nat.le_refl _) _).block b hbl).trans hb
  refine cQ (P:=Tryz.prog) rfl rfl (v:= .tuple #[.agg #[.int k n],.bool true]) (w':=w) (by simp[execOp,h5,wB]) (by intro c;simp) ?_
  refine cQ (P:=Tryz.prog) rfl rfl (v:= .bool true) (w':=w) (by simp[execOp,ca,cP,b8,hz,Instr.extract]) (by intro c;simp) ?_
  refine cQ (P:=Tryz.prog) rfl rfl (v:= .agg #[.int k n]) (w':=w) (by simp[execOp,ca,cP,b8,hz,Instr.extract]) (by intro c;simp) ?_
  show Code.wpIn _ _ _ _ _ _ _
  refine wpIn_cond_true (by simp[ca,b8,hz]) ?_
  refine wpIn_seq (wpIn_region ?_);refine cQ (P:=Tryz.prog) rfl rfl (v:= .pointer (some ⟨w.heap.size,0,none⟩)) (w':=w.alloc (.cells #[.int .i64 0] 283)) (by simp[execOp,Instr.alloc,go_sem]) (by intro c;simp) ?_
  refine kx (P:=Tryz.prog) rfl rfl (w':=w.alloc (.cells #[.int k n] 283)) (by simp[execOp,ca,cP,b8,hz,go_sem]) (by intro c;simp) ?_
  show Code.wpIn _ _ _ _ _ _ _
  refine wpIn_region ?_;refine cQ (P:=Tryz.prog) rfl rfl (v:= .pointer (some ⟨b,off,none⟩)) (w':=w.alloc (.cells #[.int k n] 283)) (by simp[execOp,ca,cP,b8,hz,h0]) (by intro c;simp) ?_
  refine cQ (P:=Tryz.prog) rfl rfl (v:= .pointer (some ⟨w.heap.size,0,none⟩)) (w':=w.alloc (.cells #[.int k n] 283)) (by simp[execOp,ca,cP,b8,hz,go_sem]) (by intro c;simp) ?_
  refine cQ (P:=Tryz.prog) rfl rfl (v:= .int k n) (w':=w.alloc (.cells #[.int k n] 283)) (by simp[execOp,ca,cP,b8,hz,go_sem]) (by intro c;simp) ?_
  refine cQ (P:=Tryz.prog) rfl rfl (v:= .pointer (some ⟨b,off,none⟩)) (w':=w.alloc (.cells #[.int k n] 283)) (by simp[execOp,ca,cP,b8,hz]) (by intro c;simp) ?_
  refine kx (P:=Tryz.prog) rfl rfl (w':=(w.alloc (.cells #[.int k n] 283)).setRow b cs') (by simp[execOp,ca,cP,b8,hz,hs _ hb1]) (by intro c;simp) ?_
  have hbe:Below w.heap.size (w.setRow b cs') ((w.alloc (.cells #[.int k n] 283)).setRow b cs'):=by
   have hs1:∀(v:World) (c:Array Value),(v.setRow b c).heap.size=v.heap.size:=fun v c=>by simp[World.setRow]
   refine⟨rfl,rfl,rfl,by rw[hs1,hs1];exact((Below.refl _ w).alloc (Nat.le_refl _) _).size,fun j hj=>?_⟩
   by_cases e:j=b
   ·subst e;rw[iK _ _ _ _ _ hb1,iK _ _ _ _ _ hb]
   ·rw[setRow_other _ _ _ _ e,setRow_other _ _ _ _ e];exact((Below.refl _ w).alloc (Nat.le_refl _) _).block j hj
  refine⟨by simp only[put_defers];exact hdf,_,rfl,.tuple #[],by simp[results,Go.Proofs.Tryz.f212],⟨_,rfl⟩,rfl,hbe⟩
theorem xB (k:IntKind) (n:Int) (w:World) (t:Nat):(Instr.typeAssert (.iface 299 (.agg #[.int k n])) t 299 true).run Tryz.prog w= .ok (.tuple #[.agg #[.int k n],.bool true]) w:=by
 simp[Instr.typeAssert,go_sem]
theorem HT:uz Tryz.prog 242 299 202:=by
 refine⟨fun p w=>?_,fun b off ty cs₁ cs' k n w hb hs=>?_⟩
 ·refine callsDIn_of_wpSIn Go.Proofs.Tryz.func242 rfl (by show(Tryz.prog.funcs[242]?).isSome=true;kernel_rfl) fun c₀ cs hu=>?_
  apply wpSIn_seq
  apply wpSIn_region
  simp[wpOpsSIn,go_sem,recoverD,hu,Exit.thenS];refine wpSIn_of_wpIn rfl (wpIn_block (wpIn_seq (wpIn_region ?_)));simp[wpOpsIn,go_sem,Exit.then,gL];refine wpIn_cond_true (by simp[Act.eval,Array.replicate]) (wpIn_region ?_)
  simp[wpOpsIn,go_sem,Exit.inBlock,gL];cases c₀;simp_all[bodyPostS,results,Go.Proofs.Tryz.f242]
 ·refine callsDIn_of_wpSIn Go.Proofs.Tryz.func242 rfl (by show(Tryz.prog.funcs[242]?).isSome=true;kernel_rfl) fun c₀ cs hu=>?_
  apply wpSIn_seq
  apply wpSIn_region
  simp[wpOpsSIn,go_sem,recoverD,hu,Exit.thenS];refine wpSIn_of_wpIn rfl (wpIn_block (wpIn_seq (wpIn_region ?_)));simp[wpOpsIn,go_sem,Exit.then,gL];refine wpIn_cond_false (by simp[Act.eval,Array.replicate]) ?_
  refine wpIn_seq (wpIn_region ?_);generalize hA:({tmps:=_,defers:= []}:Act)=A
  have hz:A.tmps.size=12:=by subst hA;simp
  have hdf:A.defers= []:=by subst hA;rfl
  have h0:A.eval (.tmp 0)= .pointer (some ⟨b,off,none⟩):=by subst hA;simp[Act.eval]
  have h5:A.eval (.tmp 4)= .iface 299 (.agg #[.int k n]):=by subst hA;simp[Act.eval]
  clear hA;have hbl:b<w.heap.size:=(Array.getElem?_eq_some_iff.1 hb).1
  have hb1:(w.alloc (.cells #[.int k n] 299)).heap[b]? =some (.cells cs₁ ty (0,0)):=
   (((Below.refl _ w).alloc (Nat.le_refl _) _).block b hbl).trans hb
  refine cQ (P:=Tryz.prog) rfl rfl (v:= .tuple #[.agg #[.int k n],.bool true]) (w':=w) (by simp[execOp,h5,xB]) (by intro c;simp) ?_
  refine cQ (P:=Tryz.prog) rfl rfl (v:= .bool true) (w':=w) (by simp[execOp,ca,cP,b8,hz,Instr.extract]) (by intro c;simp) ?_
  refine cQ (P:=Tryz.prog) rfl rfl (v:= .agg #[.int k n]) (w':=w) (by simp[execOp,ca,cP,b8,hz,Instr.extract]) (by intro c;simp) ?_
  show Code.wpIn _ _ _ _ _ _ _
  refine wpIn_cond_true (by simp[ca,b8,hz]) ?_
  refine wpIn_seq (wpIn_region ?_);refine cQ (P:=Tryz.prog) rfl rfl (v:= .pointer (some ⟨w.heap.size,0,none⟩)) (w':=w.alloc (.cells #[.int .i64 0] 299)) (by simp[execOp,Instr.alloc,go_sem]) (by intro c;simp) ?_
  refine kx (P:=Tryz.prog) rfl rfl (w':=w.alloc (.cells #[.int k n] 299)) (by simp[execOp,ca,cP,b8,hz,go_sem]) (by intro c;simp) ?_
  show Code.wpIn _ _ _ _ _ _ _
  refine wpIn_region ?_;refine cQ (P:=Tryz.prog) rfl rfl (v:= .pointer (some ⟨w.heap.size,0,none⟩)) (w':=w.alloc (.cells #[.int k n] 299)) (by simp[execOp,ca,cP,b8,hz,go_sem]) (by intro c;simp) ?_
  refine cQ (P:=Tryz.prog) rfl rfl (v:= .int k n) (w':=w.alloc (.cells #[.int k n] 299)) (by simp[execOp,ca,cP,b8,hz,go_sem]) (by intro c;simp) ?_
  refine kx (P:=Tryz.prog) rfl rfl (w':=(w.alloc (.cells #[.int k n] 299)).setRow b cs') (by simp[execOp,ca,cP,b8,hz,h0,hs _ hb1]) (by intro c;simp) ?_
  have hbe:Below w.heap.size (w.setRow b cs') ((w.alloc (.cells #[.int k n] 299)).setRow b cs'):=by
   have hs1:∀(v:World) (c:Array Value),(v.setRow b c).heap.size=v.heap.size:=fun v c=>by simp[World.setRow]
   refine⟨rfl,rfl,rfl,by rw[hs1,hs1];exact((Below.refl _ w).alloc (Nat.le_refl _) _).size,fun j hj=>?_⟩
   by_cases e:j=b
   ·subst e;rw[iK _ _ _ _ _ hb1,iK _ _ _ _ _ hb]
   ·rw[setRow_other _ _ _ _ e,setRow_other _ _ _ _ e];exact((Below.refl _ w).alloc (Nat.le_refl _) _).block j hj
  refine⟨by simp only[put_defers];exact hdf,_,rfl,.tuple #[],by simp[results,Go.Proofs.Tryz.f242],⟨_,rfl⟩,rfl,hbe⟩
theorem vT (k:IntKind) (n:Int) (w:World) (t:Nat):(Instr.typeAssert (.iface 211 (.agg #[.int k n])) t 211 true).run Tryz.prog w= .ok (.tuple #[.agg #[.int k n],.bool true]) w:=by
 simp[Instr.typeAssert,go_sem]
theorem lg:uz Tryz.prog 90 211 26:=by
 refine⟨fun p w=>?_,fun b off ty cs₁ cs' k n w hb hs=>?_⟩
 ·refine callsDIn_of_wpSIn Go.Proofs.Tryz.func90 rfl (by show(Tryz.prog.funcs[90]?).isSome=true;kernel_rfl) fun c₀ cs hu=>?_
  apply wpSIn_seq
  apply wpSIn_region
  simp[wpOpsSIn,go_sem,recoverD,hu,Exit.thenS];refine wpSIn_of_wpIn rfl (wpIn_block (wpIn_seq (wpIn_region ?_)));simp[wpOpsIn,go_sem,Exit.then,gL];refine wpIn_cond_true (by simp[Act.eval,Array.replicate]) (wpIn_region ?_)
  simp[wpOpsIn,go_sem,Exit.inBlock,gL];cases c₀;simp_all[bodyPostS,results,Go.Proofs.Tryz.f90]
 ·refine callsDIn_of_wpSIn Go.Proofs.Tryz.func90 rfl (by show(Tryz.prog.funcs[90]?).isSome=true;kernel_rfl) fun c₀ cs hu=>?_
  apply wpSIn_seq
  apply wpSIn_region
  simp[wpOpsSIn,go_sem,recoverD,hu,Exit.thenS];refine wpSIn_of_wpIn rfl (wpIn_block (wpIn_seq (wpIn_region ?_)));simp[wpOpsIn,go_sem,Exit.then,gL];refine wpIn_cond_false (by simp[Act.eval,Array.replicate]) ?_
  refine wpIn_seq (wpIn_region ?_);generalize hA:({tmps:=_,defers:= []}:Act)=A
  have hz:A.tmps.size=15:=by subst hA;simp
  have hdf:A.defers= []:=by subst hA;rfl
  have h0:A.eval (.tmp 0)= .pointer (some ⟨b,off,none⟩):=by subst hA;simp[Act.eval]
  have h5:A.eval (.tmp 5)= .iface 211 (.agg #[.int k n]):=by subst hA;simp[Act.eval]
  clear hA;have hbl:b<w.heap.size:=(Array.getElem?_eq_some_iff.1 hb).1
  have hb1:(w.alloc (.cells #[.int k n] 211)).heap[b]? =some (.cells cs₁ ty (0,0)):=
   (((Below.refl _ w).alloc (Nat.le_refl _) _).block b hbl).trans hb
  refine cQ (P:=Tryz.prog) rfl rfl (v:= .tuple #[.agg #[.int k n],.bool true]) (w':=w) (by simp[execOp,h5,vT]) (by intro c;simp) ?_
  refine cQ (P:=Tryz.prog) rfl rfl (v:= .bool true) (w':=w) (by simp[execOp,ca,cP,b8,hz,Instr.extract]) (by intro c;simp) ?_
  refine cQ (P:=Tryz.prog) rfl rfl (v:= .agg #[.int k n]) (w':=w) (by simp[execOp,ca,cP,b8,hz,Instr.extract]) (by intro c;simp) ?_
  show Code.wpIn _ _ _ _ _ _ _
  refine wpIn_cond_true (by simp[ca,b8,hz]) ?_
  refine wpIn_seq (wpIn_region ?_);refine cQ (P:=Tryz.prog) rfl rfl (v:= .pointer (some ⟨w.heap.size,0,none⟩)) (w':=w.alloc (.cells #[.int .i64 0] 211)) (by simp[execOp,Instr.alloc,go_sem]) (by intro c;simp) ?_
  refine kx (P:=Tryz.prog) rfl rfl (w':=w.alloc (.cells #[.int k n] 211)) (by simp[execOp,ca,cP,b8,hz,go_sem]) (by intro c;simp) ?_
  show Code.wpIn _ _ _ _ _ _ _
  refine wpIn_region ?_;refine cQ (P:=Tryz.prog) rfl rfl (v:= .pointer (some ⟨b,off,none⟩)) (w':=w.alloc (.cells #[.int k n] 211)) (by simp[execOp,ca,cP,b8,hz,h0]) (by intro c;simp) ?_
  refine cQ (P:=Tryz.prog) rfl rfl (v:= .pointer (some ⟨w.heap.size,0,none⟩)) (w':=w.alloc (.cells #[.int k n] 211)) (by simp[execOp,ca,cP,b8,hz,go_sem]) (by intro c;simp) ?_
  refine cQ (P:=Tryz.prog) rfl rfl (v:= .int k n) (w':=w.alloc (.cells #[.int k n] 211)) (by simp[execOp,ca,cP,b8,hz,go_sem]) (by intro c;simp) ?_
  refine cQ (P:=Tryz.prog) rfl rfl (v:= .pointer (some ⟨b,off,none⟩)) (w':=w.alloc (.cells #[.int k n] 211)) (by simp[execOp,ca,cP,b8,hz]) (by intro c;simp) ?_
  refine kx (P:=Tryz.prog) rfl rfl (w':=(w.alloc (.cells #[.int k n] 211)).setRow b cs') (by simp[execOp,ca,cP,b8,hz,hs _ hb1]) (by intro c;simp) ?_
  have hbe:Below w.heap.size (w.setRow b cs') ((w.alloc (.cells #[.int k n] 211)).setRow b cs'):=by
   have hs1:∀(v:World) (c:Array Value),(v.setRow b c).heap.size=v.heap.size:=fun v c=>by simp[World.setRow]
   refine⟨rfl,rfl,rfl,by rw[hs1,hs1];exact((Below.refl _ w).alloc (Nat.le_refl _) _).size,fun j hj=>?_⟩
   by_cases e:j=b
   ·subst e;rw[iK _ _ _ _ _ hb1,iK _ _ _ _ _ hb]
   ·rw[setRow_other _ _ _ _ e,setRow_other _ _ _ _ e];exact((Below.refl _ w).alloc (Nat.le_refl _) _).block j hj
  refine⟨by simp only[put_defers];exact hdf,_,rfl,.tuple #[],by simp[results,Go.Proofs.Tryz.f90],⟨_,rfl⟩,rfl,hbe⟩
theorem wD (n:Int) (w:World) (t:Nat):(Instr.typeAssert (.iface 214 (.agg #[.int .i64 n])) t 214 true).run Tryz.prog w= .ok (.tuple #[.agg #[.int .i64 n],.bool true]) w:=by
 simp[Instr.typeAssert,go_sem]
theorem Ax {n:Int} (hn:bY .i64 n) (w:World):(Instr.build 47 #[(0,.int .i64 n)]).run Tryz.prog w= .ok (den Env.zero (US n)) w:=
 (qF (J:=Env.zero) (w:=w) (K:=fun _=>True) (C:=(YM [] [] [] bx aQ).toCtx) (t:=47) (parts:= [(0,.it .i64 n)]) (r:=US n) (yG pj) (by kernel_rfl) (by simp;exact hn)).1
theorem bX:MU Tryz.prog 130 214 47:=by
 refine⟨fun p w=>?_,fun b off ty cs₁ cs' n w hn hb hs=>?_⟩
 ·refine callsDIn_of_wpSIn Go.Proofs.Tryz.func130 rfl (by show(Tryz.prog.funcs[130]?).isSome=true;kernel_rfl) fun c₀ cs hu=>?_
  apply wpSIn_seq
  apply wpSIn_region
  simp[wpOpsSIn,go_sem,recoverD,hu,Exit.thenS];refine wpSIn_of_wpIn rfl (wpIn_block (wpIn_seq (wpIn_region ?_)));simp[wpOpsIn,go_sem,Exit.then,gL];refine wpIn_cond_true (by simp[Act.eval,Array.replicate]) (wpIn_region ?_)
  simp[wpOpsIn,go_sem,Exit.inBlock,gL];cases c₀;simp_all[bodyPostS,results,Go.Proofs.Tryz.f130]
 ·refine callsDIn_of_wpSIn Go.Proofs.Tryz.func130 rfl (by show(Tryz.prog.funcs[130]?).isSome=true;kernel_rfl) fun c₀ cs hu=>?_
  apply wpSIn_seq
  apply wpSIn_region
  simp[wpOpsSIn,go_sem,recoverD,hu,Exit.thenS];refine wpSIn_of_wpIn rfl (wpIn_block (wpIn_seq (wpIn_region ?_)));simp[wpOpsIn,go_sem,Exit.then,gL];refine wpIn_cond_false (by simp[Act.eval,Array.replicate]) ?_
  refine wpIn_seq (wpIn_region ?_);generalize hA:({tmps:=_,defers:= []}:Act)=A
  have hz:A.tmps.size=13:=by subst hA;simp
  have hdf:A.defers= []:=by subst hA;rfl
  have h0:A.eval (.tmp 0)= .pointer (some ⟨b,off,none⟩):=by subst hA;simp[Act.eval]
  have h5:A.eval (.tmp 4)= .iface 214 (.agg #[.int .i64 n]):=by subst hA;simp[Act.eval]
  clear hA;have hbl:b<w.heap.size:=(Array.getElem?_eq_some_iff.1 hb).1
  have hb1:(w.alloc (.cells #[.int .i64 n] 214)).heap[b]? =some (.cells cs₁ ty (0,0)):=
   (((Below.refl _ w).alloc (Nat.le_refl _) _).block b hbl).trans hb
  refine cQ (P:=Tryz.prog) rfl rfl (v:= .tuple #[.agg #[.int .i64 n],.bool true]) (w':=w) (by simp[execOp,h5,wD]) (by intro c;simp) ?_
  refine cQ (P:=Tryz.prog) rfl rfl (v:= .bool true) (w':=w) (by simp[execOp,ca,cP,b8,hz,Instr.extract]) (by intro c;simp) ?_
  refine cQ (P:=Tryz.prog) rfl rfl (v:= .agg #[.int .i64 n]) (w':=w) (by simp[execOp,ca,cP,b8,hz,Instr.extract]) (by intro c;simp) ?_
  show Code.wpIn _ _ _ _ _ _ _
  refine wpIn_cond_true (by simp[ca,b8,hz]) ?_
  refine wpIn_seq (wpIn_region ?_);refine cQ (P:=Tryz.prog) rfl rfl (v:= .pointer (some ⟨w.heap.size,0,none⟩)) (w':=w.alloc (.cells #[.int .i64 0] 214)) (by simp[execOp,Instr.alloc,go_sem]) (by intro c;simp) ?_
  refine kx (P:=Tryz.prog) rfl rfl (w':=w.alloc (.cells #[.int .i64 n] 214)) (by simp[execOp,ca,cP,b8,hz,go_sem]) (by intro c;simp) ?_
  show Code.wpIn _ _ _ _ _ _ _
  refine wpIn_region ?_;refine cQ (P:=Tryz.prog) rfl rfl (v:= .pointer (some ⟨w.heap.size,0,none⟩)) (w':=w.alloc (.cells #[.int .i64 n] 214)) (by simp[execOp,ca,cP,b8,hz,go_sem]) (by intro c;simp) ?_
  refine cQ (P:=Tryz.prog) rfl rfl (v:= .int .i64 n) (w':=w.alloc (.cells #[.int .i64 n] 214)) (by simp[execOp,ca,cP,b8,hz,go_sem]) (by intro c;simp) ?_
  refine cQ (P:=Tryz.prog) rfl rfl (v:=den Env.zero (US n)) (w':=w.alloc (.cells #[.int .i64 n] 214)) (by simp only[execOp,Array.map,ca,cP,b8,hz];first|rfl| (simp[ca,cP,b8,hz,Ax hn])) (by intro c;simp) ?_
  refine kx (P:=Tryz.prog) rfl rfl (w':=(w.alloc (.cells #[.int .i64 n] 214)).setRow b cs') (by simp[execOp,ca,cP,b8,hz,h0,hs _ hb1]) (by intro c;simp) ?_
  have hbe:Below w.heap.size (w.setRow b cs') ((w.alloc (.cells #[.int .i64 n] 214)).setRow b cs'):=by
   have hs1:∀(v:World) (c:Array Value),(v.setRow b c).heap.size=v.heap.size:=fun v c=>by simp[World.setRow]
   refine⟨rfl,rfl,rfl,by rw[hs1,hs1];exact((Below.refl _ w).alloc (Nat.le_refl _) _).size,fun j hj=>?_⟩
   by_cases e:j=b
   ·subst e;rw[iK _ _ _ _ _ hb1,iK _ _ _ _ _ hb]
   ·rw[setRow_other _ _ _ _ e,setRow_other _ _ _ _ e];exact((Below.refl _ w).alloc (Nat.le_refl _) _).block j hj
  refine⟨by simp only[put_defers];exact hdf,_,rfl,.tuple #[],by simp[results,Go.Proofs.Tryz.f130],⟨_,rfl⟩,rfl,hbe⟩
theorem PN (k:Key):
 ((bn []|| !decide (bw k=0))=true->void=ah [] k)/\
   ((bn []|| !decide (bw k=0))=false->
     ((ba k&& !aU [] k)=true->void=ah [] k)/\((ba k&& !aU [] k)=false->k=ah [] k)):=by
 exact D8 [] k
theorem L2 (L:List Sx.Obj) (k:Key):
 ((bn L|| !decide (bw k=0))=true->void=ah L k)/\
   ((bn L|| !decide (bw k=0))=false->
     ((ba k&& !aU L k)=true->void=ah L k)/\((ba k&& !aU L k)=false->k=ah L k)):=by
 exact D8 L k
theorem ia:cq Tryz.prog 58 Xa:=
 xR gH (fun _ _=>rfl) (fun x _=>aZ (inl:=bx) (ann:=aQ) (ae pY (ae gx (ae dH (ae bQ aq)))) (PN x) (by kernel_rfl)) (fun L x _ _ _=>aZ (inl:=bx) (ann:=aQ) (ae pY (ae gx (ae dH (ae bQ aq)))) (L2 L x) (by kernel_rfl)) fun _=>rfl
theorem Nm (l:List Sx.Obj) (k:Key):
 ((decide (bD (ai l)=0)|| !decide (bw k=0)||decide (0<=bd k)&& !aU l k)=true->
   void=ah l k)/\
   ((decide (bD (ai l)=0)|| !decide (bw k=0)||decide (0<=bd k)&& !aU l k)=false->
     k=ah l k):=by
 exact Ja l k
theorem pd:cq Tryz.prog 50 Rr:=Iw gH (fun _ _=>rfl) (fun l k _ _ _=>aZ (inl:=bx) (ann:=aQ) (ae sB (ae ni (ae mf aq))) (Nm l k) (by kernel_rfl)) fun _=>rfl
end Go.Proofs.YtlblcfaclmpekaaGreat
namespace Go.Sx
def wkX (nid:Nat):V:= .mp nid
def wkN (nid:Nat):List aK:= [.mp .i64 [2,3,1,8] [.fn 240 [.lp (nid+1) 0],.fn 240 [.lp (nid+1+1) 0],.fn 238 [],.fn 238 []],
 .blk 42 (.ci .i64 3),.blk 42 (.ci .i64 1)]
def tN:Nat:=246
def clR (L:List Obj) (t f:Key) (g:Int):aK:= .blk tN (.ag [.ob (ev (aa L t) (dF L t f g)),.lp 0 0,.key t])
end Go.Sx
namespace Go.Proofs.YtlblcfaclmpekaaGreat
open Go.Sx
theorem SA:
 true=true/\
 true=true/\
  ∀(nid:Nat),some (wkX nid)=some (wkX nid)/\some (wkN nid)=some (wkN nid):=by
 exact⟨rfl,rfl,fun nid=>⟨rfl,rfl⟩⟩
theorem TD:cq Tryz.prog 234 (A0 wkX wkN):=vA (π:= [0,1,2]) (by decide) (fun _=>rfl) (bj (inl:=(fun f=>f==239)) (ann:=aQ) aq aD SA (by kernel_rfl))
theorem N1 (r m:Int) (hr:bY .i64 r) (hm0:bY .i64 m):
 (∃g,kP g/\r=r/\m=m/\0=gC r m g/\1=g)/\∀(g:Int),kP g->aba (decide (g<=4)) ((ny g/\abd (r.tdiv g))/\(ny 2/\abd ((r.tdiv g).tmod 2))/\((!decide ((r.tdiv g).tmod 2=1))=true->ny g/\abd (m.tdiv g))/\((!decide ((r.tdiv g).tmod 2=1))=true->ny 2/\abd ((m.tdiv g).tmod 2))/\aba (decide ((r.tdiv g).tmod 2=1)||decide ((m.tdiv g).tmod 2=1)) (abd (gC r m g+g)/\abd (g*2)/\∃g',kP g'/\(8-g').toNat<(8-g).toNat/\r=r/\m=m/\gC r m g+g=gC r m g'/\g*2=g') (abd (g*2)/\∃g',kP g'/\(8-g').toNat<(8-g).toNat/\r=r/\m=m/\gC r m g=gC r m g'/\g*2=g')) (gC r m g=iy r m):=by
 delta aba abd
 refine⟨⟨1,.inl rfl,rfl,rfl,by simp[gC],rfl⟩,fun g hg=>⟨fun hlt=>?_,fun hge=>?_⟩⟩
 ·have hlt:=aa1 hlt;have hne:ny g:=by unfold ny;rcases hg with rfl|rfl|rfl|rfl<;>omega
  have h2:ny 2:=by unfold ny;omega
  have hs:=DG (r:=r) (m:=m) (g:=g)
  have hn:∃g',kP g'/\(8-g').toNat<(8-g).toNat/\g*2=g':=by
   rcases hg with rfl|rfl|rfl|rfl
   ·exact⟨2,.inr (.inl rfl),by omega,rfl⟩
   ·exact⟨4,.inr (.inr (.inl rfl)),by omega,rfl⟩
   ·exact⟨8,.inr (.inr (.inr rfl)),by omega,rfl⟩
   ·omega
  obtain⟨g',hg1,hg2,rfl⟩:=hn;have hm:aF IntKind.i64 (g*2):=by simp only[aF,bY];rcases hg with rfl|rfl|rfl|rfl<;>omega
  refine⟨⟨hne,vJ hr hg⟩,⟨h2,pF _⟩,fun _=>⟨hne,vJ hm0 hg⟩,fun _=>⟨h2,pF _⟩,fun h=>⟨by simp only[aF,bY];omega,hm,_,hg1,hg2,rfl,rfl,?_,rfl⟩,fun h=>⟨hm,_,hg1,hg2,rfl,rfl,?_,rfl⟩⟩
  ·rcases hg with rfl|rfl|rfl|rfl
   ·simp[gC,gV]at h⊢;grind
   ·simp[gC,gV]at h⊢;grind
   ·simp[gC,gV]at h⊢;grind
   ·omega
  ·rcases hg with rfl|rfl|rfl|rfl
   ·simp[gC,gV,h]at h⊢ <;>grind
   ·simp[gC,gV,h]at h⊢ <;>grind
   ·simp[gC,gV,h]at h⊢ <;>grind
   ·omega
 ·have hge:=aa0 hge;rcases hg with rfl|rfl|rfl|rfl<;>first|rfl|omega
theorem Ab:cq Tryz.prog 125 Ro:=
 nJ (gi .i64) (gi .i64) (fun _ _=>rfl) fun r m hr hm=>aZ (inl:=bx) (ann:=(iu [(125,3,Va [0,1,4] (fun g=> [(5,.it .i64 (gC r m g)),(6,.it .i64 g)]) kP 8)])) aq (N1 r m hr hm) (by kernel_rfl)
theorem Kw (k:Key):
 aba (decide (k.kind=2)) ({kind:=k.kind,oid:=k.oid,count:=k.count,call:=k.call,rights:=iy k.rights 3,value:=k.value}=kT k) (aba (decide (k.kind=3)) ({kind:=k.kind,oid:=k.oid,count:=k.count,call:=k.call,rights:=1,value:=k.value}=kT k) (aba (decide (k.kind=1)) (aba (decide (k.kind=1)) (k=kT k) (void=kT k)) (aba (decide (k.kind=8)) (k=kT k) (void=kT k)))):=by
 delta aba
 unfold kT di;grind
theorem LX:cq Tryz.prog 191 RH:=
 qe gH (fun _=>rfl) fun k hk=>aZ (inl:=bx) (ann:=aQ) (ae Ab aq) (Kw k) (by kernel_rfl)
theorem Kj (k:Key):
 aba (!decide (bw k=0)) (void=iM k/\2=bw k) (aba (decide (k.kind=2)||(decide (k.kind=3)||(decide (k.kind=1)||decide (k.kind=8)))) (aba (decide (k.kind=2)) (abb ({kind:=k.kind,oid:=k.oid,count:=k.count,call:=k.call,rights:=bm BinOp.or IntKind.i64 k.rights 3,value:=k.value}=iM k/\0=bw k)) (aba (decide (k.kind=3)) (abb ({kind:=k.kind,oid:=k.oid,count:=k.count,call:=k.call,rights:=bm BinOp.or IntKind.i64 k.rights 1,value:=k.value}=iM k/\0=bw k)) (aba (decide (k.kind=1)) (abb (k=iM k/\0=bw k)) (aba (decide (k.kind=8)) (abb (k=iM k/\0=bw k)) False)))) (void=iM k/\0=bw k)):=by
 delta aba abb
 unfold iM bw;cases hok:aV k
 ·simp
 have hr:=jf hok;have o3:k.kind=2->bm BinOp.or IntKind.i64 k.rights 3=iy k.rights 3:=fun e=>PI hr.1 (by rw[e]at hr;exact hr.2)
 have o1:k.kind=3->bm BinOp.or IntKind.i64 k.rights 1=1:=fun e=>DA hr.1 (by rw[e]at hr;exact hr.2)
 unfold kT di;grind
theorem Bh:cq Tryz.prog 230 Pu:=
 qe gH (fun _=>rfl) fun k hk=>bj (inl:=(fun f=>f==240||f==238)) (ann:=aQ) (ae gx (ae TD aq)) aD (Kj k) (by kernel_rfl)
theorem Ly (o:Sx.Obj) (k:Key) (i:Int) (hq:oM k i):
 (0<=i/\i< ↑16)/\
  ((!decide (bm BinOp.and IntKind.i64 k.rights 2=0))=true->
    iM (ah [] (o.slots.at i.toNat))=jv [] o k i)/\
    ((!decide (bm BinOp.and IntKind.i64 k.rights 2=0))=false->
      ah [] (o.slots.at i.toNat)=jv [] o k i):=by
 exact Iy hq
theorem Q9 (o:Sx.Obj) (L:List Sx.Obj) (k:Key) (i:Int) (hq:oM k i):
 (0<=i/\i< ↑16)/\
  ((!decide (bm BinOp.and IntKind.i64 k.rights 2=0))=true->
    iM (ah L (o.slots.at i.toNat))=jv L o k i)/\
    ((!decide (bm BinOp.and IntKind.i64 k.rights 2=0))=false->ah L (o.slots.at i.toNat)=jv L o k i):=by
 exact Iy hq
theorem od:cq Tryz.prog 196 Vz:=
 eW (aA (Gf YZ) (aA dO bW)) (fun _=>rfl) fun a hq hok=>by
  obtain⟨⟨o,S,k,_⟩,i,_⟩:=a;cases S with
  |none=>exact aZ (inl:=bx) (ann:=aQ) (ae ia (ae Bh aq)) (Ly o k i hq) (by kernel_rfl)
  |some L=>exact aZ (inl:=bx) (ann:=aQ) (ae ia (ae Bh aq)) (Q9 o L k i hq) (by kernel_rfl)
theorem MP (L:List Sx.Obj) (k:Key) (d:Int) (c:Bool):
 aba (decide (bD (ai L)=0)) (1=aC L k d c) (aba (!aU L k|| !decide (k.kind=d)) (190=aC L k d c) ((c=true->ny 4/\aF IntKind.i64 (k.rights.tmod 4))/\aba (c&& !decide (k.rights.tmod 4=0)) (191=aC L k d c) (0=aC L k d c))):=by
 delta aba
 unfold aC;refine⟨fun h=>?_,fun h=>⟨fun h2=>?_,fun h2=>⟨fun hc=>⟨by unfold ny;omega,?_⟩,fun h3=>?_,fun h3=>?_⟩⟩⟩
 ·rw[aa4 (by simpa[bD]using h)]
 ·rw[aa3 (by simpa[bD]using h),aa4 h2]
 ·have h1:=Int.tmod_lt_of_pos k.rights (show(0:Int)<4 by omega)
  have h2:=Int.lt_tmod_of_pos k.rights (show(0:Int)<4 by omega)
  simp only[aF,bY];omega
 ·rw[aa3 (by simpa[bD]using h),aa3 (by rw[h2];simp),aa4 h3]
 ·rw[aa3 (by simpa[bD]using h),aa3 (by rw[h2];simp),aa3 (by rw[h3];simp)]
theorem pE:cq Tryz.prog 135 QV:=
 eW (aA jc (aA iF (aA dO (aA DI bW)))) (fun _=>rfl) fun a hq hok=>by
  obtain⟨L,k,d,c,_⟩:=a;exact aZ (inl:=bx) (ann:=aQ) (ae mf aq) (MP L k d c) (by kernel_rfl)
theorem QW (L:List Sx.Obj) (k:Key) (i:Int) (hk:bY .i64 k.rights) (hq:om L k i):
 (0<=k.oid/\k.oid< ↑(ai L))/\(0<=i/\i< ↑16)/\k.oid.toNat<ai L/\(ny 2/\abd (k.rights.tdiv 2))/\(ny 2/\abd ((k.rights.tdiv 2).tmod 2))/\aba (decide ((k.rights.tdiv 2).tmod 2=1)) (kT (ah L ((aj L k.oid.toNat free).slots.at i.toNat))=dh L k i) (ah L ((aj L k.oid.toNat free).slots.at i.toNat)=dh L k i):=by
 delta aba abd
 obtain⟨h0,h1,h2,h3⟩:=hq;have e2:ny 2:=by unfold ny;omega
 refine⟨⟨h2,h3⟩,⟨h0,by omega⟩,by omega,⟨e2,vJ hk (.inr (.inl rfl))⟩,⟨e2,pF _⟩,fun h=>?_,fun h=>?_⟩
 ·unfold dh jv sM;rw[aa4 h]
 ·unfold dh jv sM;rw[aa3 (by rw[h];simp)]
theorem yr:cq Tryz.prog 136 Wg:=
 eW (aA jc (aA iF (aA dO bW))) (fun _=>rfl) fun a hq hok=>by
  obtain⟨L,k,i,_⟩:=a;exact aZ (inl:=bx) (ann:=aQ) (ae pd (ae LX aq)) (QW L k i hok.2.1.2.2.2.2.1 hq) (by kernel_rfl)
theorem Vy (L:List Sx.Obj) (k:Key):
 (decide (bw k=0)&&decide (bd k<bD (ai L)))=bK L k:=by
 unfold bK bw bD;cases aV k<;>simp
theorem yW:cq Tryz.prog 73 YO:=
 eW (aA jc (aA iF bW)) (fun _=>rfl) fun a hq hok=>by
  obtain⟨L,k,_⟩:=a;exact aZ (inl:=bx) (ann:=aQ) (ae sB (ae ni aq)) (Vy L k) (by kernel_rfl)
theorem Ti (L:List Sx.Obj) (i:Int) (o:Sx.Obj) (hq:dL L i):
 OM (ai L) 856/\
  (0<=i/\i< ↑(ai L))/\
   i.toNat<ai L/\
    ∀(nid:Nat),
     some (V.sa nid)=some (V.sa nid)/\
      some [aK.arr (some tO) 163 (TL.ob (cz L i.toNat o))]=
       some [aK.arr (some tO) 163 (TL.ob (cz L i.toNat o))]:=by
 obtain⟨h0,h1,h2⟩:=hq;exact⟨⟨by simp only[maxLen];omega,by omega⟩,⟨h0,h1⟩,by omega,fun nid=>⟨rfl,rfl⟩⟩
theorem jy:cq Tryz.prog 76 VK:=
 TM (π:=fun _=> [2]) (aA jc (aA dO (aA Pk bW))) (fun _=>by simp) (fun _ _=>rfl) fun a hq hok=>by
  obtain⟨L,i,o,_⟩:=a;exact aZ (inl:=bx) (ann:=aQ) aq (Ti L i o hq) (by kernel_rfl)
theorem KU (k:Key) (i:Int):
 abb (abb (aba (!decide (0<ak [])) (void=aJ [] k i/\1=bV [] k i) (abb (aba (!(aU [] k&&decide (k.kind=2))) (void=aJ [] k i/\190=bV [] k i) (abb (abb (aba (!(decide (0<=i)&&decide (i<16))) (void=aJ [] k i/\4=bV [] k i) (oM k i/\jv [] (aa [] k) k i=aJ [] k i/\0=bV [] k i)))))))):=by
 delta aba abb
 have hE:∀e,aC [] k 2 false=e->e≠0->void=aJ [] k i/\e=bV [] k i:=fun e h h0=>by
  unfold aJ bV;rw[h,aa3 h0,aa3 h0];exact⟨rfl,rfl⟩
 refine⟨rfl,rfl,fun h=>hE _ ?_ (by omega),fun h=>⟨rfl,fun h2=>hE _ ?_ (by omega),fun h2=>⟨rfl,rfl,fun h3=>?_,fun h3=>?_⟩⟩⟩
 ·unfold aC;unfold ak at h;rw[aa4 (by simp at h;omega)]
 ·unfold aC;unfold ak at h;rw[aa3 (by simp at h;omega),aa4 (by simpa using h2)]
 ·have hA:aC [] k 2 false=0:=by
   unfold aC;unfold ak at h;rw[aa3 (by simp at h;omega),aa3 (by simpa using h2),aa3 (by simp)]
  rw[Bool.not_eq_true']at h3;unfold aJ bV km;rw[hA,aa4 rfl,h3];exact⟨rfl,rfl⟩
 ·have hA:aC [] k 2 false=0:=by
   unfold aC;unfold ak at h;rw[aa3 (by simp at h;omega),aa3 (by simpa using h2),aa3 (by simp)]
  obtain⟨a1,_,_⟩:=gw hA;obtain⟨b1,b2,b3,b4,_⟩:=ef a1;rw[Bool.not_eq_false']at h3;have h3':0<=i/\i<16:=by simpa using h3
  unfold aJ bV km;rw[hA,aa4 rfl,h3,aa4 rfl,aa4 rfl,b4];exact⟨⟨h3'.1,h3'.2,b1⟩,rfl,rfl⟩
theorem S2 (L:List Sx.Obj) (k:Key) (i:Int):
 abb (abb (aba (!decide (0<ak L)) (void=aJ L k i/\1=bV L k i) (abb (aba (!(aU L k&&decide (k.kind=2))) (void=aJ L k i/\190=bV L k i) (abb (abb (aba (!(decide (0<=i)&&decide (i<16))) (void=aJ L k i/\4=bV L k i) (oM k i/\jv L (aa L k) k i=aJ L k i/\0=bV L k i)))))))):=by
 delta aba abb
 have hE:∀e,aC L k 2 false=e->e≠0->void=aJ L k i/\e=bV L k i:=fun e h h0=>by
  unfold aJ bV;rw[h,aa3 h0,aa3 h0];exact⟨rfl,rfl⟩
 refine⟨rfl,rfl,fun h=>hE _ ?_ (by omega),fun h=>⟨rfl,fun h2=>hE _ ?_ (by omega),fun h2=>⟨rfl,rfl,fun h3=>?_,fun h3=>?_⟩⟩⟩
 ·unfold aC;unfold ak at h;rw[aa4 (by simp at h;omega)]
 ·unfold aC;unfold ak at h;rw[aa3 (by simp at h;omega),aa4 (by simpa using h2)]
 ·have hA:aC L k 2 false=0:=by
   unfold aC;unfold ak at h;rw[aa3 (by simp at h;omega),aa3 (by simpa using h2),aa3 (by simp)]
  rw[Bool.not_eq_true']at h3;unfold aJ bV km;rw[hA,aa4 rfl,h3];exact⟨rfl,rfl⟩
 ·have hA:aC L k 2 false=0:=by
   unfold aC;unfold ak at h;rw[aa3 (by simp at h;omega),aa3 (by simpa using h2),aa3 (by simp)]
  obtain⟨a1,_,_⟩:=gw hA;obtain⟨b1,b2,b3,b4,_⟩:=ef a1;rw[Bool.not_eq_false']at h3;have h3':0<=i/\i<16:=by simpa using h3
  unfold aJ bV km;rw[hA,aa4 rfl,h3,aa4 rfl,aa4 rfl,b4];exact⟨⟨h3'.1,h3'.2,b1⟩,rfl,rfl⟩
theorem sw:cq Tryz.prog 147 XM:=
 eW (aA tc (aA iF (aA dO bW))) (fun _=>rfl) fun a hq hok=>by
  obtain⟨S,k,i,_⟩:=a;cases S with
  |none=>exact aY (inl:=(fun f=>f==195||f==194)) (ann:=aQ) (ae bC (ae bQ (ae od aq))) aD (eh iV) (KU k i) (by kernel_rfl)
  |some L=>exact aY (inl:=(fun f=>f==195||f==194)) (ann:=aQ) (ae bC (ae bQ (ae od aq))) aD (eh iV) (S2 L k i) (by kernel_rfl)
theorem KQ (k:Key) (i:Int) (v:Key):
 abb (abb (aba (!decide (0<ak [])) (void=cU [] k i v/\1=bk [] k i v) (abb (aba (!(aU [] k&&decide (k.kind=2))) (void=cU [] k i v/\190=bk [] k i v) (abb (aba (!decide (bm BinOp.and IntKind.i64 k.rights 3=0)) (void=cU [] k i v/\191=bk [] k i v) (abb (aba (!(decide (0<=i)&&decide (i<16))) (void=cU [] k i v/\4=bk [] k i v) (abb (aba (!(decide (bw v=0)&&(!ba v||decide (cw v<ak [])))) (void=cU [] k i v/\2=bk [] k i v) (oM k i/\abb (abb ((0<=i/\i< ↑16)/\abb (jv [] (aa [] k) k i=cU [] k i v/\0=bk [] k i v)))))))))))))):=by
 delta aba abb
 refine⟨rfl,rfl,fun _=>⟨rfl,rfl⟩,fun h=>absurd h (by decide)⟩
theorem OO (k:Key) (i:Int) (v:Key):
 abb (abb (aba (!decide (0<ak [])) (void=cU [] k i v/\1=bk [] k i v) (abb (aba (!(aU [] k&&decide (k.kind=2))) (void=cU [] k i v/\190=bk [] k i v) (abb (aba (!decide (bm BinOp.and IntKind.i64 k.rights 3=0)) (void=cU [] k i v/\191=bk [] k i v) (abb (aba (!(decide (0<=i)&&decide (i<16))) (void=cU [] k i v/\4=bk [] k i v) (abb (aba (!(decide (bw v=0)&&(!ba v||decide (cw v<ak [])))) (void=cU [] k i v/\2=bk [] k i v) (oM k i/\abb (abb ((0<=i/\i< ↑16)/\abb False))))))))))))):=by
 delta aba abb
 refine⟨rfl,rfl,fun _=>⟨rfl,rfl⟩,fun h=>absurd h (by decide)⟩
theorem Up (L:List Sx.Obj) (k:Key) (i:Int) (v:Key) (hL:ar L):
 abb (abb (aba (!decide (0<ak L)) ((void=cU L k i v/\1=bk L k i v)/\L=cA L k i v) (abb (aba (!(aU L k&&decide (k.kind=2))) ((void=cU L k i v/\190=bk L k i v)/\L=cA L k i v) (abb (aba (!decide (bm BinOp.and IntKind.i64 k.rights 3=0)) ((void=cU L k i v/\191=bk L k i v)/\L=cA L k i v) (abb (aba (!(decide (0<=i)&&decide (i<16))) ((void=cU L k i v/\4=bk L k i v)/\L=cA L k i v) (abb (aba (!(decide (bw v=0)&&(!ba v||decide (cw v<ak L)))) ((void=cU L k i v/\2=bk L k i v)/\L=cA L k i v) (oM k i/\abb (abb ((0<=i/\i< ↑16)/\abb ((jv L (aa L k) k i=cU L k i v/\0=bk L k i v)/\cM L k.oid {kind:=(aa L k).kind,count:=(aa L k).count,calls:=(aa L k).calls,slots:=(aa L k).slots.put i.toNat (ah L v),bytes:=(aa L k).bytes}=cA L k i v)))))))))))))):=by
 delta aba abb
 have fin:∀e,bk L k i v=e->e≠0->(void=cU L k i v/\e=bk L k i v)/\L=cA L k i v:=fun e h h0=>by
  unfold cU cA;rw[h,aa3 h0,aa3 h0];exact⟨⟨rfl,rfl⟩,rfl⟩
 have bad:∀e,aC L k 2 true=e->e≠0->bk L k i v=e:=fun e h h0=>by unfold bk;rw[h,aa3 h0]
 refine⟨rfl,rfl,fun h=>fin _ (bad _ (Qk h) (by omega)) (by omega),fun h=>⟨rfl,fun h2=>fin _ (bad _ (JG h h2) (by omega)) (by omega),fun h2=>⟨rfl,fun h3=>fin _ (bad _ (XF h h2 h3) (by omega)) (by omega),fun h3=>⟨rfl,fun h4=>fin 4 ?_ (by omega),fun h4=>⟨rfl,fun h5=>fin 2 ?_ (by omega),fun h5=>?_⟩⟩⟩⟩⟩
 ·rw[Bool.not_eq_true']at h4;unfold bk km;rw[Jt h h2 h3,aa4 rfl,h4];rfl
 ·rw[Bool.not_eq_false']at h4;have hm:bK L v=false:=by rw[<-ve];rw[Bool.not_eq_true']at h5;exact h5
  unfold bk km;rw[Jt h h2 h3,aa4 rfl,h4,hm];rfl
 ·rw[Bool.not_eq_false']at h4;have h4':0<=i/\i<16:=by simpa using h4
  have hm:bK L v=true:=by rw[<-ve];rw[Bool.not_eq_false']at h5;exact h5
  have hE:bk L k i v=0:=by
   unfold bk km;rw[Jt h h2 h3,aa4 rfl,h4,hm];rfl
  obtain⟨a1,a2⟩:=nZ h2;obtain⟨b1,b2,b3,b4,_⟩:=ef a1;have hp:=(pk hL a1 a2 (E1 (v:=v) hL a1 a2 h4'.1 h4'.2)).1;unfold cU cA;rw[hE,aa4 rfl,aa4 rfl,<-hp,b4];exact⟨⟨h4'.1,h4'.2,b1⟩,rfl,rfl,⟨h4'.1,by omega⟩,rfl,⟨rfl,rfl⟩,rfl⟩
theorem Q0 (L:List Sx.Obj) (k:Key) (i:Int) (v:Key) (hL:ar L):an Tryz.prog 150 [.lp 0 0,.key k,.it .i64 i,.key v] [.store tS eS L] (C5 (.tp [.key (cU L k i v),.it .i64 (bk L k i v)]) (cA L k i v)) (fun _ _=>False):=
 aY (inl:=(fun f=>f==195||f==194||f==197||f==198)) (ann:=aQ) (ae bC (ae bQ (ae od (ae dH (ae gx (ae ia aq)))))) (aB dz aD) (eh iV) (Up L k i v hL) (by kernel_rfl)
theorem G7:kJ Tryz.prog 150 VX:=
 nV (m:=fun x=> [.key x.1,.it .i64 x.2.1,.key x.2.2]) Qt (fun _=>rfl) (fun _ _=>rfl) (fun x=>aY (inl:=(fun f=>f==195||f==194||f==197||f==198)) (ann:=aQ) (ae bC (ae bQ (ae od (ae dH (ae gx (ae ia aq)))))) (aB dz aD) (eh iV) (KQ x.1 x.2.1 x.2.2) (by kernel_rfl)) (fun x=>aY (inl:=(fun f=>f==195||f==194||f==197||f==198)) (ann:=aQ) (ae bC (ae bQ (ae od (ae dH (ae gx (ae ia aq)))))) (aB dz aD) (eh iV) (OO x.1 x.2.1 x.2.2) (by kernel_rfl)) fun L x hL _ _=>Q0 L x.1 x.2.1 x.2.2 hL
theorem Pn (k:Key):
 abb (abb (aba (!decide (0<ak [])) (1=aC [] k 2 true) (abb (aba (!(aU [] k&&decide (k.kind=2))) (190=aC [] k 2 true) (abb (aba (!decide (bm BinOp.and IntKind.i64 k.rights 3=0)) (191=aC [] k 2 true) (abb (abb (abb (0=aC [] k 2 true)))))))))):=by
 delta aba abb
 refine⟨rfl,rfl,fun _=>rfl,fun h=>absurd h (by decide)⟩
theorem My (k:Key):
 abb (abb (aba (!decide (0<ak [])) (1=aC [] k 2 true) (abb (aba (!(aU [] k&&decide (k.kind=2))) (190=aC [] k 2 true) (abb (aba (!decide (bm BinOp.and IntKind.i64 k.rights 3=0)) (191=aC [] k 2 true) (abb (abb (abb False))))))))):=by
 delta aba abb
 refine⟨rfl,rfl,fun _=>rfl,fun h=>absurd h (by decide)⟩
theorem Tz (L:List Sx.Obj) (k:Key) (hL:ar L):
 abb (abb (aba (!decide (0<ak L)) (1=aC L k 2 true/\L=fG L k) (abb (aba (!(aU L k&&decide (k.kind=2))) (190=aC L k 2 true/\L=fG L k) (abb (aba (!decide (bm BinOp.and IntKind.i64 k.rights 3=0)) (191=aC L k 2 true/\L=fG L k) (abb (abb (abb (0=aC L k 2 true/\cM L k.oid {kind:=(aa L k).kind,count:=(aa L k).count,calls:=(aa L k).calls,slots:=gU,bytes:=(aa L k).bytes}=fG L k)))))))))):=by
 delta aba abb
 have fin:∀e,aC L k 2 true=e->e≠0->e=aC L k 2 true/\L=fG L k:=fun e h h0=>by
  unfold fG;rw[h,aa3 h0];exact⟨rfl,rfl⟩
 refine⟨rfl,rfl,fun h=>fin _ (Qk h) (by omega),fun h=>⟨rfl,fun h2=>fin _ (JG h h2) (by omega),fun h2=>⟨rfl,fun h3=>fin _ (XF h h2 h3) (by omega),fun h3=>⟨rfl,rfl,rfl,?_⟩⟩⟩⟩
 obtain⟨a1,a2⟩:=nZ h2;have hp:=(pk hL a1 a2 (HI (by omega))).1
 unfold fG;rw[Jt h h2 h3,aa4 rfl,<-hp];exact⟨rfl,rfl⟩
theorem Ue (L:List Sx.Obj) (k:Key) (hL:ar L):an Tryz.prog 153 [.lp 0 0,.key k] [.store tS eS L] (C5 (.it .i64 (aC L k 2 true)) (fG L k)) (fun _ _=>False):=
 aY (inl:=(fun f=>f==195||f==194||f==197||f==199)) (ann:=aQ) (ae bC (ae bQ aq)) (aB dz aD) (eh iV) (Tz L k hL) (by kernel_rfl)
theorem Rc:kJ Tryz.prog 153 Yg:=
 nV (m:=fun x=> [.key x]) OU (fun _=>rfl) (fun _ _=>rfl) (fun x=>aY (inl:=(fun f=>f==195||f==194||f==197||f==199)) (ann:=aQ) (ae bC (ae bQ aq)) (aB dz aD) (eh iV) (Pn x) (by kernel_rfl)) (fun x=>aY (inl:=(fun f=>f==195||f==194||f==197||f==199)) (ann:=aQ) (ae bC (ae bQ aq)) (aB dz aD) (eh iV) (My x) (by kernel_rfl)) fun L x hL _ _=>Ue L x hL
theorem Mw (t f:Key):
 abb (abb (aba (!decide (0<ak [])) (1=bS [] t f) (abb (aba (!(aU [] t&&decide (t.kind=2))) (190=bS [] t f) (abb (aba (!decide (bm BinOp.and IntKind.i64 t.rights 3=0)) (191=bS [] t f) (abb (abb (aba (!decide (0<ak [])) (1=bS [] t f) (abb (aba (!(aU [] f&&decide (f.kind=2))) (190=bS [] t f) (abb (abb (abb False)))))))))))))):=by
 delta aba abb
 refine⟨rfl,rfl,fun _=>rfl,fun h=>absurd h (by decide)⟩
theorem KH (t f:Key):
 abb (abb (aba (!decide (0<ak [])) (1=bS [] t f) (abb (aba (!(aU [] t&&decide (t.kind=2))) (190=bS [] t f) (abb (aba (!decide (bm BinOp.and IntKind.i64 t.rights 3=0)) (191=bS [] t f) (abb (abb (aba (!decide (0<ak [])) (1=bS [] t f) (abb (aba (!(aU [] f&&decide (f.kind=2))) (190=bS [] t f) (abb (abb (abb False)))))))))))))):=by
 delta aba abb
 refine⟨rfl,rfl,fun _=>rfl,fun h=>absurd h (by decide)⟩
theorem SO (L:List Sx.Obj) (t f:Key) (hL:ar L):
 abb (abb (aba (!decide (0<ak L)) (1=bS L t f/\L=eQ L t f) (abb (aba (!(aU L t&&decide (t.kind=2))) (190=bS L t f/\L=eQ L t f) (abb (aba (!decide (bm BinOp.and IntKind.i64 t.rights 3=0)) (191=bS L t f/\L=eQ L t f) (abb (abb (aba (!decide (0<ak L)) (1=bS L t f/\L=eQ L t f) (abb (aba (!(aU L f&&decide (f.kind=2))) (190=bS L t f/\L=eQ L t f) (abb (abb (abb ((∃g,lE g/\0=g/\L=L/\t=t/\f=f/\t=t/\aa L t=aa L t/\t=t/\aa L t=aa L t/\aa L t=aa L t/\t=t/\f=f/\aa L f=aa L f/\f=f/\aa L f=aa L f/\aa L f=aa L f/\f=f/\aa L t=ev (aa L t) (dF L t f g)/\t=t)/\∀(g:Int),lE g->aba (decide (g<16)) (oM f g/\(0<=g/\g< ↑16)/\aF IntKind.i64 (g+1)/\∃g',lE g'/\oW g'<oW g/\g+1=g'/\L=L/\t=t/\f=f/\t=t/\aa L t=aa L t/\t=t/\aa L t=aa L t/\aa L t=aa L t/\t=t/\f=f/\aa L f=aa L f/\f=f/\aa L f=aa L f/\aa L f=aa L f/\f=f/\{kind:=(ev (aa L t) (dF L t f g)).kind,count:=(ev (aa L t) (dF L t f g)).count,calls:=(ev (aa L t) (dF L t f g)).calls,slots:=(ev (aa L t) (dF L t f g)).slots.put g.toNat (jv L (aa L f) f g),bytes:=(ev (aa L t) (dF L t f g)).bytes}=ev (aa L t) (dF L t f g')/\t=t) (abb (0=bS L t f/\cM L t.oid (ev (aa L t) (dF L t f g))=eQ L t f))))))))))))))))):=by
 delta aba abb
 have fin:∀e,bS L t f=e->e≠0->e=bS L t f/\L=eQ L t f:=fun e h h0=>by
  unfold eQ;rw[h,aa3 h0];exact⟨rfl,rfl⟩
 have bad:∀e,aC L t 2 true=e->e≠0->bS L t f=e:=fun e h h0=>by unfold bS;rw[h,aa3 h0]
 refine⟨rfl,rfl,fun h=>fin _ (bad _ (Qk h) (by omega)) (by omega),fun h=>⟨rfl,fun h2=>fin _ (bad _ (JG h h2) (by omega)) (by omega),fun h2=>⟨rfl,fun h3=>fin _ (bad _ (XF h h2 h3) (by omega)) (by omega),fun h3=>⟨rfl,rfl,fun h4=>?_,fun h4=>⟨rfl,fun h5=>fin 190 ?_ (by omega),fun h5=>⟨rfl,rfl,rfl,?_,fun g hg=>⟨fun hlt=>?_,fun hge=>?_⟩⟩⟩⟩⟩⟩⟩
 ·rw[h]at h4;simp at h4
 ·unfold bS;rw[Jt h h2 h3,aa4 rfl,JG h h5]
 ·obtain⟨a1,a2⟩:=nZ h2;refine⟨0,⟨by omega,by omega⟩,?_⟩
  have:=Fb (f:=f) (ef a1).2.2.2.1;repeat' apply And.intro
  all_goals first|rfl|exact this
 ·obtain⟨g0,g1⟩:=hg;have hlt:=aa1 hlt;obtain⟨a1,a2⟩:=nZ h5;have hs:=Eo (t:=t) g0 (ef a1).2.2.2.1 (aa L t) gU;refine⟨⟨g0,by omega,(ef a1).1⟩,⟨g0,by omega⟩,by simp only[aF,bY];omega,g+1,⟨by omega,by omega⟩,by unfold oW;omega,?_⟩
  repeat' apply And.intro
  all_goals first|rfl|exact hs
 ·obtain⟨g0,g1⟩:=hg;have hge:=aa0 hge;have:g=16:=by omega
  subst this;obtain⟨a1,a2⟩:=nZ h2;have hE:bS L t f=0:=by unfold bS;rw[Jt h h2 h3,aa4 rfl,HS h h5]
  have hp:=(pk hL a1 a2 (zt (f:=f) hL a1 a2 16 (by omega))).1
  unfold eQ;rw[hE,aa4 rfl];exact⟨rfl,rfl,hp⟩
theorem Tt (L:List Sx.Obj) (t f:Key) (hL:ar L):an Tryz.prog 155 [.lp 0 0,.key t,.key f] [.store tS eS L] (C5 (.it .i64 (bS L t f)) (eQ L t f)) (fun _ _=>False):=
 aY (inl:=(fun f=>f==195||f==194||f==197||f==200)) (ann:=(iu [(200,1,YB [0,1,2] (fun g=> [(4,.it .i64 g)]) 0 (clR L t f) lE oW)])) (ae bC (ae bQ (ae od aq))) (aB dz aD) (eh iV) (SO L t f hL) (by kernel_rfl)
theorem RV:kJ Tryz.prog 155 VO:=
 nV (m:=fun x=> [.key x.1,.key x.2]) IF (fun _=>rfl) (fun _ _=>rfl) (fun x=>aY (inl:=(fun f=>f==195||f==194||f==197||f==200)) (ann:=aQ) (ae bC (ae bQ (ae od aq))) (aB dz aD) (eh iV) (Mw x.1 x.2) (by kernel_rfl)) (fun x=>aY (inl:=(fun f=>f==195||f==194||f==197||f==200)) (ann:=aQ) (ae bC (ae bQ (ae od aq))) (aB dz aD) (eh iV) (KH x.1 x.2) (by kernel_rfl)) fun L x hL _ _=>Tt L x.1 x.2 hL
end Go.Proofs.YtlblcfaclmpekaaGreat
namespace Go.Sx
def aW (L:List Obj) (k:Key) (c:Bool):Int:=if aC L k 3 false=0 then(if(c&& !decide (k.rights=0))=true then 191 else 0)else aC L k 3 false
def cB (i n:Int):Bool:=decide (0<=i)&&decide (0<=n)&&decide (i<=64)&&decide (n<=64-i)
def cy (L:List Obj) (k:Key) (i n:Int):Int:=if aW L k false=0 then(if cB i n then 0 else 4)else aW L k false
def dY (L:List Obj) (k:Key) (i n:Int):ByteArray:=if cy L k i n=0 then xC (aj L k.oid.toNat free).bytes i.toNat (i+n).toNat else⟨#[]⟩
def jQ (o:Obj) (b:Bytes):Obj:= {o with bytes:=b}
def tA (L:List Obj) (k:Key) (b:Bytes):List Obj:=cz L k.oid.toNat (jQ (aj L k.oid.toNat free) b)
def cN (L:List Obj) (k:Key) (i:Int) (s:ByteArray):Int:=if aW L k true=0 then(if cB i (bN s)then 0 else 4)else aW L k true
def eX (L:List Obj) (k:Key) (i:Int) (s:ByteArray):List Obj:=if cN L k i s=0 then tA L k (sV (aj L k.oid.toNat free).bytes i.toNat s.size s)else L
def fl (L:List Obj) (k:Key):List Obj:=if aW L k true=0 then tA L k fa else L
def cS (L:List Obj) (t f:Key):Int:=if aW L t true=0 then aW L f false else aW L t true
def fA (L:List Obj) (t f:Key):List Obj:=if cS L t f=0 then tA L t (aj L f.oid.toNat free).bytes else L
def aw (s:ByteArray):Prop:=(s.size:Int)<=9223372036854775807
def DD (v:V):Option ByteArray:=match v with
 | .st s=>some s
 |_=>none
theorem xX:sT DD V.st:=fun v x h=>by
 cases v<;>simp only[DD,aaV,reduceCtorEq]at h
 subst h;exact⟨fun _=>rfl,fun _=>id⟩
def zA:Arg ByteArray:=Et DD V.st
theorem Zd:mU zA:=sr xX (fun _=>rfl) fun v x h=>by cases v<;>simp[DD]at h;rfl
def BA (l:List V):Option (Key×Int×ByteArray):=match l with
 | [a,b,c]=>match rK a with
   |some k=>match rI .i64 b with
    |some i=>match DD c with
     |some s=>some (k,i,s)
     |none=>none
    |none=>none
   |none=>none
 |_=>none
theorem vl:∀l x,BA l=some x->fc l [.key x.1,.it .i64 x.2.1,.st x.2.2]:=fun l x h=>by
 unfold BA at h;split at h
 ·split at h
  ·rename_i h1;split at h
   ·rename_i h2;split at h<;>simp only[aaV,reduceCtorEq]at h
    rename_i h3;subst h;exact fc.rd gH h1 (fc.rd (gi .i64) h2 (fc.rd xX h3 fc.nil))
   ·simp at h
  ·simp at h
 ·simp at h
def Fg:Ct:=QK (rI .i64) (rI .i64) fun i n=> .bo (cB i n)
def XI:Ct:=s6 (bc As (bc kA (bc bA gK))) (fun _=>none) fun x=> .it .i64 (aW x.1 x.2.1 x.2.2.1)
def RN:Ct:=s6 (bc sA (bc kA (bc iA (bc iA gK)))) (fun _=>none) fun x=> .tp [.st (dY (Dx x.1) x.2.1 x.2.2.1 x.2.2.2.1),.it .i64 (cy (Dx x.1) x.2.1 x.2.2.1 x.2.2.2.1)]
def ZY:ke:=IP BA (fun L x=>ar L/\aw x.2.2) (fun L x=> .it .i64 (cN L x.1 x.2.1 x.2.2)) fun L x=>eX L x.1 x.2.1 x.2.2
def XY:ke:=IP rdK (fun L _=>ar L) (fun L x=> .it .i64 (aW L x true)) fun L x=>fl L x
def YW:ke:=IP R9 (fun L _=>ar L) (fun L x=> .it .i64 (cS L x.1 x.2)) fun L x=>fA L x.1 x.2
theorem O0 {o:Obj} {n:Int} {b:Bytes} (h:bP o n=true) (hk:o.kind=1\/o.kind=2):bP (jQ o b) n=true:=by
 rw[dT]at h⊢;simp only[jQ];obtain⟨a1,a2,a3,a4,a5,a6,a7,a8,a9,a10,a11⟩:=h;exact⟨a1,a2,a3,a4,a5,a6,a7,a8,a9,a10,fun i hi=> .inl hk⟩
theorem Ke {L:List Obj} {k:Key} (h:aU L k=true) (h2:k.kind=3):(aj L k.oid.toNat free).kind=2:=by
 rw[(ef h).2.2.2.2];unfold gD;rw[aa3 (by have:=(zb h).1;omega),aa4 h2]
theorem rk {L:List Obj} {k:Key} {b:Bytes} (hL:ar L) (h:aU L k=true) (h2:k.kind=3):fz L k.oid (jQ (aa L k) b)=0/\cM L k.oid (jQ (aa L k) b)=tA L k b/\ar (tA L k b):=by
 obtain⟨b1,b2,b3,b4,_⟩:=ef h;have hr:=fR.1 hL;have ho:=O0 (b:=b) (hr.2.2 k.oid.toNat (by omega)) (.inr (Ke h h2))
 obtain⟨p1,p2⟩:=vB (L:=L) (o:=jQ (aj L k.oid.toNat free) b) (lu.2 ⟨b2,b3⟩) (qM ho).symm;rw[b4];refine⟨p1,p2,?_⟩;refine fR.2 ?_;unfold tA;have hl:(cz L k.oid.toNat (jQ (aj L k.oid.toNat free) b)).length=L.length:=by simp[cz]
 rw[hl];refine⟨hr.1,hr.2.1,fun i hi=>?_⟩
 by_cases e:i=k.oid.toNat
 ·subst e;rw[show aj (cz L k.oid.toNat (jQ (aj L k.oid.toNat free) b)) k.oid.toNat free=jQ (aj L k.oid.toNat free) b by simp[aj,cz,aa2,hi]]
  exact ho
 ·rw[show aj (cz L k.oid.toNat (jQ (aj L k.oid.toNat free) b)) i free=aj L i free by simp[aj,cz,aa2,List.getElem?_set,Ne.symm e]]
  exact hr.2.2 i hi
theorem CF {L:List Obj} {k:Key} (h:aU L k=true) (h2:k.kind=3):0<=k.rights/\k.rights<=1:=by
 have:=jf (ef h).1;rw[h2]at this;exact this
theorem Yq {r:Int} (h0:0<=r) (h1:r<=1):bm .and .i64 r 1=r:=by
 have:r=0\/r=1:=by omega
 rcases this with rfl|rfl<;>decide
theorem n7 {i n:Int}:cB i n=true↔0<=i/\0<=n/\i<=64/\n<=64-i:=by
 simp only[cB,aaX,aaY,and_assoc]
theorem MY (b:Bytes) (i:Int) (s:ByteArray) (h:cB i (bN s)=true):Ks b i.toNat 64 s=sV b i.toNat s.size s:=by
 unfold Ks Jx
 have hle:s.size<=64-i.toNat:=by
  obtain⟨h0,h1,h2,h3⟩:=n7.1 h;have h3:(s.size:Int)<=64-i:=h3;omega
 rw[show Nat.min s.size (64-i.toNat)=s.size from Nat.min_eq_left hle]
theorem K7 (b:Bytes):EA b 0 64=fa:=by
 unfold EA sV fa;ext i hi
 simp[sat_empty,hi]
theorem AJ (b:Bytes) (i:Nat) (s:ByteArray):sV b i 0 s=b:=by
 apply Vector.ext
 intro j hj;have:=yq b i 0 s j hj;rw[aa3 (by omega)]at this
 simpa[Bytes.at,Array.getD_eq_getD_getElem?,hj]using this
theorem WU {a b:Bytes} (h:∀j,j<64->a.at j=b.at j):a=b:=by
 apply Vector.ext
 intro j hj;have:=h j hj;simpa[Bytes.at,Array.getD_eq_getD_getElem?,hj]using this
theorem BP (b:Bytes) (i g:Nat) (s:ByteArray) (h:i+g<64):(sV b i g s).put (i+g) (sat s g)=sV b i (g+1) s:=by
 apply WU
 intro j hj;rw[Bytes.fX _ _ _ _ h,yq _ _ _ _ _ hj,yq _ _ _ _ _ hj];by_cases e:j=i+g
 ·subst e;rw[aa4 rfl,aa4 (by omega),show i+g-i=g by omega]
 ·rw[aa3 e];by_cases e2:i<=j/\j<i+g
  ·rw[aa4 e2,aa4 (by omega)]
  ·rw[aa3 e2,aa3 (by omega)]
theorem pc {L:List Obj} {k:Key} (hL:ar L) (h:aU L k=true):dL L k.oid/\0<=k.oid/\k.oid<(ai L:Int)/\k.oid.toNat<ai L:=uA hL h
theorem m5 {L:List Obj} {k:Key} {c:Bool} (h:aW L k c=0):aU L k=true/\k.kind=3/\(c=true->k.rights=0):=by
 unfold aW at h;split at h
 ·rename_i h1;obtain⟨a1,a2,_⟩:=gw h1;split at h
  ·omega
  ·rename_i h2;exact⟨a1,a2,fun hc=>by simpa[hc]using h2⟩
 ·rename_i h1;exact absurd h h1
theorem Vr {L:List Obj} {k:Key}:aW L k false=aC L k 3 false:=by
 unfold aW;split
 ·rename_i h;rw[h];rfl
 ·rfl
theorem Lf {L:List Obj} {k:Key} {c:Bool} (h:decide (ak L=0)=true):aW L k c=1:=by
 have:aC L k 3 false=1:=Qk (by rw[aaY]at h;simp[h])
 unfold aW;rw[this,aa3 (by omega)]
theorem YA {L:List Obj} {k:Key} {c:Bool} (h:decide (ak L=0)=false) (h2:(!aU L k|| !decide (k.kind=3))=true):aW L k c=190:=by
 have h0:(!decide (0<ak L))=false:=by
  rw[decide_eq_false_iff_not]at h;unfold ak at h⊢;simp;omega
 have:aC L k 3 false=190:=JG h0 (by simpa using h2)
 unfold aW;rw[this,aa3 (by omega)]
theorem rr {L:List Obj} {k:Key} (h2:(!aU L k|| !decide (k.kind=3))=false):aU L k=true/\k.kind=3:=by simpa using h2
theorem pg0 {L:List Obj} {k:Key} (h:decide (ak L=0)=false) (h2:(!aU L k|| !decide (k.kind=3))=false):aC L k 3 false=0:=by
 refine HS ?_ (by simpa using h2)
 rw[decide_eq_false_iff_not]at h;unfold ak at h⊢;simp;omega
theorem Zk {L:List Obj} {k:Key} (h:decide (ak L=0)=false) (h2:(!aU L k|| !decide (k.kind=3))=false):aW L k false=0:=by rw[Vr];exact pg0 h h2
theorem pg3 {L:List Obj} {k:Key} (h:decide (ak L=0)=false) (h2:(!aU L k|| !decide (k.kind=3))=false) (h3:(!decide (bm BinOp.and IntKind.i64 k.rights 1=0))=true):aW L k true=191:=by
 obtain⟨a1,a2⟩:=rr h2;have hr:=CF a1 a2;rw[Yq hr.1 hr.2]at h3;unfold aW;rw[aa4 (pg0 h h2),aa4 (by simpa using h3)]
theorem Zv {L:List Obj} {k:Key} (h:decide (ak L=0)=false) (h2:(!aU L k|| !decide (k.kind=3))=false) (h3:(!decide (bm BinOp.and IntKind.i64 k.rights 1=0))=false):aW L k true=0:=by
 obtain⟨a1,a2⟩:=rr h2;have hr:=CF a1 a2;rw[Yq hr.1 hr.2]at h3;unfold aW;rw[aa4 (pg0 h h2),aa3 (by simpa using h3)]
theorem rz {L:List Obj} {k:Key} {i n e:Int} (h:aW L k false=e) (he:e≠0):(⟨#[]⟩:ByteArray)=dY L k i n/\e=cy L k i n:=by
 have:cy L k i n=e:=by unfold cy;rw[h,aa3 he]
 unfold dY;rw[this,aa3 he];exact⟨rfl,rfl⟩
theorem yI {L:List Obj} {k:Key} {i n:Int} (h:aW L k false=0) (hi:(!cB i n)=true):(⟨#[]⟩:ByteArray)=dY L k i n/\4=cy L k i n:=by
 rw[Bool.not_eq_true']at hi;have:cy L k i n=4:=by unfold cy;rw[aa4 h,hi];rfl
 unfold dY;rw[this];exact⟨rfl,rfl⟩
theorem yt {L:List Obj} {k:Key} {i n:Int} (h:aW L k false=0) (hi:(!cB i n)=false):aF IntKind.i64 (i+n)/\B8 i (i+n) 64/\xC (aj L k.oid.toNat free).bytes i.toNat (i+n).toNat=dY L k i n/\0=cy L k i n:=by
 rw[Bool.not_eq_false']at hi;obtain⟨a,b,c,d⟩:=n7.1 hi;have:cy L k i n=0:=by unfold cy;rw[aa4 h,hi];rfl
 unfold dY;rw[this];exact⟨by simp only[aF,bY];omega,⟨by omega,by omega,by omega⟩,rfl,rfl⟩
theorem wq {L:List Obj} {k:Key} {i e:Int} {z:ByteArray} (h:aW L k true=e) (he:e≠0):e=cN L k i z/\L=eX L k i z:=by
 have:cN L k i z=e:=by unfold cN;rw[h,aa3 he]
 unfold eX;rw[this,aa3 he];exact⟨rfl,rfl⟩
theorem OL {L:List Obj} {k:Key} {i:Int} {z:ByteArray} (h:aW L k true=0) (hi:(!cB i (bN z))=true):4=cN L k i z/\L=eX L k i z:=by
 rw[Bool.not_eq_true']at hi;have:cN L k i z=4:=by unfold cN;rw[aa4 h,hi];rfl
 unfold eX;rw[this];exact⟨rfl,rfl⟩
theorem Y5 {L:List Obj} {k:Key} {i:Int} {z:ByteArray} (hL:ar L) (h1:aU L k=true) (h2:k.kind=3) (h:aW L k true=0) (hi:(!cB i (bN z))=false):B8 i 64 64/\
  fz L k.oid (jQ (aa L k) (Ks (aa L k).bytes i.toNat (Int.toNat 64) z))=cN L k i z/\cM L k.oid (jQ (aa L k) (Ks (aa L k).bytes i.toNat (Int.toNat 64) z))=eX L k i z:=by
 rw[Bool.not_eq_false']at hi;obtain⟨a,b,c,d⟩:=n7.1 hi;have hE:cN L k i z=0:=by unfold cN;rw[aa4 h,hi];rfl
 have hb:=MY (aa L k).bytes i z hi;obtain⟨p1,p2,_⟩:=rk (b:=sV (aa L k).bytes i.toNat z.size z) hL h1 h2;have h64:Int.toNat 64=64:=rfl;rw[h64,hb,p1,p2,hE];refine⟨⟨by omega,by omega,by omega⟩,rfl,?_⟩
 unfold eX;rw[hE,aa4 rfl,(ef h1).2.2.2.1]
theorem yR {L:List Obj} {k:Key} {e:Int} (h:aW L k true=e) (he:e≠0):e=aW L k true/\L=fl L k:=by
 refine⟨h.symm,?_⟩;unfold fl;rw[h,aa3 he]
theorem aan {L:List Obj} {k:Key} (hL:ar L) (h1:aU L k=true) (h2:k.kind=3) (h:aW L k true=0):B8 0 64 64/\
  fz L k.oid (jQ (aa L k) (EA (aa L k).bytes (Int.toNat 0) (Int.toNat 64)))=aW L k true/\cM L k.oid (jQ (aa L k) (EA (aa L k).bytes (Int.toNat 0) (Int.toNat 64)))=fl L k:=by
 have h64:Int.toNat 64=64:=rfl;have h0:Int.toNat 0=0:=rfl;obtain⟨p1,p2,_⟩:=rk (b:=fa) hL h1 h2;rw[h64,h0,K7,p1,p2,h];refine⟨⟨by omega,by omega,by omega⟩,rfl,?_⟩
 unfold fl;rw[aa4 h]
theorem wm {L:List Obj} {t f:Key} {e:Int} (h:aW L t true=e) (he:e≠0):e=cS L t f/\L=fA L t f:=by
 have:cS L t f=e:=by unfold cS;rw[h,aa3 he]
 unfold fA;rw[this,aa3 he];exact⟨rfl,rfl⟩
theorem Ip {L:List Obj} {t f:Key} {e:Int} (h:aW L t true=0) (h2:aW L f false=e) (he:e≠0):e=cS L t f/\L=fA L t f:=by
 have:cS L t f=e:=by unfold cS;rw[aa4 h,h2]
 unfold fA;rw[this,aa3 he];exact⟨rfl,rfl⟩
theorem ZC {L:List Obj} {t f:Key} (hL:ar L) (h1:aU L t=true) (h2:t.kind=3) (h:aW L t true=0) (g1:aU L f=true) (g:aW L f false=0):
  fz L t.oid (jQ (aa L t) (aa L f).bytes)=cS L t f/\cM L t.oid (jQ (aa L t) (aa L f).bytes)=fA L t f:=by
 have hE:cS L t f=0:=by unfold cS;rw[aa4 h,g]
 obtain⟨p1,p2,_⟩:=rk (b:=(aa L f).bytes) hL h1 h2;rw[p1,p2,hE];refine⟨rfl,?_⟩;unfold fA;rw[hE,aa4 rfl,(ef g1).2.2.2.1]
structure ZK where
 kind:Int
 pos:Int
 num:Int
 key:Key
 other:Key
 bytes:ByteArray
def ZK.wf (x:ZK):Prop:=bY .i64 x.kind/\bY .i64 x.pos/\bY .i64 x.num/\x.key.wf/\x.other.wf/\aw x.bytes
def Dd (L:List Obj) (a:ZK):Bool:=
 if a.kind=1 then false else if a.kind=2 then decide (cN L a.key a.pos a.bytes=0)else if a.kind=3 then decide (aW L a.key true=0)else decide (cS L a.key a.other=0)
def Li (L:List Obj) (a:ZK):List Obj:=
 if a.kind=1 then L else if a.kind=2 then eX L a.key a.pos a.bytes else if a.kind=3 then fl L a.key else fA L a.key a.other
def ue (L:List Obj) (k:Key) (i:Int) (s:ByteArray) (g:Int):Obj:=jQ (aj L k.oid.toNat free) (sV (aj L k.oid.toNat free).bytes i.toNat g.toNat s)
def qC (s:ByteArray) (g:Int):Prop:=0<=g/\g<=(s.size:Int)
def w7 (s:ByteArray) (g:Int):Nat:=s.size-g.toNat
theorem Ss {L:List Obj} {k:Key} {i:Int} {s:ByteArray}:aj L k.oid.toNat free=ue L k i s 0:=by
 unfold ue jQ;rw[show(0:Int).toNat=0 from rfl,AJ]
theorem RQ {L:List Obj} {k:Key} {i:Int} {s:ByteArray} {g:Int} (h0:0<=i) (h1:0<=g) (h:i+g<64):jQ (ue L k i s g) ((ue L k i s g).bytes.put (i+g).toNat (sat s g.toNat))=ue L k i s (g+1):=by
 unfold ue jQ;simp only;rw[show(i+g).toNat=i.toNat+g.toNat by omega,show(g+1).toNat=g.toNat+1 by omega,BP _ _ _ _ (by omega)]
theorem jr (s:ByteArray):AB s s=true:=by simp[AB]
end Go.Sx
namespace Go.Proofs.YtlblcfaclmpekaaGreat
open Go.Sx
theorem J2 (i n:Int):
 ((decide (0<=i)&&decide (0<=n)&&decide (i<=64))=true->aF IntKind.i64 (64-i))/\
   (decide (0<=i)&&decide (0<=n)&&decide (i<=64)&&decide (n<=64-i))=cB i n:=by
 unfold cB;refine⟨fun h=>?_,?_⟩
 ·simp only[aaX,aaY]at h;simp only[aF,bY];omega
 ·rfl
theorem o9:cq Tryz.prog 205 Fg:=
 nJ (gi .i64) (gi .i64) (fun _ _=>rfl) fun i n _ _=>aZ (inl:=bx) (ann:=aQ) aq (J2 i n) (by kernel_rfl)
theorem G0 (i n:Int):
 ((decide (0<=i)&&decide (0<=n)&&decide (i<=64)&&decide (n<=64))=true->aF IntKind.i64 (i+n))/\
   (decide (0<=i)&&decide (0<=n)&&decide (i<=64)&&decide (n<=64)&&decide (i+n<=64))=cB i n:=by
 unfold cB;refine⟨fun h=>?_,?_⟩
 ·simp only[aaX,aaY]at h;simp only[aF,bY]at *;omega
 ·rw[Bool.eq_iff_iff];simp only[aaX,aaY];omega
theorem tY:cq Tryz.prog 138 Fg:=
 nJ (gi .i64) (gi .i64) (fun _ _=>rfl) fun i n _ _=>aZ (inl:=bx) (ann:=aQ) aq (G0 i n) (by kernel_rfl)
theorem R4 (L:List Sx.Obj) (k:Key) (c:Bool):
 ((decide (aC L k 3 false=0)&&c&& !decide (k.rights=0))=true->191=aW L k c)/\
   ((decide (aC L k 3 false=0)&&c&& !decide (k.rights=0))=false->aC L k 3 false=aW L k c):=by
 unfold aW;refine⟨fun h=>?_,fun h=>?_⟩
 ·simp only[aaX,aaY]at h;rw[aa4 h.1.1,aa4 (by rw[h.1.2,Bool.true_and];exact h.2)]
 ·split
  ·rename_i h1;rw[decide_eq_true h1,Bool.true_and]at h;rw[aa3 (by rw[h];simp),h1]
  ·rfl
theorem vH:cq Tryz.prog 137 XI:=
 eW (aA jc (aA iF (aA DI bW))) (fun _=>rfl) fun a hq hok=>by
  obtain⟨L,k,c,_⟩:=a;exact aZ (inl:=bx) (ann:=aQ) (ae pE aq) (R4 L k c) (by kernel_rfl)
theorem JS (k:Key) (i n:Int):
 true=true/\aba (decide (ak []=0)) ((⟨#[]⟩:ByteArray)=dY [] k i n/\1=cy [] k i n) (aba (!aU [] k|| !decide (k.kind=3)) ((⟨#[]⟩:ByteArray)=dY [] k i n/\190=cy [] k i n) (aba (!cB i n) ((⟨#[]⟩:ByteArray)=dY [] k i n/\4=cy [] k i n) (aF IntKind.i64 (i+n)/\B8 i (i+n) 64/\xC (aa [] k).bytes i.toNat (i+n).toNat=dY [] k i n/\0=cy [] k i n))):=by
 delta aba
 refine⟨rfl,fun h=>rz (Lf h) (by omega),fun h=>⟨fun h2=>rz (YA h h2) (by omega),fun h2=>⟨fun h3=>yI (Zk h h2) h3,fun h3=>?_⟩⟩⟩
 rw[(ef (rr h2).1).2.2.2.1];exact yt (Zk h h2) h3
theorem K9 (L:List Sx.Obj) (k:Key) (i n:Int):
 true=true/\aba (decide (ak L=0)) ((⟨#[]⟩:ByteArray)=dY L k i n/\1=cy L k i n) (aba (!aU L k|| !decide (k.kind=3)) ((⟨#[]⟩:ByteArray)=dY L k i n/\190=cy L k i n) (aba (!cB i n) ((⟨#[]⟩:ByteArray)=dY L k i n/\4=cy L k i n) (aF IntKind.i64 (i+n)/\B8 i (i+n) 64/\xC (aa L k).bytes i.toNat (i+n).toNat=dY L k i n/\0=cy L k i n))):=by
 delta aba
 refine⟨rfl,fun h=>rz (Lf h) (by omega),fun h=>⟨fun h2=>rz (YA h h2) (by omega),fun h2=>⟨fun h3=>yI (Zk h h2) h3,fun h3=>?_⟩⟩⟩
 rw[(ef (rr h2).1).2.2.2.1];exact yt (Zk h h2) h3
theorem pD:cq Tryz.prog 203 RN:=
 eW (aA tc (aA iF (aA dO (aA dO bW)))) (fun _=>rfl) fun a hq hok=>by
  obtain⟨S,k,i,n,_⟩:=a;cases S with
  |none=>exact bj (inl:=(fun f=>f==204)) (ann:=aQ) (ae bC (ae bQ (ae o9 aq))) aD (JS k i n) (by kernel_rfl)
  |some L=>exact bj (inl:=(fun f=>f==204)) (ann:=aQ) (ae bC (ae bQ (ae o9 aq))) aD (K9 L k i n) (by kernel_rfl)
theorem TP (k:Key) (i:Int) (s:ByteArray):
 abb (aba (decide (ak []=0)) (1=cN [] k i s) (aba (!aU [] k|| !decide (k.kind=3)) (190=cN [] k i s) (aba (!decide (bm BinOp.and IntKind.i64 k.rights 1=0)) (191=cN [] k i s) (aF IntKind.i64 (bN s)/\aba (!cB i (bN s)) (4=cN [] k i s) (abb (abb (B8 i 64 64/\abb (fz [] k.oid {kind:=(aa [] k).kind,count:=(aa [] k).count,calls:=(aa [] k).calls,slots:=(aa [] k).slots,bytes:=Ks (aa [] k).bytes i.toNat (Int.toNat 64) s}=cN [] k i s)))))))):=by
 delta aba abb
 exact⟨rfl,fun h=>(wq (Lf h) (by omega)).1,fun h=>absurd h (by decide)⟩
theorem UI (k:Key) (i:Int) (s:ByteArray):
 abb (aba (decide (ak []=0)) (1=cN [] k i s) (aba (!aU [] k|| !decide (k.kind=3)) (190=cN [] k i s) (aba (!decide (bm BinOp.and IntKind.i64 k.rights 1=0)) (191=cN [] k i s) (aF IntKind.i64 (bN s)/\aba (!cB i (bN s)) (4=cN [] k i s) (abb (abb (B8 i 64 64/\abb False))))))):=by
 delta aba abb
 exact⟨rfl,fun h=>(wq (Lf h) (by omega)).1,fun h=>absurd h (by decide)⟩
theorem Wi (L:List Sx.Obj) (k:Key) (i:Int) (s:ByteArray) (hL:ar L) (hs:aw s):
 abb (aba (decide (ak L=0)) (1=cN L k i s/\L=eX L k i s) (aba (!aU L k|| !decide (k.kind=3)) (190=cN L k i s/\L=eX L k i s) (aba (!decide (bm BinOp.and IntKind.i64 k.rights 1=0)) (191=cN L k i s/\L=eX L k i s) (aF IntKind.i64 (bN s)/\aba (!cB i (bN s)) (4=cN L k i s/\L=eX L k i s) (abb (abb (B8 i 64 64/\abb (fz L k.oid {kind:=(aa L k).kind,count:=(aa L k).count,calls:=(aa L k).calls,slots:=(aa L k).slots,bytes:=Ks (aa L k).bytes i.toNat (Int.toNat 64) s}=cN L k i s/\cM L k.oid {kind:=(aa L k).kind,count:=(aa L k).count,calls:=(aa L k).calls,slots:=(aa L k).slots,bytes:=Ks (aa L k).bytes i.toNat (Int.toNat 64) s}=eX L k i s)))))))):=by
 delta aba abb
 refine⟨rfl,fun h=>wq (Lf h) (by omega),fun h=>⟨fun h2=>wq (YA h h2) (by omega),fun h2=>⟨fun h3=>wq (pg3 h h2 h3) (by omega),fun h3=>⟨?_,fun h4=>OL (Zv h h2 h3) h4,fun h4=>?_⟩⟩⟩⟩
 ·unfold aw at hs;simp only[aF,bY,bN];omega
 ·obtain⟨a,b,c⟩:=Y5 hL (rr h2).1 (rr h2).2 (Zv h h2 h3) h4;exact⟨rfl,rfl,a,rfl,b,c⟩
theorem Xi (L:List Sx.Obj) (k:Key) (i:Int) (s:ByteArray) (hL:ar L) (hs:aw s):an Tryz.prog 160 [.lp 0 0,.key k,.it .i64 i,.st s] [.store tS eS L] (C5 (.it .i64 (cN L k i s)) (eX L k i s)) (fun _ _=>False):=
 bj (inl:=(fun f=>f==204||f==206||f==207)) (ann:=aQ) (ae bC (ae bQ (ae o9 aq))) (aB dz aD) (Wi L k i s hL hs) (by kernel_rfl)
theorem CY:kJ Tryz.prog 160 ZY:=
 nV (m:=fun x=> [.key x.1,.it .i64 x.2.1,.st x.2.2]) vl (fun _=>rfl) (fun _ _=>rfl) (fun x=>bj (inl:=(fun f=>f==204||f==206||f==207)) (ann:=aQ) (ae bC (ae bQ (ae o9 aq))) (aB dz aD) (TP x.1 x.2.1 x.2.2) (by kernel_rfl)) (fun x=>bj (inl:=(fun f=>f==204||f==206||f==207)) (ann:=aQ) (ae bC (ae bQ (ae o9 aq))) (aB dz aD) (UI x.1 x.2.1 x.2.2) (by kernel_rfl)) fun L x hL _ _=>Xi L x.1 x.2.1 x.2.2 hL.1 hL.2
theorem KB (k:Key):
 abb (aba (decide (ak []=0)) (1=aW [] k true) (aba (!aU [] k|| !decide (k.kind=3)) (190=aW [] k true) (aba (!decide (bm BinOp.and IntKind.i64 k.rights 1=0)) (191=aW [] k true) (abb (abb (B8 0 64 64/\abb (fz [] k.oid {kind:=(aa [] k).kind,count:=(aa [] k).count,calls:=(aa [] k).calls,slots:=(aa [] k).slots,bytes:=EA (aa [] k).bytes (Int.toNat 0) (Int.toNat 64)}=aW [] k true))))))):=by
 delta aba abb
 exact⟨rfl,fun h=>(yR (Lf h) (by omega)).1,fun h=>absurd h (by decide)⟩
theorem M7 (k:Key):
 abb (aba (decide (ak []=0)) (1=aW [] k true) (aba (!aU [] k|| !decide (k.kind=3)) (190=aW [] k true) (aba (!decide (bm BinOp.and IntKind.i64 k.rights 1=0)) (191=aW [] k true) (abb (abb (B8 0 64 64/\abb False)))))):=by
 delta aba abb
 exact⟨rfl,fun h=>(yR (Lf h) (by omega)).1,fun h=>absurd h (by decide)⟩
theorem Ru (L:List Sx.Obj) (k:Key) (hL:ar L):
 abb (aba (decide (ak L=0)) (1=aW L k true/\L=fl L k) (aba (!aU L k|| !decide (k.kind=3)) (190=aW L k true/\L=fl L k) (aba (!decide (bm BinOp.and IntKind.i64 k.rights 1=0)) (191=aW L k true/\L=fl L k) (abb (abb (B8 0 64 64/\abb (fz L k.oid {kind:=(aa L k).kind,count:=(aa L k).count,calls:=(aa L k).calls,slots:=(aa L k).slots,bytes:=EA (aa L k).bytes (Int.toNat 0) (Int.toNat 64)}=aW L k true/\cM L k.oid {kind:=(aa L k).kind,count:=(aa L k).count,calls:=(aa L k).calls,slots:=(aa L k).slots,bytes:=EA (aa L k).bytes (Int.toNat 0) (Int.toNat 64)}=fl L k))))))):=by
 delta aba abb
 refine⟨rfl,fun h=>yR (Lf h) (by omega),fun h=>⟨fun h2=>yR (YA h h2) (by omega),fun h2=>⟨fun h3=>yR (pg3 h h2 h3) (by omega),fun h3=>?_⟩⟩⟩
 obtain⟨a,b,c⟩:=aan hL (rr h2).1 (rr h2).2 (Zv h h2 h3);exact⟨rfl,rfl,a,rfl,b,c⟩
theorem SK (L:List Sx.Obj) (k:Key) (hL:ar L):an Tryz.prog 162 [.lp 0 0,.key k] [.store tS eS L] (C5 (.it .i64 (aW L k true)) (fl L k)) (fun _ _=>False):=
 bj (inl:=(fun f=>f==204||f==206||f==208)) (ann:=aQ) (ae bC (ae bQ aq)) (aB dz aD) (Ru L k hL) (by kernel_rfl)
theorem Ta:kJ Tryz.prog 162 XY:=
 nV (m:=fun x=> [.key x]) OU (fun _=>rfl) (fun _ _=>rfl) (fun x=>bj (inl:=(fun f=>f==204||f==206||f==208)) (ann:=aQ) (ae bC (ae bQ aq)) (aB dz aD) (KB x) (by kernel_rfl)) (fun x=>bj (inl:=(fun f=>f==204||f==206||f==208)) (ann:=aQ) (ae bC (ae bQ aq)) (aB dz aD) (M7 x) (by kernel_rfl)) fun L x hL _ _=>SK L x hL
theorem Rg (t f:Key):
 abb (aba (decide (ak []=0)) (1=cS [] t f) (aba (!aU [] t|| !decide (t.kind=3)) (190=cS [] t f) (aba (!decide (bm BinOp.and IntKind.i64 t.rights 1=0)) (191=cS [] t f) (abb (aba (decide (ak []=0)) (1=cS [] t f) (aba (!aU [] f|| !decide (f.kind=3)) (190=cS [] t f) (abb (abb (abb (fz [] t.oid {kind:=(aa [] t).kind,count:=(aa [] t).count,calls:=(aa [] t).calls,slots:=(aa [] t).slots,bytes:=(aa [] f).bytes}=cS [] t f)))))))))):=by
 delta aba abb
 exact⟨rfl,fun h=>(wm (Lf h) (by omega)).1,fun h=>absurd h (by decide)⟩
theorem TB (t f:Key):
 abb (aba (decide (ak []=0)) (1=cS [] t f) (aba (!aU [] t|| !decide (t.kind=3)) (190=cS [] t f) (aba (!decide (bm BinOp.and IntKind.i64 t.rights 1=0)) (191=cS [] t f) (abb (aba (decide (ak []=0)) (1=cS [] t f) (aba (!aU [] f|| !decide (f.kind=3)) (190=cS [] t f) (abb (abb (abb False))))))))):=by
 delta aba abb
 exact⟨rfl,fun h=>(wm (Lf h) (by omega)).1,fun h=>absurd h (by decide)⟩
theorem WW (L:List Sx.Obj) (t f:Key) (hL:ar L):
 abb (aba (decide (ak L=0)) (1=cS L t f/\L=fA L t f) (aba (!aU L t|| !decide (t.kind=3)) (190=cS L t f/\L=fA L t f) (aba (!decide (bm BinOp.and IntKind.i64 t.rights 1=0)) (191=cS L t f/\L=fA L t f) (abb (aba (decide (ak L=0)) (1=cS L t f/\L=fA L t f) (aba (!aU L f|| !decide (f.kind=3)) (190=cS L t f/\L=fA L t f) (abb (abb (abb (fz L t.oid {kind:=(aa L t).kind,count:=(aa L t).count,calls:=(aa L t).calls,slots:=(aa L t).slots,bytes:=(aa L f).bytes}=cS L t f/\cM L t.oid {kind:=(aa L t).kind,count:=(aa L t).count,calls:=(aa L t).calls,slots:=(aa L t).slots,bytes:=(aa L f).bytes}=fA L t f)))))))))):=by
 delta aba abb
 refine⟨rfl,fun h=>wm (Lf h) (by omega),fun h=>⟨fun h2=>wm (YA h h2) (by omega),fun h2=>⟨fun h3=>wm (pg3 h h2 h3) (by omega),fun h3=>⟨rfl,fun h'=>?_,fun _=>⟨fun h5=>Ip (Zv h h2 h3) (YA h h5) (by omega),fun h5=>?_⟩⟩⟩⟩⟩
 ·rw[h]at h';simp at h'
 ·obtain⟨b,c⟩:=ZC hL (rr h2).1 (rr h2).2 (Zv h h2 h3) (rr h5).1 (Zk h h5);exact⟨rfl,rfl,rfl,b,c⟩
theorem V4 (L:List Sx.Obj) (t f:Key) (hL:ar L):an Tryz.prog 164 [.lp 0 0,.key t,.key f] [.store tS eS L] (C5 (.it .i64 (cS L t f)) (fA L t f)) (fun _ _=>False):=
 bj (inl:=(fun f=>f==204||f==206||f==209)) (ann:=aQ) (ae bC (ae bQ aq)) (aB dz aD) (WW L t f hL) (by kernel_rfl)
theorem Xz:kJ Tryz.prog 164 YW:=
 nV (m:=fun x=> [.key x.1,.key x.2]) IF (fun _=>rfl) (fun _ _=>rfl) (fun x=>bj (inl:=(fun f=>f==204||f==206||f==209)) (ann:=aQ) (ae bC (ae bQ aq)) (aB dz aD) (Rg x.1 x.2) (by kernel_rfl)) (fun x=>bj (inl:=(fun f=>f==204||f==206||f==209)) (ann:=aQ) (ae bC (ae bQ aq)) (aB dz aD) (TB x.1 x.2) (by kernel_rfl)) fun L x hL _ _=>V4 L x.1 x.2 hL
end Go.Proofs.YtlblcfaclmpekaaGreat
namespace Go.Sx
def jE (o:Obj):Bool:=decide (o.kind=0)&&decide (4294967295<=o.count)
def fF (o:Obj):Bool:=decide (o.kind=0)&&decide (o.count<4294967295)
def G1 (o:Obj):Obj:=⟨3,o.count,0,gU,fa⟩
def ma (o:Obj) (kind:Int):Obj:=⟨kind,o.count+1,0,gU,fa⟩
def Am (o:Obj):Obj:=⟨0,o.count,0,gU,fa⟩
def lI (L:List Obj) (p:Nat->Obj->Bool) (t:Obj->Obj):List Obj:=(List.range L.length).map fun j=>if p j (aj L j free)then t (aj L j free)else aj L j free
def bM (L:List Obj) (f g:Int):List Obj:=lI L (fun j o=>decide (f<=(j:Int))&&decide ((j:Int)<g)&&jE o) G1
def kM (L:List Obj) (f g:Int):Prop:=∀j:Nat,f<=(j:Int)->(j:Int)<g->fF (aj L j free)=false
def lT (L:List Obj) (f g:Int):Bool:=(List.range L.length).any fun(j:Nat)=>decide (f<=(j:Int))&&decide ((j:Int)<g)&&jE (aj L j free)
def bu (L:List Obj) (f l:Int):Int:=match (List.range L.length).find? fun(j:Nat)=>decide (f<=(j:Int))&&decide ((j:Int)<=l)&&fF (aj L j free)with
 |some j=>(j:Int)
 |none=> -1
def cH (L:List Obj) (f l kind:Int):List Obj:=if bu L f l= -1 then bM L f (l+1)else cz (bM L f (bu L f l)) (bu L f l).toNat (ma (aj L (bu L f l).toNat free) kind)
def lH (L:List Obj) (f l:Int):Bool:= !decide (bu L f l= -1)||lT L f (l+1)
def de (kind oid count:Int):Key:=⟨if kind=2 then 3 else 2,oid,count,0,0,0⟩
def iG (o:Obj) (n:Int):Bool:=decide ((o.slots.at 0).kind=1)&&decide ((o.slots.at 1).kind=1)&&decide (0<=(o.slots.at 0).value)&&decide ((o.slots.at 0).value<=(o.slots.at 1).value)&&decide ((o.slots.at 1).value<n)
def aN (L:List Obj) (k:Key):Int:=if aC L k 4 false=0 then(if iG (aj L k.oid.toNat free) (ai L:Int)then 0 else 220)else aC L k 4 false
def az (L:List Obj) (k:Key):Int:=((aj L k.oid.toNat free).slots.at 0).value
def aI (L:List Obj) (k:Key):Int:=((aj L k.oid.toNat free).slots.at 1).value
def aM (L:List Obj) (k:Key):Int:=if aN L k=0 then az L k else 0
def aE (L:List Obj) (k:Key):Int:=if aN L k=0 then aI L k else 0
def gE (L:List Obj) (k:Key) (kind:Int):Int:=if aN L k=0 then(if kind=1\/kind=2 then 0 else 2)else aN L k
def cx (L:List Obj) (k:Key) (kind:Int):Int:=if gE L k kind=0 then(if bu L (az L k) (aI L k)= -1 then 221 else 0)else gE L k kind
def ft (L:List Obj) (k:Key) (kind:Int):List Obj:=if gE L k kind=0 then cH L (az L k) (aI L k) kind else L
def gF (L:List Obj) (k:Key) (kind:Int):Bool:=decide (gE L k kind=0)&&lH L (az L k) (aI L k)
def dc (L:List Obj) (k:Key) (kind:Int):Key:=if cx L k kind=0 then de kind (bu L (az L k) (aI L k)) ((aj L (bu L (az L k) (aI L k)).toNat free).count+1)else void
def jb (L:List Obj) (v:Key):Bool:=aU L v&&(decide (v.kind=2)||decide (v.kind=3))
def cC (L:List Obj) (k v:Key):Int:=if aN L k=0 then(if jb L v then(if az L k<=v.oid/\v.oid<=aI L k/\v.oid≠k.oid then 0 else 4)else 5)else aN L k
def gB (L:List Obj) (k v:Key):List Obj:=if cC L k v=0 then cz L v.oid.toNat (Am (aj L v.oid.toNat free))else L
def jM (L:List Obj) (k v:Key):Bool:=decide (cC L k v=0)
def mH (o:Obj):Bool:=decide (o.kind=1)||decide (o.kind=2)
def lz (f g oid:Int) (j:Nat) (o:Obj):Bool:=decide (f<=(j:Int))&&decide ((j:Int)<g)&&mH o&& !decide ((j:Int)=oid)
def dR (L:List Obj) (f g oid:Int):List Obj:=lI L (lz f g oid) Am
def eU (L:List Obj) (f g oid:Int):Int:=(((List.range L.length).filter fun j=>lz f g oid j (aj L j free)).length:Int)
def g9 (L:List Obj) (k:Key):List Obj:=if aN L k=0 then dR L (az L k) (aI L k+1) k.oid else L
def fD (L:List Obj) (k:Key):Int:=if aN L k=0 then eU L (az L k) (aI L k+1) k.oid else 0
def kR (L:List Obj) (k:Key):Bool:=decide (aN L k=0)&& !decide (eU L (az L k) (aI L k+1) k.oid=0)
def jz (L:List Obj) (k v:Key):Bool:=decide (aN L k=0)&&jb L v&&decide (az L k<=v.oid)&&decide (v.oid<=aI L k)
theorem jn {L:List Obj} {p:Nat->Obj->Bool} {t:Obj->Obj}:(lI L p t).length=L.length:=by simp[lI]
theorem kF {L:List Obj} {p:Nat->Obj->Bool} {t:Obj->Obj} {j:Nat} (h:j<L.length):aj (lI L p t) j free=if p j (aj L j free)then t (aj L j free)else aj L j free:=by
 rw[show aj (lI L p t) j free=(lI L p t).getD j free from rfl,aa2];unfold lI;rw[List.getElem?_map,List.getElem?_range h];rfl
theorem yO {L:List Obj} {p:Nat->Obj->Bool} {t:Obj->Obj} (h:∀j,j<L.length->p j (aj L j free)=false):lI L p t=L:=by
 refine qT jn fun j hj=>?_
 rw[jn]at hj;rw[kF hj,h j hj];rfl
theorem Fa {L:List Obj} {p p':Nat->Obj->Bool} {t:Obj->Obj} {g:Nat} (hg:g<L.length) (hp:∀j,j≠g->p' j (aj L j free)=p j (aj L j free)) (h1:p' g (aj L g free)=true):
  cz (lI L p t) g (t (aj L g free))=lI L p' t:=by
 refine qT (by rw[iv,jn,jn]) fun j hj=>?_
 rw[iv,jn]at hj;rw[gg (by rw[jn];exact hg),kF hj,kF hj]
 by_cases e:j=g
 ·subst e;rw[aa4 rfl,h1,aa4 rfl]
 ·rw[aa3 e,hp j e]
theorem AE {L:List Obj} {p p':Nat->Obj->Bool} {t:Obj->Obj} (hp:∀j,j<L.length->p' j (aj L j free)=p j (aj L j free)):lI L p' t=lI L p t:=by
 refine qT (by rw[jn,jn]) fun j hj=>?_
 rw[jn]at hj;rw[kF hj,kF hj,hp j hj]
theorem kL {L:List Obj} {f g:Int}:(bM L f g).length=L.length:=jn
theorem D2 {L:List Obj} {f:Int}:L=bM L f f:=by
 symm
 refine yO fun j hj=>?_
 simp only[Bool.and_eq_false_iff,decide_eq_false_iff_not];omega
theorem C2 {L:List Obj} {f g:Int} (h0:0<=g):aj (bM L f g) g.toNat free=aj L g.toNat free:=by
 by_cases h:g.toNat<L.length
 ·unfold bM;rw[kF h,aa3];simp only[aaX,aaY];omega
 ·rw[show aj (bM L f g) g.toNat free=free by simp[aj,aa2,List.getElem?_eq_none (show(bM L f g).length<=g.toNat by rw[kL];omega)]]
  simp[aj,aa2,List.getElem?_eq_none (show L.length<=g.toNat by omega)]
theorem ya {L:List Obj} {f g:Int} (h0:0<=g) (h1:g<(L.length:Int)) (hf:f<=g) (hr:jE (aj L g.toNat free)=true):cz (bM L f g) g.toNat (G1 (aj L g.toNat free))=bM L f (g+1):=by
 refine Fa (by omega) (fun j hj=>?_) ?_
 ·have:decide ((j:Int)<g+1)=decide ((j:Int)<g):=by rw[decide_eq_decide];omega
  rw[this]
 ·rw[hr];simp;omega
theorem Ad {L:List Obj} {f g:Int} (h0:0<=g) (hr:jE (aj L g.toNat free)=false):bM L f (g+1)=bM L f g:=by
 refine AE fun j hj=>?_
 by_cases e:(j:Int)=g
 ·rw[show j=g.toNat by omega,hr,Bool.and_false,Bool.and_false]
 ·have:decide ((j:Int)<g+1)=decide ((j:Int)<g):=by rw[decide_eq_decide];omega
  rw[this]
theorem VA {L:List Obj} {f l g:Int} (h0:0<=f) (hf:f<=g) (hl:g<=l) (hg:g<(L.length:Int)) (hn:kM L f g) (hw:fF (aj L g.toNat free)=true):bu L f l=g:=by
 unfold bu
 have:(List.range L.length).find? (fun(j:Nat)=>decide (f<=(j:Int))&&decide ((j:Int)<=l)&&fF (aj L j free))=some g.toNat:=by
  rw[List.find?_eq_some_iff_getElem];refine⟨by rw[hw];simp;omega,g.toNat,by simp;omega,by simp,fun j hj=>?_⟩
  simp only[List.getElem_range,Bool.not_eq_true',Bool.and_eq_false_iff,decide_eq_false_iff_not];by_cases e:f<=(j:Int)
  ·right;exact hn j e (by omega)
  ·left;left;exact e
 rw[this];show((g.toNat:Nat):Int)=g
 omega
theorem O6 {L:List Obj} {f l:Int} (hn:kM L f (l+1)):bu L f l= -1:=by
 unfold bu
 have:(List.range L.length).find? (fun(j:Nat)=>decide (f<=(j:Int))&&decide ((j:Int)<=l)&&fF (aj L j free))=none:=by
  rw[List.find?_eq_none];intro j hj h;simp only[aaX,aaY]at h;rw[hn j h.1.1 (by omega)]at h
  simp at h
 rw[this]
theorem jV {L:List Obj} {f g:Int} (h:kM L f g) (hg:fF (aj L g.toNat free)=false):kM L f (g+1):=fun j h1 h2=>by
 by_cases e:(j:Int)=g
 ·rw[show j=g.toNat by omega];exact hg
 ·exact h j h1 (by omega)
theorem tz {L:List Obj} {f:Int}:kM L f f:=fun j h1 h2=>by omega
theorem I5 {L:List Obj} {f:Int}:lT L f f=false:=by
 unfold lT;rw[List.any_eq_false];intro j hj h;simp only[aaX,aaY]at h;omega
theorem ES {L:List Obj} {f g:Int} (h0:0<=g) (h1:g<(L.length:Int)) (hf:f<=g) (hr:jE (aj L g.toNat free)=true):lT L f (g+1)=true:=by
 unfold lT;rw[List.any_eq_true];exact⟨g.toNat,by simp;omega,by rw[hr];simp;omega⟩
theorem HN {L:List Obj} {f g:Int} (h0:0<=g) (hr:jE (aj L g.toNat free)=false):lT L f (g+1)=lT L f g:=by
 unfold lT;rw[Bool.eq_iff_iff,List.any_eq_true,List.any_eq_true];refine exists_congr fun j=>and_congr_right fun _=>?_
 simp only[aaX,aaY];constructor
 ·rintro⟨⟨a,b⟩,c⟩
  refine⟨⟨a,?_⟩,c⟩;by_cases e:(j:Int)=g
  ·rw[show j=g.toNat by omega,hr]at c;simp at c
  ·omega
 ·rintro⟨⟨a,b⟩,c⟩
  exact⟨⟨a,by omega⟩,c⟩
theorem Dk {L:List Obj} {f g oid:Int}:(dR L f g oid).length=L.length:=jn
theorem zh {L:List Obj} {f g oid:Int} (h:eU L f g oid=0):dR L f g oid=L:=by
 refine yO fun j hj=>?_
 unfold eU at h;have h2:((List.range L.length).filter fun j=>lz f g oid j (aj L j free))= []:=List.eq_nil_of_length_eq_zero (by omega)
 rw[List.filter_eq_nil_iff]at h2;have:=h2 j (by simp;omega)
 simpa using this
theorem vh {L:List Obj} {f oid:Int}:eU L f f oid=0:=by
 unfold eU;rw[show((List.range L.length).filter fun j=>lz f f oid j (aj L j free))= []from ?_]
 ·rfl
 ·rw[List.filter_eq_nil_iff];intro j hj;unfold lz;simp only[aaX,aaY];omega
theorem MJ {L:List Obj} {f oid:Int}:L=dR L f f oid:=(zh vh).symm
theorem LR {L:List Obj} {f g oid:Int} (h0:0<=g):aj (dR L f g oid) g.toNat free=aj L g.toNat free:=by
 by_cases h:g.toNat<L.length
 ·unfold dR;rw[kF h,aa3];unfold lz;simp only[aaX,aaY];omega
 ·rw[show aj (dR L f g oid) g.toNat free=free by simp[aj,aa2,List.getElem?_eq_none (show(dR L f g oid).length<=g.toNat by rw[Dk];omega)]]
  simp[aj,aa2,List.getElem?_eq_none (show L.length<=g.toNat by omega)]
def j3 (L:List Obj) (g oid:Int):Bool:=mH (aj L g.toNat free)&& !decide (g=oid)
theorem B4 {L:List Obj} {f g oid:Int} (h0:0<=g) (hf:f<=g):lz f (g+1) oid g.toNat (aj L g.toNat free)=j3 L g oid:=by
 unfold lz j3;rw[show((g.toNat:Nat):Int)=g by omega]
 have a:decide (f<=g)=true:=by simp;omega
 have b:decide (g<g+1)=true:=by simp;omega
 rw[a,b];simp
theorem xK {L:List Obj} {f g oid:Int} {j:Nat} (h:(j:Int)≠g) (o:Obj):lz f (g+1) oid j o=lz f g oid j o:=by
 unfold lz;have:decide ((j:Int)<g+1)=decide ((j:Int)<g):=by rw[decide_eq_decide];omega
 rw[this]
theorem CN {f g oid:Int} {j:Nat} (h:(j:Int)=g) (o:Obj):lz f g oid j o=false:=by
 unfold lz;have:decide ((j:Int)<g)=false:=by simp;omega
 rw[this];simp
theorem Cd {L:List Obj} {f g oid:Int} (h0:0<=g) (h1:g<(L.length:Int)) (hf:f<=g) (hr:j3 L g oid=true):cz (dR L f g oid) g.toNat (Am (aj L g.toNat free))=dR L f (g+1) oid:=
 Fa (by omega) (fun j hj=>xK (L:=L) (by omega) _) (by rw[B4 h0 hf];exact hr)
theorem yz {L:List Obj} {f g oid:Int} (h0:0<=g) (hf:f<=g) (hr:j3 L g oid=false):dR L f (g+1) oid=dR L f g oid:=by
 refine AE fun j hj=>?_
 by_cases e:(j:Int)=g
 ·rw[show j=g.toNat by omega,B4 h0 hf,hr,CN (by omega)]
 ·exact xK (L:=L) e _
theorem uV {L:List Obj} {f g oid:Int} (h0:0<=g) (hf:f<=g) (hr:j3 L g oid=false):eU L f (g+1) oid=eU L f g oid:=by
 unfold eU;rw[show((List.range L.length).filter fun j=>lz f (g+1) oid j (aj L j free))=(List.range L.length).filter fun j=>lz f g oid j (aj L j free)from List.filter_congr fun j hj=>?_]
 by_cases e:(j:Int)=g
 ·rw[show j=g.toNat by omega,B4 h0 hf,hr,CN (by omega)]
 ·exact xK (L:=L) e _
theorem filter_one {l:List Nat} {p p':Nat->Bool} {g:Nat} (hn:l.Nodup) (hg:g∈l) (hp:∀j,j≠g->p' j=p j) (h0:p g=false) (h1:p' g=true):(l.filter p').length=(l.filter p).length+1:=by
 induction l with
 |nil=>simp at hg
 |cons a l ih=>
  rw[List.nodup_cons]at hn;by_cases e:a=g
  ·subst e;have:l.filter p'=l.filter p:=List.filter_congr fun j hj=>hp j fun e=>hn.1 (e▸hj)
   rw[List.filter_cons,List.filter_cons,h0,h1,aa4 rfl,aa3 (by simp),this]
   simp
  ·have hg2:g∈l:=by
    rcases List.mem_cons.1 hg with h|h
    ·exact absurd h.symm e
    ·exact h
   rw[List.filter_cons,List.filter_cons,hp a e];split
   ·simp only[List.length_cons];rw[ih hn.2 hg2]
   ·exact ih hn.2 hg2
theorem yx {L:List Obj} {f g oid:Int} (h0:0<=g) (h1:g<(L.length:Int)) (hf:f<=g) (hr:j3 L g oid=true):eU L f (g+1) oid=eU L f g oid+1:=by
 unfold eU;have:=filter_one (l:=List.range L.length) (p:=fun j=>lz f g oid j (aj L j free)) (p':=fun j=>lz f (g+1) oid j (aj L j free)) (g:=g.toNat) List.nodup_range (by simp;omega) (fun j hj=>xK (L:=L) (by omega) _) (CN (by omega) _) (by show lz f (g+1) oid g.toNat (aj L g.toNat free)=true;rw[B4 h0 hf];exact hr)
 omega
theorem tH {L:List Obj} {f g oid:Int}:0<=eU L f g oid:=by unfold eU;omega
theorem PY {L:List Obj} {f g oid:Int}:eU L f g oid<=(L.length:Int):=by
 unfold eU;have:=List.length_filter_le (fun j=>lz f g oid j (aj L j free)) (List.range L.length)
 rw[List.length_range]at this;omega
theorem Cn {n:Int} {kind count:Int} (h1:1<=n) (h2:n<=64) (h3:0<=kind) (h4:kind<=3) (h5:0<=count) (h6:count<=4294967295):bP ⟨kind,count,0,gU,fa⟩ n=true:=by
 rw[dT];refine⟨h1,h2,h3,h4,h5,h6,by simp,by simp,.inr rfl,fun i hi=>?_,fun i hi=>?_⟩
 ·simp only[yN];unfold jm;rw[nc.1,nc.2];simp;omega
 ·have hz:=Hh.1 (show fa=fa from rfl) i hi;first|exact .inr (.inr hz)|exact hz|simp[hz]
theorem j7 {o:Obj} {n:Int} (h:bP o n=true):0<=o.count/\o.count<=4294967295/\0<=o.kind/\o.kind<=3/\1<=n/\n<=64:=by
 obtain⟨a1,a2,a3,a4,a5,a6,_⟩:=dT.1 h;exact⟨a5,a6,a3,a4,a1,a2⟩
theorem Cb {o:Obj} {n:Int} (h:bP o n=true):bP (G1 o) n=true:=by
 obtain⟨a,b,c,d,e,f⟩:=j7 h;exact Cn e f (by omega) (by omega) a b
theorem yv {o:Obj} {n:Int} (h:bP o n=true):bP (Am o) n=true:=by
 obtain⟨a,b,c,d,e,f⟩:=j7 h;exact Cn e f (by omega) (by omega) a b
theorem Dq {o:Obj} {n kind:Int} (h:bP o n=true) (hn:fF o=true) (hk:kind=1\/kind=2):bP (ma o kind) n=true:=by
 obtain⟨a,b,c,d,e,f⟩:=j7 h;unfold fF at hn;simp only[aaX,aaY]at hn;exact Cn e f (by omega) (by omega) (by omega) (by omega)
theorem HL {L:List Obj} {p:Nat->Obj->Bool} {t:Obj->Obj} (h:ar L) (ht:∀o,bP o (L.length:Int)=true->bP (t o) (L.length:Int)=true):ar (lI L p t):=by
 refine L4 h jn fun j hj=>?_
 rw[kF hj];split
 ·exact ht _ (dq h j hj)
 ·exact dq h j hj
theorem GY {L:List Obj} {f g:Int} (h:ar L):ar (bM L f g):=HL h fun o ho=>Cb ho
def kB:ld (Key×Unit):=bc kA gK
def O2:ld (Key×Key×Unit):=bc kA (bc kA gK)
def Sf:ld (Key×Int×Unit):=bc kA (bc iA gK)
def i3B:ld (Int×Int×Int×Unit):=bc iA (bc iA (bc iA gK))
theorem E5:gR kB:=aA iF bW
theorem wh:gR O2:=aA iF (aA iF bW)
theorem Cx:gR Sf:=aA iF (aA dO bW)
theorem Wq:gR i3B:=aA dO (aA dO (aA dO bW))
def EF (L:List Obj) (f l:Int):Prop:=ar L/\0<=f/\l<(ai L:Int)/\f<=l+1
def QX:Ct:=s6 (bc As kB) (fun _=>none) fun x=> .tp [.it .i64 (aM x.1 x.2.1),.it .i64 (aE x.1 x.2.1),.it .i64 (aN x.1 x.2.1)]
def Mj:ke:=Ar (um i3B) (fun L x=>EF L x.1 x.2.1) (fun L x=>lH L x.1 x.2.1) (fun L x=>cH L x.1 x.2.1 x.2.2.1) fun L x=> [.it .i64 (bu L x.1 x.2.1)]
def RD:ke:=Ar (um Sf) (fun L _=>ar L) (fun L x=>gF L x.1 x.2.1) (fun L x=>ft L x.1 x.2.1) fun L x=> [.key (dc L x.1 x.2.1),.it .i64 (cx L x.1 x.2.1)]
def We:ke:=Ar (um O2) (fun L _=>ar L) (fun L x=>jM L x.1 x.2.1) (fun L x=>gB L x.1 x.2.1) fun L x=> [.it .i64 (cC L x.1 x.2.1)]
def Sj:ke:=Ar (um kB) (fun L _=>ar L) (fun L x=>kR L x.1) (fun L x=>g9 L x.1) fun L x=> [.it .i64 (fD L x.1),.it .i64 (aN L x.1)]
def TC:Ct:=s6 (bc As O2) (fun _=>none) fun x=> .tp [.bo (jz x.1 x.2.1 x.2.2.1),.it .i64 (aN x.1 x.2.1)]
def uX (L:List Obj) (f l:Int) (g:Int):Prop:=f<=g/\g<=l+1/\kM L f g/\lT L f g=false
def rY (L:List Obj) (f l:Int) (g:Int):Prop:=f<=g/\g<=l+1/\kM L f g/\lT L f g=true
def Wh:Ct:=mk3 (rI .i64) (rI .i64) (rI .i64) fun a b c=> .key (de a b c)
theorem Ap {L:List Obj} {f g:Int} (h:lT L f g=false):bM L f g=L:=by
 refine yO fun j hj=>?_
 unfold lT at h;rw[List.any_eq_false]at h;simpa using h j (by simpa using hj)
theorem xM {o:Obj} (h:o.kind≠0):jE o=false/\fF o=false:=by simp[jE,fF,h]
theorem C1 {o:Obj} (h:o.kind=0) (h2:4294967295<=o.count):jE o=true/\fF o=false:=by simp[jE,fF,h,h2]
theorem Du {o:Obj} (h:o.kind=0) (h2:¬4294967295<=o.count):jE o=false/\fF o=true:=by
 refine⟨by simp[jE,h2],?_⟩
 simp only[fF,aaX,aaY];omega
theorem yj {L:List Obj} {f l g:Int} (kind:Int) (h0:0<=f) (hf:f<=g) (hl:g<=l) (hg:g<(L.length:Int)) (hn:kM L f g) (hw:fF (aj L g.toNat free)=true):
  bu L f l=g/\lH L f l=true/\cH L f l kind=cz (bM L f g) g.toNat (ma (aj L g.toNat free) kind):=by
 have e:=VA h0 hf hl hg hn hw;refine⟨e,?_,?_⟩
 ·unfold lH;rw[e];simp;left;omega
 ·unfold cH;rw[e,aa3 (by omega)]
theorem CR {L:List Obj} {f l:Int} (kind:Int) (hn:kM L f (l+1)):bu L f l= -1/\cH L f l kind=bM L f (l+1)/\lH L f l=lT L f (l+1):=by
 have e:=O6 hn;refine⟨e,?_,?_⟩
 ·unfold cH;rw[e,aa4 rfl]
 ·unfold lH;rw[e];rfl
theorem Pb (o:Obj) (n:Nat):(!decide ((o.slots.at 0).kind=1)|| !decide ((o.slots.at 1).kind=1)||decide ((o.slots.at 0).value<0)||decide ((o.slots.at 1).value<(o.slots.at 0).value)||decide (bD n<=(o.slots.at 1).value))= !iG o (n:Int):=by
 unfold iG bD;rw[Bool.eq_iff_iff];simp only[Bool.or_eq_true,Bool.not_eq_true',Bool.and_eq_false_iff,aaY,decide_eq_false_iff_not];omega
theorem F5 {L:List Obj} {k:Key} (h:aC L k 4 false≠0):aN L k=aC L k 4 false/\aM L k=0/\aE L k=0:=by
 have e:aN L k=aC L k 4 false:=by unfold aN;rw[aa3 h]
 refine⟨e,?_,?_⟩
 ·unfold aM;rw[e,aa3 h]
 ·unfold aE;rw[e,aa3 h]
theorem B6 {L:List Obj} {k:Key} (h:aC L k 4 false=0) (h2:iG (aj L k.oid.toNat free) (ai L:Int)=false):aN L k=220/\aM L k=0/\aE L k=0:=by
 have e:aN L k=220:=by unfold aN;rw[aa4 h,h2];rfl
 refine⟨e,?_,?_⟩
 ·unfold aM;rw[e];rfl
 ·unfold aE;rw[e];rfl
theorem vG {L:List Obj} {k:Key} (h:aC L k 4 false=0) (h2:iG (aj L k.oid.toNat free) (ai L:Int)=true):aN L k=0/\aM L k=az L k/\aE L k=aI L k:=by
 have e:aN L k=0:=by unfold aN;rw[aa4 h,h2];rfl
 refine⟨e,?_,?_⟩
 ·unfold aM;rw[e];rfl
 ·unfold aE;rw[e];rfl
theorem mL {L:List Obj} {k:Key} (h:aN L k=0):aC L k 4 false=0/\0<=az L k/\az L k<=aI L k/\aI L k<(L.length:Int)/\0<=k.oid/\k.oid<(L.length:Int):=by
 have ha:aC L k 4 false=0:=by
  unfold aN at h;split at h
  ·assumption
  ·rename_i h1;exact absurd h h1
 have hb:iG (aj L k.oid.toNat free) (ai L:Int)=true:=by
  cases hb:iG (aj L k.oid.toNat free) (ai L:Int)with
  |true=>rfl
  |false=>rw[(B6 ha hb).1]at h;simp at h
 obtain⟨_,b2,b3,_⟩:=ef (gw ha).1;unfold iG at hb;simp only[aaX,aaY]at hb;obtain⟨⟨⟨⟨_,_⟩,h3⟩,h4⟩,h5⟩:=hb;exact⟨ha,h3,h4,h5,b2,b3⟩
theorem wK {L:List Obj} {f l:Int} (h0:0<=f):bu L f l= -1\/(f<=bu L f l/\bu L f l<=l/\bu L f l<(L.length:Int)/\fF (aj L (bu L f l).toNat free)=true):=by
 unfold bu;split
 ·rename_i j hj;right
  have h1:=List.find?_some hj;have h2:=List.mem_of_find?_eq_some hj;simp only[aaX,aaY]at h1;rw[List.mem_range]at h2;exact⟨h1.1.1,h1.1.2,by omega,h1.2⟩
 ·exact .inl rfl
theorem vu {L:List Obj} {f l kind:Int}:(cH L f l kind).length=L.length:=by
 unfold cH;split
 ·exact kL
 ·rw[iv,kL]
theorem PZ {L:List Obj} {f l kind:Int} (h0:0<=f) (h:bu L f l≠ -1):aj (cH L f l kind) (bu L f l).toNat free=ma (aj L (bu L f l).toNat free) kind:=by
 rcases wK (L:=L) (l:=l) h0 with e|⟨a,b,c,d⟩
 ·exact absurd e h
 ·unfold cH;rw[aa3 h,gg (by rw[kL];omega),aa4 rfl]
theorem CI {L:List Obj} {f l:Int} (h:bu L f l≠ -1):lH L f l=true:=by unfold lH;simp[h]
theorem Bx {L:List Obj} {k:Key} (h:aN L k=0):aM L k=az L k/\aE L k=aI L k:=by
 unfold aM aE;rw[aa4 h,aa4 h];exact⟨rfl,rfl⟩
theorem Q4 {L:List Obj} {k:Key} {kind:Int} (h:aN L k=0) (h1:kind≠1) (h2:kind≠2):gF L k kind=false/\void=dc L k kind/\2=cx L k kind:=by
 have e:gE L k kind=2:=by unfold gE;rw[aa4 h,aa3 (by omega)]
 have e2:cx L k kind=2:=by unfold cx;rw[e];rfl
 refine⟨by unfold gF;rw[e];rfl,by unfold dc;rw[e2];rfl,e2.symm⟩
theorem RY {L:List Obj} {k:Key} {kind:Int} (h:aN L k≠0):gF L k kind=false/\void=dc L k kind/\aN L k=cx L k kind:=by
 have e:gE L k kind=aN L k:=by unfold gE;rw[aa3 h]
 have e2:cx L k kind=aN L k:=by unfold cx;rw[e,aa3 h]
 refine⟨by unfold gF;rw[e];simp[h],by unfold dc;rw[e2,aa3 h],e2.symm⟩
theorem yS {L:List Obj} {k:Key} {kind:Int} (h:aN L k=0) (hk:kind=1\/kind=2) (hi:bu L (az L k) (aI L k)= -1):gF L k kind=lH L (az L k) (aI L k)/\void=dc L k kind/\221=cx L k kind/\cH L (az L k) (aI L k) kind=ft L k kind:=by
 have e:gE L k kind=0:=by unfold gE;rw[aa4 h,aa4 hk]
 have e2:cx L k kind=221:=by unfold cx;rw[aa4 e,aa4 hi]
 refine⟨by unfold gF;rw[e];simp,by unfold dc;rw[e2];rfl,e2.symm,by unfold ft;rw[aa4 e]⟩
theorem HG {L:List Obj} {k:Key} {kind:Int} (h:aN L k=0) (hk:kind=1\/kind=2) (hi:bu L (az L k) (aI L k)≠ -1):gF L k kind=true/\Key.mk (1+kind) (bu L (az L k) (aI L k)) (aj (cH L (az L k) (aI L k) kind) (bu L (az L k) (aI L k)).toNat free).count 0 0 0=dc L k kind/\0=cx L k kind/\cH L (az L k) (aI L k) kind=ft L k kind:=by
 have e:gE L k kind=0:=by unfold gE;rw[aa4 h,aa4 hk]
 have e2:cx L k kind=0:=by unfold cx;rw[aa4 e,aa3 hi]
 refine⟨by unfold gF;rw[e,CI hi];rfl,?_,e2.symm,by unfold ft;rw[aa4 e]⟩
 unfold dc;rw[aa4 e2,PZ (mL h).2.1 hi];unfold de ma;rcases hk with rfl|rfl<;>rfl
theorem zq {L:List Obj} {v:Key}:jb L v= !(!aU L v|| !decide (v.kind=2)&& !decide (v.kind=3)):=by unfold jb;cases aU L v<;>cases decide (v.kind=2)<;>cases decide (v.kind=3)<;>rfl
theorem EW {L:List Obj} {v:Key} (h:jb L v=true):aU L v=true:=by unfold jb at h;simp only[aaX]at h;exact h.1
def gu (L:List Obj) (k:Key):Int:=bu L (az L k) (aI L k)
def dW (L:List Obj) (k:Key):List Obj:=cH L (az L k) (aI L k) 1
def lv (M:List Obj) (f g:Int):Bool:=(List.range M.length).any fun(j:Nat)=>decide (f<=(j:Int))&&decide ((j:Int)<g)&&mH (aj M j free)
def mP (L:List Obj) (k:Key) (n:Int):Int:=if aN L k=0 then(if n<1\/aI L k-az L k<n then 4 else 0)else aN L k
def b7 (L:List Obj) (k:Key) (n:Int):Int:=if mP L k n=0 then(if gu L k<0\/aI L k-n<gu L k then 221 else if lv (dW L k) (aI L k-n+1) (aI L k+1)=true then 221 else 0)else mP L k n
def kZ (L:List Obj) (k:Key) (n:Int):Bool:=decide (b7 L k n=0)
def jW (o:Obj) (a b:Int):Obj:= {o with slots:=(o.slots.put 0 (cJ a)).put 1 (cJ b)}
def mI (o:Obj) (b:Int):Obj:= {o with slots:=o.slots.put 1 (cJ b)}
def bF (L:List Obj) (k:Key) (n:Int):List Obj:=if b7 L k n=0 then cz (cz (dW L k) (gu L k).toNat (jW (aj (dW L k) (gu L k).toNat free) (aI L k-n+1) (aI L k))) k.oid.toNat (mI (aj (dW L k) k.oid.toNat free) (aI L k-n))else L
def cc (L:List Obj) (k:Key) (n:Int):Key:=if b7 L k n=0 then⟨4,gu L k,(aj (dW L k) (gu L k).toNat free).count,0,0,0⟩else void
def MM:ke:=Ar (um Sf) (fun L _=>ar L) (fun L x=>kZ L x.1 x.2.1) (fun L x=>bF L x.1 x.2.1) fun L x=> [.key (cc L x.1 x.2.1),.it .i64 (b7 L x.1 x.2.1)]
def pZ (L:List Obj) (k:Key) (n g:Int):Prop:=aI L k-n+1<=g/\g<=aI L k+1/\lv (dW L k) (aI L k-n+1) g=false
theorem E4 {L:List Obj} {k:Key} {n e:Int} (h:b7 L k n=e) (he:e≠0):kZ L k n=false/\void=cc L k n/\e=b7 L k n:=by
 refine⟨by unfold kZ;rw[h];simpa using he,by unfold cc;rw[h,aa3 he],h.symm⟩
theorem zI {L:List Obj} {k:Key} {n:Int} (h:aN L k≠0):b7 L k n=aN L k:=by
 have e:mP L k n=aN L k:=by unfold mP;rw[aa3 h]
 unfold b7;rw[e,aa3 h]
theorem Bi {L:List Obj} {k:Key} {n:Int} (h:aN L k=0) (hn:n<1\/aI L k-az L k<n):b7 L k n=4:=by
 have e:mP L k n=4:=by unfold mP;rw[aa4 h,aa4 hn]
 unfold b7;rw[e];rfl
theorem Ii {L:List Obj} {k:Key} {n:Int} (h:aN L k=0) (h1:1<=n) (h2:n<=aI L k-az L k):mP L k n=0:=by
 unfold mP;rw[aa4 h,aa3 (by omega)]
theorem uG {L:List Obj} {k:Key} {n:Int} (h:mP L k n=0) (hi:gu L k<0\/aI L k-n<gu L k):b7 L k n=221:=by
 unfold b7;rw[aa4 h,aa4 hi]
theorem Ff {L:List Obj} {k:Key} {n:Int} (h:mP L k n=0) (hi:lv (dW L k) (aI L k-n+1) (aI L k+1)=true):b7 L k n=221:=by
 unfold b7;rw[aa4 h,aa4 hi];split<;>rfl
theorem Ih {L:List Obj} {k:Key} {n:Int} (h:mP L k n=0) (h1:0<=gu L k) (h2:gu L k<=aI L k-n) (hi:lv (dW L k) (aI L k-n+1) (aI L k+1)=false):b7 L k n=0:=by
 unfold b7;rw[aa4 h,aa3 (by omega),hi];rfl
theorem JR {M:List Obj} {f:Int}:lv M f f=false:=by
 unfold lv;rw[List.any_eq_false];intro j hj h;simp only[aaX,aaY]at h;omega
theorem E3 {M:List Obj} {f g e:Int} (h0:0<=g) (h1:g<(M.length:Int)) (hf:f<=g) (he:g<e) (hr:mH (aj M g.toNat free)=true):lv M f e=true:=by
 unfold lv;rw[List.any_eq_true];exact⟨g.toNat,by simp;omega,by rw[hr];simp;omega⟩
theorem HC {M:List Obj} {f g:Int} (h0:0<=g) (hr:mH (aj M g.toNat free)=false):lv M f (g+1)=lv M f g:=by
 unfold lv;rw[Bool.eq_iff_iff,List.any_eq_true,List.any_eq_true];refine exists_congr fun j=>and_congr_right fun _=>?_
 simp only[aaX,aaY];constructor
 ·rintro⟨⟨a,b⟩,c⟩
  refine⟨⟨a,?_⟩,c⟩;by_cases e:(j:Int)=g
  ·rw[show j=g.toNat by omega,hr]at c;simp at c
  ·omega
 ·rintro⟨⟨a,b⟩,c⟩
  exact⟨⟨a,by omega⟩,c⟩
theorem VW {L:List Obj} {k:Key} (h:aU L k=true):cw k=k.oid:=by
 unfold aU at h;simp only[aaX]at h;unfold cw;rw[aa4 h.1.1]
theorem He {L:List Obj} {k:Key} (h:(!decide (0<ak L))=true):aN L k=1:=by unfold aN;rw[Qk h];rfl
theorem bk2 {L:List Obj} {k:Key} (h:(!decide (0<ak L))=false) (h2:(!(aU L k&&decide (k.kind=4)))=true):aN L k=190:=by unfold aN;rw[JG h h2];rfl
theorem bk3 {L:List Obj} {k:Key} (h:(!decide (0<ak L))=false) (h2:(!(aU L k&&decide (k.kind=4)))=false) (h3:(!iG (aa L k) (ak L))=true):aN L k=220:=by
 have ha:=HS h h2;rw[(ef (nZ h2).1).2.2.2.1]at h3;exact(B6 ha (show iG (aj L k.oid.toNat free) (ak L)=false by simpa using h3)).1
theorem Tv {L:List Obj} {k:Key} (h:(!decide (0<ak L))=false) (h2:(!(aU L k&&decide (k.kind=4)))=false) (h3:(!iG (aa L k) (ak L))=false):aN L k=0/\((aa L k).slots.at 0).value=az L k/\((aa L k).slots.at 1).value=aI L k:=by
 have ha:=HS h h2;have e:=(ef (nZ h2).1).2.2.2.1;rw[e]at h3;rw[e];exact⟨(vG ha (show iG (aj L k.oid.toNat free) (ak L)=true by simpa using h3)).1,rfl,rfl⟩
theorem CZ {L:List Obj} {k v:Key} {e:Int} (h:aN L k=e) (he:e≠0):false=jz L k v/\e=aN L k:=by
 refine⟨?_,h.symm⟩;unfold jz;rw[h];simp[he]
theorem tr {L:List Obj} {k v:Key} {e:Int} (h:cC L k v=e) (he:e≠0):e=cC L k v/\L=gB L k v:=by
 refine⟨h.symm,?_⟩;unfold gB;rw[h,aa3 he]
theorem ru {L:List Obj} {k v:Key} {e:Int} (h:aN L k=e) (he:e≠0):cC L k v=e:=by
 unfold cC;rw[h,aa3 he]
theorem zs {L:List Obj} {k:Key} {e:Int} (h:aN L k=e) (he:e≠0):(0=fD L k/\e=aN L k)/\L=g9 L k:=by
 unfold fD g9;rw[h,aa3 he,aa3 he];exact⟨⟨rfl,rfl⟩,rfl⟩
theorem wk {L:List Obj} {k:Key} {kind e:Int} (h:gE L k kind=e) (he:e≠0):(void=dc L k kind/\e=cx L k kind)/\L=ft L k kind:=by
 have e2:cx L k kind=e:=by unfold cx;rw[h,aa3 he]
 unfold dc ft;rw[e2,h,aa3 he,aa3 he];exact⟨⟨rfl,rfl⟩,rfl⟩
theorem rE {L:List Obj} {k:Key} {kind e:Int} (h:aN L k=e) (he:e≠0):gE L k kind=e:=by unfold gE;rw[h,aa3 he]
theorem N9 {L:List Obj} {k:Key} {kind:Int} (h:aN L k=0) (h2:(!(decide (kind=1)||decide (kind=2)))=true):gE L k kind=2:=by
 unfold gE;rw[aa4 h,aa3];simp only[Bool.not_eq_true',Bool.or_eq_false_iff,decide_eq_false_iff_not]at h2;omega
theorem qk {L:List Obj} {k:Key} {n e:Int} (h:b7 L k n=e) (he:e≠0):(void=cc L k n/\e=b7 L k n)/\L=bF L k n:=by
 unfold cc bF;rw[h,aa3 he,aa3 he];exact⟨⟨rfl,rfl⟩,rfl⟩
theorem vj {L:List Obj} {k:Key} {n e:Int} (h:aN L k=e) (he:e≠0):b7 L k n=e:=by rw[zI (by omega),h]
def QQ:Ct:=s6 (bc sA O2) (fun _=>none) fun x=> .tp [.bo (jz (Dx x.1) x.2.1 x.2.2.1),.it .i64 (aN (Dx x.1) x.2.1)]
def Un:ke:=IP (um Sf) (fun L _=>ar L) (fun L x=> .tp [.key (dc L x.1 x.2.1),.it .i64 (cx L x.1 x.2.1)]) fun L x=>ft L x.1 x.2.1
def W0:ke:=IP (um O2) (fun L _=>ar L) (fun L x=> .it .i64 (cC L x.1 x.2.1)) fun L x=>gB L x.1 x.2.1
def R0:ke:=IP (um kB) (fun L _=>ar L) (fun L x=> .tp [.it .i64 (fD L x.1),.it .i64 (aN L x.1)]) fun L x=>g9 L x.1
def Qp:ke:=IP (um Sf) (fun L _=>ar L) (fun L x=> .tp [.key (cc L x.1 x.2.1),.it .i64 (b7 L x.1 x.2.1)]) fun L x=>bF L x.1 x.2.1
def pU (L:List Obj) (k:Key) (n g:Int):Prop:=az L k<=g/\g<=aI L k+1/\lv (dW L k) (aI L k-n+1) g=false
def Nl (L M:List Obj) (g:Int):Int:=aj (dN L M) g.toNat 0
def Ko:List Obj->List Obj->Nat->List Obj
 |L,_,0=>L
 |L,M,g+1=>cM (Ko L M g) (Nl L M (g:Int)) (aL M (Nl L M (g:Int)))
def mR (L M:List Obj) (g:Int):List Obj:=Ko L M g.toNat
def sP (L M:List Obj) (g:Int):Prop:=0<=g/\g<=((dN L M).length:Int)
def fi (L:List Obj) (k:Key) (g:Int):Obj:=aL (bM L (az L k) g) g
def qA (L:List Obj) (k:Key) (g:Int):List Obj:=cM (bM L (az L k) g) g (Obj.mk 1 ((fi L k g).count+1) free.calls free.slots free.bytes)
def oV (x:Int):Key:=Key.mk 1 void.oid void.count void.call void.rights x
def B7 (L:List Obj) (k:Key) (n g:Int):Obj:=Obj.mk (aL (qA L k g) g).kind (aL (qA L k g) g).count (aL (qA L k g) g).calls (((aL (qA L k g) g).slots.put 0 (oV (((aa L k).slots.at 1).value-n+1))).put 1 (oV ((aa L k).slots.at 1).value)) (aL (qA L k g) g).bytes
def CK (L:List Obj) (k:Key) (n g:Int):List Obj:=cM (qA L k g) g (B7 L k n g)
def CW (L:List Obj) (k:Key) (n g:Int):Obj:=Obj.mk (aL (CK L k n g) k.oid).kind (aL (CK L k n g) k.oid).count (aL (CK L k n g) k.oid).calls ((aL (CK L k n g) k.oid).slots.put 1 (oV (((aa L k).slots.at 1).value-n))) (aL (CK L k n g) k.oid).bytes
def mO (L:List Obj) (k:Key) (n g:Int):List Obj:=cM (CK L k n g) k.oid (CW L k n g)
def jB (L:List Obj) (k:Key) (g:Int):Prop:=az L k<=g/\g<=aI L k+1/\kM L (az L k) g
def sH (L:List Obj) (k:Key) (g:Int):Prop:=az L k<=g/\g<=aI L k+1
def uQ (L:List Obj) (k:Key) (g:Int):Prop:=az L k<=g/\g<=aI L k+1/\eU L (az L k) g k.oid=0
def r9 (L:List Obj) (k:Key) (g:Int):Prop:=az L k<=g/\g<=aI L k+1/\eU L (az L k) g k.oid≠0
theorem BZ {L:List Obj} {k:Key} (h:aU L k=true) (h2:k.kind=4):(aj L k.oid.toNat free).kind=1:=by
 unfold aU at h;simp only[aaX]at h;obtain⟨⟨h1,_⟩,h3⟩:=h;unfold cI at h3;simp only[aaX,Bool.or_eq_true,aaY]at h3;rcases k9 k with⟨_,e,h0⟩|⟨e,_⟩
 ·rcases h3.2 with h|h
  ·omega
  ·rw[h.1.1];unfold gD;rw[aa3 (by omega),aa3 (by omega)]
 ·rw[e]at h1;simp at h1
theorem Iz {o:Obj} {n b:Int} (h:bP o n=true) (hk:o.kind=1):bP (mI o b) n=true:=by
 refine Aa h hk fun i hi=>?_
 have:=(j7 h).2.2.2.2.1;rw[cL.fX _ _ _ _ (by omega)]
 split
 ·exact sI (by omega) _
 ·exact sf h hk i hi
theorem H5 {o:Obj} {n a b:Int} (h:bP o n=true) (hk:o.kind=1):bP (jW o a b) n=true:=by
 refine Aa h hk fun i hi=>?_
 have:=(j7 h).2.2.2.2.1;rw[cL.fX _ _ _ _ (by omega),cL.fX _ _ _ _ (by omega)]
 split
 ·exact sI (by omega) _
 split
 ·exact sI (by omega) _
 ·exact sf h hk i hi
theorem Vp {L:List Obj} {k:Key} {g:Int} (hL:ar L) (e:aN L k=0) (hk:(aj L k.oid.toNat free).kind=1) (g0:az L k<=g) (gl:g<=aI L k) (g2:kM L (az L k) g) (f2:fF (aj L g.toNat free)=true):
  gu L k=g/\fi L k g=aj L g.toNat free/\qA L k g=dW L k/\(dW L k).length=L.length/\ar (dW L k)/\aj (dW L k) g.toNat free=ma (aj L g.toNat free) 1/\aj (dW L k) k.oid.toNat free=aj L k.oid.toNat free/\k.oid.toNat≠g.toNat:=by
 obtain⟨_,a0,a1,a2,a3,a4⟩:=mL e;have hgn:g.toNat<L.length:=by omega
 have hgz:(bM L (az L k) g).length=L.length:=kL;have hgt:aL (bM L (az L k) g) g=aj L g.toNat free:=by rw[fH (by omega) (by omega),C2 (by omega)]
 obtain⟨m1,m2,m3⟩:=yj (l:=aI L k) 1 a0 g0 gl (by omega) g2 f2
 have hO:fi L k g=aj L g.toNat free:=hgt;have hnew:=Dq (dq hL g.toNat hgn) f2 (.inl rfl);have hp:=(lV (L:=bM L (az L k) g) (i:=g) (x:=ma (aj L g.toNat free) 1) (by omega) (by omega) (by rw[hgz];exact hnew)).1
 have hP:qA L k g=dW L k:=by
  unfold qA;rw[hO];exact hp.trans m3.symm
 have hne:k.oid.toNat≠g.toNat:=fun h=>by
  rw[h]at hk;unfold fF at f2;simp only[aaX,aaY]at f2;omega
 have hM:dW L k=cz (bM L (az L k) g) g.toNat (ma (aj L g.toNat free) 1):=m3;have hko:k.oid.toNat<L.length:=by omega
 refine⟨m1,hO,hP,vu,?_,?_,?_,hne⟩
 ·rw[hM];exact lF (GY hL) (by rw[hgz];exact hnew)
 ·rw[hM,gg (by rw[hgz];exact hgn),aa4 rfl]
 ·rw[hM,gg (by rw[hgz];exact hgn),aa3 hne]
  unfold bM;rw[kF hko,aa3];simp only[jE,hk,aaX,aaY];omega
theorem QY {L:List Obj} {k:Key} {n g:Int} (hL:ar L) (e:aN L k=0) (hk:(aj L k.oid.toNat free).kind=1) (hB:((aa L k).slots.at 1).value=aI L k) (g0:az L k<=g) (gl:g<=aI L k) (g2:kM L (az L k) g) (f2:fF (aj L g.toNat free)=true) (h:b7 L k n=0):
  mO L k n g=bF L k n/\ar (bF L k n)/\(bF L k n).length=L.length/\Key.mk 4 g ((fi L k g).count+1) 0 0 0=cc L k n:=by
 obtain⟨i1,i2,i3,i4,i5,i6,i7,i8⟩:=Vp hL e hk g0 gl g2 f2;obtain⟨_,a0,a1,a2,a3,a4⟩:=mL e;have hgM:aL (dW L k) g=aj (dW L k) g.toNat free:=fH (by omega) (by omega)
 have hR1:B7 L k n g=jW (aj (dW L k) g.toNat free) (aI L k-n+1) (aI L k):=by
  unfold B7;rw[i3,hgM,hB];rfl
 have o1:bP (jW (aj (dW L k) g.toNat free) (aI L k-n+1) (aI L k)) ((dW L k).length:Int)=true:=H5 (dq i5 g.toNat (by omega)) (by rw[i6];rfl)
 have hP2:CK L k n g=cz (dW L k) g.toNat (jW (aj (dW L k) g.toNat free) (aI L k-n+1) (aI L k)):=by
  unfold CK;rw[i3,hR1];exact(lV (by omega) (by omega) o1).1
 have ok2:=lF (i:=g.toNat) i5 o1;have l2:(cz (dW L k) g.toNat (jW (aj (dW L k) g.toNat free) (aI L k-n+1) (aI L k))).length=L.length:=by rw[iv];exact i4
 have g2':aL (CK L k n g) k.oid=aj (dW L k) k.oid.toNat free:=by
  rw[hP2,fH (by omega) (by omega),gg (by omega),aa3 i8]
 have hR2:CW L k n g=mI (aj (dW L k) k.oid.toNat free) (aI L k-n):=by
  unfold CW;rw[g2',hB];rfl
 have o2:bP (mI (aj (dW L k) k.oid.toNat free) (aI L k-n)) (L.length:Int)=true:=Iz (by rw[<-i4];exact dq i5 k.oid.toNat (by omega)) (by rw[i7];exact hk)
 have hlast:bF L k n=cz (cz (dW L k) g.toNat (jW (aj (dW L k) g.toNat free) (aI L k-n+1) (aI L k))) k.oid.toNat (mI (aj (dW L k) k.oid.toNat free) (aI L k-n)):=by
  unfold bF;rw[aa4 h,i1]
 refine⟨?_,?_,?_,?_⟩
 ·unfold mO;rw[hR2,hP2,hlast];exact(lV (by omega) (by omega) (by rw[l2];exact o2)).1
 ·rw[hlast];exact lF ok2 (by rw[l2];exact o2)
 ·rw[hlast,iv];exact l2
 ·unfold cc;rw[aa4 h,i1,i6,i2];rfl
theorem UJ {L M:List Obj} {x:Int} (h:x∈dN L M):0<=x/\x<(L.length:Int):=by
 unfold dN iT at h;rw[List.mem_map]at h;obtain⟨j,h1,rfl⟩:=h;have:=List.mem_range.1 (List.mem_filter.1 h1).1;unfold ai at this;exact⟨Int.natCast_nonneg j,by show(j:Int)<_;omega⟩
theorem Xn {L M:List Obj} {i:Nat} (h:i<(dN L M).length):aj (dN L M) i 0∈dN L M:=by
 unfold aj;rw[aa2,List.getElem?_eq_getElem h];exact List.getElem_mem h
theorem SL {L M:List Obj} {j:Nat} (hj:j<L.length) (h:aj L j free≠aj M j free):∃i,i<(dN L M).length/\aj (dN L M) i 0=(j:Int):=by
 have:(j:Int)∈dN L M:=by
  unfold dN iT;rw[List.mem_map];refine⟨j,List.mem_filter.2 ⟨List.mem_range.2 (by unfold ai;omega),?_⟩,rfl⟩
  simp[C0,h]
 obtain⟨i,hi,e⟩:=List.mem_iff_getElem.1 this;refine⟨i,hi,?_⟩;unfold aj;rw[aa2,List.getElem?_eq_getElem hi,e];rfl
theorem Qi {L M:List Obj} (hl:M.length=L.length) (hM:ar M):∀g:Nat,g<=(dN L M).length->(Ko L M g).length=L.length/\(∀j,j<L.length->aj (Ko L M g) j free=aj L j free\/aj (Ko L M g) j free=aj M j free)/\
  ∀i,i<g->aj (Ko L M g) (aj (dN L M) i 0).toNat free=aj M (aj (dN L M) i 0).toNat free
 |0,_=>⟨rfl,fun j hj=> .inl rfl,fun i hi=>by omega⟩
 |g+1,hg=>by
  obtain⟨h1,h2,h3⟩:=Qi hl hM g (by omega)
  obtain⟨u1,u2⟩:=UJ (Xn (L:=L) (M:=M) (i:=g) (by omega))
  have e:Nl L M (g:Int)=aj (dN L M) g 0:=rfl;generalize hu:aj (dN L M) g 0=u at *
  have hp:=(lV (L:=Ko L M g) (i:=u) (x:=aj M u.toNat free) u1 (by omega) (by rw[h1,<-hl];exact dq hM _ (by omega))).1
  have hs:Ko L M (g+1)=cz (Ko L M g) u.toNat (aj M u.toNat free):=by
   simp only[Ko];rw[e,fH u1 (by omega)]
   exact hp
  rw[hs];refine⟨by rw[iv];exact h1,fun j hj=>?_,fun i hi=>?_⟩
  ·rw[gg (by omega)]
   split
   ·rename_i hj';rw[hj'];exact .inr rfl
   ·exact h2 j hj
  ·rw[gg (by omega)]
   split
   ·rename_i hj';rw[hj']
   ·rename_i hne;by_cases hig:i=g
    ·rw[hig,hu]at hne;exact absurd rfl hne
    ·exact h3 i (by omega)
theorem T0 {L M:List Obj} (hl:M.length=L.length) (hM:ar M) {g:Int} (hg:g=((dN L M).length:Int)):mR L M g=M:=by
 obtain⟨h1,h2,h3⟩:=Qi hl hM (dN L M).length (Nat.le_refl _);have e:mR L M g=Ko L M (dN L M).length:=by unfold mR;rw[hg];rfl
 rw[e];refine qT (by omega) fun j hj=>?_
 by_cases hne:aj L j free=aj M j free
 ·rcases h2 j (by omega)with h|h
  ·rw[h,hne]
  ·exact h
 ·obtain⟨i,hi,hij⟩:=SL (by omega) hne
  have:=h3 i hi;rw[hij]at this;exact this
theorem KE {L M:List Obj} {g:Int} (h0:0<=g):cM (mR L M g) (aj (dN L M) g.toNat 0) (aL M (aj (dN L M) g.toNat 0))=mR L M (g+1):=by
 unfold mR;rw[show(g+1).toNat=g.toNat+1 by omega]
 simp only[Ko];rfl
theorem KX {L M:List Obj} (hl:M.length=L.length) (h:1<=L.length):j9 L M=false:=by
 unfold j9 bn ai;simp only[hl,show decide (L.length=0)=false from decide_eq_false (by omega),Bool.false_or,decide_true,Bool.not_true]
theorem HB {M:List Obj} {f g:Int} (h:g<=f):lv M f g=false:=by
 unfold lv;rw[List.any_eq_false];intro j _;simp only[aaX,aaY,not_and];intro h1 h2;omega
theorem Rq {L M:List Obj}:(dN L M).length<=L.length:=by
 unfold dN iT;rw[List.length_map];have:=List.length_filter_le (fun j=> !C0 (aj L j free) (aj M j free)) (List.range (ai L:Int).toNat)
 simpa[ai]using this
structure Acb where
 kind:Int
 num:Int
 bank:Key
 key:Key
 obj:Int
def Acb.wf (x:Acb):Prop:=bY .i64 x.kind/\bY .i64 x.num/\x.bank.wf/\x.key.wf/\bY .i64 x.obj
theorem JY {L M:List Obj} {k:Key} {d:Int} {c:Bool} (hl:M.length=L.length) (h1:(aj M k.oid.toNat free).kind=(aj L k.oid.toNat free).kind) (h2:(aj M k.oid.toNat free).count=(aj L k.oid.toNat free).count) (h3:(aj M k.oid.toNat free).calls=(aj L k.oid.toNat free).calls):aC M k d c=aC L k d c:=by
 have hi:aU M k=aU L k:=by
  unfold aU du cI ai;rw[hl,h1,h2,h3]
 unfold aC ai;rw[hl,hi]
theorem Q3 {L:List Obj} {k:Key} (h:aN L k=0):iG (aj L k.oid.toNat free) (L.length:Int)=true/\(aj L k.oid.toNat free).kind=1:=by
 obtain⟨ha,_⟩:=mL h;obtain⟨i1,i2,_⟩:=gw ha;refine⟨?_,BZ i1 i2⟩;unfold aN at h;rw[aa4 ha]at h;split at h
 ·rename_i hc;exact hc
 ·omega
theorem Ni {L:List Obj} {f l kind:Int} {j:Nat} (h0:0<=f) (hj:j<L.length) (hk:(aj L j free).kind≠0):aj (cH L f l kind) j free=aj L j free:=by
 have hG:∀g,aj (bM L f g) j free=aj L j free:=fun g=>by
  unfold bM;rw[kF hj,aa3];simp only[jE,aaX,aaY];omega
 unfold cH;split
 ·exact hG _
 ·rename_i hi;rcases wK (L:=L) (l:=l) h0 with e|⟨a,b,c,d⟩
  ·exact absurd e hi
  ·rw[gg (by rw[kL];omega),aa3,hG]
   intro e;rw[<-e]at d;unfold fF at d;simp only[aaX,aaY]at d;exact hk d.1
theorem NY {L:List Obj} {f l kind:Int} (hL:ar L) (h0:0<=f) (hk:kind=1\/kind=2):ar (cH L f l kind):=by
 unfold cH;split
 ·exact GY hL
 ·rename_i hi;rcases wK (L:=L) (l:=l) h0 with e|⟨a,b,c,d⟩
  ·exact absurd e hi
  ·exact lF (GY hL) (by rw[kL];exact Dq (dq hL _ (by omega)) d hk)
theorem Ij {L:List Obj} {k:Key} {kind:Int} (hL:ar L):ar (ft L k kind):=by
 unfold ft;split
 ·rename_i h
  have he:aN L k=0:=by
   unfold gE at h;split at h
   ·assumption
   ·rename_i h';exact absurd h h'
  refine NY hL (mL he).2.1 ?_;unfold gE at h;rw[aa4 he]at h;split at h
  ·assumption
  ·omega
 ·exact hL
theorem Ql {L:List Obj} {k:Key} {n:Int} (hL:ar L) (e:aN L k=0) (h:b7 L k n=0):
 ar (bF L k n)/\(bF L k n).length=L.length/\aN (bF L k n) k=0/\az (bF L k n) k=az L k/\aI (bF L k n) k=aI L k-n/\aN (bF L k n) (cc L k n)=0/\az (bF L k n) (cc L k n)=aI L k-n+1/\aI (bF L k n) (cc L k n)=aI L k/\az L k<=(cc L k n).oid/\(cc L k n).oid<=aI L k-n/\1<=n/\n<=aI L k-az L k/\fF (aj L (cc L k n).oid.toNat free)=true:=by
 obtain⟨ha,a0,a1,a2,a3,a4⟩:=mL e;obtain⟨hok,hk1⟩:=Q3 e;obtain⟨x1,x2⟩:=gy hL;have h':=h;unfold b7 at h;split at h
 case isFalse h2=>exact absurd h h2
 rename_i hE0;split at h
 case isTrue=>omega
 rename_i hI
 have hn:1<=n/\n<=aI L k-az L k:=by
  unfold mP at hE0;rw[aa4 e]at hE0;split at hE0
  ·omega
  ·omega
 have hin:=wK (L:=L) (l:=aI L k) a0;have hIe:bu L (az L k) (aI L k)=gu L k:=rfl;have hne1:bu L (az L k) (aI L k)≠ -1:=by rw[hIe];omega
 rw[hIe]at hin;rcases hin with hin|⟨i1,i2,i3,i4⟩
 ·omega
 have hMlen:(dW L k).length=L.length:=vu;have hMok:ar (dW L k):=NY hL a0 (.inl rfl);have hMI:aj (dW L k) (gu L k).toNat free=ma (aj L (gu L k).toNat free) 1:=PZ a0 hne1;have QG:aj (dW L k) k.oid.toNat free=aj L k.oid.toNat free:=Ni a0 (by omega) (by omega)
 have hne:k.oid.toNat≠(gu L k).toNat:=fun hh=>by
  rw[hh]at hk1;unfold fF at i4;simp only[aaX,aaY]at i4;omega
 have hLL:bF L k n=cz (cz (dW L k) (gu L k).toNat (jW (aj (dW L k) (gu L k).toNat free) (aI L k-n+1) (aI L k))) k.oid.toNat (mI (aj (dW L k) k.oid.toNat free) (aI L k-n)):=by
  unfold bF;rw[aa4 h']
 have hKK:cc L k n=⟨4,gu L k,(aj L (gu L k).toNat free).count+1,0,0,0⟩:=by
  unfold cc;rw[aa4 h',hMI];rfl
 have o1:bP (jW (aj (dW L k) (gu L k).toNat free) (aI L k-n+1) (aI L k)) (L.length:Int)=true:=H5 (by rw[<-hMlen];exact dq hMok _ (by omega)) (by rw[hMI];rfl)
 have o2:bP (mI (aj (dW L k) k.oid.toNat free) (aI L k-n)) (L.length:Int)=true:=Iz (by rw[<-hMlen];exact dq hMok _ (by omega)) (by rw[QG];exact hk1)
 have l1:(cz (dW L k) (gu L k).toNat (jW (aj (dW L k) (gu L k).toNat free) (aI L k-n+1) (aI L k))).length=L.length:=by rw[iv];exact hMlen
 have okX:=lF (i:=(gu L k).toNat) hMok (by rw[hMlen];exact o1)
 have hlen:(bF L k n).length=L.length:=by rw[hLL,iv];exact l1
 have hokL:ar (bF L k n):=by rw[hLL];exact lF okX (by rw[l1];exact o2)
 have hgk:aj (bF L k n) k.oid.toNat free=mI (aj L k.oid.toNat free) (aI L k-n):=by
  rw[hLL,gg (by omega),aa4 rfl,QG]
 have hgI:aj (bF L k n) (gu L k).toNat free=jW (ma (aj L (gu L k).toNat free) 1) (aI L k-n+1) (aI L k):=by
  rw[hLL,gg (by omega),aa3 (Ne.symm hne),gg (by omega),aa4 rfl,hMI]
 have s2:∀(o:Obj) (b:Int),(mI o b).slots.at 0=o.slots.at 0/\(mI o b).slots.at 1=cJ b:=fun o b=>by
  unfold mI;simp only;rw[cL.fX _ _ _ _ (by omega),cL.fX _ _ _ _ (by omega)]
  exact⟨rfl,rfl⟩
 have s1:∀(o:Obj) (a b:Int),(jW o a b).slots.at 0=cJ a/\(jW o a b).slots.at 1=cJ b:=fun o a b=>by
  unfold jW;simp only;rw[cL.fX _ _ _ _ (by omega),cL.fX _ _ _ _ (by omega),cL.fX _ _ _ _ (by omega)]
  exact⟨rfl,rfl⟩
 have hask:aC (bF L k n) k 4 false=0:=by
  rw[JY hlen (by rw[hgk];rfl) (by rw[hgk];rfl) (by rw[hgk];rfl)];exact ha
 unfold iG at hok;simp only[aaX,aaY]at hok;obtain⟨⟨⟨⟨c1,c2⟩,c3⟩,c4⟩,c5⟩:=hok;have hA':az (bF L k n) k=az L k:=by unfold az;rw[hgk,(s2 _ _).1]
 have hB':aI (bF L k n) k=aI L k-n:=by
  have:aI (bF L k n) k=((mI (aj L k.oid.toNat free) (aI L k-n)).slots.at 1).value:=by rw[<-hgk];rfl
  rw[this,(s2 _ _).2];rfl
 have hE':aN (bF L k n) k=0:=(vG hask (by
  rw[hgk];unfold iG ai;rw[(s2 _ _).1,(s2 _ _).2,hlen];have v0:((aj L k.oid.toNat free).slots.at 0).value=az L k:=rfl;simp only[cJ,aaX,aaY];refine⟨⟨⟨⟨c1,?_⟩,c3⟩,?_⟩,?_⟩
  ·trivial
  ·exact decide_eq_true (by omega)
  ·exact decide_eq_true (by omega))).1
 have i4':=i4;unfold fF at i4';simp only[aaX,aaY]at i4';have hcb:=j7 (dq hL (gu L k).toNat (by omega))
 have hkey:aV (cc L k n)=true:=by
  rw[hKK];unfold aV ga;simp only[ee,gM,kG,fu];simp;omega
 have hoid:(cc L k n).oid=gu L k:=by rw[hKK]
 have hisO:ee (cc L k n).kind=true:=by rw[hKK];rfl
 have hnm:ba (cc L k n)=true:=by unfold ba;rw[hkey,hisO];rfl
 have hnames:bd (cc L k n)=gu L k:=by unfold bd;rw[hkey,hisO,hoid];rfl
 have hcounts:cI (cc L k n) (aj (bF L k n) (cc L k n).oid.toNat free)=true:=by
  unfold cI gD;rw[hkey,hnames,hoid,hgI,aa3 (by omega),hKK]
  simp[jW,ma]
 have his:aU (bF L k n) (cc L k n)=true:=by
  unfold aU;rw[hnm,hcounts,lu.2 ⟨by omega,by omega⟩];rfl
 have hask2:aC (bF L k n) (cc L k n) 4 false=0:=by
  unfold aC ai;rw[aa3 (by omega),aa3 (by rw[his,hKK];simp),aa3 (by simp)]
 have hobj:aj (bF L k n) (cc L k n).oid.toNat free=jW (ma (aj L (gu L k).toNat free) 1) (aI L k-n+1) (aI L k):=by rw[hoid];exact hgI
 refine⟨hokL,hlen,hE',hA',hB',(vG hask2 ?_).1,?_,?_,by rw[hoid];exact i1,by rw[hoid];omega,hn.1,hn.2,by rw[hoid];exact i4⟩
 ·rw[hobj];unfold iG ai;rw[(s1 _ _ _).1,(s1 _ _ _).2,hlen];simp only[cJ,aaX,aaY];refine⟨⟨⟨⟨?_,?_⟩,?_⟩,?_⟩,?_⟩
  ·trivial
  ·trivial
  ·exact decide_eq_true (by omega)
  ·exact decide_eq_true (by omega)
  ·exact decide_eq_true (by omega)
 ·unfold az;rw[hobj,(s1 _ _ _).1];rfl
 ·have:aI (bF L k n) (cc L k n)=((jW (ma (aj L (gu L k).toNat free) 1) (aI L k-n+1) (aI L k)).slots.at 1).value:=by rw[<-hobj];rfl
  rw[this,(s1 _ _ _).2];rfl
end Go.Sx
