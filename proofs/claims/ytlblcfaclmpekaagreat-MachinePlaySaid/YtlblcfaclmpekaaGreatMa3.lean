import Derived.Test.YtlblcfaclmpekaaGreatMa2
import Derived.RecoverIn
set_option linter.unusedSimpArgs false
set_option linter.unusedVariables false
set_option maxRecDepth 100000
namespace Go.Sx
open Go.RowKit (Below)
abbrev Ct:=List aK->Nat->List V->RR
def cz (P:Program) (f:Nat) (g:Ct):Prop:=
 ∀J fps res K w0 F0 w nid args q x new,bq J fps res K w0 F0 w->fQ K args->g res nid args=some (q,x,new)->dY q->
  (∀k,k<new.length->¬K (nid+k))->
  (CallsIn (FF P none) 0 P f (bz J args).toArray w fun e w'=>∃v,e= .returned v/\se K J nid x new w0 F0 w v w')/\∀k,k<new.length->az new k≠ .yet
def qB:List (Nat×Ct)->Nat->Option Ct
 | [],_=>none
 | (g,c)::l,f=>if f==g then some c else qB l f
theorem ni {P:Program}:∀{l:List (Nat×Ct)},(∀p∈l,cz P p.1 p.2)->∀f g,qB l f=some g->cz P f g
 | [],_,f,g,h=>by simp[qB]at h
 | (k,c)::l,hl,f,g,h=>by
   simp only[qB]at h;split at h
   ·simp_all
   ·exact ni (fun p hp=>hl p (by simp[hp])) f g h
mutual
def kE:V->Bool
 | .lp _ _=>false
 | .lx _ _ _ _ _ _=>false
 | .sc _ _ _=>false
 | .so _ _=>false
 | .ap _ _ _ _=>false
 | .ax _ _ _ _ _ _ _ _=>false
 | .sa _=>false
 | .op _ _=>false
 | .yl _=>false
 | .mp _=>false
 | .ch _ _ _ _=>false
 | .bs _ _ _=>false
 | .ks _ _ _ _ _=>false
 | .fn _ l=>lW l
 | .ic _ x=>kE x
 | .ag l=>lW l
 | .tp l=>lW l
 |_=>true
def lW:List V->Bool
 | []=>true
 |x::l=>kE x&&lW l
end
mutual
theorem pb {K K':Nat->Prop}:∀v,kE v=true->ok K v->ok K' v
 | .lp _ _,h,_| .lx _ _ _ _ _ _,h,_| .sc _ _ _,h,_| .so _ _,h,_| .ap _ _ _ _,h,_| .sa _,h,_| .op _ _,h,_| .yl _,h,_| .mp _,h,_| .ch _ _ _ _,h,_| .ax _ _ _ _ _ _ _ _,h,_| .bs _ _ _,h,_| .ks _ _ _ _ _,h,_=>by simp[kE]at h
 | .fn _ l,h,hk=>mF l h hk
 | .ic _ x,h,hk=>pb x h hk
 | .ag l,h,hk=>⟨mF l h hk.1,hk.2⟩
 | .tp l,h,hk=>mF l h hk
 | .cb _,_,hk| .bo _,_,hk| .ci _ _,_,hk| .it _ _,_,hk| .bt _,_,hk| .st _,_,hk| .nl _,_,hk| .key _,_,hk| .sl _,_,hk| .by _,_,hk| .ob _,_,hk=>hk
theorem mF {K K':Nat->Prop}:∀l,lW l=true->fQ K l->fQ K' l
 | [],_,_=>trivial
 |x::l,h,hk=>by
  simp only[lW,aaV]at h;exact⟨pb x h.1 hk.1,mF l h.2 hk.2⟩
end
theorem qz {K:Nat->Prop} {v:V} (h:kE v=true) (hk:ok K v) (J ρ':Env):den ρ' v=den J v:=
 gj (N:=fun _=>False) (fun _ h=>h.elim) v (pb v h hk)
def oW (v:V) (v':V) (_:List aK):Prop:=
 match xK v' v with
 |some l=>jK l
 |none=>False
def ya (x v:V) (_:List aK):Prop:=∀J K,tU J K v x
theorem dK {x v:V} {r:List aK} (h:oW x v r):ya x v r:=by
 unfold oW at h;split at h
 ·rename_i l hl;exact fun J K=>qZ J K _ _ l hl h
 ·exact h.elim
theorem an.mono {P:Program} {f:Nat} {args:List V} {res:List aK} {K K' KP KP':V->List aK->Prop} (h:an P f args res K KP) (hK:∀v r,K v r->K' v r) (hP:∀v r,KP v r->KP' v r):
  an P f args res K' KP':=by
 intro J fps w0 F0 w hH ha;refine(h J fps w0 F0 w hH ha).mono fun e w' ⟨x,ρ',fps',res',g1,g2,g3,g4⟩=>⟨x,ρ',fps',res',g1,g2,g3,?_⟩
 rcases g4 with⟨e1,e2⟩|⟨e1,e2⟩
 ·exact .inl ⟨e1,hK _ _ e2⟩
 ·exact .inr ⟨e1,hP _ _ e2⟩
def ZG (l m:List V):Prop:=(∀J,bz J l=bz J m)/\∀K,fQ K l->fQ (fun _=>False) m
theorem vP {P:Program} {f:Nat} {g:Ct} (h:∀res nid args q x new,g res nid args=some (q,x,new)->new= []/\kE x=true/\
  ∃args',ZG args args'/\(dY q->fQ (fun _=>False) args'->an P f args' [] (ya x) (fun _ _=>False))):cz P f g:=by
 intro J fps res K w0 F0 w nid args q x new hH hargs hg hq hfr;obtain⟨rfl,hid,args',⟨s1,s2⟩,hc⟩:=h res nid args q x new hg;refine⟨?_,fun k hk=>by simp at hk⟩
 have hok:=s2 K hargs
 have hrep:bq J (fun _ _=>False) [] (known []) w (fun _=>False) w:=
  ⟨fun i hi=>hi,Nat.le_refl _,rfl,rfl,rfl,fun i hi=>by simp[known,az]at hi,fun i b hi=>by simp[known,az]at hi,fun i j b hi=>by simp[known,az]at hi,fun i b hi=>by simp[known,az]at hi,fun _ _ _=>rfl⟩
 have hcall:=hc hq hok J (fun _ _=>False) w (fun _=>False) w hrep (by rw[jh]at hok⊢;exact fun z hz=>fT (hok z hz))
 rw[s1 J];refine hcall.mono fun e w' ⟨y,ρ',fps',res',g1,g2,g3,g4⟩=>?_
 rcases g4 with⟨rfl,hK⟩|⟨_,hK⟩
 ·refine⟨_,rfl,J,?_,?_,?_⟩
  ·have hb:Below w.heap.size w w':=by
    refine⟨g1.os,g1.tape,g1.output,g1.old,fun b hb=>g1.same b hb (fun h=>h)⟩
   exact⟨hb,Env.bD.refl _ _,fun _ _=>False,fun k hk=>by simp at hk,fun k l b hk=>by simp at hk⟩
  ·obtain⟨e1,e2,_⟩:=hK ρ' (known res');rw[e1];exact qz hid (e2 g3) J ρ'
  ·obtain⟨e1,e2,_⟩:=hK ρ' (known res');exact pb x hid (e2 g3)
 ·exact hK.elim
def tc {α:Type} (r:V->Option α) (m:α->V):Prop:=∀v x,r v=some x->(∀J,den J v=den J (m x))/\∀K,ok K v->ok (fun _=>False) (m x)
def rI (k:IntKind) (v:V):Option Int:=
 match toInt v with
 |some (k',n)=>if k==k' then some n else none
 |none=>none
def rK (v:V):Option Key:=
 match v with
 | .key k=>some k
 | .ag l=>match l with
   | [a,b,c,d,e,f]=>match rI .i64 a with
     |some a=>match rI .i64 b with
      |some b=>match rI .i64 c with
       |some c=>match rI .i64 d with
        |some d=>match rI .i64 e with
         |some e=>match rI .i64 f with
          |some f=>some ⟨a,b,c,d,e,f⟩
          |none=>none
         |none=>none
        |none=>none
       |none=>none
      |none=>none
     |none=>none
   |_=>none
 |_=>none
def rO:V->Option Obj
 | .ob o=>some o
 |_=>none
theorem PD:tc toBool V.bo:=by
 intro v x h;cases v<;>simp[toBool]at h<;>subst h<;>exact⟨fun _=>rfl,fun _ _=>trivial⟩
theorem gq (k:IntKind):tc (rI k) (V.it k):=by
 intro v x h;unfold rI at h;cases v<;>simp[toInt]at h<;>obtain⟨rfl,rfl⟩:=h
 ·exact⟨fun _=>rfl,fun _ hk=>hk⟩
 ·exact⟨fun _=>rfl,fun _ hk=>hk⟩
 ·rename_i b;refine⟨fun _=>rfl,fun _ _=>?_⟩
  have:=b.toNat_lt;simp only[ok,cc,b2i];omega
theorem gI:tc rK V.key:=by
 intro v x h;unfold rK at h;split at h
 ·simp only[aaT]at h;subst h;exact⟨fun _=>rfl,fun _ hk=>hk⟩
 ·split at h
  case h_2=>simp at h
  split at h<;>try(simp at h;done)
  rename_i h1;split at h<;>try(simp at h;done)
  rename_i h2;split at h<;>try(simp at h;done)
  rename_i h3;split at h<;>try(simp at h;done)
  rename_i h4;split at h<;>try(simp at h;done)
  rename_i h5;split at h<;>simp only[aaT,reduceCtorEq]at h
  rename_i h6;subst h;have e1:=gq .i64 _ _ h1;have e2:=gq .i64 _ _ h2;have e3:=gq .i64 _ _ h3;have e4:=gq .i64 _ _ h4;have e5:=gq .i64 _ _ h5;have e6:=gq .i64 _ _ h6;refine⟨fun J=>?_,fun K hK=>?_⟩
  ·simp only[den,bn,e1.1 J,e2.1 J,e3.1 J,e4.1 J,e5.1 J,e6.1 J];rfl
  ·obtain⟨⟨k1,k2,k3,k4,k5,k6,_⟩,_⟩:=hK;exact⟨e1.2 K k1,e2.2 K k2,e3.2 K k3,e4.2 K k4,e5.2 K k5,e6.2 K k6⟩
 ·simp at h
theorem Y5 {v:V} {x:Key} (h:rK v=some x):cS v=false:=by
 cases v<;>first|rfl|simp[rK]at h
theorem Bh:tc rO V.ob:=by
 intro v x h;cases v<;>simp[rO]at h<;>subst h<;>exact⟨fun _=>rfl,fun _ hk=>hk⟩
def YO (F:V):Ct:=fun _ _ xs=>match xs with
 | []=>some (none,F,[])
 |_=>none
def QQ {α:Type} (r:V->Option α) (F:α->V):Ct:=fun _ _ xs=>match xs with
 | [a]=>match r a with
   |some x=>some (none,F x,[])
   |none=>none
 |_=>none
def Se {α β:Type} (r:V->Option α) (s:V->Option β) (F:α->β->V):Ct:=fun _ _ xs=>match xs with
 | [a,b]=>match r a,s b with
   |some x,some y=>some (none,F x y,[])
   |_,_=>none
 |_=>none
def mk3 {α β γ:Type} (r:V->Option α) (s:V->Option β) (t:V->Option γ) (F:α->β->γ->V):Ct:=fun _ _ xs=>match xs with
 | [a,b,c]=>match r a,s b,t c with
   |some x,some y,some z=>some (none,F x y z,[])
   |_,_,_=>none
 |_=>none
theorem VJ {P:Program} {f:Nat} {F:V} (hF:kE F=true) (h:an P f [] [] (oW F) (fun _ _=>False)):cz P f (YO F):=by
 refine vP fun res nid args q x new hg=>?_
 unfold YO at hg;split at hg<;>simp only[aaT,aaU,reduceCtorEq]at hg
 obtain⟨rfl,rfl,rfl⟩:=hg;exact⟨rfl,hF,[],⟨fun _=>rfl,fun _ _=>trivial⟩,fun _ _=>h.mono (fun _ _=>dK) fun _ _ h=>h⟩
theorem W3 {P:Program} {f:Nat} {F:V} (hF:kE F=true) (h:an P f [] [] (fun v _=>v=F) (fun _ _=>False)):cz P f (YO F):=by
 refine vP fun res nid args q x new hg=>?_
 unfold YO at hg;split at hg<;>simp only[aaT,aaU,reduceCtorEq]at hg
 obtain⟨rfl,rfl,rfl⟩:=hg;exact⟨rfl,hF,[],⟨fun _=>rfl,fun _ _=>trivial⟩,fun _ _=>h.mono (fun v _ e=>by subst e;exact fun J K=>tU.refl J K v) fun _ _ h=>h⟩
theorem qe {P:Program} {f:Nat} {α:Type} {r:V->Option α} {m:α->V} {F:α->V} (hr:tc r m) (hF:∀x,kE (F x)=true)
  (h:∀x,ok (fun _=>False) (m x)->an P f [m x] [] (oW (F x)) (fun _ _=>False)):cz P f (QQ r F):=by
 refine vP fun res nid args q x new hg=>?_
 unfold QQ at hg;split at hg<;>(try split at hg)<;>simp only[aaT,aaU,reduceCtorEq]at hg
 rename_i a x h1;obtain⟨rfl,rfl,rfl⟩:=hg;obtain⟨a1,a2⟩:=hr _ x h1;exact⟨rfl,hF x,[m x],⟨fun J=>by simp[bz,a1 J],fun K hK=>⟨a2 K hK.1,trivial⟩⟩,fun _ hok=>(h x hok.1).mono (fun _ _=>dK) fun _ _ h=>h⟩
theorem pf {P:Program} {f:Nat} {α β:Type} {r:V->Option α} {s:V->Option β} {m:α->V} {n:β->V} {F:α->β->V} (hr:tc r m) (hs:tc s n) (hF:∀x y,kE (F x y)=true)
  (h:∀x y,ok (fun _=>False) (m x)->ok (fun _=>False) (n y)->an P f [m x,n y] [] (oW (F x y)) (fun _ _=>False)):cz P f (Se r s F):=by
 refine vP fun res nid args q x new hg=>?_
 unfold Se at hg;split at hg<;>(try split at hg)<;>simp only[aaT,aaU,reduceCtorEq]at hg
 rename_i a b x y h1 h2;obtain⟨rfl,rfl,rfl⟩:=hg;obtain⟨a1,a2⟩:=hr _ x h1;obtain⟨b1,b2⟩:=hs _ y h2;exact⟨rfl,hF x y,[m x,n y],⟨fun J=>by simp[bz,a1 J,b1 J],fun K hK=>⟨a2 K hK.1,b2 K hK.2.1,trivial⟩⟩,fun _ hok=>(h x y hok.1 hok.2.1).mono (fun _ _=>dK) fun _ _ h=>h⟩
theorem L8 {P:Program} {f:Nat} {α β γ:Type} {r:V->Option α} {s:V->Option β} {t:V->Option γ} {m:α->V} {n:β->V} {o:γ->V} {F:α->β->γ->V} (hr:tc r m) (hs:tc s n) (ht:tc t o)
  (hF:∀x y z,kE (F x y z)=true)
  (h:∀x y z,ok (fun _=>False) (m x)->ok (fun _=>False) (n y)->ok (fun _=>False) (o z)->an P f [m x,n y,o z] [] (oW (F x y z)) (fun _ _=>False)):cz P f (mk3 r s t F):=by
 refine vP fun res nid args q x new hg=>?_
 unfold mk3 at hg;split at hg<;>(try split at hg)<;>simp only[aaT,aaU,reduceCtorEq]at hg
 rename_i a b c x y z h1 h2 h3;obtain⟨rfl,rfl,rfl⟩:=hg;obtain⟨a1,a2⟩:=hr _ x h1;obtain⟨b1,b2⟩:=hs _ y h2;obtain⟨c1,c2⟩:=ht _ z h3;exact⟨rfl,hF x y z,[m x,n y,o z],⟨fun J=>by simp[bz,a1 J,b1 J,c1 J],fun K hK=>⟨a2 K hK.1,b2 K hK.2.1,c2 K hK.2.2.1,trivial⟩⟩,fun _ hok=>(h x y z hok.1 hok.2.1 hok.2.2.1).mono (fun _ _=>dK) fun _ _ h=>h⟩
def inL:List Nat->Nat->Bool
 | [],_=>false
 |x::l,i=>x==i||inL l i
def ZZ:List (Nat×V)->Nat->Option V
 | [],_=>none
 | (j,v)::l,i=>if j==i then some v else ZZ l i
def I5 (j4:List Nat) (set:List (Nat×V)):Nat->List S->List S
 |_,[]=> []
 |i,s::l=>(match ZZ set i with
  |some v=> .v v
  |none=>if inL j4 i then s else .und)::I5 j4 set (i+1) l
def Ws (j4:List Nat) (set:Int->List (Nat×V)) (inv:Int->Prop) (m:Int):dD:=
 {γ:=Int,head:=fun U g=> {U with slots:=I5 j4 (set g) 0 U.slots},inv:=inv,μ:=fun g=>qf (tA m g)}
def iJ:List (Nat×Nat×dD)->Nat->Nat->Option dD
 | [],_,_=>none
 | (f,r,A)::l,f',r'=>if f==f'&&r==r' then some A else iJ l f' r'
def aQ (_ _:Nat):Option dD:=none
def bx (_:Nat):Bool:=false
def noH:Handler:=fun _ _ _ _ _=>False
end Go.Sx
namespace Go.Proofs.YtlblcfaclmpekaaGreat
open Go.Sx
noncomputable def cf (l:List (Nat×Ct)) (inl:Nat->Bool) (ann:Nat->Nat->Option dD):QV:= {P:=Tryz.prog,Z:=zeroOf,Γ:=qB l,H0:=noH,inl:=inl,ann:=ann,opn:=Of inl}
theorem Me {l:List (Nat×Ct)} {inl:Nat->Bool} {ann:Nat->Nat->Option dD} (hl:∀p∈l,cz Tryz.prog p.1 p.2):(cf l inl ann).toCtx.Sound:=
 ⟨zU pz,Tryz.checked.mixed,fun f g hg=>ni hl f g hg,fun f ts te h=>by simp[cf]at h⟩
abbrev vc (l:List (Nat×Ct)) (inl:Nat->Bool) (ann:Nat->Nat->Option dD) (f:Nat) (args:List V) (res:List aK) (K KP:V->List aK->Prop):Prop:=
 enter (cf l inl ann).toCtx (exec (cf l inl ann) 100 ⟨false,none⟩) (exec (cf l inl ann) 100 ⟨false,none⟩ f) f args res K KP
set_option maxRecDepth 100000 in
theorem bc {l:List (Nat×Ct)} {inl:Nat->Bool} {ann:Nat->Nat->Option dD} (hl:∀p∈l,cz Tryz.prog p.1 p.2) {f:Nat} {args:List V} {res:List aK} {K KP:V->List aK->Prop}
  {G:Prop} (hG:G) (h:G=vc l inl ann f args res K KP):an Tryz.prog f args res K KP:=
 C1 (C:=cf l inl ann) (n:=100) (Me hl) (fun _ _ _ _ _ hh=>hh.elim) (Eq.mp h hG)
end Go.Proofs.YtlblcfaclmpekaaGreat
namespace Go.Sx
theorem ar {P:Program}:∀p∈([]:List (Nat×Ct)),cz P p.1 p.2:=by simp
theorem ae {P:Program} {f:Nat} {g:Ct} {l:List (Nat×Ct)} (h:cz P f g) (t:∀p∈l,cz P p.1 p.2):∀p∈(f,g)::l,cz P p.1 p.2:=by
 simp_all
open Go.RowKit (Below)
theorem bq.BO {J:Env} {fps:Nat->Nat->Prop} {res:List aK} {K:Nat->Prop} {w0:World} {F0:Nat->Prop} {w:World} (h:bq J fps res K w0 F0 w) {i:Nat} {r:aK}
  (hr:cP res i=r) (hk:known res i):∃fp:Nat->Prop,r.holds K J i fp w0 F0 w/\∀b,fp b->fps i b\/(b<w0.heap.size/\¬F0 b):=by
 have hh:=h.holds i hk;unfold cP at hr;split at hr
 ·rename_i r' he;rw[he]at hh;subst hr;obtain⟨fp',h1,h2⟩:=hh;exact⟨fp',aK.gk _ h1 fun b hb=>h.same b (h2 b hb).1 (h2 b hb).2,fun b hb=> .inr (h2 b hb)⟩
 ·subst hr;exact⟨fps i,hh,fun b hb=> .inl hb⟩
def fD (κ:Nat->Option Nat) (res:List aK):List (Nat×Bool)->List aK
 | []=> []
 | (p,o)::l=>(if o then gL κ (az res p)else .ro (gL κ (cP res p)))::fD κ res l
def dV:List (Nat×Bool)->List Nat
 | []=> []
 | (p,_)::l=>p::dV l
def fm (res:List aK):List (Nat×Bool)->Bool
 | []=>true
 | (p,_)::l=>kY res p&&fm res l
theorem nU:∀(l:List (Nat×Bool)) (i:Nat),(dV l)[i]? =(l[i]?).map (·.1)
 | [],i=>by simp[dV]
 | (p,o)::l,0=>by simp[dV]
 | (p,o)::l,i+1=>by simp[dV,nU l i]
theorem wF (κ:Nat->Option Nat) (res:List aK):∀(l:List (Nat×Bool)) (i:Nat),az (fD κ res l) i=match l[i]? with
  |some (p,o)=>if o then gL κ (az res p)else .ro (gL κ (cP res p))
  |none=> .yet
 | [],i=>by simp[fD,az]
 | (p,o)::l,0=>by simp[fD,az]
 | (p,o)::l,i+1=>by simp[fD,az,wF κ res l i]
theorem vx (κ:Nat->Option Nat) (res:List aK):∀(l:List (Nat×Bool)),(fD κ res l).length=l.length
 | []=>rfl
 | (p,o)::l=>by simp[fD,vx κ res l]
theorem eE {res:List aK}:∀{l:List (Nat×Bool)},fm res l=true->∀(i:Nat) (p:Nat) (o:Bool),l[i]? =some (p,o)->known res p
 | [],_,i,p,o,h=>by simp at h
 | (x,y)::l,hk,i,p,o,h=>by
   simp only[fm,aaV]at hk;cases i with
   |zero=>simp at h;obtain⟨rfl,_⟩:=h;exact cQ.1 hk.1
   |succ i=>exact eE hk.2 i p o (by simpa using h)
theorem nI {p:Nat}:∀(l:List Nat) (m k:Nat),l.Nodup->l[k]? =some p->idxOf l m p=some (m+k)
 | [],m,k,_,h=>by simp at h
 |x::l,m,k,hnd,h=>by
  simp only[idxOf];cases k with
  |zero=>simp at h;subst h;simp
  |succ k=>
   simp at h
   have hne:(x==p)=false:=by
    grind
   rw[hne];simp only[Bool.false_eq_true,if_false];rw[nI l (m+1) k (List.nodup_cons.1 hnd).2 h];congr 1;omega
theorem JN {l:List Nat} {p i:Nat} (h:lS 0 l p=some i):l[i]? =some p:=by
 unfold lS at h;split at h
 ·rename_i hb;simp at hb
 ·have:=ji h;simpa using this.2.2
theorem C5 {l:List Nat} {p i:Nat} (hnd:l.Nodup) (h:l[i]? =some p):lS 0 l p=some i:=by
 unfold lS;rw[aa1 (by simp),nI l 0 i hnd h];simp
def Frame (J:Env) (fps:Nat->Nat->Prop) (pl:List (Nat×Bool)) (b:Nat):Prop:=∃(i p:Nat),pl[i]? =some (p,true)/\fps p b
section
variable {J:Env} {fps:Nat->Nat->Prop} {res:List aK} {w0 w:World} {F0:Nat->Prop}
theorem bq.fD {K:Nat->Prop} (h:bq J fps res K w0 F0 w) {pl:List (Nat×Bool)} (hk:fm res pl=true) (hnd:(dV pl).Nodup):
  bq (J.pull (src 0 (dV pl))) (fun i b=>∃p:Nat,pl[i]? =some (p,true)/\fps p b) (fD (lS 0 (dV pl)) res pl) (known (fD (lS 0 (dV pl)) res pl)) w (Frame J fps pl) w/\
   (∀i,i<pl.length->known (fD (lS 0 (dV pl)) res pl) i)/\Env.via (lS 0 (dV pl)) J (J.pull (src 0 (dV pl)))/\∀p i,lS 0 (dV pl) p=some i->K p->known (Sx.fD (lS 0 (dV pl)) res pl) i:=by
 generalize hκ:lS 0 (dV pl)=κ
 have hπ:∀p i,κ p=some i->src 0 (dV pl) i=p:=fun p i hp=>by subst hκ;exact Ih hp
 have hv:Env.via κ J (J.pull (src 0 (dV pl))):=rB hπ
 have hsome:∀i p o,pl[i]? =some (p,o)->κ p=some i:=fun i p o hi=>by
  subst hκ;exact C5 hnd (by rw[nU,hi];rfl)
 have hkn:∀i p o,pl[i]? =some (p,o)->known (Sx.fD κ res pl) i:=fun i p o hi=>by
  unfold known;rw[wF,hi];simp only;split
  ·exact fun e=>eE hk i p o hi (mJ.1 e)
  ·simp
 have hget:∀i,known (Sx.fD κ res pl) i->∃p o,pl[i]? =some (p,o):=fun i hi=>by
  have:=aO hi;rw[vx]at this;exact⟨pl[i].1,pl[i].2,by rw[List.getElem?_eq_getElem this]⟩
 have hN:∀p i,κ p=some i->K p->known (Sx.fD κ res pl) i:=fun p i hp _=>by
  subst hκ;have:=JN hp;rw[nU]at this;cases hi:pl[i]? with
  |none=>rw[hi]at this;simp at this
  |some po=>exact hkn i po.1 po.2 hi
 have huniq:∀i j p o o',pl[i]? =some (p,o)->pl[j]? =some (p,o')->i=j:=fun i j p o o' hi hj=>by
  have a:=hsome i p o hi;rw[hsome j p o' hj]at a;simpa using a.symm
 have hfr:∀b,b<w0.heap.size->¬F0 b->w.heap[b]? =w0.heap[b]? /\¬Frame J fps pl b:=fun b hb hF=>by
  refine⟨h.same b hb hF,?_⟩;rintro⟨i,p,hi,hf⟩
  exact hF (h.inF p b (eE hk i p true hi) hf hb)
 refine⟨⟨fun i hi=>hi,Nat.le_refl _,rfl,rfl,rfl,fun i hi=>?_,?_,?_,?_,fun _ _ _=>rfl⟩,fun i hi=>hkn i pl[i].1 pl[i].2 (by rw[List.getElem?_eq_getElem hi]),hv,hN⟩
 ·obtain⟨p,o,hp⟩:=hget i hi;have hkp:=eE hk i p o hp;rw[wF,hp];simp only;cases o with
  |true=>
   simp only[if_true];have:=aK.tC h.old hfr _ _ (h.holds p hkp);have:=iV hv hN (hsome i p true hp) _ _ _ this
   have e:(fun b=>∃p':Nat,some (p,true)=some (p',true)/\fps p' b)=fps p:=by
    funext b;simp
   rw[e];exact this
  |false=>
   simp only[Bool.false_eq_true,if_false];obtain⟨fp,g1,g2⟩:=h.BO rfl hkp;refine⟨fp,iV hv hN (hsome i p false hp) _ _ _ (aK.tC h.old hfr _ _ g1),fun b hb=>?_⟩
   rcases g2 b hb with hf|⟨hl,hF⟩
   ·refine⟨h.lt p b hkp hf,?_⟩;rintro⟨j,p',hj,hf'⟩
    have hkp':=eE hk j p' true hj;refine h.disj p p' b hkp hkp' (fun e=>?_) hf hf'
    subst e;have:=huniq i j p false true hp hj;subst this;rw[hp]at hj;simp at hj
   ·exact⟨Nat.lt_of_lt_of_le hl h.old,(hfr b hl hF).2⟩
 ·rintro i b hi ⟨p,hp,hf⟩
  exact h.lt p b (eE hk i p true hp) hf
 ·rintro i j b hi hj hne ⟨p,hp,hf⟩ ⟨p',hp',hf'⟩
  refine h.disj p p' b (eE hk i p true hp) (eE hk j p' true hp') (fun e=>hne ?_) hf hf'
  subst e;exact huniq i j p true true hp hp'
 ·rintro i b hi ⟨p,hp,hf⟩ _
  exact⟨i,p,hp,hf⟩
def fC (κ2:Nat->Option Nat) (r':List aK):Nat->List (Nat×Bool)->List aK->List aK
 |_,[],res=>res
 |i,(p,o)::l,res=>if o then fC κ2 r' (i+1) l (bP res p (gL κ2 (az r' i)))else fC κ2 r' (i+1) l res
def v7:List (Nat×Bool)->Nat->Option Nat
 | [],_=>none
 | (p,_)::_,0=>some p
 |_::l,i+1=>v7 l i
def back (pl:List (Nat×Bool)) (ext:List Nat) (n j:Nat):Option Nat:=
 match v7 pl j with
 |some p=>some p
 |none=>idxOf ext n j
def merge (pl:List (Nat×Bool)) (ext:List Nat) (r' res:List aK):List aK:=
 fC (back pl ext res.length) r' 0 pl res++gG (back pl ext res.length) r' ext
theorem yw:∀(l:List (Nat×Bool)) (i:Nat),v7 l i=(l[i]?).map (·.1)
 | [],i=>by simp[v7]
 | (p,o)::l,0=>by simp[v7]
 | (p,o)::l,i+1=>by simp[v7,yw l i]
theorem nG (κ2:Nat->Option Nat) (r':List aK):∀(l:List (Nat×Bool)) (i:Nat) (res:List aK),(fC κ2 r' i l res).length=res.length
 | [],_,_=>rfl
 | (p,o)::l,i,res=>by
   simp only[fC];split
   ·rw[nG κ2 r' l,cG]
   ·exact nG κ2 r' l _ _
theorem mE (κ2:Nat->Option Nat) (r':List aK):∀(l:List (Nat×Bool)) (i:Nat) (res:List aK) (x:Nat),(∀k:Nat,l[k]? ≠some (x,true))->(∀(k p:Nat) (o:Bool),l[k]? =some (p,o)->p<res.length)->az (fC κ2 r' i l res) x=az res x
 | [],_,_,_,_,_=>rfl
 | (p,o)::l,i,res,x,h,hb=>by
   have hl:∀k:Nat,l[k]? ≠some (x,true):=fun k=>by have:=h (k+1);simpa using this
   have hb':∀(k p:Nat) (o:Bool),l[k]? =some (p,o)->p<res.length:=fun k p o hk=>hb (k+1) p o (by simpa using hk)
   simp only[fC];split
   ·rename_i ho;subst ho;have hne:x≠p:=fun e=>h 0 (by simp[e])
    rw[mE κ2 r' l _ _ x hl (fun k p o hk=>by rw[cG];exact hb' k p o hk),bI _ _ _ _ (hb 0 p true (by simp)),aa1 hne]
   ·exact mE κ2 r' l _ _ x hl hb'
theorem qQ (κ2:Nat->Option Nat) (r':List aK):∀(l:List (Nat×Bool)) (i:Nat) (res:List aK) (x k:Nat),l[k]? =some (x,true)->(dV l).Nodup->(∀(k p:Nat) (o:Bool),l[k]? =some (p,o)->p<res.length)->
  az (fC κ2 r' i l res) x=gL κ2 (az r' (i+k))
 | [],_,_,_,_,h,_,_=>by simp at h
 | (p,o)::l,i,res,x,k,h,hnd,hb=>by
   have hb':∀(k p:Nat) (o:Bool),l[k]? =some (p,o)->p<res.length:=fun k p o hk=>hb (k+1) p o (by simpa using hk)
   have hnd':=List.nodup_cons.1 (show(p::dV l).Nodup from hnd);simp only[fC];cases k with
   |zero=>
    simp at h;obtain⟨rfl,rfl⟩:=h;simp only[if_true,Nat.add_zero];rw[mE κ2 r' l _ _ p (fun k hk=>hnd'.1 (List.mem_of_getElem? (i:=k) (by rw[nU,hk];rfl))) (fun k p o hk=>by rw[cG];exact hb' k p o hk),bI _ _ _ _ (hb 0 p true (by simp)),aa2 rfl]
   |succ k=>
    have h:l[k]? =some (x,true):=by simpa using h
    split
    ·rw[qQ κ2 r' l _ _ x k h hnd'.2 (fun k p o hk=>by rw[cG];exact hb' k p o hk)]
     congr 2;omega
    ·rw[qQ κ2 r' l _ _ x k h hnd'.2 hb'];congr 2;omega
def Env.join (n:Nat) (ext:List Nat) (J ρ2:Env):Env:=
 {num:=fun i=>if i<n then J.num i else ρ2.num (ext.getD (i-n) 0),cap:=fun i=>if i<n then J.cap i else ρ2.cap (ext.getD (i-n) 0),adr:=fun i=>if i<n then J.adr i else ρ2.adr (ext.getD (i-n) 0),
  sa:=fun i=>if i<n then J.sa i else ρ2.sa (ext.getD (i-n) 0),sn:=fun i=>if i<n then J.sn i else ρ2.sn (ext.getD (i-n) 0),ob:=fun i=>if i<n then J.ob i else ρ2.ob (ext.getD (i-n) 0)}
section
variable {J:Env} {fps:Nat->Nat->Prop} {res:List aK} {w0 w:World} {F0:Nat->Prop}
theorem bq.merge (h:bq J fps res (known res) w0 F0 w) {pl:List (Nat×Bool)} (hk:fm res pl=true) (hnd:(dV pl).Nodup) {ρ2:Env} {fps2:Nat->Nat->Prop} {r':List aK} {w':World}
  (h2:bq ρ2 fps2 r' (known r') w (Frame J fps pl) w') (hg:Good (J.pull (src 0 (dV pl))) (Sx.fD (lS 0 (dV pl)) res pl) ρ2 r') {ext:List Nat} (he:ju pl.length r'.length ext=true)
  (ho1:∀(i p:Nat),pl[i]? =some (p,true)->jT (az r' i)=true) (ho2:∀j,j∈ext->jT (az r' j)=true):
  ∃ρ3 fps3,bq ρ3 fps3 (Sx.merge pl ext r' res) (known (Sx.merge pl ext r' res)) w0 F0 w'/\Good J res ρ3 (Sx.merge pl ext r' res)/\Env.via (back pl ext res.length) ρ2 ρ3/\
   ∀j i,back pl ext res.length j=some i->known r' j->known (Sx.merge pl ext r' res) i:=by
 obtain⟨_,hkr,_,_⟩:=h.fD hk hnd;obtain⟨e1,e2⟩:=qo he;have hlt:∀(k p:Nat) (o:Bool),pl[k]? =some (p,o)->p<res.length:=fun k p o hp=>aO (eE hk k p o hp)
 have hpll:∀(k p:Nat) (o:Bool),pl[k]? =some (p,o)->k<pl.length:=fun k p o hp=>(List.getElem?_eq_some_iff.1 hp).1
 have huniq:∀i j p o o',pl[i]? =some (p,o)->pl[j]? =some (p,o')->i=j:=fun i j p o o' hi hj=>by
  have a:=C5 hnd (show(dV pl)[i]? =some p by rw[nU,hi];rfl)
  rw[C5 hnd (show(dV pl)[j]? =some p by rw[nU,hj];rfl)]at a
  simpa using a.symm
 have huniqE:∀(a b j:Nat),ext[a]? =some j->ext[b]? =some j->a=b:=fun a b j ha hb=>by
  have x:=nI ext 0 a e2 ha;rw[nI ext 0 b e2 hb]at x;simpa using x.symm
 have hback1:∀k p o,pl[k]? =some (p,o)->back pl ext res.length k=some p:=fun k p o hp=>by
  unfold back;rw[yw,hp];rfl
 have hback2:∀a j,ext[a]? =some j->back pl ext res.length j=some (res.length+a):=fun a j ha=>by
  unfold back;have:=(e1 j (List.mem_of_getElem? ha)).1;rw[yw,List.getElem?_eq_none this];exact nI ext _ a e2 ha
 have hbackS:∀j i,back pl ext res.length j=some i->(∃o,pl[j]? =some (i,o))\/(∃a,ext[a]? =some j/\i=res.length+a):=fun j i hj=>by
  unfold back at hj;rw[yw]at hj;cases hp:pl[j]? with
  |some po=>rw[hp]at hj;simp at hj;exact .inl ⟨po.2,by rw[<-hj]⟩
  |none=>
   rw[hp]at hj;simp at hj;obtain⟨a1,a2,a3⟩:=ji hj;exact .inr ⟨i-res.length,a3,by omega⟩
 have hget:∀i,az (Sx.merge pl ext r' res) i=if i<res.length then az (fC (back pl ext res.length) r' 0 pl res) i else match ext[i-res.length]? with|some j=>gL (back pl ext res.length) (az r' j)|none=> .yet:=fun i=>by
  unfold Sx.merge;rw[cF,nG];by_cases hi:i<res.length
  ·rw[aa2 hi,aa2 hi]
  ·grind[rC]
 have hown:∀k p,pl[k]? =some (p,true)->az (Sx.merge pl ext r' res) p=gL (back pl ext res.length) (az r' k):=fun k p hp=>by
  rw[hget,aa2 (hlt k p true hp),qQ _ r' pl 0 res p k hp hnd hlt,Nat.zero_add]
 have hother:∀i,i<res.length->(∀k,pl[k]? ≠some (i,true))->az (Sx.merge pl ext r' res) i=az res i:=fun i hi hno=>by
  rw[hget,aa2 hi,mE _ r' pl 0 res i hno hlt]
 have hext:∀a j,ext[a]? =some j->az (Sx.merge pl ext r' res) (res.length+a)=gL (back pl ext res.length) (az r' j):=fun a j ha=>by
  grind
 have hkr':∀k p o,pl[k]? =some (p,o)->known r' k:=fun k p o hp=>hg.2 k (hkr k (hpll k p o hp))
 have hN:∀j i,back pl ext res.length j=some i->known r' j->known (Sx.merge pl ext r' res) i:=fun j i hj hkj=>by
  rcases hbackS j i hj with⟨o,hp⟩|⟨a,ha,rfl⟩
  ·by_cases hT:∃k:Nat,pl[k]? =some (i,true)
   ·obtain⟨k,hk'⟩:=hT;unfold known;rw[hown k i hk'];exact fun e=>hkr' k i true hk' (mJ.1 e)
   ·unfold known;rw[hother i (hlt j i o hp) fun k hk'=>hT ⟨k,hk'⟩]
    exact eE hk j i o hp
  ·unfold known;rw[hext a j ha];exact fun e=>hkj (mJ.1 e)
 have hmono:∀i,known res i->known (Sx.merge pl ext r' res) i:=fun i hi=>by
  grind[known,aO]
 have hag:Env.bD (known res) J (Env.join res.length ext J ρ2):=fun i hi=>by
  have:=aO hi;simp[Env.join,this]
 have hvia:Env.via (back pl ext res.length) ρ2 (Env.join res.length ext J ρ2):=fun j i hj=>by
  rcases hbackS j i hj with⟨o,hp⟩|⟨a,ha,rfl⟩
  ·have hil:=hlt j i o hp;have hj':=hg.1 j (hkr j (hpll j i o hp))
   have hsrc:src 0 (dV pl) j=i:=by
    grind[src,nU]
   simp only[Env.pull,hsrc]at hj';obtain⟨a1,a2,a3,a4,a5,a6⟩:=hj';simp[Env.join,hil,a1,a2,a3,a4,a5,a6]
  ·grind[Env.join]
 obtain⟨fps3,g⟩:=h.turn (res':=Sx.merge pl ext r' res) (K':=known (Sx.merge pl ext r' res)) (fun i=>∃k:Nat,pl[k]? =some (i,true)) (fun i=>(∃k:Nat,pl[k]? =some (i,true))\/res.length<=i)
  (fun i b=>(∃k:Nat,pl[k]? =some (i,true)/\fps2 k b)\/(res.length<=i/\∃j,ext[i-res.length]? =some j/\known r' j/\fps2 j b))
  (fun i hi=>hi) hmono hag
  (fun i hi hb=>by
   have hlt':i<res.length:=by
    rcases Nat.lt_or_ge i res.length with h|h
    ·exact h
    ·exact absurd (.inr h) hb
   have e:=hother i hlt' fun k hk'=>hb (.inl ⟨k,hk'⟩)
   exact⟨by unfold known at hi⊢;rw[e]at hi;exact hi,fun hT=>hb (.inl hT),e⟩)
  (fun i hi hb=>by
   have hfoot:∀k b,known r' k->fps2 k b->(∃t,(∃k:Nat,pl[k]? =some (t,true))/\known res t/\fps t b)\/(w.heap.size<=b/\b<w'.heap.size):=fun k b hk' hf=>by
    by_cases hbw:b<w.heap.size
    ·obtain⟨x,p,hp,hfp⟩:=h2.inF k b hk' hf hbw;exact .inl ⟨p,⟨x,hp⟩,eE hk x p true hp,hfp⟩
    ·exact .inr ⟨by omega,h2.lt k b hk' hf⟩
   by_cases hT:∃k:Nat,pl[k]? =some (i,true)
   ·obtain⟨k,hp⟩:=hT;have hkk:=hkr' k i true hp;have hil:=hlt k i true hp
    have e:(fun b=>(∃k:Nat,pl[k]? =some (i,true)/\fps2 k b)\/(res.length<=i/\∃j,ext[i-res.length]? =some j/\known r' j/\fps2 j b))=fps2 k:=by
     funext b
     apply propext
     constructor
     ·rintro(⟨k',hp',hf⟩|⟨hge,_⟩)
      ·rw[huniq k k' i true true hp hp'];exact hf
      ·omega
     ·exact fun hf=> .inl ⟨k,hp,hf⟩
    refine⟨?_,fun b hf=>hfoot k b hkk (by rw[<-e];exact hf)⟩
    rw[e,hown k i hp];exact iV hvia hN (hback1 k i true hp) _ _ _ (mb (ho1 k i hp) (h2.holds k hkk))
   ·have hge:res.length<=i:=hb.resolve_left hT
    have hj:∃j,ext[i-res.length]? =some j:=by
     unfold known at hi;rw[hget,aa1 (by omega)]at hi
     cases hx:ext[i-res.length]? with
     |none=>rw[hx]at hi;exact absurd rfl hi
     |some j=>exact⟨j,rfl⟩
    obtain⟨j,hj⟩:=hj
    have hkj:known r' j:=by
     unfold known at hi;rw[hget,aa1 (by omega),hj]at hi
     exact fun e=>hi (mJ.2 e)
    have e:(fun b=>(∃k:Nat,pl[k]? =some (i,true)/\fps2 k b)\/(res.length<=i/\∃j,ext[i-res.length]? =some j/\known r' j/\fps2 j b))=fps2 j:=by
     grind
    refine⟨?_,fun b hf=>hfoot j b hkj (by rw[<-e];exact hf)⟩
    have hie:i=res.length+(i-res.length):=by omega
    have hb2:=hback2 _ j hj;rw[<-hie]at hb2;have hx:=hext _ j hj;rw[<-hie]at hx;rw[e,hx];exact iV hvia hN hb2 _ _ _ (mb (ho2 j (List.mem_of_getElem? hj)) (h2.holds j hkj)))
  (fun i j b hbi hbj hne hf hf'=>by
   have sel:∀x,((∃k:Nat,pl[k]? =some (x,true)/\fps2 k b)\/(res.length<=x/\∃j,ext[x-res.length]? =some j/\known r' j/\fps2 j b))->∃k,known r' k/\fps2 k b/\((pl[k]? =some (x,true))\/(res.length<=x/\ext[x-res.length]? =some k)):=by
    rintro x (⟨k,hp,hf⟩|⟨hge,j,hj,hkj,hf⟩)
    ·exact⟨k,hkr' k x true hp,hf,.inl hp⟩
    ·exact⟨j,hkj,hf,.inr ⟨hge,hj⟩⟩
   obtain⟨k,k1,k2,k3⟩:=sel i hf;obtain⟨l,l1,l2,l3⟩:=sel j hf';refine h2.disj k l b k1 l1 (fun e=>hne ?_) k2 l2
   subst e;rcases k3 with k3|⟨k3,k4⟩<;>rcases l3 with l3|⟨l3,l4⟩
   ·rw[k3]at l3;simp at l3;exact l3
   ·grind
   ·have:=(e1 k (List.mem_of_getElem? k4)).1;have:=hpll k j true l3;omega
   ·have:=huniqE _ _ _ k4 l4;omega)
  h2.os h2.tape h2.output h2.old
  (fun b hb hno=>h2.same b hb fun⟨i,p,hp,hf⟩=>hno p ⟨i,hp⟩ (eE hk i p true hp) hf)
 exact⟨_,fps3,g,⟨hag,hmono⟩,hvia,hN⟩
end
end
def kV (r':List aK):Nat->List (Nat×Bool)->Bool
 |_,[]=>true
 |i,(_,o)::l=>(if o then jT (az r' i)else true)&&kV r' (i+1) l
theorem xB {r':List aK}:∀{l:List (Nat×Bool)} {i:Nat},kV r' i l=true->∀k p:Nat,l[k]? =some (p,true)->jT (az r' (i+k))=true
 | [],i,_,k,p,h=>by simp at h
 | (x,o)::l,i,ha,k,p,h=>by
   simp only[kV,aaV]at ha;cases k with
   |zero=>simp at h;obtain⟨_,rfl⟩:=h;simpa using ha.1
   |succ k=>
    have:=xB ha.2 k p (by simpa using h)
    rwa [show i+(k+1)=i+1+k by omega]
def oz (r':List aK):List Nat->Bool
 | []=>true
 |j::l=>jT (az r' j)&&oz r' l
theorem vR {r':List aK}:∀{l:List Nat},oz r' l=true->∀j∈l,jT (az r' j)=true
 | [],_,j,h=>by simp at h
 |x::l,ha,j,h=>by
  simp only[oz,aaV]at ha;rcases List.mem_cons.1 h with rfl|h
  ·exact ha.1
  ·exact vR ha.2 j h
def lu (κ:Nat->Option Nat) (v v3:V):Prop:=∀(ρ2 ρ3:Env) (N N':Nat->Prop),Env.via κ ρ2 ρ3->(∀j i,κ j=some i->N j->N' i)->ok N v->den ρ3 v3=den ρ2 v/\ok N' v3
theorem lu.kE {κ:Nat->Option Nat} {v x:V} (h:ya x v []) (hx:Sx.kE x=true):lu κ v x:=fun ρ2 ρ3 N N' _ _ hv=>by
 obtain⟨s1,s2,_⟩:=h ρ2 N;exact⟨by rw[s1];exact qz hx (s2 hv) ρ2 ρ3,pb x hx (s2 hv)⟩
def WL (pl:List (Nat×Bool)) (res:List aK) (v:V) (r':List aK) (K:V->List aK->Prop):Prop:=
 ∃(ext:List Nat) (v3:V),ju pl.length r'.length ext=true/\kV r' 0 pl=true/\oz r' ext=true/\lu (back pl ext res.length) v v3/\K v3 (merge pl ext r' res)
section
variable {P:Program}
theorem an.frame {f:Nat} {args args0:List V} {res:List aK} {pl:List (Nat×Bool)} {K0 KP0 K KP:V->List aK->Prop} (hk:fm res pl=true) (hnd:ju 0 res.length (dV pl)=true)
  (ha:eX (lS 0 (dV pl)) args=some args0) (hc:an P f args0 (fD (lS 0 (dV pl)) res pl) K0 KP0)
  (hK:∀v r',K0 v r'->WL pl res v r' K) (hKP:∀v r',KP0 v r'->WL pl res v r' KP):an P f args res K KP:=by
 intro J fps w0 F0 w hH hargs;have hnd:=(qo hnd).2;obtain⟨g1,g2,g3,g4⟩:=hH.fD hk hnd;obtain⟨a1,_,a3,_⟩:=jl g3 g4 _ _ ha;rw[<-a1];refine(hc _ _ _ _ _ g1 (a3 hargs)).mono fun e w' ⟨x,ρ2,fps2,r',h1,h2,h3,h4⟩=>?_
 have fin:∀{K:V->List aK->Prop},WL pl res x r' K->∃x' ρ' fps' res',bq ρ' fps' res' (known res') w0 F0 w'/\Good J res ρ' res'/\ok (known res') x'/\den ρ' x'=den ρ2 x/\K x' res':=by
  rintro K ⟨ext,v3,b1,b2,b3,b4,b5⟩
  obtain⟨ρ3,fps3,m1,m2,m3,m4⟩:=hH.merge hk hnd h1 h2 b1 (fun i p hp=>by have:=xB b2 i p hp;rwa [Nat.zero_add]at this) (vR b3)
  obtain⟨c1,c2⟩:=b4 ρ2 ρ3 _ _ m3 m4 h3;exact⟨v3,ρ3,fps3,_,m1,m2,c2,c1,b5⟩
 rcases h4 with⟨rfl,h4⟩|⟨rfl,h4⟩
 ·grind
 ·grind
def sO:aK->Bool
 | .store _ _ _=>true
 | .arr _ _ _=>true
 |_=>false
theorem vv {κ:Nat->Option Nat} {r:aK} (h:sO r=true):gL κ r=r:=by
 cases r<;>first|rfl|simp[sO]at h
def pE (res:List aK) (p:Nat) (r:aK):Prop:=known res p/\∀J fps K w0 F0 w,bq J fps res K w0 F0 w->
 ∃fp:Nat->Prop,r.holds K J p fp w0 F0 w/\∀b,fp b->(∃i,known res i/\fps i b)\/(b<w0.heap.size/\¬F0 b)
theorem pE.look {res:List aK} {p:Nat} {r:aK} (h:cP res p=r) (hne:r≠ .yet):pE res p r:=by
 have hk:=eU h hne;refine⟨hk,fun J fps K w0 F0 w hH=>?_⟩
 obtain⟨fp,g1,g2⟩:=hH.BO h hk;exact⟨fp,g1,fun b hb=>(g2 b hb).elim (fun h=> .inl ⟨p,hk,h⟩) .inr⟩
def td:List (Nat×aK)->List aK
 | []=> []
 | (_,r)::l=> .ro r::td l
theorem yu:∀(l:List (Nat×aK)) (i:Nat),az (td l) i=match l[i]? with|some p=> .ro p.2|none=> .yet
 | [],i=>by simp[td,az]
 | (p,r)::l,0=>by simp[td,az]
 | (p,r)::l,i+1=>by simp[td,az,yu l i]
theorem uo:∀l:List (Nat×aK),(td l).length=l.length
 | []=>rfl
 | (p,r)::l=>by simp[td,uo l]
def re:List (Nat×aK)->Nat->Nat
 | [],_=>0
 | (p,_)::_,0=>p
 |_::l,i+1=>re l i
theorem u5:∀(l:List (Nat×aK)) (i:Nat) (p:Nat×aK),l[i]? =some p->re l i=p.1
 | [],i,p,h=>by simp at h
 | (x,r)::l,0,p,h=>by simp at h;subst h;rfl
 | (x,r)::l,i+1,p,h=>by simp only[re];exact u5 l i p (by simpa using h)
theorem vJ {f:Nat} {g:Ct} (h:∀res nid args q x new,g res nid args=some (q,x,new)->new= []/\kE x=true/\
  ∃(pls:List (Nat×aK)) (args0:List V),(∀p∈pls,pE res p.1 p.2/\sO p.2=true)/\(∀(J:Env) K,fQ K args->bz (J.pull (re pls)) args0=bz J args)/\(∀K,fQ K args->fQ (known (td pls)) args0)/\
   (dY q->fQ (known (td pls)) args0->an P f args0 (td pls) (ya x) (fun _ _=>False))):cz P f g:=by
 intro J fps res K w0 F0 w nid args q x new hH hargs hg hq hfr;obtain⟨rfl,hid,pls,args0,hcl,hden,hok,hc⟩:=h res nid args q x new hg;refine⟨?_,fun k hk=>by simp at hk⟩
 have hfr:∀b,b<w0.heap.size->¬F0 b->w.heap[b]? =w0.heap[b]? /\¬(fun _:Nat=>False) b:=fun b hb hF=>⟨hH.same b hb hF,fun h=>h⟩
 have hrep:bq (J.pull (re pls)) (fun _ _=>False) (td pls) (known (td pls)) w (fun _=>False) w:=by
  refine⟨fun i hi=>hi,Nat.le_refl _,rfl,rfl,rfl,fun i hi=>?_,fun i b hi h=>h.elim,fun i j b hi hj hne h=>h.elim,fun i b hi h=>h.elim,fun _ _ _=>rfl⟩
  have hlt:=aO hi;rw[uo]at hlt;have hp:pls[i]? =some pls[i]:=List.getElem?_eq_getElem hlt;generalize pls[i]=p at hp
  rw[yu,hp];simp only;obtain⟨hs,hcl⟩:=hcl p (List.mem_of_getElem? hp);obtain⟨fp,g1,g2⟩:=hs.2 J fps K w0 F0 w hH
  have hv:Env.via (fun x=>if x=p.1 then some i else none) J (J.pull (re pls)):=rB fun x j hx=>by
   split at hx
   ·simp only[aaT]at hx;subst hx;rename_i e;subst e;exact u5 pls i p hp
   ·simp at hx
  have:=iV (N':=known (td pls)) hv (fun x j hx _=>by
   split at hx
   ·simp only[aaT]at hx;subst hx;exact hi
   ·simp at hx) (p:=p.1) (i:=i) (by simp) _ _ _ (aK.tC hH.old hfr _ _ g1)
  rw[vv hcl]at this;refine⟨fp,this,fun b hb=>⟨?_,fun h=>h⟩⟩
  rcases g2 b hb with⟨j,hj,hf⟩|⟨hl,_⟩
  ·exact hH.lt j b hj hf
  ·exact Nat.lt_of_lt_of_le hl hH.old
 have hok0:=hok K hargs;rw[<-hden J K hargs];refine(hc hq hok0 _ _ _ _ _ hrep hok0).mono fun e w' ⟨y,ρ',fps',res',g1,g2,g3,g4⟩=>?_
 rcases g4 with⟨rfl,hK⟩|⟨_,hK⟩
 ·refine⟨_,rfl,J,?_,?_,?_⟩
  ·exact⟨⟨g1.os,g1.tape,g1.output,g1.old,fun b hb=>g1.same b hb (fun h=>h)⟩,Env.bD.refl _ _,fun _ _=>False,fun k hk=>by simp at hk,fun k l b hk=>by simp at hk⟩
  ·obtain⟨e1,e2,_⟩:=hK ρ' (known res');rw[e1];exact qz hid (e2 g3) J ρ'
  ·obtain⟨e1,e2,_⟩:=hK ρ' (known res');exact pb x hid (e2 g3)
 ·exact hK.elim
theorem an.uU {f:Nat} {args:List V} {res res1:List aK} {K KP:V->List aK->Prop} (h:an P f args res1 K KP)
  (ho:∀J fps w0 F0 w,bq J fps res (known res) w0 F0 w->∃ρ' fps',bq ρ' fps' res1 (known res1) w0 F0 w/\Good J res ρ' res1):an P f args res K KP:=by
 intro J fps w0 F0 w hH hargs;obtain⟨ρ',fps',h1,h2⟩:=ho J fps w0 F0 w hH;rw[<-fW h2.1 args hargs];refine(h ρ' fps' w0 F0 w h1 (dw h2.2 _ hargs)).mono fun e w' ⟨x,ρ2,fps2,r',g1,g2,g3,g4⟩=>⟨x,ρ2,fps2,r',g1,h2.trans g2,g3,g4⟩
theorem an.kF {f:Nat} {args:List V} {res:List aK} {k t e:Nat} {L:List Obj} {K KP:V->List aK->Prop} (hr:az res k= .store t e L) (h:an P f args (kF res k t e L) K KP):an P f args res K KP:=
 h.uU fun _ _ _ _ _ hH=>Bv hr hH
theorem an.fE {f:Nat} {args:List V} {res:List aK} {k t e:Nat} {L:List Obj} {K KP:V->List aK->Prop} (hr:az res k= .ro (.store t e L)) (h:an P f args (fE res k t e L) K KP):an P f args res K KP:=
 h.uU fun _ _ _ _ _ hH=>yO hr hH
theorem an.shut {f:Nat} {args:List V} {res:List aK} {K0 KP K:V->List aK->Prop} (h:an P f args res K0 KP) (hK:∀v r,K0 v r->K v r\/∃k r',uI r k=some r'/\K v r'):an P f args res K KP:=by
 intro J fps w0 F0 w hH hargs;refine(h J fps w0 F0 w hH hargs).mono fun e w' ⟨x,ρ2,fps2,r',g1,g2,g3,g4⟩=>?_
 rcases g4 with⟨rfl,hk⟩|g4
 ·rcases hK _ _ hk with hk|⟨k,r2,s1,s2⟩
  ·exact⟨x,ρ2,fps2,r',g1,g2,g3,.inl ⟨rfl,hk⟩⟩
  ·obtain⟨fps3,m1,m2⟩:=BX s1 g1;exact⟨x,ρ2,fps3,r2,m1,⟨g2.1,fun i hi=>m2 i (g2.2 i hi)⟩,ef m2 _ g3,.inl ⟨rfl,s2⟩⟩
 ·exact⟨x,ρ2,fps2,r',g1,g2,g3,.inr g4⟩
end
section
variable {P:Program}
theorem an.fact {f:Nat} {args:List V} {res:List aK} {K KP:V->List aK->Prop} {k t e:Nat} {L:List Obj} (hr:cP res k= .store t e L)
  (h:(∀o∈L,o.wf)->L.length<=9223372036854775807->an P f args res K KP):an P f args res K KP:=by
 intro J fps w0 F0 w hH hargs;obtain⟨fp,hh,_⟩:=hH.look hr (by simp)
 obtain⟨_,h1,h2,_⟩:=hh;exact h h1 h2 J fps w0 F0 w hH hargs
theorem an.QL {f:Nat} {args:List V} {res:List aK} {K KP:V->List aK->Prop} {k esz:Nat} {own:Option Nat} {L:List Obj} (hr:cP res k= .arr own esz (.ob L))
  (h:(∀o∈L,o.wf)->L.length<=9223372036854775807->an P f args res K KP):an P f args res K KP:=by
 intro J fps w0 F0 w hH hargs;obtain⟨fp,hh,_⟩:=hH.look hr (by simp)
 obtain⟨h1,_,h2,_⟩:=hh;refine h (fun o ho=>?_) h2 J fps w0 F0 w hH hargs
 obtain⟨i,hi,rfl⟩:=List.getElem_of_mem ho;have:=(h1 i hi).1;simpa[TL.get,aj,aa0,hi,ok]using this
theorem pE.open {res:List aK} {p j t e q:Nat} {L:List Obj} (hp:cP res p= .blk t (.ag [.sa j])) (hj:cP res j= .obs e q L) (hte:t≠e):pE res p (.store t e L):=by
 have hkp:=eU hp (by simp)
 have hkj:=eU hj (by simp)
 refine⟨hkp,fun J fps K w0 F0 w hH=>?_⟩
 obtain⟨fp1,⟨_,_,b3,b4⟩,g1⟩:=hH.BO hp hkp;obtain⟨fp2,⟨_,c1,c2,c3,c4,c5,c6,c7⟩,g2⟩:=hH.BO hj hkj
 have b4':w.heap[J.num p]? =some (.cells #[J.sl j] t (0,0)):=by
  rw[b4];have:den J (.sa j)=J.sl j:=rfl;simp[fL,bn,this,Env.sl,Value.cells]
 refine⟨fun b=>fp1 b\/fp2 b,⟨.inl b3,c1,c3,J.sl j,J.ob q,b4',c6,fun b hb=>?_,fun x hx=>?_⟩,fun b hb=>?_⟩
 ·have hb':=hb;cases ha:J.sa j with
  |none=>simp[Env.sl,ha,Value.ownBlock]at hb
  |some a=>
   simp only[Env.sl,ha,Value.ownBlock,aaT]at hb;subst hb;refine⟨.inr (c4 a ha).2,fun e'=>?_⟩
   rcases c6.2 with⟨hh,_⟩|⟨g,cap,cur,hh,_,h3,_⟩
   ·simp[Env.sl,ha]at hh
   ·rw[hh]at hb';simp only[Value.ownBlock,aaT]at hb';rw[hb',e',b4']at h3;simp only[aaT,Go.Obj.cells.injEq]at h3;exact hte h3.2.1
 ·grind[n8]
 ·grind
theorem pE.zero {res:List aK} {p t e:Nat} (hp:cP res p= .blk t (.ag [.nl (.slice none 0 0)])):pE res p (.store t e []):=by
 have hkp:=eU hp (by simp)
 refine⟨hkp,fun J fps K w0 F0 w hH=>?_⟩
 obtain⟨fp1,⟨_,_,b3,b4⟩,g1⟩:=hH.BO hp hkp;refine⟨fp1,⟨b3,by simp,by simp,.slice none 0 0,fun _=>0,?_,World.ownsRow_nil w 0 e 1,fun b hb=>by simp[Value.ownBlock]at hb,fun x hx=>by simp at hx⟩,fun b hb=>(g1 b hb).elim (fun h=> .inl ⟨p,hkp,h⟩) .inr⟩
 rw[b4];simp[fL,bn,den,Value.cells]
def rS (t e:Nat) (res:List aK) (v:V):Option (Option Nat×List Obj):=
 match v with
 | .nl v=>match v with
   | .pointer p=>match p with
     |none=>some (none,[])
     |some _=>none
   |_=>none
 | .lp k off=>if off==0 then match cP res k with
   | .store t' e' L=>if t'==t&&e'==e then some (some k,L)else none
   | .blk t' c=>if t'==t&& !(t==e)then match c with
     | .ag l=>match l with
       | [x]=>match x with
         | .sa j=>match cP res j with
           | .obs e' _ L=>if e'==e then some (some k,L)else none
           |_=>none
         | .nl v=>match v with
           | .slice none 0 0=>some (some k,[])
           |_=>none
         |_=>none
       |_=>none
     |_=>none
     else none
   |_=>none
   else none
 |_=>none
theorem uM {t e:Nat} {res:List aK} {v:V} {o:Option Nat} {L:List Obj} (h:rS t e res v=some (o,L)):(o=none/\L= []/\v= .nl (.pointer none))\/∃k,o=some k/\v= .lp k 0/\pE res k (.store t e L):=by
 unfold rS at h;split at h
 ·grind
 ·rename_i k off;split at h
  ·rename_i ho;have ho:=aaX.1 ho;subst ho;split at h
   ·grind[pE.look]
   ·grind[pE.open,pE.zero]
   ·simp at h
  ·simp at h
 ·simp at h
def ke:V:= .nl (.pointer none)
def XK (t e:Nat) (F:List Obj->V):Ct:=fun res _ xs=>match xs with
 | [a]=>match rS t e res a with
   |some (_,L)=>some (none,F L,[])
   |none=>none
 |_=>none
def Jt {α:Type} (t e:Nat) (r:V->Option α) (F:List Obj->α->V):Ct:=fun res _ xs=>match xs with
 | [a,b]=>match rS t e res a with
   |some (_,L)=>match r b with
    |some x=>some (none,F L x,[])
    |none=>none
   |none=>none
 |_=>none
theorem OQ {f t e:Nat} {F:List Obj->V} (hF:∀L,kE (F L)=true) (h0:an P f [ke] [] (oW (F [])) (fun _ _=>False))
  (h1:∀L,(∀o∈L,o.wf)->L.length<=9223372036854775807->an P f [.lp 0 0] [.ro (.blk t (.ag [.sa 1])),.ro (.obs e 2 L),.gen 1] (oW (F L)) (fun _ _=>False)):cz P f (XK t e F):=by
 refine vJ fun res nid args q x new hg=>?_
 unfold XK at hg;split at hg<;>(try split at hg)<;>simp only[aaT,aaU,reduceCtorEq]at hg
 rename_i a o L hr;obtain⟨rfl,rfl,rfl⟩:=hg;rcases uM hr with⟨rfl,rfl,rfl⟩|⟨k,rfl,rfl,hs⟩
 ·exact⟨rfl,hF [],[],[ke],by simp,fun J _ _=>rfl,fun K hK=>⟨hK.1,trivial⟩,fun _ _=>h0.mono (fun _ _=>dK) fun _ _ h=>h⟩
 ·refine⟨rfl,hF L,[(k,.store t e L)],[.lp 0 0],by simpa using⟨hs,rfl⟩,fun J _ _=>rfl,fun K hK=>⟨by simp[ok,known,td,az],trivial⟩,fun _ _=>?_⟩
  exact an.fact (k:=0) rfl fun w1 w2=>(an.fE (res:=td [(k,.store t e L)]) (k:=0) rfl (h1 L w1 w2)).mono (fun _ _=>dK) fun _ _ h=>h
theorem yz {f t e:Nat} {α:Type} {r:V->Option α} {m:α->V} {F:List Obj->α->V} (hr:tc r m) (hF:∀L x,kE (F L x)=true)
  (h0:∀x,ok (fun _=>False) (m x)->an P f [ke,m x] [] (oW (F [] x)) (fun _ _=>False))
  (h1:∀L x,(∀o∈L,o.wf)->L.length<=9223372036854775807->ok (fun _=>False) (m x)->an P f [.lp 0 0,m x] [.ro (.blk t (.ag [.sa 1])),.ro (.obs e 2 L),.gen 1] (oW (F L x)) (fun _ _=>False))
  (hid:∀x,kE (m x)=true):cz P f (Jt t e r F):=by
 refine vJ fun res nid args q x new hg=>?_
 unfold Jt at hg;split at hg<;>(try split at hg)<;>(try split at hg)<;>simp only[aaT,aaU,reduceCtorEq]at hg
 rename_i a b _ o L hs _ x hb;obtain⟨rfl,rfl,rfl⟩:=hg;obtain⟨b1,b2⟩:=hr _ x hb;have hde:∀J ρ':Env,∀K,ok K b->den ρ' (m x)=den J b:=fun J ρ' K hk=>by rw[b1 J];exact qz (hid x) (b2 K hk) J ρ'
 rcases uM hs with⟨rfl,rfl,rfl⟩|⟨k,rfl,rfl,hse⟩
 ·refine⟨rfl,hF [] x,[],[ke,m x],by simp,fun J K hK=>?_,fun K hK=>⟨hK.1,fT (b2 K hK.2.1),trivial⟩,fun _ hok=>?_⟩
  ·simp only[bz,hde J (J.pull (re [])) K hK.2.1];rfl
  ·exact(h0 x (pb _ (hid x) hok.2.1)).mono (fun _ _=>dK) fun _ _ h=>h
 ·refine⟨rfl,hF L x,[(k,.store t e L)],[.lp 0 0,m x],by simpa using⟨hse,rfl⟩,fun J K hK=>?_,fun K hK=>⟨by simp[ok,known,td,az],fT (b2 K hK.2.1),trivial⟩,fun _ hok=>?_⟩
  ·simp only[bz,hde J (J.pull (re [(k,.store t e L)])) K hK.2.1];rfl
  ·exact an.fact (k:=0) rfl fun w1 w2=>(an.fE (res:=td [(k,.store t e L)]) (k:=0) rfl (h1 L x w1 w2 (pb _ (hid x) hok.2.1))).mono (fun _ _=>dK) fun _ _ h=>h
theorem pE.arr {res:List aK} {p esz:Nat} {own:Option Nat} {l:TL} (h:cP res p= .arr own esz l):pE res p (.arr none esz l):=by
 have hk:=eU h (by simp)
 refine⟨hk,fun J fps K w0 F0 w hH=>?_⟩
 obtain⟨fp,⟨h1,h2,h3,h4,h5,h6,h7⟩,g2⟩:=hH.BO h hk;refine⟨fp,⟨h1,h2,h3,h4,h5,h6,?_⟩,fun b hb=>(g2 b hb).elim (fun h=> .inl ⟨p,hk,h⟩) .inr⟩
 rcases h7 with⟨e,h7⟩|⟨e,e1,e2⟩
 ·exact .inl ⟨rfl,h7⟩
 ·exact .inr ⟨e,by simp,e2⟩
def rA (res:List aK) (v:V):Option (Nat×List Obj):=
 match v with
 | .sa k=>match cP res k with
   | .arr _ e l=>if e==163 then match l with
     | .ob l=>some (k,l)
     |_=>none
     else none
   |_=>none
 |_=>none
theorem Cx {res:List aK} {v:V} {k:Nat} {l:List Obj} (h:rA res v=some (k,l)):v= .sa k/\pE res k (.arr none 163 (.ob l))/\∃own,cP res k= .arr own 163 (.ob l):=by
 unfold rA at h;split at h
 ·grind[pE.arr]
 ·simp at h
def SO {α:Type} (r:V->Option α) (F:List Obj->α->V):Ct:=fun res _ xs=>match xs with
 | [a,b]=>match rA res a with
   |some (_,L)=>match r b with
    |some x=>some (none,F L x,[])
    |none=>none
   |none=>none
 |_=>none
theorem Tp {J:Env} {i k:Nat} {pls:List (Nat×aK)} (h:re pls i=k):den (J.pull (re pls)) (.sa i)=den J (.sa k):=by
 simp only[den,Env.pull,h]
theorem Hp {f:Nat} {α:Type} {r:V->Option α} {m:α->V} {F:List Obj->α->V} (hr:tc r m) (hF:∀L x,kE (F L x)=true)
  (h1:∀L x,(∀o∈L,o.wf)->L.length<=9223372036854775807->ok (fun _=>False) (m x)->an P f [.sa 0,m x] [.ro (.arr none 163 (.ob L))] (oW (F L x)) (fun _ _=>False)) (hid:∀x,kE (m x)=true):cz P f (SO r F):=by
 refine vJ fun res nid args q x new hg=>?_
 unfold SO at hg;split at hg<;>(try split at hg)<;>(try split at hg)<;>simp only[aaT,aaU,reduceCtorEq]at hg
 rename_i a b _ k L hs _ x hb;obtain⟨rfl,rfl,rfl⟩:=hg;obtain⟨rfl,hse,_⟩:=Cx hs;obtain⟨b1,b2⟩:=hr _ x hb;have hde:∀J ρ':Env,∀K,ok K b->den ρ' (m x)=den J b:=fun J ρ' K hk=>by rw[b1 J];exact qz (hid x) (b2 K hk) J ρ'
 refine⟨rfl,hF L x,[(k,.arr none 163 (.ob L))],[.sa 0,m x],by simpa using⟨hse,rfl⟩,fun J K hK=>?_,fun K hK=>⟨by simp[ok,known,td,az],fT (b2 K hK.2.1),trivial⟩,fun _ hok=>?_⟩
 ·simp only[bz,hde J (J.pull (re [(k,.arr none 163 (.ob L))])) K hK.2.1,Tp (pls:= [(k,.arr none 163 (.ob L))]) (i:=0) (k:=k) rfl]
 ·exact an.QL (k:=0) rfl fun w1 w2=>(h1 L x w1 w2 (pb _ (hid x) hok.2.1)).mono (fun _ _=>dK) fun _ _ h=>h
def Wb (t e:Nat) (F:List Obj->List Obj->V):Ct:=fun res _ xs=>match xs with
 | [a,b]=>match rS t e res a with
   |some (_,L)=>match rA res b with
    |some (_,M)=>some (none,F L M,[])
    |none=>none
   |none=>none
 |_=>none
theorem RD {f t e:Nat} {F:List Obj->List Obj->V} (hF:∀L M,kE (F L M)=true)
  (h0:∀M,(∀o∈M,o.wf)->M.length<=9223372036854775807->an P f [ke,.sa 0] [.ro (.arr none 163 (.ob M))] (oW (F [] M)) (fun _ _=>False))
  (h1:∀L M,(∀o∈L,o.wf)->L.length<=9223372036854775807->(∀o∈M,o.wf)->M.length<=9223372036854775807->
   an P f [.lp 0 0,.sa 1] [.ro (.blk t (.ag [.sa 2])),.ro (.arr none 163 (.ob M)),.ro (.obs e 3 L),.gen 2] (oW (F L M)) (fun _ _=>False)):cz P f (Wb t e F):=by
 refine vJ fun res nid args q x new hg=>?_
 unfold Wb at hg;split at hg<;>(try split at hg)<;>(try split at hg)<;>simp only[aaT,aaU,reduceCtorEq]at hg
 rename_i a b _ o L hs _ j M hb;obtain⟨rfl,rfl,rfl⟩:=hg;obtain⟨rfl,hbe,_⟩:=Cx hb;rcases uM hs with⟨rfl,rfl,rfl⟩|⟨k,rfl,rfl,hse⟩
 ·refine⟨rfl,hF [] M,[(j,.arr none 163 (.ob M))],[ke,.sa 0],by simpa using⟨hbe,rfl⟩,fun J K hK=>?_,fun K hK=>⟨hK.1,by simp[ok,known,td,az],trivial⟩,fun _ hok=>?_⟩
  ·rfl
  ·exact an.QL (k:=0) rfl fun w1 w2=>(h0 M w1 w2).mono (fun _ _=>dK) fun _ _ h=>h
 ·refine⟨rfl,hF L M,[(k,.store t e L),(j,.arr none 163 (.ob M))],[.lp 0 0,.sa 1],by simpa using⟨⟨hse,rfl⟩,hbe,rfl⟩,fun J K hK=>?_,fun K hK=>⟨by simp[ok,known,td,az],by simp[ok,known,td,az],trivial⟩,fun _ hok=>?_⟩
  ·rfl
  ·exact an.fact (k:=0) rfl fun w1 w2=>an.QL (k:=1) rfl fun w3 w4=>
    (an.fE (res:=td [(k,.store t e L),(j,.arr none 163 (.ob M))]) (k:=0) rfl (h1 L M w1 w2 w3 w4)).mono (fun _ _=>dK) fun _ _ h=>h
end
abbrev kq:=List V->List aK->(V->List aK->Prop)->Prop
def lh (P:Program) (f:Nat) (h:kq):Prop:=∀args res K KP,h args res K->an P f args res K KP
def Ex:List (Nat×kq)->Handler
 | [],_,_,_,_,_=>False
 | (g,h)::l,f,args,res,K,KP=>if f==g then h args res K else Ex l f args res K KP
theorem zr {P:Program}:∀{l:List (Nat×kq)},(∀p∈l,lh P p.1 p.2)->Handler.OK P (Ex l)
 | [],_,f,args,res,K,KP,h=>h.elim
 | (g,x)::l,hl,f,args,res,K,KP,h=>by
   simp only[Ex]at h;split at h
   ·rename_i e;have e:=aaX.1 e;subst e;exact hl (f,x) (by simp) args res K KP h
   ·exact zr (fun p hp=>hl p (by simp[hp])) f args res K KP h
theorem aE {P:Program}:∀p∈([]:List (Nat×kq)),lh P p.1 p.2:=by simp
theorem aC {P:Program} {f:Nat} {g:kq} {l:List (Nat×kq)} (h:lh P f g) (t:∀p∈l,lh P p.1 p.2):∀p∈(f,g)::l,lh P p.1 p.2:=by
 simp_all
theorem vz {κ:Nat->Option Nat}:∀v,kE v=true->ga κ v=some v:=by
 intro v
 exact V.rec (motive_1:=fun v=>kE v=true->ga κ v=some v) (motive_2:=fun l=>lW l=true->eX κ l=some l)
  (fun b _=>rfl) (fun b _=>rfl) (fun k n _=>rfl) (fun k n _=>rfl) (fun b _=>rfl) (fun s _=>rfl) (fun v _=>rfl) (fun _ _ h=>by simp[kE]at h) (fun _ _ _ _ _ _ h=>by simp[kE]at h)
  (fun _ _ _ h=>by simp[kE]at h) (fun _ _ h=>by simp[kE]at h) (fun _ _ _ _ h=>by simp[kE]at h) (fun _ h=>by simp[kE]at h) (fun _ _ h=>by simp[kE]at h) (fun _ h=>by simp[kE]at h)
  (fun f l ih h=>by simp only[ga];rw[ih h]) (fun t x ih h=>by simp only[ga];rw[ih h]) (fun l ih h=>by simp only[ga];rw[ih h]) (fun l ih h=>by simp only[ga];rw[ih h])
  (fun _ _=>rfl) (fun _ _=>rfl) (fun _ _=>rfl) (fun _ _=>rfl) (fun _ h=>by simp[kE]at h) (fun _ _ _ _ _ _ h=>by simp[kE]at h) (fun _ _ _ _ _ _ _ _ h=>by simp[kE]at h) (fun _ _ _ _ h=>by simp[kE]at h) (fun _ _ _ _ _ _ h=>by simp[kE]at h) (fun _=>rfl)
  (fun x l ih1 ih2 h=>by simp only[lW,aaV]at h;simp only[eX];rw[ih1 h.1];simp only;rw[ih2 h.2]) v
theorem lf {κ:Nat->Option Nat}:∀l,lW l=true->eX κ l=some l
 | [],_=>rfl
 |x::l,h=>by
  simp_all[lW,eX,vz,lf]
def ff (l m:List V):Prop:=∀(J:Env) K,fQ K l->bz J l=bz J m/\fQ K m
theorem ff.nil:ff [] []:=fun _ _ _=>⟨rfl,trivial⟩
theorem ff.j4 {x:V} {l m:List V} (h:ff l m):ff (x::l) (x::m):=fun J K hk=>⟨by simp only[bz,(h J K hk.2).1],hk.1,(h J K hk.2).2⟩
theorem ff.rd {α:Type} {r:V->Option α} {f:α->V} (hr:tc r f) {a:V} {x:α} (hx:r a=some x) {l m:List V} (h:ff l m):ff (a::l) (f x::m):=fun J K hk=>by
 obtain⟨a1,a2⟩:=hr a x hx;exact⟨by simp only[bz,(h J K hk.2).1,a1],fT (a2 K hk.1),(h J K hk.2).2⟩
section
variable {P:Program}
theorem an.args {f:Nat} {args args':List V} {res:List aK} {K KP:V->List aK->Prop} (h:ff args args') (hc:an P f args' res K KP):an P f args res K KP:=by
 intro J fps w0 F0 w hH hargs;obtain⟨h1,h2⟩:=h J _ hargs;rw[h1];exact hc J fps w0 F0 w hH h2
theorem an.DC {f:Nat} {rest:List V} {res:List aK} {K KP:V->List aK->Prop} {k t e:Nat} {L M:List Obj} {x:V} (hr:az res k= .store t e L) (hid:lW rest=true) (hx:kE x=true)
  (h:an P f (.lp 0 0::rest) [.store t e L] (fun v r=>ya x v r/\az r 0= .store t e M) (fun _ _=>False)) (hK:K x (bP res k (.store t e M))):an P f (.lp k 0::rest) res K KP:=by
 have hk:known res k:=by unfold known;rw[hr];simp
 have hlt:=aO hk;refine an.frame (pl:= [(k,true)]) (args0:= .lp 0 0::rest) (K0:=fun v r=>ya x v r/\az r 0= .store t e M) (KP0:=fun _ _=>False) (by simp[fm,cQ.2 hk]) (by simpa[ju,dV,pF]using hlt) ?_ ?_ (fun v r hv=>?_) (fun _ _ h=>h.elim)
 ·simp only[eX,ga,lS,idxOf,dV];rw[lf rest hid];simp
 ·simp_all[fD,lS,dV,gL]
 ·obtain⟨h1,h2⟩:=hv;have hm:merge [(k,true)] [] r res=bP res k (.store t e M):=by simp[merge,fC,h2,gL,gG]
  exact⟨[],x,rfl,by simp[kV,h2,jT],rfl,lu.kE h1 hx,by rw[hm];exact hK⟩
theorem an.pure {f:Nat} {args:List V} {res:List aK} {K KP:V->List aK->Prop} {x:V} (hid:lW args=true) (hx:kE x=true)
  (h:an P f args [] (fun v _=>ya x v []) (fun _ _=>False)) (hK:K x res):an P f args res K KP:=by
 refine an.frame (pl:= []) (args0:=args) (K0:=fun v _=>ya x v []) (KP0:=fun _ _=>False) rfl rfl (lf args hid) h (fun v r hv=>?_) (fun _ _ h=>h.elim)
 have hm:merge [] [] r res=res:=by simp[merge,fC,gG]
 exact⟨[],x,rfl,rfl,rfl,lu.kE hv hx,by rw[hm];exact hK⟩
theorem an.K2 {f:Nat} {rest:List V} {res:List aK} {K KP:V->List aK->Prop} {k:Nat} {r0:aK} {x:V} (hr:cP res k=r0) (hne:r0≠ .yet) (hren:∀κ,gL κ r0=r0) (hid:lW rest=true) (hx:kE x=true)
  (h:an P f (.lp 0 0::rest) [.ro r0] (fun v _=>ya x v []) (fun _ _=>False)) (hK:K x res):an P f (.lp k 0::rest) res K KP:=by
 have hk:=eU hr hne;have hlt:=aO hk;refine an.frame (pl:= [(k,false)]) (args0:= .lp 0 0::rest) (K0:=fun v _=>ya x v []) (KP0:=fun _ _=>False) (by simp[fm,cQ.2 hk]) (by simpa[ju,dV,pF]using hlt) ?_ ?_ (fun v r hv=>?_) (fun _ _ h=>h.elim)
 ·simp only[eX,ga,lS,idxOf,dV];rw[lf rest hid];simp
 ·simp_all[fD,lS,dV]
 ·have hm:merge [(k,false)] [] r res=res:=by simp[merge,fC,gG]
  exact⟨[],x,rfl,by simp[kV],rfl,lu.kE hv hx,by rw[hm];exact hK⟩
theorem bq.weaken {J:Env} {fps:Nat->Nat->Prop} {res res':List aK} {w0 w:World} {F0:Nat->Prop} (h:bq J fps res (known res) w0 F0 w)
  (hk:∀i,known res' i->known res i/\∀fp,(az res i).holds (known res) J i fp w0 F0 w->(az res' i).holds (known res') J i fp w0 F0 w):bq J fps res' (known res') w0 F0 w:=
 ⟨fun i hi=>hi,h.old,h.os,h.tape,h.output,fun i hi=>(hk i hi).2 _ (h.holds i (hk i hi).1),fun i b hi=>h.lt i b (hk i hi).1,fun i j b hi hj=>h.disj i j b (hk i hi).1 (hk j hj).1,fun i b hi=>h.inF i b (hk i hi).1,h.same⟩
theorem zs {K K':Nat->Prop} {J:Env} {i:Nat} {fp:Nat->Prop} {w0 w:World} {F0:Nat->Prop} {own:Option Nat} {e:Nat} {l:TL} (h:(aK.arr own e l).holds K J i fp w0 F0 w):(aK.arr none e l).holds K' J i fp w0 F0 w:=by
 obtain⟨h1,h2,h3,h4,h5,h6,h7⟩:=h;refine⟨h1,h2,h3,h4,h5,h6,?_⟩;rcases h7 with⟨e,h7⟩|⟨e,e1,e2⟩
 ·exact .inl ⟨rfl,h7⟩
 ·exact .inr ⟨e,by simp,e2⟩
theorem tV (κ2:Nat->Option Nat) (r':List aK):∀(l:List (Nat×Bool)) (i:Nat) (res:List aK),(∀p∈l,p.2=false)->fC κ2 r' i l res=res
 | [],_,_,_=>rfl
 | (p,o)::l,i,res,h=>by
   simp_all[fC,tV]
theorem wL (r':List aK):∀(l:List (Nat×Bool)) (i:Nat),(∀p∈l,p.2=false)->kV r' i l=true
 | [],_,_=>rfl
 | (p,o)::l,i,h=>by
   simp_all[kV,wL]
theorem sj:∀(l:List (Nat×Bool)) (j:Nat),l.length<=j->v7 l j=none
 | [],_,_=>rfl
 | (p,o)::l,0,h=>by simp at h
 | (p,o)::l,j+1,h=>by simp only[v7];exact sj l j (by simpa using h)
theorem an.Zr {f:Nat} {args args0:List V} {res:List aK} {K KP:V->List aK->Prop} {pl:List (Nat×Bool)} {new:aK} {F:Nat->V} (hk:fm res pl=true) (hnd:ju 0 res.length (dV pl)=true) (hro:∀p∈pl,p.2=false)
  (ha:eX (lS 0 (dV pl)) args=some args0) (hnew:jT new=true) (hne:new≠ .yet) (hren:∀κ,gL κ new=new)
  (h:an P f args0 (fD (lS 0 (dV pl)) res pl) (fun v r=>∃j,pl.length<=j/\az r j=new/\(∀(κ:Nat->Option Nat) (i:Nat),κ j=some i->lu κ v (F i))) (fun _ _=>False))
  (hK:K (F res.length) (res++ [new])):an P f args res K KP:=by
 refine an.frame hk hnd ha h (fun v r hv=>?_) (fun _ _ h=>h.elim)
 obtain⟨j,hj1,hj,hv⟩:=hv;have hjl:j<r.length:=aO (by rw[hj];exact hne)
 have hm:merge pl [j] r res=res++ [new]:=by simp[merge,tV _ _ pl 0 res hro,gG,hj,hren]
 refine⟨[j],F res.length,by simpa[ju,pF]using⟨hj1,hjl⟩,wL _ _ _ hro,by simp[oz,hj,hnew],hv _ _ ?_,by rw[hm];exact hK⟩
 simp[back,sj pl j hj1,idxOf]
theorem an.XQ {f:Nat} {args args0:List V} {res:List aK} {K KP:V->List aK->Prop} {pl:List (Nat×Bool)} {x:V} (hk:fm res pl=true) (hnd:ju 0 res.length (dV pl)=true) (hro:∀p∈pl,p.2=false)
  (ha:eX (lS 0 (dV pl)) args=some args0) (hx:kE x=true)
  (h:an P f args0 (fD (lS 0 (dV pl)) res pl) (fun v _=>ya x v []) (fun _ _=>False)) (hK:K x res):an P f args res K KP:=by
 refine an.frame hk hnd ha h (fun v r hv=>?_) (fun _ _ h=>h.elim)
 have hm:merge pl [] r res=res:=by simp[merge,tV _ _ pl 0 res hro,gG]
 exact⟨[],x,rfl,wL _ _ _ hro,rfl,lu.kE hv hx,by rw[hm];exact hK⟩
theorem AQ {r:List aK} {k t e j:Nat} {L:List Obj} (h:Hc r k=some (t,e,j,L)):∃r',uI r k=some r'/\az r' k= .store t e L:=by
 grind[uI,Hc,aO,bI,cG]
def J1 (r:List aK) (k:Nat):Option (Nat×Nat×List Obj):=
 match az r k with
 | .store t e L=>some (t,e,L)
 |_=>match Hc r k with
  |some (t,e,_,L)=>some (t,e,L)
  |none=>none
theorem FI {r:List aK} {k t e:Nat} {L:List Obj} (h:J1 r k=some (t,e,L)):az r k= .store t e L\/∃r',uI r k=some r'/\az r' k= .store t e L:=by
 grind[J1,AQ]
theorem TX {a b c:V} (h:ya c b []):ya (.tp [a,c]) (.tp [a,b]) []:=fun J K=>by
 obtain⟨s1,s2,_⟩:=h J K;exact⟨by simp only[den,bz,s1],fun hk=>⟨hk.1,s2 hk.2.1,trivial⟩,rfl⟩
theorem an.Up {f:Nat} {args:List V} {res:List aK} {K KP:V->List aK->Prop} {t e:Nat} {M:List Obj} {F:Nat->V} (hid:lW args=true)
  (h:an P f args [] (fun v r=>∃j,az r j= .store t e M/\(∀(κ:Nat->Option Nat) (i:Nat),κ j=some i->lu κ v (F i))) (fun _ _=>False)) (hK:K (F res.length) (res++ [.store t e M])):an P f args res K KP:=by
 refine an.frame (pl:= []) (args0:=args) (K0:=fun v r=>∃j,az r j= .store t e M/\(∀(κ:Nat->Option Nat) (i:Nat),κ j=some i->lu κ v (F i))) (KP0:=fun _ _=>False) rfl rfl (lf args hid) h (fun v r hv=>?_) (fun _ _ h=>h.elim)
 obtain⟨j,hj,hv⟩:=hv;have hlt:j<r.length:=aO (by rw[hj];simp)
 have hm:merge [] [j] r res=res++ [.store t e M]:=by simp[merge,fC,gG,hj,gL]
 exact⟨[j],F res.length,by simpa[ju,pF]using hlt,rfl,by simp[oz,hj,jT],hv _ _ (by simp[back,v7,idxOf]),by rw[hm];exact hK⟩
end
def aaa (v:V):Option Nat:=
 match v with
 | .sa j=>some j
 | .ag l=>match l with
   | [x]=>match x with
     | .sa j=>some j
     |_=>none
   |_=>none
 |_=>none
def Y6 (c:Nat) (U:St):Option (List Nat):=
 match az U.res c with
 | .blk _ x=>match aaa x with
   |some j=>match az U.res j with
    | .obs _ q _=>some [j,q]
    |_=>some [j]
   |none=>some []
 |_=>some []
def lpR (j4:List Nat) (set:Int->List (Nat×V)) (k:Nat) (R:Int->aK) (inv:Int->Prop) (m:Int):dD:=
 {γ:=Int,head:=fun U g=> {U with slots:=I5 j4 (set g) 0 U.slots,res:=bP U.res k (R g)},inv:=inv,μ:=fun g=>qf (tA m g)}
def IG:List (Nat×aK)->List aK->List aK
 | [],r=>r
 | (k,x)::l,r=>IG l (bP r k x)
def lpT {γ:Type} (j4:List Nat) (set:γ->List (Nat×V)) (rs:γ->List (Nat×aK)) (inv:γ->Prop) (μ:γ->Nat):dD:=
 {γ:=γ,head:=fun U g=> {U with slots:=I5 j4 (set g) 0 U.slots,res:=IG (rs g) U.res},inv:=inv,μ:=μ}
def TL.emp:TL->TL
 | .ob _=> .ob []
 | .key _=> .key []
 | .it k _=> .it k []
 | .bo _=> .bo []
 | .st _=> .st []
 | .fn n g=> .fn n g
def aag (t:Nat) (U:St):Option (List Nat):=
 match cg U.slots t with
 | .v x=>match aaa x with
   |some j=>some [j]
   |none=>some []
 |_=>some []
def lpS (j4:List Nat) (set:Int->List (Nat×V)) (t e esz:Nat) (L:Int->TL) (inv:Int->Prop) (m:Int):dD:=
 {γ:=Int,head:=fun U g=> {U with slots:=I5 j4 ((t,.sa U.res.length)::set g) 0 U.slots,res:=U.res++ [.arr (some e) esz (L g)]},
  inv:=inv,μ:=fun g=>qf (tA m g),pre:= [.sl t e esz (TL.emp (L 0))],ext:=aag t}
def Zd (j4:List Nat) (set:Int->List (Nat×V)) (t e esz:Nat) (L:Int->TL) (inv inv2:Int->Prop) (m:Int):dD:=
 {γ:=Int,head:=fun U g=> {U with slots:=I5 j4 (set g) 0 U.slots},inv:=inv,μ:=fun g=>qf (tA m g),m2:=true,
  head2:=fun U g=> {U with slots:=I5 j4 ((t,.sa U.res.length)::set g) 0 U.slots,res:=U.res++ [.arr (some e) esz (L g)]},inv2:=inv2,ext2:=aag t}
def Ml (n:Nat):dD:= {γ:=Unit,head:=fun U _=>U,inv:=fun _=>True,μ:=fun _=>0,unr:=some n}
def lpV (j4:List Nat) (set:Int->List (Nat×V)) (c ty e esz:Nat) (L:Int->TL) (inv:Int->Prop) (m:Int):dD:=
 {γ:=Int,head:=fun U g=> {U with slots:=I5 j4 (set g) 0 U.slots,res:=bP U.res c (.blk ty (.sa U.res.length))++ [.arr (some e) esz (L g)]},
  inv:=inv,μ:=fun g=>qf (tA m g),pre:= [.bv c e esz (TL.emp (L 0))],ext:=Y6 c}
def YN {γ:Type} (j4:List Nat) (set:γ->List (Nat×V)) (t:Nat) (R:γ->aK) (inv:γ->Prop) (μ:γ->Nat):dD:=
 {γ:=γ,head:=fun U g=>match cg U.slots t with
   | .v x=>match x with
     | .lp k _=> {U with slots:=I5 j4 (set g) 0 U.slots,res:=bP U.res k (R g)}
     |_=>U
   |_=>U,inv:=inv,μ:=μ}
def IC (sl:List S):List (Nat×aK)->List aK->List aK
 | [],r=>r
 | (t,x)::l,r=>match cg sl t with
   | .v y=>match y with
     | .lp k _=>IC sl l (bP r k x)
     |_=>IC sl l r
   |_=>IC sl l r
mutual
def U2:V->List Nat
 | .lp i _=> [i]
 | .lx i _ _ _ _ _=> [i]
 | .sc i _ _=> [i]
 | .so i _=> [i]
 | .ap i _ _ _=> [i]
 | .ax i _ _ _ _ _ _ _=> [i]
 | .sa i=> [i]
 | .op i _=> [i]
 | .yl i=> [i]
 | .bs x _ _=>U2 x
 | .ks x _ _ _ _=>U2 x
 | .fn _ l=>Yi l
 | .ic _ x=>U2 x
 | .ag l=>Yi l
 | .tp l=>Yi l
 | .ch _ _ l y=>Yi l++U2 y
 |_=> []
def Yi:List V->List Nat
 | []=> []
 |x::l=>U2 x++Yi l
end
def plR:aK->List Nat
 | .blk _ c=>U2 c
 | .ro r=>match r with
   | .blk _ c=>U2 c
   |_=> []
 |_=> []
def plS:List S->List Nat
 | []=> []
 |x::l=>(match x with| .v y=>U2 y|_=> [])++plS l
def plD:List (Nat×List V×List V)->List Nat
 | []=> []
 |x::l=>Yi x.2.1++Yi x.2.2++plD l
def plN (res:List aK):Nat->List Nat->List Nat
 |0,l=>l
 |n+1,l=>plN res n (l.foldr (fun i m=>(plR (az res i)).foldr (fun j k=>if inL k j then k else j::k) m) l)
def gcR (l:List Nat):Nat->List aK->List aK
 |_,[]=> []
 |i,x::r=>(match x with| .mp _ _ _=> .gone| .mq _ _=> .gone| .blk t c=>if inL l i then .blk t c else .gone| .ro y=>(match y with| .blk t c=>if inL l i then .ro (.blk t c)else .gone|y=> .ro y)|x=>x)::gcR l (i+1) r
def gcS (U:St):St:= {U with res:=gcR (plN U.res 4 (plS U.slots++plD U.defs)) 0 U.res}
def En {γ:Type} (j4:List Nat) (set:γ->List (Nat×V)) (bl:γ->List (Nat×aK)) (rs:γ->List (Nat×aK)) (inv:γ->Prop):dD:=
 {γ:=γ,head:=fun U g=>gcS {U with slots:=I5 j4 (set g) 0 U.slots,res:=IG (rs g) (IC U.slots (bl g) U.res)},inv:=inv,μ:=fun _=>0}
def lpB (j4:List Nat) (set:Int->List (Nat×V)) (c t e:Nat) (L:Int->List Obj) (inv:Int->Prop) (m:Int):dD:=
 {γ:=Int,head:=fun U g=> {U with slots:=I5 j4 (set g) 0 U.slots,res:=bP U.res c (.blk t (.ag [.sa U.res.length]))++ [.obs e (U.res.length+1) (L g),.gen U.res.length]},
  inv:=inv,μ:=fun g=>qf (tA m g),pre:= [.bl c e],ext:=Y6 c}
end Go.Sx
namespace Go.Proofs.YtlblcfaclmpekaaGreat
open Go.Sx
noncomputable def Vp (l:List (Nat×Ct)) (hl:List (Nat×kq)) (inl:Nat->Bool) (ann:Nat->Nat->Option dD):QV:= {P:=Tryz.prog,Z:=zeroOf,Γ:=qB l,H0:=Ex hl,inl:=inl,ann:=ann,opn:=Of inl}
theorem BQ {l:List (Nat×Ct)} {hl:List (Nat×kq)} {inl:Nat->Bool} {ann:Nat->Nat->Option dD} (h:∀p∈l,cz Tryz.prog p.1 p.2):(Vp l hl inl ann).toCtx.Sound:=
 ⟨zU pz,Tryz.checked.mixed,fun f g hg=>ni h f g hg,fun f ts te h=>by simp[Vp]at h⟩
abbrev vch (l:List (Nat×Ct)) (hl:List (Nat×kq)) (inl:Nat->Bool) (ann:Nat->Nat->Option dD) (f:Nat) (args:List V) (res:List aK) (K KP:V->List aK->Prop):Prop:=
 enter (Vp l hl inl ann).toCtx (exec (Vp l hl inl ann) 100 ⟨false,none⟩) (exec (Vp l hl inl ann) 100 ⟨false,none⟩ f) f args res K KP
set_option maxRecDepth 100000 in
theorem bm {l:List (Nat×Ct)} {hl:List (Nat×kq)} {inl:Nat->Bool} {ann:Nat->Nat->Option dD} (h:∀p∈l,cz Tryz.prog p.1 p.2) (hh:∀p∈hl,lh Tryz.prog p.1 p.2) {f:Nat} {args:List V} {res:List aK}
  {K KP:V->List aK->Prop} {G:Prop} (hG:G) (he:G=vch l hl inl ann f args res K KP):an Tryz.prog f args res K KP:=
 C1 (C:=Vp l hl inl ann) (n:=100) (BQ h) (zr hh) (Eq.mp he hG)
def Ey:List (Nat×Nat×Nat)->Nat->Option (Nat×Nat)
 | [],_=>none
 | (g,ts,te)::l,f=>if f==g then some (ts,te)else Ey l f
theorem DM {P:Program}:∀{l:List (Nat×Nat×Nat)},(∀p∈l,wX P p.1 p.2.1 p.2.2)->∀f ts te,Ey l f=some (ts,te)->wX P f ts te
 | [],_,f,ts,te,h=>by simp[Ey]at h
 | (g,a,b)::l,hl,f,ts,te,h=>by
   simp only[Ey]at h;split at h
   ·simp_all
   ·exact DM (fun p hp=>hl p (by simp[hp])) f ts te h
noncomputable def YJ (l:List (Nat×Ct)) (hl:List (Nat×kq)) (dl:List (Nat×Nat×Nat)) (inl:Nat->Bool) (ann:Nat->Nat->Option dD):QV:= {P:=Tryz.prog,Z:=zeroOf,Γ:=qB l,D:=Ey dl,H0:=Ex hl,inl:=inl,ann:=ann,opn:=Of inl}
abbrev vcd (l:List (Nat×Ct)) (hl:List (Nat×kq)) (dl:List (Nat×Nat×Nat)) (inl:Nat->Bool) (ann:Nat->Nat->Option dD) (f:Nat) (args:List V) (res:List aK) (K KP:V->List aK->Prop):Prop:=
 enter (YJ l hl dl inl ann).toCtx (exec (YJ l hl dl inl ann) 100 ⟨false,none⟩) (exec (YJ l hl dl inl ann) 100 ⟨false,none⟩ f) f args res K KP
set_option maxRecDepth 100000 in
theorem aY {l:List (Nat×Ct)} {hl:List (Nat×kq)} {dl:List (Nat×Nat×Nat)} {inl:Nat->Bool} {ann:Nat->Nat->Option dD} (h:∀p∈l,cz Tryz.prog p.1 p.2) (hh:∀p∈hl,lh Tryz.prog p.1 p.2) (hd:∀p∈dl,wX Tryz.prog p.1 p.2.1 p.2.2) {f:Nat} {args:List V} {res:List aK}
  {K KP:V->List aK->Prop} {G:Prop} (hG:G) (he:G=vcd l hl dl inl ann f args res K KP):an Tryz.prog f args res K KP:=
 C1 (C:=YJ l hl dl inl ann) (n:=100) ⟨zU pz,Tryz.checked.mixed,fun f g hg=>ni h f g hg,DM hd⟩ (zr hh) (Eq.mp he hG)
end Go.Proofs.YtlblcfaclmpekaaGreat
namespace Go.Sx
open Go.RowKit (Below)
def OD (κ:Nat->Option Nat) (r:List aK):List Nat->Option (List aK)
 | []=>some []
 |p::l=>if kY r p&&jT (az r p)then match OD κ r l with
   |some m=>some (gL κ (az r p)::m)
   |none=>none
  else none
def xf (π:List Nat) (x:Nat->V) (new:Nat->List aK) (v:V) (r:List aK):Prop:=
 ∀nid,ga (idxOf π nid) v=some (x nid)/\OD (idxOf π nid) r π=some (new nid)
def A9 (x:Nat->V) (new:Nat->List aK):Ct:=fun _ nid args=>match args with
 | []=>some (none,x nid,new nid)
 |_=>none
def YL:List aK->Bool
 | []=>true
 |r::l=>match r with
  | .yet=>false
  |_=>YL l
theorem uz:∀{l:List aK},YL l=true->∀k,k<l.length->az l k≠ .yet
 | [],_,k,hk=>by simp at hk
 |r::l,h,k,hk=>by
  simp only[YL]at h;split at h
  ·simp at h
  ·rename_i hr;cases k with
   |zero=>exact hr
   |succ k=>exact uz h k (by simpa using hk)
theorem wG {κ:Nat->Option Nat} {r:List aK}:∀{π:List Nat} {new:List aK},OD κ r π=some new->new.length=π.length/\
  ∀(k p:Nat),π[k]? =some p->known r p/\jT (az r p)=true/\az new k=gL κ (az r p)
 | [],new,h=>by simp only[OD,aaT]at h;subst h;exact⟨rfl,fun k p h=>by simp at h⟩
 |q::π,new,h=>by
  simp only[OD]at h;split at h
  ·rename_i hc;simp only[aaV]at hc;split at h<;>simp only[aaT,reduceCtorEq]at h
   rename_i m hm;subst h;obtain⟨a,b⟩:=wG hm;refine⟨by simp[a],fun k p hk=>?_⟩
   cases k with
   |zero=>simp at hk;subst hk;exact⟨cQ.1 hc.1,hc.2,rfl⟩
   |succ k=>exact b k p (by simpa using hk)
  ·simp at h
theorem vq {P:Program} {f:Nat} {π:List Nat} {x:Nat->V} {new:Nat->List aK} (hnd:π.Nodup) (hy:∀nid,YL (new nid)=true) (h:an P f [] [] (xf π x new) (fun _ _=>False)):cz P f (A9 x new):=by
 intro J fps res K w0 F0 w nid args q y new' hH hargs hg hq hfr;unfold A9 at hg;split at hg<;>simp only[aaT,aaU,reduceCtorEq]at hg
 obtain⟨_,rfl,rfl⟩:=hg
 have hE:bq J (fun _ _=>False) [] (known []) w (fun _=>False) w:=
  ⟨fun i hi=>hi,Nat.le_refl _,rfl,rfl,rfl,fun i hi=>by simp[known,az]at hi,fun i b hi=>by simp[known,az]at hi,fun i j b hi=>by simp[known,az]at hi,fun i b hi=>by simp[known,az]at hi,fun _ _ _=>rfl⟩
 have hc:=h J _ w (fun _=>False) w hE trivial
 refine⟨?_,?_⟩
 ·refine hc.mono fun e w' ⟨v,ρ1,fps1,r,g1,g2,g3,g4⟩=>?_
  rcases g4 with⟨rfl,hN⟩|⟨_,hF⟩
  ·obtain⟨n1,n2⟩:=hN nid;obtain⟨l1,l2⟩:=wG n2;refine⟨_,rfl,?_⟩
   let ρ':Env:=⟨fun i=>if i<nid then J.num i else if i<nid+π.length then ρ1.num (π.getD (i-nid) 0)else J.num i,fun i=>if i<nid then J.cap i else if i<nid+π.length then ρ1.cap (π.getD (i-nid) 0)else J.cap i,
    fun i=>if i<nid then J.adr i else if i<nid+π.length then ρ1.adr (π.getD (i-nid) 0)else J.adr i,fun i=>if i<nid then J.sa i else if i<nid+π.length then ρ1.sa (π.getD (i-nid) 0)else J.sa i,
    fun i=>if i<nid then J.sn i else if i<nid+π.length then ρ1.sn (π.getD (i-nid) 0)else J.sn i,fun i=>if i<nid then J.ob i else if i<nid+π.length then ρ1.ob (π.getD (i-nid) 0)else J.ob i⟩
   have hvia:Env.via (idxOf π nid) ρ1 ρ':=by
    intro p i hp;obtain⟨a1,a2,a3⟩:=ji hp;have:π.getD (i-nid) 0=p:=by simp[aa0,a3]
    simp[ρ',aa1 (show¬i<nid by omega),aa2 a2,a3]
   have hat:∀k,k<(new nid).length->∃p,π[k]? =some p/\idxOf π nid p=some (nid+k):=fun k hk=>by
    have hk':k<π.length:=by omega
    exact⟨π[k],by simp[hk'],nI π nid k hnd (by simp[hk'])⟩
   have hNN:∀p i,idxOf π nid p=some i->known r p->K i\/fresh nid (new nid).length i:=fun p i hp _=>by
    obtain⟨a1,a2,a3⟩:=ji hp;exact .inr ⟨a1,by omega⟩
   refine⟨ρ',⟨⟨g1.os,g1.tape,g1.output,g1.old,fun b hb=>g1.same b hb (by simp)⟩,fun i hi=>?_,fun k=>fps1 (π.getD k 0),fun k hk=>?_,fun k l b hk hl hne=>?_⟩,?_,?_⟩
   ·grind
   ·obtain⟨p,p1,p2⟩:=hat k hk;obtain⟨m1,m2,m3⟩:=l2 k p p1;have hgd:π.getD k 0=p:=by simp[aa0,p1]
    simp only[hgd];refine⟨?_,fun b hb=>⟨?_,g1.lt p b m1 hb⟩⟩
    ·rw[m3];exact iV hvia hNN p2 _ _ _ (mb m2 (g1.holds p m1))
    ·refine Nat.le_of_not_lt fun hlt=>?_
     exact g1.inF p b m1 hb hlt
   ·obtain⟨p,p1,p2⟩:=hat k hk;obtain⟨p',p1',p2'⟩:=hat l hl;have hgd:π.getD k 0=p:=by simp[aa0,p1]
    have hgd':π.getD l 0=p':=by simp[aa0,p1']
    simp only[hgd,hgd']
    have hpp:p≠p':=by
     grind
    exact g1.disj p p' b (l2 k p p1).1 (l2 l p' p1').1 hpp
   ·exact(lv hvia hNN _ _ n1).1.symm
   ·exact(lv hvia hNN _ _ n1).2.1 g3
  ·exact hF.elim
 ·intro k hk;exact uz (hy nid) k hk
structure Arg (α:Type) where
 rd:List aK->V->Option (List (Nat×aK)×α)
 cn:α->Nat->V
 pl:α->List aK
structure ly (α:Type) where
 rd:List aK->List V->Option (List (Nat×aK)×α)
 cn:α->Nat->List V
 pl:α->List aK
def m8 {α:Type} (A:Arg α):Prop:=∀res v pls a,A.rd res v=some (pls,a)->pls.map (·.2)=A.pl a/\(∀p∈pls,pE res p.1 p.2/\sO p.2=true)/\cS (A.cn a 0)=cS v/\(∀n,cS (A.cn a n)=cS (A.cn a 0))/\
 ∀(pre post:List (Nat×aK)),(∀J K,ok K v->den (J.pull (re (pre++(pls++post)))) (A.cn a pre.length)=den J v)/\∀K,ok K v->ok (known (td (pre++(pls++post)))) (A.cn a pre.length)
def gR {α:Type} (A:ly α):Prop:=∀res l pls a,A.rd res l=some (pls,a)->pls.map (·.2)=A.pl a/\(∀p∈pls,pE res p.1 p.2/\sO p.2=true)/\(tv l->∀n,tv (A.cn a n))/\
 ∀(pre post:List (Nat×aK)),(∀J K,fQ K l->bz (J.pull (re (pre++(pls++post)))) (A.cn a pre.length)=bz J l/\bn (J.pull (re (pre++(pls++post)))) (A.cn a pre.length)=bn J l)/\∀K,fQ K l->fQ (known (td (pre++(pls++post)))) (A.cn a pre.length)
def gJ:ly Unit:=⟨fun _ l=>match l with| []=>some ([],())|_=>none,fun _ _=> [],fun _=> []⟩
def ba {α β:Type} (A:Arg α) (B:ly β):ly (α×β):=
 ⟨fun res l=>match l with
  |v::l=>match A.rd res v with
   |some (p,a)=>match B.rd res l with
    |some (q,b)=>some (p++q,(a,b))
    |none=>none
   |none=>none
  | []=>none,fun x n=>A.cn x.1 n::B.cn x.2 (n+(A.pl x.1).length),fun x=>A.pl x.1++B.pl x.2⟩
def Fw {α:Type} (r:V->Option α) (m:α->V):Arg α:=⟨fun _ v=>match r v with|some x=>some ([],x)|none=>none,fun x _=>m x,fun _=> []⟩
def stA (t e:Nat):Arg (Option (List Obj)):=
 ⟨fun res v=>match rS t e res v with
  |some (o,L)=>match o with
   |none=>some ([],none)
   |some k=>some ([(k,.store t e L)],some L)
  |none=>none,fun o n=>match o with|none=>ke|some _=> .lp n 0,fun o=>match o with|none=> []|some L=> [.store t e L]⟩
def AE:Arg (List Obj):=
 ⟨fun res v=>match rA res v with
  |some (k,L)=>some ([(k,.arr none 163 (.ob L))],L)
  |none=>none,fun _ n=> .sa n,fun L=> [.arr none 163 (.ob L)]⟩
def laA {α:Type} (esz:Nat) (r:TL->Option α) (m:α->TL):Arg α:=
 ⟨fun res v=>match v with
  | .sa k=>match cP res k with
    | .arr _ e l=>if e==esz then match r l with
      |some x=>some ([(k,.arr none esz (m x))],x)
      |none=>none
      else none
    |_=>none
  |_=>none,fun _ n=> .sa n,fun x=> [.arr none esz (m x)]⟩
def YF {α:Type} (B:ly α):Arg α:=
 ⟨fun res v=>match v with
  | .ag l=>B.rd res l
  |_=>none,fun x n=> .ag (B.cn x n),B.pl⟩
theorem yW {pre pls post:List (Nat×aK)} {k:Nat} {r:aK}:re (pre++((k,r)::pls++post)) pre.length=k:=u5 _ _ (k,r) (by simp)
theorem wZ {pre pls post:List (Nat×aK)} {k:Nat} {r:aK}:known (td (pre++((k,r)::pls++post))) pre.length:=by
 unfold known;rw[yu];simp
theorem bV:gR gJ:=by
 intro res l pls a h;simp only[gJ]at h;split at h<;>simp only[aaT,aaU,reduceCtorEq]at h
 obtain⟨rfl,_⟩:=h;exact⟨rfl,by simp,fun _ _=>trivial,fun pre post=>⟨fun _ _ _=>⟨rfl,rfl⟩,fun _ _=>trivial⟩⟩
theorem aA {α β:Type} {A:Arg α} {B:ly β} (hA:m8 A) (hB:gR B):gR (ba A B):=by
 intro res l pls x h;simp only[ba]at h;split at h
 case h_2=>simp at h
 rename_i v l;split at h
 case h_2=>simp at h
 rename_i p a ha;split at h
 case h_2=>simp at h
 rename_i q b hb;simp only[aaT,aaU]at h;obtain⟨rfl,rfl⟩:=h;obtain⟨a1,a2,a3,a3',a4⟩:=hA _ _ _ _ ha;obtain⟨b1,b2,b3,b4⟩:=hB _ _ _ _ hb;refine⟨by simp[ba,a1,b1],fun p' hp'=>?_,fun hc n=>?_,fun pre post=>?_⟩
 ·grind
 ·grind[eH,ba]
 ·have hlen:(A.pl a).length=p.length:=by rw[<-a1];simp
  obtain⟨c1,c2⟩:=a4 pre (q++post);obtain⟨d1,d2⟩:=b4 (pre++p) post;have e1:pre++(p++q++post)=pre++(p++(q++post)):=by simp
  have e2:(pre++p)++(q++post)=pre++(p++(q++post)):=by simp
  have e3:(pre++p).length=pre.length+(A.pl a).length:=by simp[hlen]
  rw[e2,e3]at d1 d2;rw[e1];refine⟨fun J K hK=>?_,fun K hK=>?_⟩
  ·obtain⟨f1,f2⟩:=d1 J K hK.2;have f3:=c1 J K hK.1;simp only[ba];exact⟨by simp only[bz];rw[f3,f1],by simp only[bn];rw[f3,f2]⟩
  ·exact⟨c2 K hK.1,d2 K hK.2⟩
theorem sm {α:Type} {r:V->Option α} {m:α->V} (hr:tc r m) (hid:∀x,kE (m x)=true) (ht:∀v x,r v=some x->cS v=cS (m x)):m8 (Fw r m):=by
 intro res v pls a h;simp only[Fw]at h;split at h<;>simp only[aaT,aaU,reduceCtorEq]at h
 rename_i x hx;obtain⟨rfl,rfl⟩:=h;obtain⟨b1,b2⟩:=hr _ x hx;refine⟨rfl,by simp,(ht v x hx).symm,fun _=>rfl,fun pre post=>⟨fun J K hK=>?_,fun K hK=>fT (b2 K hK)⟩⟩
 show den _ (m x)=_
 rw[b1 J];exact qz (hid x) (b2 K hK) J _
theorem Yn (t e:Nat):m8 (stA t e):=by
 intro res v pls a h;simp only[stA]at h;split at h
 case h_2=>simp at h
 rename_i o L hs;rcases uM hs with⟨rfl,rfl,rfl⟩|⟨k,rfl,rfl,hse⟩<;>simp only[aaT,aaU]at h<;>obtain⟨rfl,rfl⟩:=h
 ·exact⟨rfl,by simp,rfl,fun _=>rfl,fun pre post=>⟨fun _ _ _=>rfl,fun _ _=>rfl⟩⟩
 ·refine⟨rfl,by simpa using⟨hse,rfl⟩,rfl,fun _=>rfl,fun pre post=>⟨fun J K hK=>?_,fun K hK=>wZ (pls:= [])⟩⟩
  simp only[stA,den,Env.pull];rw[yW (pls:= [])]
theorem jC:m8 AE:=by
 intro res v pls a h;simp only[AE]at h;split at h<;>simp only[aaT,aaU,reduceCtorEq]at h
 rename_i k L hs;obtain⟨rfl,rfl⟩:=h;obtain⟨rfl,hse,_⟩:=Cx hs;refine⟨rfl,by simpa using⟨hse,rfl⟩,rfl,fun _=>rfl,fun pre post=>⟨fun J K hK=>?_,fun K hK=>wZ (pls:= [])⟩⟩
 simp only[AE,den,Env.pull];rw[yW (pls:= [])]
theorem Wl {α:Type} {esz:Nat} {r:TL->Option α} {m:α->TL} (hr:∀l x,r l=some x->l=m x):m8 (laA esz r m):=by
 intro res v pls a h;simp only[laA]at h;split at h
 case h_2=>simp at h
 rename_i k;split at h
 case h_2=>simp at h
 rename_i own e l hl;split at h
 case isFalse=>simp at h
 rename_i he;have he:=aaX.1 he;subst he;split at h<;>simp only[aaT,aaU,reduceCtorEq]at h
 rename_i x hx;obtain⟨rfl,rfl⟩:=h;have:=hr _ _ hx;subst this;refine⟨rfl,by simpa using⟨pE.arr hl,rfl⟩,rfl,fun _=>rfl,fun pre post=>⟨fun J K hK=>?_,fun K hK=>wZ (pls:= [])⟩⟩
 simp only[laA,den,Env.pull];rw[yW (pls:= [])]
theorem Gf {α:Type} {B:ly α} (hB:gR B):m8 (YF B):=by
 intro res v pls a h;simp only[YF]at h;split at h
 case h_2=>simp at h
 rename_i l;obtain⟨b1,b2,b3,b4⟩:=hB _ _ _ _ h;refine⟨b1,b2,rfl,fun _=>rfl,fun pre post=>?_⟩
 obtain⟨c1,c2⟩:=b4 pre post;refine⟨fun J K hK=>?_,fun K hK=>⟨c2 K hK.1,b3 hK.2 _⟩⟩
 simp only[YF,den];rw[(c1 J K hK.1).2]
def s7 {α:Type} (B:ly α) (Q:α->Option Prop) (F:α->V):Ct:=fun res _ xs=>match B.rd res xs with
 |some (_,a)=>some (Q a,F a,[])
 |none=>none
def nJ (l:List aK):List aK:=l.map .ro
theorem Gl (pls:List (Nat×aK)):td pls=nJ (pls.map (·.2)):=by
 induction pls with
 |nil=>rfl
 |cons p l ih=>obtain⟨p,r⟩:=p;simp[td,nJ,ih]
theorem eQ {P:Program} {f:Nat} {α:Type} {B:ly α} {Q:α->Option Prop} {F:α->V} (hB:gR B) (hF:∀a,kE (F a)=true)
  (h:∀a,dY (Q a)->fQ (known (nJ (B.pl a))) (B.cn a 0)->an P f (B.cn a 0) (nJ (B.pl a)) (oW (F a)) (fun _ _=>False)):cz P f (s7 B Q F):=by
 refine vJ fun res nid args q x new hg=>?_
 unfold s7 at hg;split at hg<;>simp only[aaT,aaU,reduceCtorEq]at hg
 rename_i pls a ha;obtain⟨rfl,rfl,rfl⟩:=hg;obtain⟨b1,b2,_,b4⟩:=hB _ _ _ _ ha;obtain⟨c1,c2⟩:=b4 [] [];simp only[List.nil_append,List.append_nil,List.length_nil]at c1 c2;refine⟨rfl,hF a,pls,B.cn a 0,b2,fun J K hK=>(c1 J K hK).1,c2,fun hq hok=>?_⟩
 rw[Gl,b1]at hok⊢;exact(h a hq hok).mono (fun _ _=>dK) fun _ _ h=>h
def Rx {α:Type} (B:ly α) (Q:α->Option Prop) (x:α->Nat->V) (new:α->Nat->List aK):Ct:=fun res nid xs=>match B.rd res xs with
 |some (_,a)=>some (Q a,x a nid,new a nid)
 |none=>none
theorem HB {J:Env} {fps:Nat->Nat->Prop} {res:List aK} {K:Nat->Prop} {w0 w:World} {F0:Nat->Prop} (hH:bq J fps res K w0 F0 w) {pls:List (Nat×aK)} (hcl:∀p∈pls,pE res p.1 p.2/\sO p.2=true):
  bq (J.pull (re pls)) (fun _ _=>False) (td pls) (known (td pls)) w (fun _=>False) w:=by
 have hfr:∀b,b<w0.heap.size->¬F0 b->w.heap[b]? =w0.heap[b]? /\¬(fun _:Nat=>False) b:=fun b hb hF=>⟨hH.same b hb hF,fun h=>h⟩
 refine⟨fun i hi=>hi,Nat.le_refl _,rfl,rfl,rfl,fun i hi=>?_,fun i b hi h=>h.elim,fun i j b hi hj hne h=>h.elim,fun i b hi h=>h.elim,fun _ _ _=>rfl⟩
 have hlt:=aO hi;rw[uo]at hlt;have hp:pls[i]? =some pls[i]:=List.getElem?_eq_getElem hlt;generalize pls[i]=p at hp
 rw[yu,hp];simp only;obtain⟨hs,hcl⟩:=hcl p (List.mem_of_getElem? hp);obtain⟨fp,g1,g2⟩:=hs.2 J fps K w0 F0 w hH
 have hv:Env.via (fun x=>if x=p.1 then some i else none) J (J.pull (re pls)):=rB fun x j hx=>by
  split at hx
  ·simp only[aaT]at hx;subst hx;rename_i e;subst e;exact u5 pls i p hp
  ·simp at hx
 have:=iV (N':=known (td pls)) hv (fun x j hx _=>by
  split at hx
  ·simp only[aaT]at hx;subst hx;exact hi
  ·simp at hx) (p:=p.1) (i:=i) (by simp) _ _ _ (aK.tC hH.old hfr _ _ g1)
 rw[vv hcl]at this;refine⟨fp,this,fun b hb=>⟨?_,fun h=>h⟩⟩
 rcases g2 b hb with⟨j,hj,hf⟩|⟨hl,_⟩
 ·exact hH.lt j b hj hf
 ·exact Nat.lt_of_lt_of_le hl hH.old
theorem uq {J ρ1:Env} {K:Nat->Prop} {fps1:Nat->Nat->Prop} {r:List aK} {w0 w w':World} {F0:Nat->Prop} {nid:Nat} {π:List Nat} {x:Nat->V} {new:Nat->List aK} {v:V} (hnd:π.Nodup)
  (g1:bq ρ1 fps1 r (known r) w (fun _=>False) w') (g3:ok (known r) v) (hN:xf π x new v r):se K J nid (x nid) (new nid) w0 F0 w (den ρ1 v) w':=by
 obtain⟨n1,n2⟩:=hN nid;obtain⟨l1,l2⟩:=wG n2
 let ρ':Env:=⟨fun i=>if i<nid then J.num i else if i<nid+π.length then ρ1.num (π.getD (i-nid) 0)else J.num i,fun i=>if i<nid then J.cap i else if i<nid+π.length then ρ1.cap (π.getD (i-nid) 0)else J.cap i,
  fun i=>if i<nid then J.adr i else if i<nid+π.length then ρ1.adr (π.getD (i-nid) 0)else J.adr i,fun i=>if i<nid then J.sa i else if i<nid+π.length then ρ1.sa (π.getD (i-nid) 0)else J.sa i,
  fun i=>if i<nid then J.sn i else if i<nid+π.length then ρ1.sn (π.getD (i-nid) 0)else J.sn i,fun i=>if i<nid then J.ob i else if i<nid+π.length then ρ1.ob (π.getD (i-nid) 0)else J.ob i⟩
 have hvia:Env.via (idxOf π nid) ρ1 ρ':=by
  intro p i hp;obtain⟨a1,a2,a3⟩:=ji hp;simp[ρ',aa1 (show¬i<nid by omega),aa2 a2,a3]
 have hat:∀k,k<(new nid).length->∃p,π[k]? =some p/\idxOf π nid p=some (nid+k):=fun k hk=>by
  have hk':k<π.length:=by omega
  exact⟨π[k],by simp[hk'],nI π nid k hnd (by simp[hk'])⟩
 have hNN:∀p i,idxOf π nid p=some i->known r p->K i\/fresh nid (new nid).length i:=fun p i hp _=>by
  obtain⟨a1,a2,a3⟩:=ji hp;exact .inr ⟨a1,by omega⟩
 refine⟨ρ',⟨⟨g1.os,g1.tape,g1.output,g1.old,fun b hb=>g1.same b hb (by simp)⟩,fun i hi=>?_,fun k=>fps1 (π.getD k 0),fun k hk=>?_,fun k l b hk hl hne=>?_⟩,?_,?_⟩
 ·have:¬(nid<=i/\i<nid+π.length):=fun⟨a,b⟩=>hi ⟨a,by omega⟩
  by_cases hlt:i<nid
  ·simp[ρ',aa2 hlt]
  ·simp[ρ',aa1 hlt,aa1 (show¬i<nid+π.length by omega)]
 ·obtain⟨p,p1,p2⟩:=hat k hk;obtain⟨m1,m2,m3⟩:=l2 k p p1;have hgd:π.getD k 0=p:=by simp[aa0,p1]
  simp only[hgd];refine⟨?_,fun b hb=>⟨?_,g1.lt p b m1 hb⟩⟩
  ·rw[m3];exact iV hvia hNN p2 _ _ _ (mb m2 (g1.holds p m1))
  ·refine Nat.le_of_not_lt fun hlt=>?_
   exact g1.inF p b m1 hb hlt
 ·obtain⟨p,p1,p2⟩:=hat k hk;obtain⟨p',p1',p2'⟩:=hat l hl;have hgd:π.getD k 0=p:=by simp[aa0,p1]
  have hgd':π.getD l 0=p':=by simp[aa0,p1']
  simp only[hgd,hgd']
  have hpp:p≠p':=by
   rintro rfl
   rw[p2]at p2';simp at p2';omega
  exact g1.disj p p' b (l2 k p p1).1 (l2 l p' p1').1 hpp
 ·exact(lv hvia hNN _ _ n1).1.symm
 ·exact(lv hvia hNN _ _ n1).2.1 g3
theorem IQ {P:Program} {f:Nat} {α:Type} {B:ly α} {Q:α->Option Prop} {x:α->Nat->V} {new:α->Nat->List aK} {π:α->List Nat} (hB:gR B) (hnd:∀a,(π a).Nodup) (hy:∀a nid,YL (new a nid)=true)
  (h:∀a,dY (Q a)->fQ (known (nJ (B.pl a))) (B.cn a 0)->an P f (B.cn a 0) (nJ (B.pl a)) (fun v r=>xf (π a) (x a) (new a) v r) (fun _ _=>False)):cz P f (Rx B Q x new):=by
 intro J fps res K w0 F0 w nid args q y new' hH hargs hg hq hfr;unfold Rx at hg;split at hg<;>simp only[aaT,aaU,reduceCtorEq]at hg
 rename_i pls a ha;obtain⟨rfl,rfl,rfl⟩:=hg;obtain⟨b1,b2,_,b4⟩:=hB _ _ _ _ ha;obtain⟨c1,c2⟩:=b4 [] [];simp only[List.nil_append,List.append_nil,List.length_nil]at c1 c2;refine⟨?_,fun k hk=>uz (hy a nid) k hk⟩
 have hrep:=HB hH b2;have hok:=c2 K hargs;rw[<-(c1 J K hargs).1];have hro:td pls=nJ (B.pl a):=by rw[Gl,b1]
 rw[hro]at hrep hok;refine(h a hq hok _ _ _ _ _ hrep hok).mono fun e w' ⟨v,ρ1,fps1,r,g1,g2,g3,g4⟩=>?_
 rcases g4 with⟨rfl,hN⟩|⟨_,hF⟩
 ·exact⟨_,rfl,uq (hnd a) g1 g3 hN⟩
 ·exact hF.elim
theorem an.Ia {P:Program} {f:Nat} {args:List V} {res:List aK} {x:V} {new:List aK} {K KP:V->List aK->Prop} (hy:∀k,k<new.length->az new k≠ .yet)
  (h:∀J fps w0 F0 w,bq J fps res (known res) w0 F0 w->fQ (known res) args->CallsIn (FF P none) 0 P f (bz J args).toArray w fun e w'=>∃v,e= .returned v/\se (known res) J res.length x new w0 F0 w v w') (hK:K x (res++new)):an P f args res K KP:=by
 intro J fps w0 F0 w hH hargs;refine(h J fps w0 F0 w hH hargs).mono fun e w' ⟨v,he,ρ',hg,hv,hx⟩=>?_
 have hfr':∀i,known res i->¬fresh res.length new.length i:=fun i hi hf=>by have:=aO hi;unfold fresh at hf;omega
 have hK':∀i,known res i\/fresh res.length new.length i->known (res++new) i:=by
  intro i hi;obtain⟨b1,b2,b3⟩:=ll res new;rcases hi with hi|⟨f1,f2⟩
  ·unfold known;rw[(b1 i hi).1];exact hi
  ·have:=b3 (i-res.length) (by omega)
   rw[show res.length+(i-res.length)=i by omega]at this
   unfold known;rw[this];exact hy _ (by omega)
 obtain⟨fps',g1,g2⟩:=hH.grow (res':=res++new) (ll _ _) hfr' hK' hg;exact⟨x,ρ',fps',res++new,g1,⟨g2,fun i hi=>hK' i (.inl hi)⟩,ef hK' _ hx,.inl ⟨by rw[he,hv],hK⟩⟩
def UI {α:Type} (B:ly α) (Q:α->Prop) (c:α->Bool) (F0:α->V) (F1:α->Nat->V) (new:α->aK):kq:=fun args res K=>
 match B.rd res args with
 |some (_,a)=>Q a/\(c a=false->K (F0 a) res)/\(c a=true->K (F1 a res.length) (res++ [new a]))
 |none=>False
def Wd (c:Bool) (x0:V) (F1:Nat->V) (new:aK) (p:Option Nat) (v:V) (r:List aK):Prop:=
 match p with
 |some p=>c=true/\xf [p] F1 (fun _=> [new]) v r
 |none=>c=false/\oW x0 v r
def aaF (v:V):Option Nat:=
 match v with
 | .sa p=>some p
 | .lp p _=>some p
 | .tp l=>match l with
   |x::_=>match x with
    | .sa p=>some p
    | .lp p _=>some p
    |_=>none
   | []=>none
 |_=>none
def Dh (c:Bool) (x0:V) (F1:Nat->V) (new:aK) (v:V) (r:List aK):Prop:=Wd c x0 F1 new (aaF v) v r
theorem Cq {P:Program} {f:Nat} {α:Type} {B:ly α} {Q:α->Prop} {c:α->Bool} {F0:α->V} {F1:α->Nat->V} {new:α->aK} (hB:gR B) (hF:∀a,kE (F0 a)=true) (hn:∀a,new a≠ .yet)
  (h:∀a,Q a->fQ (known (nJ (B.pl a))) (B.cn a 0)->an P f (B.cn a 0) (nJ (B.pl a)) (Dh (c a) (F0 a) (F1 a) (new a)) (fun _ _=>False)):lh P f (UI B Q c F0 F1 new):=by
 intro args res K KP hh;unfold UI at hh;split at hh
 case h_2=>exact hh.elim
 rename_i pls a ha;obtain⟨hQ,h0,h1⟩:=hh;obtain⟨b1,b2,_,b4⟩:=hB _ _ _ _ ha;obtain⟨c1,c2⟩:=b4 [] [];simp only[List.nil_append,List.append_nil,List.length_nil]at c1 c2;have hro:td pls=nJ (B.pl a):=by rw[Gl,b1]
 have main:∀J fps w0 F0' w,bq J fps res (known res) w0 F0' w->fQ (known res) args->CallsIn (FF P none) 0 P f (bz J args).toArray w fun e w'=>∃v ρ1 fps1 r,e= .returned (den ρ1 v)/\bq ρ1 fps1 r (known r) w (fun _=>False) w'/\ok (known r) v/\Dh (c a) (F0 a) (F1 a) (new a) v r:=by
  intro J fps w0 F0' w hH hargs;have hrep:=HB hH b2;have hok:=c2 _ hargs;rw[hro]at hrep hok;rw[<-(c1 J _ hargs).1];refine(h a hQ hok _ _ _ _ _ hrep hok).mono fun e w' ⟨v,ρ1,fps1,r,g1,g2,g3,g4⟩=>?_
  rcases g4 with⟨rfl,hN⟩|⟨_,hF⟩
  ·exact⟨v,ρ1,fps1,r,rfl,g1,g3,hN⟩
  ·exact hF.elim
 cases hc:c a with
 |true=>
  refine an.Ia (x:=F1 a res.length) (new:= [new a]) (fun k hk=>by simp at hk;subst hk;exact hn a) (fun J fps w0 F0' w hH hargs=>?_) (h1 hc)
  refine(main J fps w0 F0' w hH hargs).mono fun e w' ⟨v,ρ1,fps1,r,he,g1,g3,hv⟩=>?_
  unfold Dh Wd at hv;split at hv
  ·exact⟨_,he,uq (new:=fun _=> [new a]) (by simp) g1 g3 hv.2⟩
  ·rw[hc]at hv;simp at hv
 |false=>
  have h0':=h0 hc;rw[<-List.append_nil res]at h0';refine an.Ia (x:=F0 a) (new:= []) (fun k hk=>by simp at hk) (fun J fps w0 F0' w hH hargs=>?_) h0'
  refine(main J fps w0 F0' w hH hargs).mono fun e w' ⟨v,ρ1,fps1,r,he,g1,g3,hv⟩=>?_
  unfold Dh Wd at hv;split at hv
  ·rw[hc]at hv;simp at hv
  ·refine⟨_,he,J,⟨⟨g1.os,g1.tape,g1.output,g1.old,fun b hb=>g1.same b hb (fun h=>h)⟩,Env.bD.refl _ _,fun _ _=>False,fun k hk=>by simp at hk,fun k l b hk=>by simp at hk⟩,?_,?_⟩
   ·obtain⟨e1,e2,_⟩:=dK hv.2 ρ1 (known r);rw[e1];exact qz (hF a) (e2 g3) J ρ1
   ·obtain⟨e1,e2,_⟩:=dK hv.2 ρ1 (known r);exact pb _ (hF a) (e2 g3)
def fZ (h:Bool) (n m:Int):Bool:=if h then decide (0<=n)&&decide (n<=m)else decide (n=0)
def ea (n:Int):Bool:=decide (2<=n)&&decide (n<=7)
def pI (n:Int):Bool:=decide (n=2)||decide (n=3)
def gO (n:Int):Bool:=decide (n=7)
def kG (n:Int):Bool:=decide (n=1)||decide (n=6)
def fy (n:Int):Int:=if n=2 then 7 else if n=3 then 1 else 0
def aV (k:Key):Bool:=
 decide (0<=k.kind)&&decide (k.kind<=10)&&decide (0<=k.rights)&&decide (k.rights<=fy k.kind)&&(kG k.kind||decide (k.value=0))&&
 fZ (ea k.kind) k.oid 63&&fZ (ea k.kind) k.count 4294967295&&fZ (gO k.kind) k.call 4294967295
def bB (k:Key):Int:=if aV k then 0 else 2
def bf (k:Key):Int:=if aV k&&ea k.kind then k.oid else -1
def gz (k:Key):Int:=if bf k<0 then 0 else if k.kind=3 then 2 else 1
def cI (k:Key) (o:Obj):Bool:=
 aV k&&(decide (bf k<0)||(decide (o.kind=gz k)&&decide (o.count=k.count)&&(!decide (k.kind=7)||decide (o.calls=k.call))))
def U8 (k:Key):Bool:=decide (0<=k.kind)&&decide (k.kind<=10)
def nM (n:Nat):ByteArray:=
 match n with
 |0=> "void".toUTF8
 |1=> "number".toUTF8
 |2=> "node".toUTF8
 |3=> "page".toUTF8
 |4=> "bank".toUTF8
 |5=> "proc".toUTF8
 |6=> "start".toUTF8
 |7=> "resume".toUTF8
 |8=> "discrim".toUTF8
 |9=> "clock".toUTF8
 |10=> "check".toUTF8
 |_=>ByteArray.empty
def kd (s:ByteArray) (a b c d:Bool) (m w:Int):V:= .ag [.st s,.cb a,.cb b,.cb c,.cb d,.ci .i64 m,.ci .i64 w]
def Dz:V:= .ag [kd (nM 0) false false false false 0 0,kd (nM 1) false false false true 0 0,kd (nM 2) true true false false 7 1,kd (nM 3) true true false false 1 2,
 kd (nM 4) true false false false 0 1,kd (nM 5) true false false false 0 1,kd (nM 6) true false false true 0 1,kd (nM 7) true false true false 0 1,
 kd (nM 8) false false false false 0 0,kd (nM 9) false false false false 0 0,kd (nM 10) false false false false 0 0]
def yh (k:Key):ByteArray:=if U8 k then nM k.kind.toNat else ByteArray.empty
def sU (n:Int):Int:=if n=3 then 2 else if 2<=n/\n<=7 then 1 else 0
def NR:Ct:=mk3 toBool (rI .i64) (rI .i64) fun h n m=> .bo (fZ h n m)
def aam:Ct:=QQ rK fun k=> .tp [.ag [.st (yh k),.bo (ea k.kind),.bo (pI k.kind),.bo (gO k.kind),.bo (kG k.kind),.it .i64 (fy k.kind),.it .i64 (sU k.kind)],.bo (aV k)]
def aaj:Ct:=QQ (rI .i64) fun n=> .tp [.bo (ea n),.bo (pI n),.bo (gO n),.bo (kG n)]
def U3:Ct:=QQ rK fun k=> .it .i64 (bB k)
def aZ (k:Key):Bool:=aV k&&ea k.kind
def cy (k:Key):Int:=if aZ k then k.oid else 0
def NW:Ct:=QQ rK fun k=> .tp [.it .i64 (cy k),.bo (aZ k)]
def MV:Ct:=QQ rK fun k=> .it .i64 (bf k)
def Lj:Ct:=QQ rK fun k=> .it .i64 (gz k)
def Et:Ct:=Se rK rO fun k o=> .bo (cI k o)
theorem wrap_i64 {n:Int} (h:cc .i64 n):IntKind.wrap .i64 n=n:=by
 have:=h;simp only[cc]at this;unfold IntKind.wrap;simp[IntKind.bits,IntKind.signed];omega
theorem ui {r:Int} (j:Nat) (hj:j<63) (h0:0<=r) (h1:r<=9223372036854775807):bk .andNot .i64 r ((2^j-1:Nat):Int)=0↔r<2^j:=by
 obtain⟨n,rfl⟩:=Int.eq_ofNat_of_zero_le h0;have hn:n<2^64:=by omega
 have hbit:∀i,(BitVec.ofInt 64 (n:Int)).getLsbD i=n.testBit i:=by
  intro i;rw[BitVec.ofInt_natCast,BitVec.getLsbD_ofNat];by_cases hi:i<64
  ·simp[hi]
  ·rw[Nat.testBit_lt_two_pow (Nat.lt_of_lt_of_le hn (Nat.pow_le_pow_right (by omega) (by omega)))];simp
 have hx:(BitVec.ofInt 64 (n:Int) &&& ~~~BitVec.ofInt 64 ((2^j-1:Nat):Int)).toNat=0↔n<2^j:=by
  constructor
  ·intro h;refine Nat.lt_pow_two_of_testBit _ fun i hi=>?_
   rcases Nat.lt_or_ge i 64 with h64|h64
   ·have h2:(BitVec.ofInt 64 (n:Int) &&& ~~~BitVec.ofInt 64 ((2^j-1:Nat):Int)).getLsbD i=false:=by
     rw[BitVec.getLsbD,h];simp
    rw[BitVec.getLsbD_and,hbit,BitVec.getLsbD_not,BitVec.ofInt_natCast,BitVec.getLsbD_ofNat,Nat.testBit_two_pow_sub_one]at h2;simp only[h64,decide_true,Bool.true_and,show¬i<j by omega,decide_false,Bool.not_false,Bool.and_true]at h2
    exact h2
   ·exact Nat.testBit_lt_two_pow (Nat.lt_of_lt_of_le hn (Nat.pow_le_pow_right (by omega) h64))
  ·intro h
   have:BitVec.ofInt 64 (n:Int) &&& ~~~BitVec.ofInt 64 ((2^j-1:Nat):Int)=0#64:=by
    refine BitVec.eq_of_getLsbD_eq fun i hi=>?_
    rw[BitVec.getLsbD_and,hbit,BitVec.getLsbD_not,BitVec.ofInt_natCast,BitVec.getLsbD_ofNat,Nat.testBit_two_pow_sub_one];by_cases hij:i<j
    ·simp[hij,hi]
    ·rw[Nat.testBit_lt_two_pow (Nat.lt_of_lt_of_le h (Nat.pow_le_pow_right (by omega) (by omega)))];simp
   rw[this];rfl
 have hle:(BitVec.ofInt 64 (n:Int) &&& ~~~BitVec.ofInt 64 ((2^j-1:Nat):Int)).toNat<=n:=by
  rw[BitVec.toNat_and];refine Nat.le_trans Nat.and_le_left ?_;rw[BitVec.ofInt_natCast,BitVec.toNat_ofNat];exact Nat.mod_le _ _
 have hp:((2^j:Nat):Int)=(2:Int)^j:=by simp
 change IntKind.wrap .i64 (((BitVec.ofInt 64 (n:Int) &&& ~~~BitVec.ofInt 64 ((2^j-1:Nat):Int)).toNat:Nat):Int)=0↔_
 generalize (BitVec.ofInt 64 (n:Int) &&& ~~~BitVec.ofInt 64 ((2^j-1:Nat):Int)).toNat=x at *
 rw[wrap_i64 (by simp only[cc];omega),<-hp]
 omega
theorem Ux {r:Int} (h0:0<=r) (h1:r<=9223372036854775807):bk .andNot .i64 r 7=0↔r<=7:=by
 have:=ui 3 (by omega) h0 h1
 rw[show((2^3-1:Nat):Int)=7 from rfl,show(2:Int)^3=8 from rfl]at this;rw[this];omega
theorem Sr {r:Int} (h0:0<=r) (h1:r<=9223372036854775807):bk .andNot .i64 r 1=0↔r<=1:=by
 have:=ui 1 (by omega) h0 h1
 rw[show((2^1-1:Nat):Int)=1 from rfl,show(2:Int)^1=2 from rfl]at this;rw[this];omega
theorem TB {r:Int} (h0:0<=r) (h1:r<=9223372036854775807):bk .andNot .i64 r 0=0↔r<=0:=by
 have:=ui 0 (by omega) h0 h1
 rw[show((2^0-1:Nat):Int)=0 from rfl,show(2:Int)^0=1 from rfl]at this;rw[this];omega
theorem Lk {r m:Int} {b:Bool} (h:0<=r->(b=decide (r<=m))):(decide (0<=r)&&b)=(decide (0<=r)&&decide (r<=m)):=by
 by_cases h0:0<=r
 ·rw[h h0]
 ·simp[h0]
end Go.Sx
namespace Go.Proofs.YtlblcfaclmpekaaGreat
open Go.Sx
theorem Kg (h:Bool) (n m:Int):
 (h&&decide (0<=n)&&decide (n<=m)|| !h&&decide (n=0))=fZ h n m:=by
 unfold fZ;cases h<;>simp
theorem Kb:cz Tryz.prog 105 NR:=
 L8 PD (gq .i64) (gq .i64) (fun _ _ _=>rfl) fun h n m _ _ _=>bc (inl:=bx) (ann:=aQ) ar (Kg h n m) (by kernel_rfl)
theorem Qy:cz Tryz.prog 104 (YO Dz):=
 W3 rfl (bc (inl:=bx) (ann:=aQ) ar (G:=Dz=Dz) rfl (by kernel_rfl):an _ _ _ _ (fun v _=>v=Dz) (fun _ _=>False))
abbrev acJ(k:Key):=aj [false,false,true,true,true,true,true,true,false,false,false] k.kind.toNat false
theorem Xt (k:Key) (hk:k.wf):
 aba (decide (k.kind<0)||decide (10<k.kind)) ({data:={toList:=[]}}=yh k/\false=ea k.kind/\false=pI k.kind/\false=gO k.kind/\false=kG k.kind/\0=fy k.kind/\0=sU k.kind/\false=aV k) ((0<=k.kind/\k.kind< ↑11)/\aj [nM 0,nM 1,nM 2,nM 3,nM 4,nM 5,nM 6,nM 7,nM 8,nM 9,nM 10] k.kind.toNat {data:={toList:=[]}}=yh k/\aj [false,false,true,true,true,true,true,true,false,false,false] k.kind.toNat false=ea k.kind/\aj [false,false,true,true,false,false,false,false,false,false,false] k.kind.toNat false=pI k.kind/\aj [false,false,false,false,false,false,false,true,false,false,false] k.kind.toNat false=gO k.kind/\aj [false,true,false,false,false,false,true,false,false,false,false] k.kind.toNat false=kG k.kind/\aj [0,0,7,1,0,0,0,0,0,0,0] k.kind.toNat 0=fy k.kind/\aj [0,0,1,2,1,1,1,1,0,0,0] k.kind.toNat 0=sU k.kind/\(fZ (acJ k) k.oid 63&&fZ (acJ k) k.count 4294967295&&fZ (aj [false,false,false,false,false,false,false,true,false,false,false] k.kind.toNat false) k.call 4294967295&&decide (0<=k.rights)&&decide (bk BinOp.andNot IntKind.i64 k.rights (aj [0,0,7,1,0,0,0,0,0,0,0] k.kind.toNat 0)=0)&&(aj [false,true,false,false,false,false,true,false,false,false,false] k.kind.toNat false||decide (k.value=0)))=aV k):=by
 delta aba acJ
 obtain⟨kind,oid,count,call,rights,value⟩:=k;have hr:rights<=9223372036854775807:=hk.2.2.2.2.1.2;simp only;have he:(ByteArray.empty:ByteArray)= {data:= {toList:= []}}:=rfl;refine⟨fun h=>?_,fun h=>?_⟩
 ·simp only[Bool.or_eq_true,aaW]at h;refine⟨?_,?_,?_,?_,?_,?_,?_,?_⟩<;>simp only[yh,U8,ea,pI,gO,kG,fy,sU,aV]<;>grind
 ·simp only[Bool.or_eq_false_iff,decide_eq_false_iff_not]at h;have hb:∀m,(0<=rights->(decide (bk .andNot .i64 rights m=0))=decide (rights<=m))->(decide (0<=rights)&&decide (bk .andNot .i64 rights m=0))=(decide (0<=rights)&&decide (rights<=m)):=fun m hm=>Lk hm
  have h7:=hb 7 fun h0=>by rw[decide_eq_decide];exact Ux h0 hr
  have h1:=hb 1 fun h0=>by rw[decide_eq_decide];exact Sr h0 hr
  have h0:=hb 0 fun h0=>by rw[decide_eq_decide];exact TB h0 hr
  have hc:kind=0\/kind=1\/kind=2\/kind=3\/kind=4\/kind=5\/kind=6\/kind=7\/kind=8\/kind=9\/kind=10:=by omega
  rcases hc with rfl|rfl|rfl|rfl|rfl|rfl|rfl|rfl|rfl|rfl|rfl<;>
   refine⟨⟨by decide,by decide⟩,rfl,rfl,rfl,rfl,rfl,rfl,rfl,?_⟩<;>
   simp only[aj,aV,ea,kG,gO,fy,Int.reduceToNat,List.getD_cons_zero,List.getD_cons_succ,Bool.and_assoc]<;>
   simp+decide [fZ]<;>grind
theorem zN:cz Tryz.prog 67 aam:=
 qe gI (fun _=>rfl) fun k hk=>bc (inl:=bx) (ann:=aQ) (ae Kb (ae Qy ar)) (Xt k hk) (by kernel_rfl)
theorem Rl (k:Key) (hk:k.wf):
 ((!aV k)=true->2=bB k)/\((!aV k)=false->0=bB k):=by
 unfold bB;cases aV k<;>simp
theorem gy:cz Tryz.prog 69 U3:=
 qe gI (fun _=>rfl) fun k hk=>bc (inl:=bx) (ann:=aQ) (ae zN ar) (Rl k hk) (by kernel_rfl)
theorem J4 (k:Key) (hk:k.wf):
 ((!aV k|| !ea k.kind)=true->0=cy k/\false=aZ k)/\
   ((!aV k|| !ea k.kind)=false->k.oid=cy k/\true=aZ k):=by
 unfold cy aZ;cases aV k<;>cases ea k.kind<;>simp
theorem dJ:cz Tryz.prog 46 NW:=
 qe gI (fun _=>rfl) fun k hk=>bc (inl:=bx) (ann:=aQ) (ae zN ar) (J4 k hk) (by kernel_rfl)
theorem FP (k:Key) (o:Sx.Obj) (hk:k.wf):
 aba (!aV k) (false=cI k o) (aba (!ea k.kind) (true=cI k o) ((decide (o.kind=sU k.kind)&&decide (o.count=k.count)&&(!gO k.kind||decide (o.calls=k.call)))=cI k o)):=by
 delta aba
 cases hok:aV k
 ·simp[cI,hok]
 ·have h0:ea k.kind=true->0<=k.oid:=fun h=>by
   simp only[aV,fZ,h,if_true,aaV,aaW]at hok;omega
  simp only[cI,gz,bf,sU,gO,hok,Bool.true_and];simp only[ea]at *;grind
theorem Ab:cz Tryz.prog 47 Et:=
 pf gI Bh (fun _ _=>rfl) fun k o hk _=>bc (inl:=bx) (ann:=aQ) (ae zN ar) (FP k o hk) (by kernel_rfl)
theorem W0 (n:Int):
 (decide (2<=n)&&decide (n<=7))=ea n/\
  (decide (n=2)||decide (n=3))=pI n/\
   decide (n=7)=gO n/\(decide (n=1)||decide (n=6))=kG n:=by
 exact⟨rfl,rfl,rfl,rfl⟩
theorem Pc:cz Tryz.prog 106 aaj:=
 qe (gq .i64) (fun _=>rfl) fun n _=>bc (inl:=bx) (ann:=aQ) ar (W0 n) (by kernel_rfl)
abbrev acK(k:Key):=aba (ea k.kind&&(decide (k.oid<0)||decide (64<=k.oid)||decide (k.count<0)||decide (4294967295<k.count))|| !ea k.kind&&(!decide (k.oid=0)|| !decide (k.count=0))) (2=bB k) (aba (gO k.kind&&(decide (k.call<0)||decide (4294967295<k.call))|| !gO k.kind&& !decide (k.call=0)) (2=bB k) (0=bB k))
abbrev acL(k:Key):=aba (decide (k.kind<0)||decide (10<k.kind)||decide (k.rights<0)||decide (1<k.rights)|| !kG k.kind&& !decide (k.value=0)) (2=bB k) (acK k)
theorem Um (k:Key) (hk:k.wf):
 aba (pI k.kind) (aba (decide (k.kind=3)) (acL k) (aba (decide (k.kind<0)||decide (10<k.kind)||decide (k.rights<0)||decide (7<k.rights)|| !kG k.kind&& !decide (k.value=0)) (2=bB k) (acK k))) (aba (decide (k.kind=3)) (acL k) (aba (decide (k.kind<0)||decide (10<k.kind)||decide (k.rights<0)||decide (0<k.rights)|| !kG k.kind&& !decide (k.value=0)) (2=bB k) (acK k))):=by
 delta aba acL acK
 simp only[bB,aV,fZ,fy,pI];rcases Bool.eq_false_or_eq_true (ea k.kind)with hA|hA<;>rcases Bool.eq_false_or_eq_true (gO k.kind)with hB|hB<;>rcases Bool.eq_false_or_eq_true (kG k.kind)with hC|hC<;>simp only[hA,hB,hC,Bool.true_and,Bool.false_and,Bool.not_true,Bool.not_false,Bool.or_false,Bool.false_or,Bool.true_or,if_true,Bool.false_eq_true,if_false,Bool.and_true]<;>grind
theorem vN:cz Tryz.prog 70 U3:=
 qe gI (fun _=>rfl) fun k hk=>bc (inl:=bx) (ann:=aQ) (ae Pc ar) (Um k hk) (by kernel_rfl)
theorem Kj (k:Key) (hk:k.wf):
 ((!decide (bB k=0)|| !ea k.kind)=true-> -1=bf k)/\
   ((!decide (bB k=0)|| !ea k.kind)=false->k.oid=bf k):=by
 unfold bf bB;cases aV k<;>cases ea k.kind<;>simp
theorem pR:cz Tryz.prog 71 MV:=
 qe gI (fun _=>rfl) fun k hk=>bc (inl:=bx) (ann:=aQ) (ae Pc (ae vN ar)) (Kj k hk) (by kernel_rfl)
theorem JU (k:Key) (hk:k.wf):
 (decide (bf k<0)=true->0=gz k)/\
  (decide (bf k<0)=false->
   (decide (k.kind=3)=true->2=gz k)/\(decide (k.kind=3)=false->1=gz k)):=by
 unfold gz;grind
theorem J5:cz Tryz.prog 134 Lj:=
 qe gI (fun _=>rfl) fun k hk=>bc (inl:=bx) (ann:=aQ) (ae pR ar) (JU k hk) (by kernel_rfl)
theorem Gb (k:Key) (o:Sx.Obj) (hk:k.wf):
 aba (!decide (bB k=0)) (false=cI k o) (aba (decide (bf k<0)) (true=cI k o) ((decide (o.kind=gz k)&&decide (o.count=k.count)&&(!decide (k.kind=7)||decide (o.calls=k.call)))=cI k o)):=by
 delta aba
 unfold cI bB;cases aV k<;>grind
theorem Ha:cz Tryz.prog 107 Et:=
 pf gI Bh (fun _ _=>rfl) fun k o hk _=>bc (inl:=bx) (ann:=aQ) (ae vN (ae pR (ae J5 ar))) (Gb k o hk) (by kernel_rfl)
end Go.Proofs.YtlblcfaclmpekaaGreat
namespace Go.Sx
def mM (kind n:Int) (k:Key):Bool:=aV k&&decide (bf k<n)&&(decide (kind=1)||decide (k=void))
def bM (o:Obj) (n:Int):Bool:=
 decide (1<=n)&&decide (n<=64)&&decide (0<=o.kind)&&decide (o.kind<=3)&&decide (0<=o.count)&&decide (o.count<=4294967295)&&decide (0<=o.calls)&&decide (o.calls<=4294967295)&&
 (decide (o.kind=1)||decide (o.calls=0))&&(List.range 16).all (fun i=>mM o.kind n (o.slots.at i))&&
 (List.range 64).all (fun i=>decide (o.kind=1)||decide (o.kind=2)||decide (o.bytes.at i=0))
def ej (o:Obj) (n:Int):Int:=if bM o n then 0 else 2
def lL (o:Obj) (b:Bool):Bool:=decide (o.slots=g9)&&(b||decide (o.bytes=e9))&&decide (o.calls=0)
def pj (o:Obj) (n:Int) (i:Int):Bool:=(List.range i.toNat).all fun j=>aV (o.slots.at j)&&decide (bf (o.slots.at j)<n)
def C2 (i:Int):Prop:=0<=i/\i<=16
def XU:Ct:=Se rO toBool fun o b=> .bo (lL o b)
def Xv:Ct:=Se rO (rI .i64) fun o n=> .it .i64 (ej o n)
theorem fo {o:Obj} {n:Int}:bM o n=true↔1<=n/\n<=64/\0<=o.kind/\o.kind<=3/\0<=o.count/\o.count<=4294967295/\0<=o.calls/\o.calls<=4294967295/\
  (o.kind=1\/o.calls=0)/\(∀i,i<16->mM o.kind n (o.slots.at i)=true)/\∀i,i<64->(o.kind=1\/o.kind=2)\/o.bytes.at i=0:=by
 simp only[bM,aaV,aaW,Bool.or_eq_true,List.all_eq_true,List.mem_range,and_assoc]
theorem xZ {o:Obj} {n:Int} (h:¬bM o n=true):2=ej o n:=by simp[ej,h]
theorem uJ {o:Obj} {n:Int} (h:bM o n=true):0=ej o n:=by simp[ej,h]
theorem Hx {s:cZ}:s=g9↔ ∀i,i<16->s.at i=void:=by
 constructor
 ·rintro rfl i _;exact Aa i
 ·intro h;refine Vector.ext fun i hi=>?_
  have:=h i hi;unfold cZ.at at this;simp only[g9,Vector.getElem_replicate];rw[<-this];simp[hi]
theorem Ip {s:Bytes}:s=e9↔ ∀i,i<64->s.at i=0:=by
 constructor
 ·rintro rfl i hi
  unfold Bytes.at e9;simp[hi]
 ·intro h;refine Vector.ext fun i hi=>?_
  have:=h i hi;unfold Bytes.at at this;simp only[e9,Vector.getElem_replicate];rw[<-this];simp[hi]
theorem nb:aV void=true/\bf void= -1:=by decide
theorem xt {kind n:Int} (hk:kind≠1) (hn:1<=n) (k:Key):mM kind n k=true↔k=void:=by
 unfold mM;simp only[aaV,aaW,Bool.or_eq_true];constructor
 ·rintro⟨_,h|h⟩
  ·exact absurd h hk
  ·exact h
 ·rintro rfl
  exact⟨⟨nb.1,by rw[nb.2];omega⟩,.inr rfl⟩
theorem Mt {o:Obj} {b:Bool}:lL o b=true↔(∀i,i<16->o.slots.at i=void)/\(b=true\/∀i,i<64->o.bytes.at i=0)/\o.calls=0:=by
 simp only[lL,aaV,aaW,Bool.or_eq_true,Hx,Ip,and_assoc]
theorem Gp {o:Obj} {n:Int} (h1:1<=n) (h2:n<=64) (h3:0<=o.count) (h4:o.count<=4294967295) (h5:0<=o.calls) (h6:o.calls<=4294967295) {b:Bool} (hk:0<=o.kind/\o.kind<=3/\o.kind≠1) (hb:b=decide (o.kind=2)):
  bM o n=lL o b:=by
 rw[Bool.eq_iff_iff,fo,Mt];subst hb;constructor
 ·rintro⟨_,_,_,_,_,_,_,_,h,hs,hz⟩
  refine⟨fun i hi=>(xt hk.2.2 h1 _).1 (hs i hi),?_,h.resolve_left hk.2.2⟩
  by_cases h2:o.kind=2
  ·exact .inl (by simp[h2])
  ·exact .inr fun i hi=>(hz i hi).resolve_left fun h=>h.elim hk.2.2 h2
 ·rintro⟨hs,hz,hc⟩
  refine⟨h1,h2,hk.1,hk.2.1,h3,h4,h5,h6,.inr hc,fun i hi=>(xt hk.2.2 h1 _).2 (hs i hi),fun i hi=>?_⟩
  rcases hz with h|h
  ·exact .inl (.inr (by simpa using h))
  ·exact .inr (h i hi)
theorem Gn {o:Obj} {n:Int} (h1:1<=n) (h2:n<=64) (h3:0<=o.count) (h4:o.count<=4294967295) (h5:0<=o.calls) (h6:o.calls<=4294967295) (hk:o.kind=1):bM o n=pj o n 16:=by
 rw[Bool.eq_iff_iff,fo];simp only[pj,List.all_eq_true,List.mem_range,hk,mM,aaV,decide_true,Bool.true_or,and_true];constructor
 ·rintro⟨_,_,_,_,_,_,_,_,_,hs,_⟩
  exact fun i hi=>hs i hi
 ·intro hs;exact⟨h1,h2,by omega,by omega,h3,h4,h5,h6,.inl trivial,fun i hi=>hs i hi,fun i hi=> .inl (.inl trivial)⟩
theorem O6 {o:Obj} {n g:Int}:(pj o n g&&decide (bB (o.slots.at g.toNat)=0)&&(!aZ (o.slots.at g.toNat)||decide (cy (o.slots.at g.toNat)<n)))=
  (pj o n g&&(aV (o.slots.at g.toNat)&&(!aZ (o.slots.at g.toNat)||decide ((o.slots.at g.toNat).oid<n)))):=by
 unfold bB cy;cases aV (o.slots.at g.toNat)<;>cases aZ (o.slots.at g.toNat)<;>simp
theorem Lh {o:Obj} {n g:Int} (h0:0<=g) (hn:1<=n):(pj o n g&&decide (bB (o.slots.at g.toNat)=0)&&(!aZ (o.slots.at g.toNat)||decide (cy (o.slots.at g.toNat)<n)))=pj o n (g+1):=by
 rw[O6];unfold pj;rw[show(g+1).toNat=g.toNat+1 by omega,List.range_succ,List.all_append]
 simp only[List.all_cons,List.all_nil,Bool.and_true];congr 1
 unfold bf aZ;cases aV (o.slots.at g.toNat)
 ·rfl
 ·cases ea (o.slots.at g.toNat).kind
  ·simp;omega
  ·simp
end Go.Sx
namespace Go.Proofs.YtlblcfaclmpekaaGreat
open Go.Sx
theorem Sq (o:Sx.Obj) (b:Bool):
 (FD o.slots g9&&(b||E7 o.bytes e9)&&decide (o.calls=0))=lL o b:=by
 unfold lL FD E7;rfl
theorem Tr:cz Tryz.prog 68 XU:=
 pf Bh PD (fun _ _=>rfl) fun o b _ _=>bc (inl:=bx) (ann:=aQ) ar (Sq o b) (by kernel_rfl)
theorem SP (o:Sx.Obj) (n:Int):
 aba (decide (n<1)||decide (64<n)||decide (o.count<0)||decide (4294967295<o.count)||decide (o.calls<0)||decide (4294967295<o.calls)) (2=ej o n) (aba (decide (o.kind=0)) (aba (!lL o false) (2=ej o n) (0=ej o n)) (aba (decide (o.kind=3)) (aba (!lL o false) (2=ej o n) (0=ej o n)) (aba (decide (o.kind=2)) (aba (!lL o true) (2=ej o n) (0=ej o n)) (aba (decide (o.kind=1)) ((∃g,C2 g/\n=n/\true=pj o n g/\o.slots=o.slots/\0=g/\o=o)/\∀(g:Int),C2 g->aba (decide (g<16)) ((0<=g/\g< ↑16)/\aF IntKind.i64 (g+1)/\∃g',C2 g'/\(16-g').toNat<(16-g).toNat/\n=n/\(pj o n g&&decide (bB (o.slots.at g.toNat)=0)&&(!aZ (o.slots.at g.toNat)||decide (cy (o.slots.at g.toNat)<n)))=pj o n g'/\o.slots=o.slots/\g+1=g'/\o=o) (aba (!pj o n g) (2=ej o n) (0=ej o n))) (2=ej o n))))):=by
 delta aba
 refine⟨fun h=>xZ fun hh=>?_,fun h=>?_⟩
 ·have:=fo.1 hh;simp only[Bool.or_eq_true,aaW]at h;omega
 ·simp only[Bool.or_eq_false_iff,decide_eq_false_iff_not]at h
  have hb:∀(b:Bool),(0<=o.kind/\o.kind<=3/\o.kind≠1)->b=decide (o.kind=2)->((!lL o b)=true->2=ej o n)/\((!lL o b)=false->0=ej o n):=fun b h1 h2=>by
   have he:=Gp (o:=o) (n:=n) (b:=b) (by omega) (by omega) (by omega) (by omega) (by omega) (by omega) h1 h2
   exact⟨fun hn=>xZ (by rw[he];simpa using hn),fun hy=>uJ (by rw[he];simpa using hy)⟩
  refine⟨fun h0=>?_,fun h0=>⟨fun h3=>?_,fun h3=>⟨fun h2=>?_,fun h2=>⟨fun h1=>⟨⟨0,⟨by omega,by omega⟩,rfl,rfl,rfl,rfl,rfl⟩,fun g hg=>⟨fun hlt=>?_,fun hge=>?_⟩⟩,fun h1=>xZ fun hh=>?_⟩⟩⟩⟩
  ·have h0:=aaZ h0;exact hb false (by omega) (by simp[h0])
  ·have h3:=aaZ h3;exact hb false (by omega) (by simp[h3])
  ·have h2:=aaZ h2;exact hb true (by omega) (by simp[h2])
  ·obtain⟨g0,g1⟩:=hg;have hlt:=aaZ hlt;refine⟨⟨g0,by omega⟩,by simp only[aF,cc];omega,g+1,⟨by omega,by omega⟩,by omega,rfl,Lh g0 (by omega),rfl,rfl,rfl⟩
  ·obtain⟨g0,g1⟩:=hg;have hge:¬g<16:=aaY hge;have h1:=aaZ h1;have e:g=16:=by omega
   subst e;have he:=Gn (o:=o) (n:=n) (by omega) (by omega) (by omega) (by omega) (by omega) (by omega) h1
   exact⟨fun hn=>xZ (by rw[he];simpa using hn),fun hy=>uJ (by rw[he];simpa using hy)⟩
  ·have:=fo.1 hh;have h0:¬o.kind=0:=aaY h0;have h1:¬o.kind=1:=aaY h1;have h2:¬o.kind=2:=aaY h2;have h3:¬o.kind=3:=aaY h3;omega
theorem CJ:cz Tryz.prog 48 Xv:=
 pf Bh (gq .i64) (fun _ _=>rfl) fun o n _ _=>bc (inl:=bx) (ann:=(iJ [(48,12,Ws [1,2,51] (fun g=> [(52,.it .i64 g),(5,.bo (pj o n g))]) C2 16)])) (ae Tr (ae gy (ae dJ ar))) (SP o n) (by kernel_rfl)
end Go.Proofs.YtlblcfaclmpekaaGreat
namespace Go.Sx
def bu (L:List Obj):Bool:=decide (ai L=0)
def dA (L:List Obj) (oid:Int):Int:=if ai L=0 then 1 else if oid<0\/(ai L:Int)<=oid then 4 else 0
def aL (L:List Obj) (oid:Int):Obj:=if dA L oid=0 then aj L oid.toNat free else free
def ak (L:List Obj):Int:=(ai L:Int)
def aU (L:List Obj) (k:Key):Bool:=aZ k&&decide (dA L k.oid=0)&&cI k (aj L k.oid.toNat free)
def aa (L:List Obj) (k:Key):Obj:=if aU L k then aj L k.oid.toNat free else free
abbrev abp(L:List Obj)(k:Key)(i:Nat):Key:=(aa L k).slots.at i
def ah (L:List Obj) (k:Key):Key:=if bu L|| !aV k||(aZ k&& !aU L k)then void else k
def gZ (n:Int):Bool:=decide (1<=n)&&decide (n<=64)
def kh (n:Int):List Obj:=List.replicate n.toNat free
def cK (L:List Obj) (i:Int) (o:Obj):List Obj:=if dA L i=0/\ej o (ai L:Int)=0 then b6 L i.toNat o else L
def gi (L:List Obj) (i:Int) (o:Obj):Int:=if dA L i=0 then ej o (ai L:Int)else dA L i
def CR (l:List Obj):Bool:=decide (1<=ai l)&&decide (ai l<=64)&&(List.range (ai l)).all fun i=>bM (aj l i free) (ai l:Int)
def CH (n i:Int):Prop:=0<=i/\i<=n
abbrev tS:Nat:=102
abbrev eS:Nat:=106
def YI (c:Bool) (M:List Obj) (v:V) (r:List aK):Prop:=
 match v with
 | .tp l=>match l with
   | [a,b]=>match a with
     | .nl p=>match p with
       | .pointer none=>c=false/\oW (.ci .i64 2) b r
       |_=>False
     | .lp j off=>match J1 r j with
       |some (t,e,L)=>if off==0&&t==tS&&e==eS then c=true/\oW (.ci .i64 0) b r/\L=M else False
       |none=>False
     |_=>False
   |_=>False
 |_=>False
def aaK (n:Int):V->List aK->Prop:=YI (gZ n) (kh n)
def kSt (x:V) (M:List Obj) (v:V) (r:List aK):Prop:=
 match Hc r 0 with
 |some (t,e,_,L)=>if t==tS&&e==eS then oW x v r/\L=M else False
 |none=>False
def Vt:kq:=fun args res K=>
 match args with
 | [a]=>match rI .i64 a with
   |some n=>(gZ n=false->K (.tp [ke,.ci .i64 2]) res)/\(gZ n=true->K (.tp [.lp res.length 0,.ci .i64 0]) (res++ [.store tS eS (kh n)]))
   |none=>False
 |_=>False
def Y3 (c:V):Bool:=
 match c with
 | .ag l=>match l with
   | [x]=>match x with
     | .nl v=>match v with
       | .slice none 0 0=>true
       |_=>false
     |_=>false
   |_=>false
 |_=>false
theorem ze {c:V} (h:Y3 c=true):c= .ag [.nl (.slice none 0 0)]:=by
 unfold Y3 at h;split at h
 ·split at h
  ·split at h
   ·split at h
    ·rfl
    ·simp at h
   ·simp at h
  ·simp at h
 ·simp at h
def Vo:kq:=fun args res K=>
 match args with
 | [a,b,c]=>match rI .i64 b with
   |some i=>match rO c with
    |some o=>match a with
     | .nl v=>match v with
       | .pointer none=>K (.it .i64 (gi [] i o)) res
       |_=>False
     | .lp k off=>if off==0 then match az res k with
       | .store t e L=>if t==tS&&e==eS then K (.it .i64 (gi L i o)) (bP res k (.store tS eS (cK L i o)))else False
       | .blk t c=>if t==tS&&Y3 c then K (.it .i64 (gi [] i o)) res else False
       |_=>False
       else False
     |_=>False
    |none=>False
   |none=>False
 |_=>False
structure Stp where
 puts:Bool
 oid:Int
 ob:Obj
def Stp.wf (x:Stp):Prop:=cc .i64 x.oid/\x.ob.wf
def Uh:Ct:=YO (.bo true)
def jZ (L M:List Obj):Bool:=decide (L=M)
def p6 (L M:List Obj) (g:Int):Prop:=0<=g/\g<=(ai L:Int)/\g<=(ai M:Int)/\∀j:Nat,(j:Int)<g->aj L j free=aj M j free
def Xs:Ct:=Wb tS eS fun L M=> .bo (jZ L M)
def iY (L M:List Obj) (g:Int):List Int:=((List.range g.toNat).filter fun j=> !CW (aj L j free) (aj M j free)).map Int.ofNat
def j7 (L M:List Obj):Bool:=bu L||bu M|| !decide ((ai L:Int)=(ai M:Int))
def dQ (L M:List Obj):List Int:=iY L M (ai L:Int)
def mw (L:List Obj) (g:Int):List Obj:=L.take g.toNat
def qv (L:List Obj) (g:Int):Prop:=0<=g/\g<=(ai L:Int)
abbrev YB:V:= .nl (.slice none 0 0)
abbrev tI:Nat:=3
def ER (L:List Obj) (v:V) (r:List aK):Prop:=
 match v with
 | .nl p=>match p with
   | .pointer none=>bu L=true
   |_=>False
 | .lp j off=>match J1 r j with
   |some (t,e,M)=>if off==0&&t==tS&&e==eS&&Nat.ble 1 j then bu L=false/\M=L else False
   |none=>False
 |_=>False
def MN (L M:List Obj) (v:V) (r:List aK):Prop:=
 match v with
 | .nl p=>match p with
   | .slice none 0 0=>j7 L M=true
   |_=>False
 | .sa j=>match az r j with
   | .arr own esz l=>match own with
     |some e=>match l with
      | .it k l=>match k with
        | .i64=>if e==tI&&esz==1&&Nat.ble 2 j then j7 L M=false/\l=dQ L M else False
        |_=>False
      |_=>False
     |none=>False
   |_=>False
 |_=>False
def N1:kq:=fun args res K=>
 match args with
 | [a]=>match a with
   | .nl v=>match v with
     | .pointer none=>K ke res
     |_=>False
   | .lp k off=>if off==0 then match cP res k with
     | .store t e L=>if t==tS&&e==eS then ai L<=1000/\(bu L=true->K ke res)/\(bu L=false->K (.lp res.length 0) (res++ [.store tS eS L]))else False
     |_=>False
     else False
   |_=>False
 |_=>False
def U9:kq:=fun args res K=>
 match args with
 | [a,b]=>match b with
   | .lp j off=>if off==0 then match cP res j with
     | .store t e M=>if t==tS&&e==eS then match a with
       | .nl v=>match v with
         | .pointer none=>K YB res
         |_=>False
       | .lp k off'=>if off'==0&& !(k==j)then match cP res k with
         | .store t e L=>if t==tS&&e==eS then ai L<=1000/\(j7 L M=true->K YB res)/\(j7 L M=false->K (.sa res.length) (res++ [.arr (some tI) 1 (.it .i64 (dQ L M))]))else False
         |_=>False
         else False
       |_=>False
       else False
     |_=>False
     else False
   |_=>False
 |_=>False
def HR:Ct:=fun res nid xs=>match xs with
 | [a]=>match rS tS eS res a with
   |some (o,L)=>match o with
    |none=>some (none,.cb true,[])
    |some _=>some (none,.bo (bu L),[])
   |none=>none
 |_=>none
theorem kD {α:Type} (l:List α):bQ (ai l)=(l.length:Int):=rfl
theorem rj {α:Type} (l:List α):((ai l:Nat):Int)=(l.length:Int):=rfl
def Jd:Ct:=SO rK fun l k=> .bo (aU l k)
def Rm:Ct:=SO rK fun l k=> .key (ah l k)
def Gd:Ct:=XK tS eS fun L=> .bo (bu L)
def ZV:Ct:=Jt tS eS (rI .i64) fun L i=> .it .i64 (dA L i)
def aao:Ct:=Jt tS eS (rI .i64) fun L i=> .tp [.ob (aL L i),.it .i64 (dA L i)]
def GV:Ct:=XK tS eS fun L=> .it .i64 (ak L)
def S8:Ct:=Jt tS eS rK fun L k=> .tp [.ob (aa L k),.bo (aU L k)]
def Xz:Ct:=Jt tS eS rK fun L k=> .key (ah L k)
theorem H8 {n:Nat} (h:n<1000):s5 n 8:=by unfold s5;simp only[maxLen];omega
theorem Mz {L:List Obj} {g:Int} (h0:0<=g) (h1:g<(L.length:Int)):jm (mw L g) (aj L g.toNat free)=mw L (g+1):=by
 unfold jm mw aj;rw[show(g+1).toNat=g.toNat+1 by omega,List.take_add_one,aa0,List.getElem?_eq_getElem (by omega)];rfl
theorem Ls {L:List Obj} {g:Int} (h:(L.length:Int)<=g):mw L g=L:=by unfold mw;rw[List.take_of_length_le (by omega)]
theorem M7 {L:List Obj} {g:Int}:ai (mw L g)<=g.toNat:=by unfold ai mw;rw[List.length_take];omega
theorem OZ {L M:List Obj} {g:Int}:ai (iY L M g)<=g.toNat:=by
 unfold ai iY;rw[List.length_map];exact Nat.le_trans (List.length_filter_le _ _) (by rw[List.length_range];omega)
theorem Mg {L M:List Obj} {g:Int} (h0:0<=g) (h:(!CW (aj L g.toNat free) (aj M g.toNat free))=true):jm (iY L M g) g=iY L M (g+1):=by
 unfold jm iY;rw[show(g+1).toNat=g.toNat+1 by omega,List.range_succ,List.filter_append,List.map_append]
 simp only[List.filter_cons,h,if_true,List.filter_nil,List.map_cons,List.map_nil];congr 2
 show g=((g.toNat:Nat):Int)
 omega
theorem UT {L M:List Obj} {g:Int} (h0:0<=g) (h:(!CW (aj L g.toNat free) (aj M g.toNat free))=false):iY L M g=iY L M (g+1):=by
 unfold iY;rw[show(g+1).toNat=g.toNat+1 by omega,List.range_succ,List.filter_append,List.map_append]
 simp only[List.filter_cons,h,Bool.false_eq_true,if_false,List.filter_nil,List.map_nil,List.append_nil]
theorem sq:bu []=true:=rfl
theorem wI {L:List Obj}:bu L=true↔L= []:=by
 unfold bu ai;simp[List.length_eq_zero_iff]
theorem sT (i:Int):dA [] i=1:=rfl
theorem Mr {L:List Obj} (h:bu L=false) (i:Int):dA L i=if i<0\/(L.length:Int)<=i then 4 else 0:=by
 have:L≠ []:=fun e=>by rw[e]at h;simp[sq]at h
 unfold dA ai;rw[aa1 (by simpa[List.length_eq_zero_iff]using this)]
theorem mR {L:List Obj} {i:Int}:dA L i=0↔0<=i/\i<(L.length:Int):=by
 unfold dA ai;split
 ·omega
 ·split<;>omega
theorem BE (L:List Obj) (k:Key):((!aZ k)=true->free=aa L k/\false=aU L k)/\
  ((!aZ k)=false->
    ((!decide (dA L (cy k)=0)|| !cI k (aL L (cy k)))=true->
      free=aa L k/\false=aU L k)/\
      ((!decide (dA L (cy k)=0)|| !cI k (aL L (cy k)))=false->
        aL L (cy k)=aa L k/\true=aU L k)):=by
 have fin:∀b,aU L k=b->(b=false->free=aa L k)/\b=aU L k:=fun b h=>⟨fun hb=>by unfold aa;rw[h,hb];rfl,h.symm⟩
 refine⟨fun h=>?_,fun h=>?_⟩
 ·have h:aZ k=false:=by simpa using h
  have:=fin false (by unfold aU;rw[h];rfl)
  exact⟨this.1 rfl,this.2⟩
 ·have h:aZ k=true:=by simpa using h
  have ho:cy k=k.oid:=by unfold cy;rw[aa2 h]
  rw[ho];by_cases hh:dA L k.oid=0
  ·have hg:aL L k.oid=aj L k.oid.toNat free:=by unfold aL;rw[aa2 hh]
   rw[hg];have e:aU L k=cI k (aj L k.oid.toNat free):=by unfold aU;simp[h,hh]
   refine⟨fun hc=>?_,fun hc=>?_⟩
   ·have hc:cI k (aj L k.oid.toNat free)=false:=by simpa[hh]using hc
    have:=fin false (by rw[e,hc])
    exact⟨this.1 rfl,this.2⟩
   ·have hc:cI k (aj L k.oid.toNat free)=true:=by simpa[hh]using hc
    have:=fin true (by rw[e,hc])
    refine⟨?_,this.2⟩;unfold aa;rw[e,hc];rfl
  ·have:=fin false (by unfold aU;simp[hh])
   exact⟨fun _=>⟨this.1 rfl,this.2⟩,fun hc=>by simp[hh]at hc⟩
theorem Eb (L:List Obj) (k:Key):((bu L|| !decide (bB k=0))=true->void=ah L k)/\
  ((bu L|| !decide (bB k=0))=false->
    ((aZ k&& !aU L k)=true->void=ah L k)/\((aZ k&& !aU L k)=false->k=ah L k)):=by
 have hc:(!decide (bB k=0))= !aV k:=by unfold bB;cases aV k<;>simp
 rw[hc];unfold ah;refine⟨fun h=>?_,fun h=>⟨fun h2=>?_,fun h2=>?_⟩⟩
 ·rw[aa2];simp only[h,Bool.true_or]
 ·rw[aa2];simp only[h2,Bool.or_true]
 ·rw[aa1];simp only[h,h2];simp
theorem Ka {n:Int}:gZ n=true↔1<=n/\n<=64:=by simp[gZ]
theorem Sj {g:Int} (h:0<=g):jm (kh g) free=kh (g+1):=by
 unfold jm kh;rw[show(g+1).toNat=g.toNat+1 by omega,List.replicate_succ']
theorem H6 {i:Int} {o:Obj}:gi [] i o=1:=by unfold gi;rw[sT];rfl
theorem Sp {L:List Obj} {i:Int} {o:Obj} (h:dA L i≠0):gi L i o=dA L i/\cK L i o=L:=by
 unfold gi cK;rw[aa1 h,aa1 (fun hh=>h hh.1)];exact⟨rfl,rfl⟩
theorem Wx {L:List Obj} {i:Int} {o:Obj} (h:dA L i=0) (h2:ej o (ai L:Int)≠0):gi L i o=ej o (ai L:Int)/\cK L i o=L:=by
 unfold gi cK;rw[aa2 h,aa1 (fun hh=>h2 hh.2)];exact⟨rfl,rfl⟩
theorem vf {L:List Obj} {i:Int} {o:Obj} (h:dA L i=0) (h2:ej o (ai L:Int)=0):gi L i o=0/\cK L i o=b6 L i.toNat o:=by
 unfold gi cK;rw[aa2 h,aa2 ⟨h,h2⟩];exact⟨h2,rfl⟩
theorem V1 {c:Bool} {M:List Obj} (hn:c=false) {v:V} {r:List aK} (h:YI c M v r):ya (.tp [ke,.ci .i64 2]) v []:=by
 unfold YI at h;split at h
 ·split at h
  ·split at h
   ·split at h
    ·exact TX (dK h.2)
    ·exact h.elim
   ·split at h
    ·split at h
     ·rw[hn]at h;simp at h
     ·exact h.elim
    ·exact h.elim
   ·exact h.elim
  ·exact h.elim
 ·exact h.elim
theorem T2 {c:Bool} {M:List Obj} (hn:c=true) {v:V} {r:List aK} (h:YI c M v r):∃j b,v= .tp [.lp j 0,b]/\ya (.ci .i64 0) b []/\J1 r j=some (tS,eS,M):=by
 unfold YI at h;split at h
 ·split at h
  ·split at h
   ·split at h
    ·rw[hn]at h;simp at h
    ·exact h.elim
   ·split at h
    ·rename_i hst;split at h
     ·rename_i hc;simp only[aaV,aaX]at hc;obtain⟨⟨rfl,rfl⟩,rfl⟩:=hc;obtain⟨_,h2,rfl⟩:=h;exact⟨_,_,rfl,dK h2,hst⟩
     ·exact h.elim
    ·exact h.elim
   ·exact h.elim
  ·exact h.elim
 ·exact h.elim
theorem SU {c:Bool} {M:List Obj} (hn:c=true) {v:V} {r:List aK} (h:YI c M v r):∃j r',J1 r j=some (tS,eS,M)/\(r'=r\/uI r j=some r')/\az r' j= .store tS eS M/\∀(κ:Nat->Option Nat) (i:Nat),κ j=some i->lu κ v (.tp [.lp i 0,.ci .i64 0]):=by
 obtain⟨j,b,rfl,hb,hst⟩:=T2 hn h
 have ht:∀(κ:Nat->Option Nat) (i:Nat),κ j=some i->lu κ (.tp [.lp j 0,b]) (.tp [.lp i 0,.ci .i64 0]):=fun κ i hi ρ2 ρ3 N N' hv hN hk=>by
  obtain⟨s1,s2,_⟩:=hb ρ2 N;refine⟨?_,hN j i hi hk.1,by simp[ok,cc],trivial⟩
  simp only[den,bz,(hv j i hi).1,s1]
 rcases FI hst with h1|⟨r',h1,h2⟩
 ·exact⟨j,r,hst,.inl rfl,h1,ht⟩
 ·exact⟨j,r',hst,.inr h1,h2,ht⟩
theorem TF {x:V} {M:List Obj} {v:V} {r:List aK} (h:kSt x M v r):∃t,Hc r 0=some (tS,eS,t,M)/\ya x v r:=by
 unfold kSt at h;split at h
 ·rename_i hst;split at h
  ·rename_i hc;simp only[aaV,aaX]at hc;obtain⟨rfl,rfl⟩:=hc;obtain⟨h1,rfl⟩:=h;exact⟨_,hst,dK h1⟩
  ·exact h.elim
 ·exact h.elim
theorem aaQ {P:Program} {f:Nat} {rest:List V} {res:List aK} {K KP:V->List aK->Prop} {k:Nat} {L M:List Obj} {x:V} (hr:az res k= .store tS eS L) (hid:lW rest=true) (hx:kE x=true)
  (h:(∀o∈L,o.wf)->L.length<=9223372036854775807->an P f (.lp 0 0::rest) [.blk tS (.ag [.sa 1]),.obs eS 2 L,.gen 1] (kSt x M) (fun _ _=>False)) (hK:K x (bP res k (.store tS eS M))):an P f (.lp k 0::rest) res K KP:=by
 refine an.DC hr hid hx ?_ hK;refine an.fact (k:=0) rfl fun w1 w2=>?_
 refine an.kF (k:=0) rfl ?_;refine an.shut (h w1 w2) fun v r hv=>?_
 obtain⟨t,h1,h2⟩:=TF hv;obtain⟨r',g1,g2⟩:=AQ h1;exact .inr ⟨0,r',g1,fun J K=>h2 J K,g2⟩
theorem gM {l:List Obj}:CR l=true↔1<=l.length/\l.length<=64/\∀i,i<l.length->bM (aj l i free) (l.length:Int)=true:=by
 unfold CR ai;simp only[aaV,aaW,List.all_eq_true,List.mem_range,and_assoc]
theorem GS (o:Obj) (n:Int):(ej o n=0/\bM o n=true)\/(ej o n=2/\bM o n=false):=by
 unfold ej;cases bM o n<;>simp
theorem lq (k:Key):(aZ k=true/\bf k=k.oid/\0<=k.oid)\/(aZ k=false/\bf k= -1):=by
 have h:bf k=if aZ k then k.oid else -1:=rfl
 cases hn:aZ k
 ·exact .inr ⟨rfl,by rw[h,hn];rfl⟩
 ·refine .inl ⟨rfl,by rw[h,hn];rfl,?_⟩
  unfold aZ at hn;simp only[aaV]at hn;have:=hn.1;simp only[aV,fZ,hn.2,if_true,aaV,aaW]at this;omega
theorem Ej (l:List Obj) (k:Key) (hl:l.length<=9223372036854775807):((decide (0<=bf k)&&decide (bf k<bQ (ai l)))=true->aF IntKind.i64 (bQ (ai l)-1))/\
  ((decide (0<=bf k)&&decide (bf k<bQ (ai l)))=true->
    0<=lT (bf k) (bQ (ai l)-1)/\lT (bf k) (bQ (ai l)-1)< ↑(ai l))/\
    ((decide (0<=bf k)&&decide (bf k<bQ (ai l)))=true->
      (lT (bf k) (bQ (ai l)-1)).toNat<ai l)/\
      (decide (0<=bf k)&&decide (bf k<bQ (ai l))&&
        cI k (aj l (lT (bf k) (bQ (ai l)-1)).toNat free))=
       aU l k:=by
 unfold bQ ai
 have hm:0<=bf k->bf k<(l.length:Int)->lT (bf k) ((l.length:Int)-1)=bf k:=fun h1 h2=>by
  unfold lT;rw[aa1 (by omega)]
 simp only[aaV,aaW];refine⟨fun h=>by simp only[aF,cc];omega,fun h=>by rw[hm h.1 h.2];exact h,fun h=>by rw[hm h.1 h.2];omega,?_⟩
 rcases lq k with⟨h1,h2,h3⟩|⟨h1,h2⟩
 ·by_cases hh:k.oid<(l.length:Int)
  ·rw[hm (by omega) (by omega),h2]
   have h0:dA l k.oid=0:=mR.2 ⟨h3,hh⟩;unfold aU;simp[h1,h0,h3,hh]
  ·have h0:¬dA l k.oid=0:=fun h=>hh (mR.1 h).2
   unfold aU;rw[h2];simp[h0,hh]
 ·unfold aU;simp[h1,h2]
theorem J3 (l:List Obj) (k:Key):((decide (bQ (ai l)=0)|| !decide (bB k=0)||decide (0<=bf k)&& !aU l k)=true->void=ah l k)/\
  ((decide (bQ (ai l)=0)|| !decide (bB k=0)||decide (0<=bf k)&& !aU l k)=false->k=ah l k):=by
 have hc:(!decide (bB k=0))= !aV k:=by unfold bB;cases aV k<;>simp
 have hd:decide (0<=bf k)=aZ k:=by
  rcases lq k with⟨h1,h2,h3⟩|⟨h1,h2⟩
  ·rw[h1,h2];simpa using h3
  ·rw[h1,h2];simp
 have he:decide (bQ (ai l)=0)=bu l:=by
  unfold bu bQ;rw[decide_eq_decide];omega
 rw[hc,hd,he];unfold ah;exact⟨fun h=>by rw[h];rfl,fun h=>by rw[h];rfl⟩
theorem zj {l:List Obj} {k:Key} (h:aU l k=true):0<=bf k/\bf k<(l.length:Int)/\aa l k=aj l (bf k).toNat free:=by
 have h':=h;unfold aU at h;simp only[aaV,aaW]at h;have hb:=mR.1 h.1.2;rcases lq k with⟨h1,h2,h3⟩|⟨h1,h2⟩
 ·rw[h2];exact⟨hb.1,hb.2,by unfold aa;rw[h',aa2 rfl]⟩
 ·rw[h1]at h;simp at h
theorem rE {L M:List Obj} (h:L.length=M.length) (h2:∀j:Nat,j<L.length->aj L j free=aj M j free):L=M:=by
 apply List.ext_getElem h
 intro i h3 h4;have:=h2 i h3;unfold aj at this;simpa[aa0,h3,h4]using this
theorem Lz {L M:List Obj} {g:Int} (hg:p6 L M g) (hge:(ai L:Int)<=g):(decide (g=bQ (ai M))&&decide (ak L=g))=jZ L M:=by
 obtain⟨g0,g1,g2,g3⟩:=hg;have e:g=(L.length:Int):=by unfold ai at *;omega
 subst e;unfold jZ ak bQ ai;cases hd:decide (L=M)with
 |true=>
  have:=aaZ hd;subst this;simp
 |false=>
  have hne:=aaY hd;simp only[decide_true,Bool.and_true,decide_eq_false_iff_not];intro hl;exact hne (rE (by omega) fun j hj=>g3 j (by omega))
end Go.Sx
namespace Go.Proofs.YtlblcfaclmpekaaGreat
open Go.Sx
theorem NC:
 true=bu []:=by
 rfl
theorem LI (L:List Sx.Obj):
 decide (bQ (ai L)=0)=bu L:=by
 unfold bu bQ ai;rw[decide_eq_decide];omega
theorem qw:cz Tryz.prog 42 Gd:=
 OQ (fun _=>rfl) (bc (inl:=bx) (ann:=aQ) ar NC (by kernel_rfl)) (fun L _ _=>bc (inl:=bx) (ann:=aQ) ar (LI L) (by kernel_rfl))
theorem Sf (i:Int):
 (bu []=true->1=dA [] i)/\
  (bu []=false->((!decide (i<0))=true->False)/\((!decide (i<0))=false->4=dA [] i)):=by
 exact⟨fun _=>rfl,fun h=>by simp[sq]at h⟩
theorem SR (L:List Sx.Obj) (i:Int):
 (bu L=true->1=dA L i)/\
  (bu L=false->
   ((decide (i<0)||decide (bQ (ai L)<=i))=true->4=dA L i)/\
     ((decide (i<0)||decide (bQ (ai L)<=i))=false->0=dA L i)):=by
 refine⟨fun h=>?_,fun h=>?_⟩
 ·rw[wI.1 h];rfl
 ·rw[Mr h];unfold bQ ai;refine⟨fun h1=>?_,fun h1=>?_⟩
  ·simp only[Bool.or_eq_true,aaW]at h1;rw[aa2 h1]
  ·simp only[Bool.or_eq_false_iff,decide_eq_false_iff_not]at h1;rw[aa1 (by omega)]
theorem yL:cz Tryz.prog 45 ZV:=
 yz (gq .i64) (fun _ _=>rfl) (fun x _=>bc (inl:=bx) (ann:=aQ) (ae qw ar) (Sf x) (by kernel_rfl)) (fun L x _ _ _=>bc (inl:=bx) (ann:=aQ) (ae qw ar) (SR L x) (by kernel_rfl)) fun _=>rfl
theorem MT:
 (bu []=true->0=ak [])/\(bu []=false->False):=by
 exact⟨fun _=>rfl,fun h=>by simp[sq]at h⟩
theorem Lv (L:List Sx.Obj):
 (bu L=true->0=ak L)/\(bu L=false->bQ (ai L)=ak L):=by
 exact⟨fun h=>by rw[wI.1 h];rfl,fun _=>rfl⟩
theorem bC:cz Tryz.prog 36 GV:=
 OQ (fun _=>rfl) (bc (inl:=bx) (ann:=aQ) (ae qw ar) MT (by kernel_rfl)) (fun L _ _=>bc (inl:=bx) (ann:=aQ) (ae qw ar) (Lv L) (by kernel_rfl))
theorem Ul (i:Int):
 ((!decide (dA [] i=0))=true->free=aL [] i/\dA [] i=dA [] i)/\
   ((!decide (dA [] i=0))=false->False):=by
 exact⟨fun _=>⟨rfl,rfl⟩,fun h=>by simp[sT]at h⟩
theorem SW (L:List Sx.Obj) (i:Int):
 ((!decide (dA L i=0))=true->free=aL L i/\dA L i=dA L i)/\
   ((!decide (dA L i=0))=false->
     (0<=i/\i< ↑(ai L))/\i.toNat<ai L/\i.toNat<ai L/\aj L i.toNat free=aL L i/\0=dA L i):=by
 refine⟨fun h=>⟨?_,rfl⟩,fun h=>?_⟩
 ·unfold aL;rw[aa1 (by simpa using h)]
 ·have h:dA L i=0:=by simpa using h
  have hb:=mR.1 h;unfold aL ai;rw[aa2 h,h];exact⟨hb,by omega,by omega,rfl,rfl⟩
theorem fY:cz Tryz.prog 25 aao:=
 yz (gq .i64) (fun _ _=>rfl) (fun x _=>bc (inl:=bx) (ann:=aQ) (ae yL ar) (Ul x) (by kernel_rfl)) (fun L x _ _ _=>bc (inl:=bx) (ann:=aQ) (ae yL ar) (SW L x) (by kernel_rfl)) fun _=>rfl
theorem Ja (k:Key):
 aba (!aZ k) (free=aa [] k/\false=aU [] k) (aba (!decide (dA [] (cy k)=0)|| !cI k (aL [] (cy k))) (free=aa [] k/\false=aU [] k) (aL [] (cy k)=aa [] k/\true=aU [] k)):=by
 delta aba
 exact BE [] k
theorem Js (L:List Sx.Obj) (k:Key):
 aba (!aZ k) (free=aa L k/\false=aU L k) (aba (!decide (dA L (cy k)=0)|| !cI k (aL L (cy k))) (free=aa L k/\false=aU L k) (aL L (cy k)=aa L k/\true=aU L k)):=by
 delta aba
 exact BE L k
theorem bR:cz Tryz.prog 26 S8:=
 yz gI (fun _ _=>rfl) (fun x _=>bc (inl:=bx) (ann:=aQ) (ae dJ (ae fY (ae Ab ar))) (Ja x) (by kernel_rfl)) (fun L x _ _ _=>bc (inl:=bx) (ann:=aQ) (ae dJ (ae fY (ae Ab ar))) (Js L x) (by kernel_rfl)) fun _=>rfl
theorem XS (n:Int):
 aba (decide (n<1)||decide (64<n)) (gZ n=false/\True) ((∃g,CH n g/\Value.pointer none=Value.pointer none/\n=n/\0=g/\[]=kh g)/\∀(g:Int),CH n g->aba (decide (g<n)) (s5 (ai (kh g)) 8/\aF IntKind.i64 (g+1)/\∃g',CH n g'/\(n-g').toNat<(n-g).toNat/\Value.pointer none=Value.pointer none/\n=n/\g+1=g'/\jm (kh g) free=kh g') (gZ n=true/\True/\kh g=kh n)):=by
 delta aba
 refine⟨fun h=>⟨?_,trivial⟩,fun h=>⟨⟨0,?_,rfl,rfl,rfl,rfl⟩,fun g hg=>⟨fun hlt=>?_,fun hge=>?_⟩⟩⟩
 ·simp only[Bool.or_eq_true,aaW]at h;unfold gZ;rw[Bool.and_eq_false_iff,decide_eq_false_iff_not,decide_eq_false_iff_not];omega
 ·simp only[Bool.or_eq_false_iff,decide_eq_false_iff_not]at h;exact⟨by omega,by omega⟩
 ·simp only[Bool.or_eq_false_iff,decide_eq_false_iff_not]at h;obtain⟨g0,g1⟩:=hg;have hlt:=aaZ hlt;refine⟨?_,?_,g+1,⟨by omega,by omega⟩,by omega,rfl,rfl,rfl,Sj g0⟩
  ·unfold s5 ai kh;simp only[List.length_replicate,maxLen];omega
  ·simp only[aF,cc];omega
 ·simp only[Bool.or_eq_false_iff,decide_eq_false_iff_not]at h;obtain⟨g0,g1⟩:=hg;have hge:=aaY hge;exact⟨Ka.2 (by omega),trivial,by rw[show g=n by omega]⟩
theorem QK (n:Int):an Tryz.prog 28 [.it .i64 n] [] (aaK n) (fun _ _=>False):=bc (inl:=bx) (ann:=(iJ [(28,5,lpB [2,3,4,13] (fun g=> [(14,.it .i64 g)]) 0 tS eS kh (CH n) n)])) ar (XS n) (by kernel_rfl)
theorem Mh:lh Tryz.prog 28 Vt:=by
 intro args res K KP h;unfold Vt at h;split at h
 ·split at h
  ·rename_i n hn;refine an.args (ff.rd (gq .i64) hn ff.nil) ?_;cases hb:gZ n with
   |false=>exact an.pure rfl rfl ((QK n).mono (fun v r hv=>V1 hb hv) fun _ _ h=>h) (h.1 hb)
   |true=>
    refine an.Up (F:=fun j=> .tp [.lp j 0,.ci .i64 0]) rfl ?_ (h.2 hb)
    refine an.shut (QK n) fun v r hv=>?_
    obtain⟨j,r',_,h1,h2,h3⟩:=SU hb hv;rcases h1 with rfl|h1
    ·exact .inl ⟨j,h2,h3⟩
    ·exact .inr ⟨j,r',h1,j,h2,h3⟩
  ·exact h.elim
 ·exact h.elim
theorem S3 (i:Int) (o:Sx.Obj):
 ((!decide (dA [] i=0))=true->dA [] i=gi [] i o)/\((!decide (dA [] i=0))=false->False):=by
 refine⟨fun _=>?_,fun h=>by simp[sT]at h⟩
 rw[H6,sT]
theorem Ue (i:Int) (o:Sx.Obj):an Tryz.prog 30 [ke,.it .i64 i,.ob o] [] (oW (.it .i64 (gi [] i o))) (fun _ _=>False):=bc (inl:=bx) (ann:=aQ) (ae yL (ae CJ ar)) (S3 i o) (by kernel_rfl)
theorem Tg (L:List Sx.Obj) (i:Int) (o:Sx.Obj):
 aba (!decide (dA L i=0)) (dA L i=gi L i o/\L=cK L i o) (aba (!decide (ej o (bQ (ai L))=0)) (ej o (bQ (ai L))=gi L i o/\L=cK L i o) ((0<=i/\i< ↑(ai L))/\i.toNat<ai L/\0=gi L i o/\b6 L i.toNat o=cK L i o)):=by
 delta aba
 refine⟨fun h=>?_,fun h=>⟨fun h2=>?_,fun h2=>?_⟩⟩
 ·obtain⟨a,b⟩:=Sp (o:=o) (show dA L i≠0 by simpa using h)
  rw[a,b];exact⟨rfl,rfl⟩
 ·obtain⟨a,b⟩:=Wx (o:=o) (show dA L i=0 by simpa using h) (show ej o (ai L:Int)≠0 by unfold bQ at h2;simpa using h2)
  rw[a,b];exact⟨rfl,rfl⟩
 ·have h:=(show dA L i=0 by simpa using h)
  have hb:=mR.1 h;obtain⟨a,b⟩:=vf (o:=o) h (show ej o (ai L:Int)=0 by unfold bQ at h2;simpa using h2)
  rw[a,b];exact⟨hb,by unfold ai;omega,rfl,rfl⟩
theorem UD (L:List Sx.Obj) (i:Int) (o:Sx.Obj):an Tryz.prog 30 [.lp 0 0,.it .i64 i,.ob o] [.blk tS (.ag [.sa 1]),.obs eS 2 L,.gen 1] (kSt (.it .i64 (gi L i o)) (cK L i o)) (fun _ _=>False):=bc (inl:=bx) (ann:=aQ) (ae yL (ae CJ ar)) (Tg L i o) (by kernel_rfl)
theorem UG (i:Int) (o:Sx.Obj):
 ((!decide (dA [] i=0))=true->dA [] i=gi [] i o)/\
   ((!decide (dA [] i=0))=false->
     ((!decide (ej o 0=0))=true->ej o 0=gi [] i o)/\((!decide (ej o 0=0))=false->False)):=by
 refine⟨fun _=>?_,fun h=>by simp[sT]at h⟩
 rw[H6,sT]
theorem TI (i:Int) (o:Sx.Obj):an Tryz.prog 30 [.lp 0 0,.it .i64 i,.ob o] [.ro (.blk tS (.ag [.nl (.slice none 0 0)]))] (oW (.it .i64 (gi [] i o))) (fun _ _=>False):=bc (inl:=bx) (ann:=aQ) (ae yL (ae CJ ar)) (UG i o) (by kernel_rfl)
theorem dB:lh Tryz.prog 30 Vo:=by
 intro args res K KP h;unfold Vo at h;split at h
 ·split at h
  ·rename_i i hi;split at h
   ·rename_i o ho;refine an.args (ff.j4 (ff.rd (gq .i64) hi (ff.rd Bh ho ff.nil))) ?_;split at h
    ·split at h
     ·exact an.pure rfl rfl ((Ue i o).mono (fun _ _ h=>dK h) fun _ _ h=>h) h
     ·exact h.elim
    ·split at h
     ·rename_i hoff;have hoff:=aaX.1 hoff;subst hoff;split at h
      ·rename_i hr;split at h
       ·rename_i hc;simp only[aaV,aaX]at hc;obtain⟨rfl,rfl⟩:=hc;exact aaQ hr rfl rfl (fun _ _=>UD _ i o) h
       ·exact h.elim
      ·rename_i hr;split at h
       ·rename_i hc;simp only[aaV,aaX]at hc;obtain⟨rfl,hz⟩:=hc;have:=ze hz;subst this;refine an.K2 (r0:= .blk tS (.ag [.nl (.slice none 0 0)])) (by unfold cP;rw[hr]) (by simp) (fun κ=>rfl) rfl rfl ((TI i o).mono (fun _ _ h=>dK h) fun _ _ h=>h) h
       ·exact h.elim
      ·exact h.elim
     ·exact h.elim
    ·exact h.elim
   ·exact h.elim
  ·exact h.elim
 ·exact h.elim
theorem G0 (l:List Sx.Obj) (k:Key) (hl:l.length<=9223372036854775807):
 ((decide (0<=bf k)&&decide (bf k<bQ (ai l)))=true->aF IntKind.i64 (bQ (ai l)-1))/\((decide (0<=bf k)&&decide (bf k<bQ (ai l)))=true->0<=lT (bf k) (bQ (ai l)-1)/\lT (bf k) (bQ (ai l)-1)< ↑(ai l))/\((decide (0<=bf k)&&decide (bf k<bQ (ai l)))=true->(lT (bf k) (bQ (ai l)-1)).toNat<ai l)/\(decide (0<=bf k)&&decide (bf k<bQ (ai l))&&cI k (aj l (lT (bf k) (bQ (ai l)-1)).toNat free))=aU l k:=by
 exact Ej l k hl
theorem mf:cz Tryz.prog 72 Jd:=Hp gI (fun _ _=>rfl) (fun l k _ hl _=>bc (inl:=bx) (ann:=aQ) (ae pR (ae Ha ar)) (G0 l k hl) (by kernel_rfl)) fun _=>rfl
end Go.Proofs.YtlblcfaclmpekaaGreat
namespace Go.Sx
def gX (r b:Int):Bool:=decide ((r.tdiv b).tmod 2=1)
def gD (r m g:Int):Int:=(if 2<=g/\(gX r 1||gX m 1)=true then 1 else 0)+(if 4<=g/\(gX r 2||gX m 2)=true then 2 else 0)+(if 8<=g/\(gX r 4||gX m 4)=true then 4 else 0)
def iD (r m:Int):Int:=gD r m 8
def kZ (g:Int):Prop:=g=1\/g=2\/g=4\/g=8
def dn (k:Key) (r:Int):Key:= {k with rights:=r}
def kT (k:Key):Key:=if k.kind=2 then dn k (iD k.rights 3)else if k.kind=3 then dn k 1 else if k.kind=1\/k.kind=8 then k else void
def iX (k:Key):Key:=if aV k then kT k else void
def R8:Ct:=Se (rI .i64) (rI .i64) fun r m=> .it .i64 (iD r m)
def Tc:Ct:=QQ rK fun k=> .key (kT k)
def Mf:Ct:=QQ rK fun k=> .tp [.key (iX k),.it .i64 (bB k)]
def aB (L:List Obj) (k:Key) (kind:Int) (c:Bool):Int:=if ai L=0 then 1 else if(!aU L k|| !decide (k.kind=kind))=true then 190 else if(c&& !decide (k.rights.tmod 4=0))=true then 191 else 0
def si (k:Key):Bool:=decide ((k.rights.tdiv 2).tmod 2=1)
def jB (L:List Obj) (o:Obj) (k:Key) (i:Int):Key:=if si k then kT (ah L (o.slots.at i.toNat))else ah L (o.slots.at i.toNat)
def di (L:List Obj) (k:Key) (i:Int):Key:=jB L (aj L k.oid.toNat free) k i
def o8 (k:Key) (i:Int):Prop:=0<=i/\i<16/\aV k=true
def oL (L:List Obj) (k:Key) (i:Int):Prop:=0<=i/\i<16/\0<=k.oid/\k.oid<(ai L:Int)
def ko (i:Int):Bool:=decide (0<=i)&&decide (i<16)
def bY (L:List Obj) (k:Key) (i:Int):Int:=if aB L k 2 false=0 then(if ko i then 0 else 4)else aB L k 2 false
def aJ (L:List Obj) (k:Key) (i:Int):Key:=if bY L k i=0 then di L k i else void
def bJ (L:List Obj) (v:Key):Bool:=aV v&&decide (bf v<(ai L:Int))
def bj (L:List Obj) (k:Key) (i:Int) (v:Key):Int:=if aB L k 2 true=0 then(if ko i then(if bJ L v then 0 else 2)else 4)else aB L k 2 true
def cT (L:List Obj) (k:Key) (i:Int) (v:Key):Key:=if bj L k i v=0 then di L k i else void
def ew (o:Obj) (s:cZ):Obj:= {o with slots:=s}
def tX (L:List Obj) (k:Key) (s:cZ):List Obj:=b6 L k.oid.toNat (ew (aj L k.oid.toNat free) s)
def cC (L:List Obj) (k:Key) (i:Int) (v:Key):List Obj:=if bj L k i v=0 then tX L k ((aj L k.oid.toNat free).slots.put i.toNat (ah L v))else L
def fA (L:List Obj) (k:Key):List Obj:=if aB L k 2 true=0 then tX L k g9 else L
def bT (L:List Obj) (t f:Key):Int:=if aB L t 2 true=0 then aB L f 2 false else aB L t 2 true
def dH (L:List Obj) (t f:Key) (g:Int):cZ:=(List.range g.toNat).foldl (fun s (j:Nat)=>s.put j (di L f (j:Int))) (aj L t.oid.toNat free).slots
def eT (L:List Obj) (t f:Key):List Obj:=if bT L t f=0 then tX L t (dH L t f 16)else L
def aq (L:List Obj):Prop:=CR L=true
def lD (g:Int):Prop:=0<=g/\g<=16
def kA:Arg Key:=Fw rK V.key
def iA:Arg Int:=Fw (rI .i64) (V.it .i64)
def bA:Arg Bool:=Fw toBool V.bo
def oA:Arg Obj:=Fw rO V.ob
def sA:Arg (Option (List Obj)):=stA tS eS
def DG (o:Option (List Obj)):List Obj:=match o with
 |none=> []
 |some L=>L
def nB:ly (Obj×Option (List Obj)×Key×Unit):=ba oA (ba sA (ba kA gJ))
def Xu:Ct:=s7 (ba (YF nB) (ba iA gJ)) (fun x=>some (o8 x.1.2.2.1 x.2.1)) fun x=> .key (jB (DG x.1.2.1) x.1.1 x.1.2.2.1 x.2.1)
def R7:Ct:=s7 (ba AE (ba kA (ba iA (ba bA gJ)))) (fun _=>none) fun x=> .it .i64 (aB x.1 x.2.1 x.2.2.1 x.2.2.2.1)
def XE:Ct:=s7 (ba AE (ba kA (ba iA gJ))) (fun x=>some (oL x.1 x.2.1 x.2.2.1)) fun x=> .key (di x.1 x.2.1 x.2.2.1)
def Y9:Ct:=s7 (ba AE (ba kA gJ)) (fun _=>none) fun x=> .bo (bJ x.1 x.2.1)
def X8:Ct:=s7 (ba sA (ba kA (ba iA gJ))) (fun _=>none) fun x=> .tp [.key (aJ (DG x.1) x.2.1 x.2.2.1),.it .i64 (bY (DG x.1) x.2.1 x.2.2.1)]
def dO (L:List Obj) (i:Int):Prop:=0<=i/\i<(ai L:Int)/\ai L<=1000
def tO:Nat:=74
def VR:Ct:=Rx (ba AE (ba iA (ba oA gJ))) (fun x=>some (dO x.1 x.2.1)) (fun _ n=> .sa n) fun x _=> [.arr (some tO) 163 (.ob (b6 x.1 (qf x.2.1) x.2.2.1))]
theorem uE {r g:Int} (hr:cc .i64 r) (hg:g=1\/g=2\/g=4\/g=8):cc .i64 (r.tdiv g):=by
 simp only[cc]at *;rcases Int.le_total 0 r with h|h
 ·rw[Int.tdiv_eq_ediv_of_nonneg h];rcases hg with rfl|rfl|rfl|rfl<;>omega
 ·obtain⟨s,rfl⟩:∃s,r= -s:=⟨-r,by omega⟩
  rw[Int.neg_tdiv,Int.tdiv_eq_ediv_of_nonneg (by omega)]
  rcases hg with rfl|rfl|rfl|rfl<;>omega
theorem pq (x:Int):cc .i64 (x.tmod 2):=by
 have h1:=Int.tmod_lt_of_pos x (show(0:Int)<2 by omega)
 have h2:=Int.lt_tmod_of_pos x (show(0:Int)<2 by omega)
 simp only[cc];omega
theorem EP {r m g:Int}:0<=gD r m g/\gD r m g<=7:=by
 unfold gD;repeat' split
 all_goals omega
theorem OB {r:Int} (h0:0<=r) (h1:r<=7):bk .or .i64 r 3=iD r 3:=by
 have:r=0\/r=1\/r=2\/r=3\/r=4\/r=5\/r=6\/r=7:=by omega
 rcases this with rfl|rfl|rfl|rfl|rfl|rfl|rfl|rfl<;>decide
theorem Fg {r:Int} (h0:0<=r) (h1:r<=1):bk .or .i64 r 1=1:=by
 have:r=0\/r=1:=by omega
 rcases this with rfl|rfl<;>decide
theorem jj {k:Key} (h:aV k=true):0<=k.rights/\k.rights<=fy k.kind:=by
 simp only[aV,aaV,aaW]at h;omega
theorem qq:aV void=true:=by decide
theorem qi (L:List Obj) (k:Key):aV (ah L k)=true:=by
 unfold ah;split
 ·exact qq
 ·rename_i h;simp only[Bool.or_eq_true,not_or,Bool.not_eq_true,Bool.not_eq_false']at h;exact h.1.2
theorem E8 (L:List Obj) (k:Key):iX (ah L k)=kT (ah L k):=by unfold iX;rw[qi,aa2 rfl]
theorem aaP {r:Int} (h0:0<=r) (h1:r<=7):decide (bk .and .i64 r 2=0)= !decide ((r.tdiv 2).tmod 2=1):=by
 have:r=0\/r=1\/r=2\/r=3\/r=4\/r=5\/r=6\/r=7:=by omega
 rcases this with rfl|rfl|rfl|rfl|rfl|rfl|rfl|rfl<;>decide
theorem Tj {r:Int} (h0:0<=r) (h1:r<=7):decide (bk .and .i64 r 3=0)=decide (r.tmod 4=0):=by
 have:r=0\/r=1\/r=2\/r=3\/r=4\/r=5\/r=6\/r=7:=by omega
 rcases this with rfl|rfl|rfl|rfl|rfl|rfl|rfl|rfl<;>decide
theorem R4 (n:Int):fy n<=7:=by unfold fy;split<;>(try split)<;>omega
theorem pk {k:Key} (h:aV k=true):0<=k.rights/\k.rights<=7:=by
 have:=jj h;have:=R4 k.kind;omega
theorem ei {L:List Obj} {k:Key} (h:aU L k=true):aV k=true/\0<=k.oid/\k.oid<(L.length:Int)/\aa L k=aj L k.oid.toNat free/\(aj L k.oid.toNat free).kind=gz k:=by
 have h':=h;unfold aU at h;simp only[aaV,aaW]at h;obtain⟨⟨h1,h2⟩,h3⟩:=h;have hb:=mR.1 h2;have hn:0<=bf k:=(zj h').1;simp only[cI,aaV,Bool.or_eq_true,aaW]at h3;refine⟨h3.1,hb.1,hb.2,by unfold aa;rw[h',aa2 rfl],?_⟩
 rcases h3.2 with h|h
 ·omega
 ·exact h.1.1
theorem IH {L:List Obj} {o:Obj} {k:Key} {i:Int} (hq:o8 k i):(0<=i/\i< ↑16)/\
  ((!decide (bk BinOp.and IntKind.i64 k.rights 2=0))=true->iX (ah L (o.slots.at i.toNat))=jB L o k i)/\
    ((!decide (bk BinOp.and IntKind.i64 k.rights 2=0))=false->ah L (o.slots.at i.toNat)=jB L o k i):=by
 obtain⟨h0,h1,h2⟩:=hq;have hr:=pk h2;rw[aaP hr.1 hr.2,E8];unfold jB si;refine⟨⟨h0,by omega⟩,fun h=>?_,fun h=>?_⟩
 ·rw[aa2 (by simpa using h)]
 ·rw[aa1 (by simpa using h)]
theorem gw {L:List Obj} {k:Key} {d:Int} {c:Bool} (h:aB L k d c=0):aU L k=true/\k.kind=d/\(c=true->k.rights.tmod 4=0):=by
 unfold aB at h;split at h
 ·omega
 ·split at h
  ·omega
  ·rename_i h2;simp only[Bool.or_eq_true,Bool.not_eq_true',decide_eq_false_iff_not,not_or,Bool.not_eq_false,Decidable.not_not]at h2;split at h
   ·omega
   ·rename_i h3;refine⟨h2.1,h2.2,fun hc=>?_⟩
    simpa[hc]using h3
theorem iI:m8 kA:=sm gI (fun _=>rfl) fun v x h=>Y5 h
theorem NG:m8 oA:=sm Bh (fun _=>rfl) fun v x h=>by cases v<;>simp[rO]at h;rfl
theorem Fa:m8 bA:=sm PD (fun _=>rfl) fun v x h=>by cases v<;>simp[toBool]at h<;>rfl
theorem dE:m8 iA:=sm (gq .i64) (fun _=>rfl) fun v x h=>by cases v<;>simp[rI,toInt]at h<;>rfl
theorem tk:m8 sA:=Yn _ _
theorem Zu:gR nB:=aA NG (aA tk (aA iI bV))
def CA (x:V) (M:List Obj) (v:V) (r:List aK):Prop:=
 match az r 0 with
 | .store t e L=>if t==tS&&e==eS then oW x v r/\L=M else False
 |_=>False
theorem Hg {x:V} {M:List Obj} {v:V} {r:List aK} (h:CA x M v r):ya x v r/\az r 0= .store tS eS M:=by
 unfold CA at h;split at h
 ·rename_i hr;split at h
  ·rename_i hc;simp only[aaV,aaX]at hc;obtain⟨rfl,rfl⟩:=hc;obtain⟨h1,rfl⟩:=h;exact⟨dK h1,hr⟩
  ·exact h.elim
 ·exact h.elim
def JV {α:Type} (B:List V->Option α) (Q:List Obj->α->Prop) (F:List Obj->α->V) (M:List Obj->α->List Obj):kq:=fun args res K=>
 match args with
 |a::l=>match B l with
  |some x=>match a with
   | .nl v=>match v with
     | .pointer none=>K (F [] x) res
     |_=>False
   | .lp k off=>if off==0 then match az res k with
     | .store t e L=>if t==tS&&e==eS then Q L x/\K (F L x) (bP res k (.store tS eS (M L x)))else False
     | .blk t c=>if t==tS&&Y3 c then K (F [] x) res else False
     |_=>False
     else False
   |_=>False
  |none=>False
 |_=>False
def zst:V:= .ag [.nl (.slice none 0 0)]
theorem od {P:Program} {f:Nat} {α:Type} {B:List V->Option α} {m:α->List V} {Q:List Obj->α->Prop} {F:List Obj->α->V} {M:List Obj->α->List Obj} (hB:∀l x,B l=some x->ff l (m x)) (hid:∀x,lW (m x)=true) (hF:∀L x,kE (F L x)=true)
  (h0:∀x,an P f (ke::m x) [] (oW (F [] x)) (fun _ _=>False)) (hz:∀x,an P f (.lp 0 0::m x) [.ro (.blk tS zst)] (oW (F [] x)) (fun _ _=>False))
  (h1:∀L x,Q L x->(∀o∈L,o.wf)->L.length<=9223372036854775807->an P f (.lp 0 0::m x) [.store tS eS L] (CA (F L x) (M L x)) (fun _ _=>False)):lh P f (JV B Q F M):=by
 intro args res K KP h;unfold JV at h;split at h
 case h_2=>exact h.elim
 split at h
 case h_2=>exact h.elim
 rename_i x hx;refine an.args (ff.j4 (hB _ _ hx)) ?_;split at h
 ·split at h
  ·exact an.pure (by simp only[lW,kE,Bool.true_and];exact hid x) (hF _ _) ((h0 x).mono (fun _ _ h=>dK h) fun _ _ h=>h) h
  ·exact h.elim
 ·split at h
  ·rename_i hoff;have hoff:=aaX.1 hoff;subst hoff;split at h
   ·rename_i hr;split at h
    ·rename_i hc;simp only[aaV,aaX]at hc;obtain⟨rfl,rfl⟩:=hc;refine an.DC hr (hid x) (hF _ _) (an.fact (k:=0) rfl fun w1 w2=>(h1 _ x h.1 w1 w2).mono (fun v r hv=>Hg hv |> fun⟨a,b⟩=>⟨fun J K=>a J K,b⟩) fun _ _ h=>h) h.2
    ·exact h.elim
   ·rename_i hr;split at h
    ·rename_i hc;simp only[aaV,aaX]at hc;obtain⟨rfl,hz'⟩:=hc;have:=ze hz';subst this;exact an.K2 (r0:= .blk tS zst) (by unfold cP;rw[hr];rfl) (by simp) (fun κ=>rfl) (hid x) (hF _ _) ((hz x).mono (fun _ _ h=>dK h) fun _ _ h=>h) h
    ·exact h.elim
   ·exact h.elim
  ·exact h.elim
 ·exact h.elim
def rdK (l:List V):Option Key:=match l with
 | [a]=>rK a
 |_=>none
def SH (l:List V):Option (Key×Key):=match l with
 | [a,b]=>match rK a with
   |some k=>match rK b with
    |some k'=>some (k,k')
    |none=>none
   |none=>none
 |_=>none
def KN (l:List V):Option (Key×Int×Key):=match l with
 | [a,b,c]=>match rK a with
   |some k=>match rI .i64 b with
    |some i=>match rK c with
     |some k'=>some (k,i,k')
     |none=>none
    |none=>none
   |none=>none
 |_=>none
theorem N8:∀l x,rdK l=some x->ff l [.key x]:=fun l x h=>by
 unfold rdK at h;split at h
 ·exact ff.rd gI h ff.nil
 ·simp at h
theorem IU:∀l x,SH l=some x->ff l [.key x.1,.key x.2]:=fun l x h=>by
 unfold SH at h;split at h
 ·split at h
  ·rename_i h1;split at h<;>simp only[aaT,reduceCtorEq]at h
   rename_i h2;subst h;exact ff.rd gI h1 (ff.rd gI h2 ff.nil)
  ·simp at h
 ·simp at h
theorem LQ:∀l x,KN l=some x->ff l [.key x.1,.it .i64 x.2.1,.key x.2.2]:=fun l x h=>by
 unfold KN at h;split at h
 ·split at h
  ·rename_i h1;split at h
   ·rename_i h2;split at h<;>simp only[aaT,reduceCtorEq]at h
    rename_i h3;subst h;exact ff.rd gI h1 (ff.rd (gq .i64) h2 (ff.rd gI h3 ff.nil))
   ·simp at h
  ·simp at h
 ·simp at h
def tK:Nat:=44
def oU (g:Int):Nat:=(16-g).toNat
def XM:kq:=JV KN (fun L _=>aq L) (fun L x=> .tp [.key (cT L x.1 x.2.1 x.2.2),.it .i64 (bj L x.1 x.2.1 x.2.2)]) fun L x=>cC L x.1 x.2.1 x.2.2
def VW:kq:=JV rdK (fun L _=>aq L) (fun L x=> .it .i64 (aB L x 2 true)) fun L x=>fA L x
def Xw:kq:=JV SH (fun L _=>aq L) (fun L x=> .it .i64 (bT L x.1 x.2)) fun L x=>eT L x.1 x.2
theorem PE {L:List Obj} {k:Key} {d:Int} {c:Bool} (h:(!decide (0<ak L))=true):aB L k d c=1:=by
 unfold aB;unfold ak at h;rw[aa2 (by simp at h;omega)]
theorem Jx {L:List Obj} {k:Key} {d:Int} {c:Bool} (h:(!decide (0<ak L))=false) (h2:(!(aU L k&&decide (k.kind=d)))=true):aB L k d c=190:=by
 unfold aB;unfold ak at h;rw[aa1 (by simp at h;omega),aa2 (by simpa using h2)]
theorem nO {L:List Obj} {k:Key} {d:Int} (h2:(!(aU L k&&decide (k.kind=d)))=false):aU L k=true/\k.kind=d:=by simpa using h2
theorem XI {L:List Obj} {k:Key} {d:Int} (h:(!decide (0<ak L))=false) (h2:(!(aU L k&&decide (k.kind=d)))=false) (h3:(!decide (bk BinOp.and IntKind.i64 k.rights 3=0))=true):aB L k d true=191:=by
 have hr:=pk (ei (nO h2).1).1;rw[Tj hr.1 hr.2]at h3;unfold aB;unfold ak at h;rw[aa1 (by simp at h;omega),aa1 (by simpa using h2),aa2 (by simpa using h3)]
theorem JS {L:List Obj} {k:Key} {d:Int} (h:(!decide (0<ak L))=false) (h2:(!(aU L k&&decide (k.kind=d)))=false) (h3:(!decide (bk BinOp.and IntKind.i64 k.rights 3=0))=false):aB L k d true=0:=by
 have hr:=pk (ei (nO h2).1).1;rw[Tj hr.1 hr.2]at h3;unfold aB;unfold ak at h;rw[aa1 (by simp at h;omega),aa1 (by simpa using h2),aa1 (by simpa using h3)]
theorem HY {L:List Obj} {k:Key} {d:Int} (h:(!decide (0<ak L))=false) (h2:(!(aU L k&&decide (k.kind=d)))=false):aB L k d false=0:=by
 unfold aB;unfold ak at h;rw[aa1 (by simp at h;omega),aa1 (by simpa using h2),aa1 (by simp)]
def dF (n:Int) (k:Key):Prop:=aV k=true/\bf k<n
theorem LS {n:Int} {k:Key}:mM 1 n k=true↔dF n k:=by simp[mM,dF]
theorem O1 (r:Int):0<=iD r 3/\iD r 3<=7:=EP
theorem OJ {n:Int} (hn:0<=n) {k:Key} (h:dF n k):dF n (kT k):=by
 obtain⟨h1,h2⟩:=h;have hv:dF n void:=⟨qq,by have:=nb.2;omega⟩
 unfold kT;split
 ·rename_i e;have hw:=O1 k.rights
  have h1':aV (dn k (iD k.rights 3))=true:=by
   simp only[aV,dn,e,aaV,aaW]at h1⊢;have:fy 2=7:=rfl;grind
  refine⟨h1',?_⟩;unfold bf at h2⊢;rw[h1'];rw[h1]at h2;exact h2
 ·split
  ·rename_i e
   have h1':aV (dn k 1)=true:=by
    simp only[aV,dn,e,aaV,aaW]at h1⊢;have:fy 3=1:=rfl;grind
   refine⟨h1',?_⟩;unfold bf at h2⊢;rw[h1'];rw[h1]at h2;exact h2
  ·split
   ·exact⟨h1,h2⟩
   ·exact hv
theorem pN {L:List Obj} (hL:0<L.length) (k:Key):dF (L.length:Int) (ah L k):=by
 have hv:dF (L.length:Int) void:=⟨qq,by have:=nb.2;omega⟩
 unfold ah;split
 ·exact hv
 ·rename_i h;simp only[Bool.or_eq_true,not_or,Bool.not_eq_true,Bool.not_eq_false',Bool.and_eq_false_imp]at h;refine⟨h.1.2,?_⟩;rcases lq k with⟨a,b,c⟩|⟨a,b⟩
  ·rw[b];exact(ei (h.2 a)).2.2.1
  ·omega
theorem Uv {L:List Obj} (hL:0<L.length) (k:Key) (i:Int):dF (L.length:Int) (di L k i):=by
 unfold di jB;split
 ·exact OJ (by omega) (pN hL _)
 ·exact pN hL _
theorem zF {o:Obj} {n:Int} {s:cZ} (h:bM o n=true) (hk:o.kind=1) (hs:∀i,i<16->dF n (s.at i)):bM (ew o s) n=true:=by
 rw[fo]at h⊢;simp only[ew];obtain⟨a1,a2,a3,a4,a5,a6,a7,a8,a9,a10,a11⟩:=h;exact⟨a1,a2,a3,a4,a5,a6,a7,a8,a9,fun i hi=>by rw[hk];exact LS.2 (hs i hi),fun i hi=> .inl (.inl hk)⟩
theorem BZ {L:List Obj} {k:Key} (h:aU L k=true) (h2:k.kind=2):(aj L k.oid.toNat free).kind=1:=by
 rw[(ei h).2.2.2.2];unfold gz;rw[aa1 (by have:=(zj h).1;omega),aa1 (by omega)]
theorem uh {L:List Obj} {k:Key} (hL:aq L) (h:aU L k=true) (h2:k.kind=2):∀i,i<16->dF (L.length:Int) ((aj L k.oid.toNat free).slots.at i):=fun i hi=>by
 obtain⟨_,b2,b3,_⟩:=ei h;have:=(gM.1 hL).2.2 k.oid.toNat (by omega)
 have:=(fo.1 this).2.2.2.2.2.2.2.2.2.1 i hi;rw[BZ h h2]at this;exact LS.1 this
theorem pB {L:List Obj} {k:Key} {s:cZ} (hL:aq L) (h:aU L k=true) (h2:k.kind=2) (hs:∀i,i<16->dF (L.length:Int) (s.at i)):cK L k.oid (ew (aa L k) s)=tX L k s/\aq (tX L k s):=by
 obtain⟨b1,b2,b3,b4,_⟩:=ei h;have hr:=gM.1 hL;have ho:=zF (hr.2.2 k.oid.toNat (by omega)) (BZ h h2) hs
 refine⟨?_,?_⟩
 ·rw[b4];exact(vf (mR.2 ⟨b2,b3⟩) (uJ ho).symm).2
 ·refine gM.2 ?_;unfold tX;have hl:(b6 L k.oid.toNat (ew (aj L k.oid.toNat free) s)).length=L.length:=by simp[b6]
  rw[hl];refine⟨hr.1,hr.2.1,fun i hi=>?_⟩
  by_cases e:i=k.oid.toNat
  ·subst e;rw[show aj (b6 L k.oid.toNat (ew (aj L k.oid.toNat free) s)) k.oid.toNat free=ew (aj L k.oid.toNat free) s by simp[aj,b6,aa0,hi]]
   exact ho
  ·rw[show aj (b6 L k.oid.toNat (ew (aj L k.oid.toNat free) s)) i free=aj L i free by simp[aj,b6,aa0,List.getElem?_set,Ne.symm e]]
   exact hr.2.2 i hi
theorem EU {L:List Obj} {k:Key} {i:Int} {v:Key} (hL:aq L) (h:aU L k=true) (h2:k.kind=2) (h0:0<=i) (h1:i<16):∀j,j<16->dF (L.length:Int) (((aj L k.oid.toNat free).slots.put i.toNat (ah L v)).at j):=fun j hj=>by
 rw[cZ.gd _ _ _ _ (by omega)]
 split
 ·exact pN (gM.1 hL).1 v
 ·exact uh hL h h2 j hj
theorem Hr {n:Int} (hn:0<=n):∀j,j<16->dF n (g9.at j):=fun j hj=>by
 rw[Hx.1 rfl j hj];exact⟨qq,by have:=nb.2;omega⟩
theorem uO (L:List Obj) (v:Key):(decide (bB v=0)&&(!aZ v||decide (cy v<ak L)))=bJ L v:=by
 unfold bJ bB cy ak;rcases lq v with⟨a,b,c⟩|⟨a,b⟩
 ·rw[a,b];cases aV v<;>simp
 ·rw[a,b];have:(-1:Int)<(ai L:Int):=by omega
  cases aV v<;>simp[this]
theorem BM {L:List Obj} {t f:Key} {g:Int} (h0:0<=g):dH L t f (g+1)=(dH L t f g).put g.toNat (di L f g):=by
 unfold dH;rw[show(g+1).toNat=g.toNat+1 by omega,List.range_succ,List.foldl_append]
 simp only[List.foldl_cons,List.foldl_nil];rw[show((g.toNat:Nat):Int)=g by omega]
theorem DU {L:List Obj} {t f:Key} (h:aa L t=aj L t.oid.toNat free):aa L t=ew (aa L t) (dH L t f 0):=by
 unfold dH ew;simp[h]
theorem DR {L:List Obj} {t f:Key} {g:Int} (h0:0<=g) (h:aa L f=aj L f.oid.toNat free) (o:Obj) (s:cZ):({kind:=(ew o (dH L t f g)).kind,count:=(ew o (dH L t f g)).count,calls:=(ew o (dH L t f g)).calls,slots:=(ew o (dH L t f g)).slots.put g.toNat (jB L (aa L f) f g),bytes:=(ew o (dH L t f g)).bytes}:Obj)=ew o (dH L t f (g+1)):=by
 rw[BM h0];unfold di;rw[h];rfl
theorem yZ {L:List Obj} {t f:Key} (hL:aq L) (h:aU L t=true) (h2:t.kind=2):∀n:Nat,n<=16->∀j,j<16->dF (L.length:Int) ((dH L t f n).at j)
 |0,_,j,hj=>by
  unfold dH;exact uh hL h h2 j hj
 |n+1,hn,j,hj=>by
  rw[show((n+1:Nat):Int)=(n:Int)+1 by omega,BM (by omega),cZ.gd _ _ _ _ (by omega)]
  split
  ·exact Uv (gM.1 hL).1 _ _
  ·exact yZ hL h h2 n (by omega) j hj
theorem BV {L M:List Obj} {g:Int} (hg:p6 L M g) (hge:(ai L:Int)<=g):decide (g=bQ (ai M))=jZ L M:=by
 have:=Lz hg hge
 have e:ak L=g:=by
  have:=hg.2.1;unfold ak;omega
 rw[decide_eq_true e,Bool.and_true]at this;exact this
structure Acx where
 kind:Int
 slot:Int
 key:Key
 other:Key
def z7 (L:List Obj) (a:Acx):Bool:=
 if a.kind=1 then false else if a.kind=2 then decide (bj L a.key a.slot a.other=0)else if a.kind=3 then decide (aB L a.key 2 true=0)else if a.kind=4 then decide (bT L a.key a.other=0)else false
def Iq (L:List Obj) (a:Acx):List Obj:=
 if a.kind=1 then L else if a.kind=2 then cC L a.key a.slot a.other else if a.kind=3 then fA L a.key else if a.kind=4 then eT L a.key a.other else L
theorem Nj {L:List Obj} {k:Key} {i:Int} (h:aB L k 2 false≠0):bY L k i=aB L k 2 false/\aJ L k i=void:=by
 have:bY L k i=aB L k 2 false:=by unfold bY;rw[aa1 h]
 exact⟨this,by unfold aJ;rw[this,aa1 h]⟩
theorem NK {L:List Obj} {k:Key} {i:Int} (h:aB L k 2 false=0) (hr:i<0\/15<i):bY L k i=4/\aJ L k i=void:=by
 have:bY L k i=4:=by
  unfold bY ko;rw[aa2 h,aa1 (by simp;omega)]
 exact⟨this,by unfold aJ;rw[this];rfl⟩
theorem RS {L:List Obj} {k:Key} {i:Int} (h:aB L k 2 false=0) (hr:¬(i<0\/15<i)):bY L k i=0/\aJ L k i=di L k i:=by
 have:bY L k i=0:=by
  unfold bY ko;rw[aa2 h,aa2 (by simp;omega)]
 exact⟨this,by unfold aJ;rw[this];rfl⟩
theorem Cf {L:List Obj} {k:Key} {i:Int} {v:Key} {e:Int} (h:bj L k i v=e) (he:e≠0):bj L k i v=e/\cT L k i v=void/\cC L k i v=L:=⟨h,by unfold cT;rw[h,aa1 he],by unfold cC;rw[h,aa1 he]⟩
theorem Nu {L:List Obj} {k:Key} {i:Int} {v:Key} (h:aB L k 2 true≠0):bj L k i v=aB L k 2 true/\cT L k i v=void/\cC L k i v=L:=Cf (by unfold bj;rw[aa1 h]) h
theorem QD {L:List Obj} {k:Key} {i:Int} {v:Key} (h:aB L k 2 true=0) (hr:i<0\/15<i):bj L k i v=4/\cT L k i v=void/\cC L k i v=L:=
 Cf (by unfold bj ko;rw[aa2 h,aa1 (by simp;omega)]) (by omega)
theorem M9 {L:List Obj} {k:Key} {i:Int} {v:Key} (h:aB L k 2 true=0) (hr:¬(i<0\/15<i)) (hm:bJ L v=false):bj L k i v=2/\cT L k i v=void/\cC L k i v=L:=
 Cf (by unfold bj ko;rw[aa2 h,aa2 (by simp;omega),hm];rfl) (by omega)
theorem Ur {L:List Obj} {k:Key} {i:Int} {v:Key} (h:aB L k 2 true=0) (hr:¬(i<0\/15<i)) (hm:bJ L v=true):
  bj L k i v=0/\cT L k i v=di L k i/\cC L k i v=tX L k ((aj L k.oid.toNat free).slots.put i.toNat (ah L v)):=by
 have:bj L k i v=0:=by unfold bj ko;rw[aa2 h,aa2 (by simp;omega),hm];rfl
 exact⟨this,by unfold cT;rw[this];rfl,by unfold cC;rw[this];rfl⟩
theorem vl {L:List Obj} {k:Key} (hL:aq L) (h:aU L k=true):dO L k.oid/\0<=k.oid/\k.oid<(ai L:Int)/\k.oid.toNat<ai L:=by
 obtain⟨_,b2,b3,_⟩:=ei h;have:=(gM.1 hL).2.1;exact⟨⟨b2,b3,by unfold ai;omega⟩,b2,b3,by unfold ai;omega⟩
theorem kH (k:Key):Bw k k=true:=by simp[Bw]
def Acx.wf (x:Acx):Prop:=cc .i64 x.kind/\cc .i64 x.slot/\x.key.wf/\x.other.wf
theorem iZ (L:List Obj):jZ L L=true:=by unfold jZ;simp
theorem G3 {L:List Obj} {k:Key} {i:Int} {v:Key} (h:bj L k i v=0):aB L k 2 true=0/\0<=i/\i<16:=by
 unfold bj ko at h;split at h
 ·rename_i h1;split at h
  ·rename_i h2;simp at h2;exact⟨h1,h2.1,h2.2⟩
  ·omega
 ·rename_i h1;exact absurd h h1
theorem zP {L:List Obj} {a:Acx} (hL:aq L) (h:z7 L a=true):aq (Iq L a):=by
 unfold z7 at h;unfold Iq;split at h
 ·simp at h
 ·rename_i h1;rw[aa1 h1];split at h
  ·rename_i h2;rw[aa2 h2];have h:=aaZ h;obtain⟨e1,e2,e3⟩:=G3 h;obtain⟨a1,a2,_⟩:=gw e1;unfold cC;rw[aa2 h];exact(pB hL a1 a2 (EU hL a1 a2 e2 e3)).2
  ·rename_i h2;rw[aa1 h2];split at h
   ·rename_i h3;rw[aa2 h3];have h:=aaZ h;obtain⟨a1,a2,_⟩:=gw h;unfold fA;rw[aa2 h];exact(pB hL a1 a2 (Hr (by omega))).2
   ·rename_i h3;rw[aa1 h3];split at h
    ·rename_i h4;rw[aa2 h4];have h:=aaZ h;have h':=h;unfold bT at h';split at h'
     ·rename_i h5;obtain⟨a1,a2,_⟩:=gw h5;unfold eT;rw[aa2 h];exact(pB hL a1 a2 (yZ hL a1 a2 16 (by omega))).2
     ·rename_i h5;exact absurd h' h5
    ·simp at h
section
variable {L:List Obj} {k:Key} {s:cZ} (h0:0<=k.oid) (h1:k.oid<(L.length:Int))
include h0 h1
end
theorem fG {L:List Obj} {j:Int} (h0:0<=j) (h1:j<(L.length:Int)):aL L j=aj L j.toNat free:=by
 unfold aL;rw[aa2 (mR.2 ⟨h0,h1⟩)]
theorem gh {L:List Obj} {i:Nat} {x:Obj} (hi:i<L.length) (j:Nat):aj (b6 L i x) j free=if j=i then x else aj L j free:=by
 by_cases e:j=i
 ·subst e;rw[aa2 rfl];simp[aj,b6,aa0,hi]
 ·rw[aa1 e];simp[aj,b6,aa0,List.getElem?_set,Ne.symm e]
theorem iy {L:List Obj} {i:Nat} {x:Obj}:(b6 L i x).length=L.length:=by simp[b6]
theorem mg {κ:Nat->Option Nat} {x a:V} {l m:List V} (h1:ga κ x=some a) (h2:eX κ l=some m):eX κ (x::l)=some (a::m):=by
 simp only[eX];rw[h1];simp only;rw[h2]
def uw {α:Type} (B:ly α) (l:List V):Option α:=match B.rd [] l with
 |some p=>match p.1 with
  | []=>some p.2
  |_=>none
 |none=>none
theorem fP {α:Type} {B:ly α} (hB:gR B) (hid:∀a,lW (B.cn a 0)=true):∀l x,uw B l=some x->ff l (B.cn x 0):=fun l x h=>by
 unfold uw at h;split at h
 case h_2=>simp at h
 rename_i p hp;obtain⟨pls,a⟩:=p;split at h
 case h_2=>simp at h
 rename_i h1;simp only at h1;subst h1;simp only[aaT]at h;subst h;obtain⟨_,_,_,b4⟩:=hB _ _ _ _ hp;obtain⟨c1,c2⟩:=b4 [] [];intro J K hk;have e1:=(c1 J K hk).1;have e2:=c2 K hk;have e3:fQ (fun _=>False) (B.cn a 0):=mF _ (hid a) e2
 refine⟨?_,mF _ (hid a) e2⟩;rw[<-e1];exact fW (N:=fun _=>False) (fun _ h=>h.elim) _ e3
def Az {α:Type} (B:List V->Option α) (Q:List Obj->α->Prop) (chg:List Obj->α->Bool) (L1:List Obj->α->List Obj) (F:List Obj->α->List V):kq:=fun args res K=>
 match args with
 |b::l=>match B l with
  |some x=>match b with
   | .sa j=>match cP res j with
     | .arr _ z t=>if z==163 then match t with
       | .ob M=>Q M x/\(chg M x=false->K (.tp (.sa j::F M x)) res)/\(chg M x=true->K (.tp (.sa res.length::F M x)) (res++ [.arr (some tO) 163 (.ob (L1 M x))]))
       |_=>False
       else False
     |_=>False
   |_=>False
  |none=>False
 |_=>False
def yA (c:Bool) (L1:List Obj) (F:List V) (v:V) (r:List aK):Prop:=
 match v with
 | .tp l=>match l with
   |a::bs=>match a with
    | .sa p=>if p==0 then c=false/\oW (.tp F) (.tp bs) r else if Nat.ble 1 p then match az r p with
      | .arr own z t=>match own with
        |some e=>match t with
         | .ob M=>if z==163&&e==tO then c=true/\oW (.tp F) (.tp bs) r/\M=L1 else False
         |_=>False
        |none=>False
      |_=>False
      else False
    |_=>False
   | []=>False
 |_=>False
theorem RL {c:Bool} {L1:List Obj} {F:List V} {v:V} {r:List aK} (h:yA c L1 F v r):∃p bs,v= .tp (.sa p::bs)/\oW (.tp F) (.tp bs) r/\((p=0/\c=false)\/(1<=p/\c=true/\az r p= .arr (some tO) 163 (.ob L1))):=by
 unfold yA at h;split at h
 case h_2=>exact h.elim
 split at h
 case h_2=>exact h.elim
 split at h
 case h_2=>exact h.elim
 rename_i p;split at h
 ·rename_i e;have e:=aaX.1 e;exact⟨p,_,rfl,h.2,.inl ⟨e,h.1⟩⟩
 ·split at h
  case isFalse=>exact h.elim
  rename_i hp;have hp:1<=p:=by simpa using hp
  split at h
  case h_2=>exact h.elim
  rename_i hrp;split at h
  case h_2=>exact h.elim
  split at h
  case h_2=>exact h.elim
  split at h
  case isFalse=>exact h.elim
  rename_i hc;simp only[aaV,aaX]at hc;obtain⟨rfl,rfl⟩:=hc;obtain⟨h1,h2,rfl⟩:=h;exact⟨p,_,rfl,h2,.inr ⟨hp,h1,hrp⟩⟩
theorem an.Vm {P:Program} {f:Nat} {args:List V} {K KP:V->List aK->Prop} {own:Option Nat} {z:Nat} {l:TL} (h:an P f args [.ro (.arr none z l)] K KP):an P f args [.ro (.arr own z l)] K KP:=by
 have hk:∀i (own:Option Nat),known [.ro (.arr own z l)] i↔i<1:=fun i own=>by
  unfold known;match i with
  |0=>simp[az]
  |i+1=>simp[az]
 refine h.uU fun J fps w0 F0 w hH=>⟨J,fps,hH.weaken fun i hi=>⟨(hk i _).2 ((hk i _).1 hi),fun fp hh=>?_⟩,Env.bD.refl _ _,fun i hi=>(hk i _).2 ((hk i _).1 hi)⟩
 match i,(hk i _).1 hi with
 |0,_=>
  obtain⟨fp',g1,g2⟩:=hh;exact⟨fp',zs g1,g2⟩
theorem D2 {κ:Nat->Option Nat} {p j:Nat} {bs F:List V} {r:List aK} (hκ:κ p=some j) (hF:lW F=true) (hb:oW (.tp F) (.tp bs) r):lu κ (.tp (.sa p::bs)) (.tp (.sa j::F)):=by
 intro ρ2 ρ3 N N' h1 h2 hv;obtain⟨hp,hbs⟩:=hv;obtain⟨e1,e2,_⟩:=dK hb ρ2 N;obtain⟨a1,a2,a3,a4,a5,a6⟩:=h1 p j hκ;have hFN:fQ N F:=e2 hbs;have hF0:fQ (fun _=>False) F:=mF _ hF hFN
 have e3:bz ρ3 F=bz ρ2 F:=fW (N:=fun _=>False) (fun _ h=>h.elim) _ hF0
 simp only[den,Value.tuple.injEq]at e1;have e1:bz ρ2 bs=bz ρ2 F:=by simpa using e1
 refine⟨?_,h2 p j hκ hp,mF _ hF hFN⟩;simp only[den,bz,e3,e1,a2,a4,a5]
theorem iP {P:Program} {f:Nat} {α:Type} {B:List V->Option α} {m:α->List V} {Q:List Obj->α->Prop} {chg:List Obj->α->Bool} {L1:List Obj->α->List Obj} {F:List Obj->α->List V} (hB:∀l x,B l=some x->ff l (m x)) (hid:∀x,lW (m x)=true)
  (hF:∀L x,lW (F L x)=true) (hcl:∀L x,Q L x->an P f (.sa 0::m x) [.ro (.arr none 163 (.ob L))] (yA (chg L x) (L1 L x) (F L x)) (fun _ _=>False)):lh P f (Az B Q chg L1 F):=by
 intro args res K KP h;unfold Az at h;split at h
 case h_2=>exact h.elim
 split at h
 case h_2=>exact h.elim
 rename_i x hx;refine an.args (ff.j4 (hB _ _ hx)) ?_;split at h
 case h_2=>exact h.elim
 rename_i j;split at h
 case h_2=>exact h.elim
 rename_i own z t hj;split at h
 case isFalse=>exact h.elim
 rename_i hz;have hz:=aaX.1 hz;subst hz;split at h
 case h_2=>exact h.elim
 rename_i M;obtain⟨hQ,h0,h1⟩:=h;have hkj:=eU hj (by simp)
 have hjl:=aO hkj;have hres:fD (lS 0 (dV [(j,false)])) res [(j,false)]= [.ro (.arr own 163 (.ob M))]:=by simp[fD,hj,gL]
 refine an.frame (pl:= [(j,false)]) (args0:= .sa 0::m x) (K0:=yA (chg M x) (L1 M x) (F M x)) (KP0:=fun _ _=>False) (by simp[fm,cQ.2 hkj]) (by simpa[ju,dV,pF]using hjl) ?_ ?_ (fun v r hv=>?_) (fun _ _ h=>h.elim)
 ·exact mg (by simp[ga,lS,idxOf,dV]) (lf _ (hid x))
 ·rw[hres];exact an.Vm (hcl M x hQ)
 ·obtain⟨p,bs,rfl,hb,hv⟩:=RL hv;rcases hv with⟨rfl,hc⟩|⟨hp,hc,hrp⟩
  ·have hm:merge [(j,false)] [] r res=res:=by simp[merge,fC,gG]
   refine⟨[],.tp (.sa j::F M x),rfl,by simp[kV],rfl,D2 (by simp[back,v7]) (hF M x) hb,by rw[hm];exact h0 hc⟩
  ·have hpl:p<r.length:=aO (by rw[hrp];simp)
   have hm:merge [(j,false)] [p] r res=res++ [.arr (some tO) 163 (.ob (L1 M x))]:=by simp[merge,fC,hrp,gL,gG]
   refine⟨[p],.tp (.sa res.length::F M x),by simpa[ju,pF]using⟨hp,hpl⟩,by simp[kV],by simp[oz,hrp,jT],D2 ?_ (hF M x) hb,by rw[hm];exact h1 hc⟩
   unfold back;rw[sj _ _ (by simpa using hp)]
   simp[idxOf]
def YE {α:Type} (B:List V->Option α) (R:α->Prop) (Q:List Obj->α->Prop) (F:List Obj->α->V) (M:List Obj->α->List Obj):kq:=fun args res K=>
 match args with
 |a::l=>match B l with
  |some x=>R x/\match a with
   | .nl v=>match v with
     | .pointer none=>K (F [] x) res
     |_=>False
   | .lp k off=>if off==0 then match az res k with
     | .store t e L=>if t==tS&&e==eS then Q L x/\K (F L x) (bP res k (.store tS eS (M L x)))else False
     | .blk t c=>if t==tS&&Y3 c then K (F [] x) res else False
     |_=>False
     else False
   |_=>False
  |none=>False
 |_=>False
theorem C6 {P:Program} {f:Nat} {α:Type} {B:List V->Option α} {m:α->List V} {R:α->Prop} {Q:List Obj->α->Prop} {F:List Obj->α->V} {M:List Obj->α->List Obj} (hB:∀l x,B l=some x->ff l (m x)) (hid:∀x,lW (m x)=true) (hF:∀L x,kE (F L x)=true)
  (h0:∀x,R x->an P f (ke::m x) [] (oW (F [] x)) (fun _ _=>False)) (hz:∀x,R x->an P f (.lp 0 0::m x) [.ro (.blk tS zst)] (oW (F [] x)) (fun _ _=>False))
  (h1:∀L x,Q L x->an P f (.lp 0 0::m x) [.store tS eS L] (CA (F L x) (M L x)) (fun _ _=>False)):lh P f (YE B R Q F M):=by
 intro args res K KP h;unfold YE at h;split at h
 case h_2=>exact h.elim
 split at h
 case h_2=>exact h.elim
 rename_i x hx;obtain⟨hR,h⟩:=h;refine an.args (ff.j4 (hB _ _ hx)) ?_;split at h
 ·split at h
  ·exact an.pure (by simp only[lW,kE,Bool.true_and];exact hid x) (hF _ _) ((h0 x hR).mono (fun _ _ h=>dK h) fun _ _ h=>h) h
  ·exact h.elim
 ·split at h
  ·rename_i hoff;have hoff:=aaX.1 hoff;subst hoff;split at h
   ·rename_i hr;split at h
    ·rename_i hc;simp only[aaV,aaX]at hc;obtain⟨rfl,rfl⟩:=hc;exact an.DC hr (hid x) (hF _ _) ((h1 _ x h.1).mono (fun v r hv=>Hg hv |> fun⟨a,b⟩=>⟨fun J K=>a J K,b⟩) fun _ _ h=>h) h.2
    ·exact h.elim
   ·rename_i hr;split at h
    ·rename_i hc;simp only[aaV,aaX]at hc;obtain⟨rfl,hz'⟩:=hc;have:=ze hz';subst this;exact an.K2 (r0:= .blk tS zst) (by unfold cP;rw[hr];rfl) (by simp) (fun κ=>rfl) (hid x) (hF _ _) ((hz x hR).mono (fun _ _ h=>dK h) fun _ _ h=>h) h
    ·exact h.elim
   ·exact h.elim
  ·exact h.elim
 ·exact h.elim
def bL (n:Int):Key:=⟨1,0,0,0,0,n⟩
theorem dt {L:List Obj} (h:aq L) (j:Nat) (hj:j<L.length):bM (aj L j free) (L.length:Int)=true:=(gM.1 h).2.2 j hj
theorem gY {L:List Obj} (h:aq L):1<=L.length/\L.length<=64:=⟨(gM.1 h).1,(gM.1 h).2.1⟩
theorem Ly {L M:List Obj} (h:aq L) (hl:M.length=L.length) (hm:∀j,j<L.length->bM (aj M j free) (L.length:Int)=true):aq M:=by
 obtain⟨a,b⟩:=gY h;unfold aq;rw[gM,hl];exact⟨a,b,hm⟩
theorem kS {L:List Obj} {i:Nat} {x:Obj} (h:aq L) (hx:bM x (L.length:Int)=true):aq (b6 L i x):=by
 by_cases hi:i<L.length
 ·refine Ly h iy fun j hj=>?_
  rw[gh hi];split
  ·exact hx
  ·exact dt h j hj
 ·rw[show b6 L i x=L from List.set_eq_of_length_le (by omega)];exact h
theorem my {L:List Obj} {i:Int} {x:Obj} (h0:0<=i) (h1:i<(L.length:Int)) (hx:bM x (L.length:Int)=true):cK L i x=b6 L i.toNat x/\gi L i x=0:=by
 have e:dA L i=0:=mR.2 ⟨h0,h1⟩;have e2:ej x (ai L:Int)=0:=by unfold ej;exact aa2 hx
 exact⟨(vf e e2).2,(vf e e2).1⟩
theorem RT {n:Int} {s:cZ} {k:Key} {j:Nat} (hj:j<16) (h:∀i,i<16->dF n (s.at i)) (hk:dF n k) (i:Nat) (hi:i<16):dF n ((s.put j k).at i):=by
 rw[cZ.gd _ _ _ _ hj];split
 ·exact hk
 ·exact h i hi
theorem sI {n:Int} (hn:0<=n) (x:Int):dF n (bL x):=by
 refine⟨by simp[bL,aV,fy,kG,ea,gO,fZ],?_⟩
 unfold bf;rw[show ea (bL x).kind=false by simp[bL,ea]]
 simp;omega
theorem sB {o:Obj} {n:Int} (h:bM o n=true) (hk:o.kind=1) (i:Nat) (hi:i<16):dF n (o.slots.at i):=by
 obtain⟨a1,a2,a3,a4,a5,a6,a7,a8,a9,a10,a11⟩:=fo.1 h;have:=a10 i hi;rw[hk]at this;exact LS.1 this
theorem mN (o:Obj):CW o o=true:=by simp[CW]
end Go.Sx
namespace Go.Proofs.YtlblcfaclmpekaaGreat
open Go.Sx
open Go.RowKit (Below)
theorem gT {P:Program} {ro:Option Nat}:(FF P ro).round=ro:=rfl
theorem cM {P:Program} {ops:Array Oper} {Q:Exit->Act->World->Prop} {i:Nat} {rest:List Nat} {a:Act} {w w':World} {o:Oper} {v:Value} (ho:ops[i]? =some o) (hg:o.guard=none)
  (hr:(execOp a.eval o).run P w= .ok (.value v) w') (hc:∀c,o.op≠ .call c) (h:wpOpsIn (FF P none) 0 P ops Q rest (a.put o.dst v) w'):wpOpsIn (FF P none) 0 P ops Q (i::rest) a w:=by
 simp only[wpOpsIn,ho];rw[aa2 (by simp[Region.wanted,hg])]
 refine eV (ro:=none) (by simp) (fun f hf=>by
  unfold Oper.about at hf;split at hf
  ·rename_i c hc';exact absurd hc' (hc c)
  ·simp at hf) ?_
 rw[hr];exact h
theorem kJ {P:Program} {ops:Array Oper} {Q:Exit->Act->World->Prop} {i:Nat} {rest:List Nat} {a:Act} {w w':World} {o:Oper} (ho:ops[i]? =some o) (hg:o.guard=none)
  (hr:(execOp a.eval o).run P w= .ok .skip w') (hc:∀c,o.op≠ .call c) (h:wpOpsIn (FF P none) 0 P ops Q rest (a.put o.dst undef) w'):wpOpsIn (FF P none) 0 P ops Q (i::rest) a w:=by
 simp only[wpOpsIn,ho];rw[aa2 (by simp[Region.wanted,hg])]
 refine eV (ro:=none) (by simp) (fun f hf=>by
  unfold Oper.about at hf;split at hf
  ·rename_i c hc';exact absurd hc' (hc c)
  ·simp at hf) ?_
 rw[hr];exact h
theorem ca (a:Act) (d:Option Nat) (v:Value):(a.put d v).tmps.size=a.tmps.size:=by cases d<;>simp[Act.put]
theorem cN (a:Act) (v:Value) (o:Operand):(a.put none v).eval o=a.eval o:=rfl
theorem cj (a:Act) (i j:Nat) (v:Value) (h:i<a.tmps.size):(a.put (some i) v).eval (.tmp j)=if i=j then v else a.eval (.tmp j):=by
 simp only[Act.put,Act.eval];by_cases e:i=j
 ·subst e;simp[h]
 ·simp[e]
theorem eg {P:Program} {f a b:Nat} (h:uR P f a b) (hb:b<1000000:=by decide):∀p∈ [(f,a,b)],wX P p.1 p.2.1 p.2.2:=fun p hp=>by
 simp only[List.mem_singleton]at hp;subst hp;refine⟨h.1,fun b off ty cs cs' k n w _ _ h1 h2=>h.2 b off ty cs cs' k n w h1 fun w1 hw1=>?_⟩
 have:=h2 w1 hw1;simp only[DB,Q6,aa2 hb]at this;exact this
theorem eP {P:Program} {f a b:Nat} (h:Pz P f a b):∀p∈ [(f,a,b+1000000)],wX P p.1 p.2.1 p.2.2:=fun p hp=>by
 simp only[List.mem_singleton]at hp;subst hp;refine⟨h.1,fun c off ty cs cs' k n w hk hn h1 h2=>?_⟩
 obtain rfl:k= .i64:=hk.resolve_left (by simp)
 refine h.2 c off ty cs cs' n w hn h1 fun w1 hw1=>?_
 have:=h2 w1 hw1;simp only[DB,Q6,aa1 (show¬b+1000000<1000000 by omega),Nat.add_sub_cancel]at this
 exact this
theorem vY (k:IntKind) (n:Int) (w:World) (t:Nat):(Instr.typeAssert (.iface 280 (.agg #[.int k n])) t 280 true).run Tryz.prog w= .ok (.tuple #[.agg #[.int k n],.bool true]) w:=by
 simp[Instr.typeAssert,go_sem]
theorem iS:uR Tryz.prog 193 280 26:=by
 refine⟨fun p w=>?_,fun b off ty cs₁ cs' k n w hb hs=>?_⟩
 ·refine callsDIn_of_wpSIn Go.Proofs.Tryz.func193 rfl (by show(Tryz.prog.funcs[193]?).isSome=true;kernel_rfl) fun c₀ cs hu=>?_
  apply wpSIn_seq
  apply wpSIn_region
  simp[wpOpsSIn,go_sem,recoverD,hu,Exit.thenS];refine wpSIn_of_wpIn rfl (wpIn_block (wpIn_seq (wpIn_region ?_)));simp[wpOpsIn,go_sem,Exit.then,gT];refine wpIn_cond_true (by simp[Act.eval,Array.replicate]) (wpIn_region ?_)
  simp[wpOpsIn,go_sem,Exit.inBlock,gT];cases c₀;simp_all[bodyPostS,results,Go.Proofs.Tryz.f193]
 ·refine callsDIn_of_wpSIn Go.Proofs.Tryz.func193 rfl (by show(Tryz.prog.funcs[193]?).isSome=true;kernel_rfl) fun c₀ cs hu=>?_
  apply wpSIn_seq
  apply wpSIn_region
  simp[wpOpsSIn,go_sem,recoverD,hu,Exit.thenS];refine wpSIn_of_wpIn rfl (wpIn_block (wpIn_seq (wpIn_region ?_)));simp[wpOpsIn,go_sem,Exit.then,gT];refine wpIn_cond_false (by simp[Act.eval,Array.replicate]) ?_
  refine wpIn_seq (wpIn_region ?_);generalize hA:({tmps:=_,defers:= []}:Act)=A
  have hz:A.tmps.size=15:=by subst hA;simp
  have hdf:A.defers= []:=by subst hA;rfl
  have h0:A.eval (.tmp 0)= .pointer (some ⟨b,off,none⟩):=by subst hA;simp[Act.eval]
  have h5:A.eval (.tmp 5)= .iface 280 (.agg #[.int k n]):=by subst hA;simp[Act.eval]
  clear hA;have hbl:b<w.heap.size:=(Array.getElem?_eq_some_iff.1 hb).1
  have hb1:(w.alloc (.cells #[.int k n] 280)).heap[b]? =some (.cells cs₁ ty (0,0)):=
   (((Below.refl _ w).alloc (Nat.le_refl _) _).block b hbl).trans hb
  refine cM (P:=Tryz.prog) rfl rfl (v:= .tuple #[.agg #[.int k n],.bool true]) (w':=w) (by simp[execOp,h5,vY]) (by intro c;simp) ?_
  refine cM (P:=Tryz.prog) rfl rfl (v:= .bool true) (w':=w) (by simp[execOp,cj,cN,ca,hz,Instr.extract]) (by intro c;simp) ?_
  refine cM (P:=Tryz.prog) rfl rfl (v:= .agg #[.int k n]) (w':=w) (by simp[execOp,cj,cN,ca,hz,Instr.extract]) (by intro c;simp) ?_
  show Code.wpIn _ _ _ _ _ _ _
  refine wpIn_cond_true (by simp[cj,ca,hz]) ?_
  refine wpIn_seq (wpIn_region ?_);refine cM (P:=Tryz.prog) rfl rfl (v:= .pointer (some ⟨w.heap.size,0,none⟩)) (w':=w.alloc (.cells #[.int .i64 0] 280)) (by simp[execOp,Instr.alloc,go_sem]) (by intro c;simp) ?_
  refine kJ (P:=Tryz.prog) rfl rfl (w':=w.alloc (.cells #[.int k n] 280)) (by simp[execOp,cj,cN,ca,hz,go_sem]) (by intro c;simp) ?_
  show Code.wpIn _ _ _ _ _ _ _
  refine wpIn_region ?_;refine cM (P:=Tryz.prog) rfl rfl (v:= .pointer (some ⟨b,off,none⟩)) (w':=w.alloc (.cells #[.int k n] 280)) (by simp[execOp,cj,cN,ca,hz,h0]) (by intro c;simp) ?_
  refine cM (P:=Tryz.prog) rfl rfl (v:= .pointer (some ⟨w.heap.size,0,none⟩)) (w':=w.alloc (.cells #[.int k n] 280)) (by simp[execOp,cj,cN,ca,hz,go_sem]) (by intro c;simp) ?_
  refine cM (P:=Tryz.prog) rfl rfl (v:= .int k n) (w':=w.alloc (.cells #[.int k n] 280)) (by simp[execOp,cj,cN,ca,hz,go_sem]) (by intro c;simp) ?_
  refine cM (P:=Tryz.prog) rfl rfl (v:= .pointer (some ⟨b,off,none⟩)) (w':=w.alloc (.cells #[.int k n] 280)) (by simp[execOp,cj,cN,ca,hz]) (by intro c;simp) ?_
  refine kJ (P:=Tryz.prog) rfl rfl (w':=(w.alloc (.cells #[.int k n] 280)).setRow b cs') (by simp[execOp,cj,cN,ca,hz,hs _ hb1]) (by intro c;simp) ?_
  have hbe:Below w.heap.size (w.setRow b cs') ((w.alloc (.cells #[.int k n] 280)).setRow b cs'):=by
   have hs1:∀(v:World) (c:Array Value),(v.setRow b c).heap.size=v.heap.size:=fun v c=>by simp[World.setRow]
   refine⟨rfl,rfl,rfl,by rw[hs1,hs1];exact((Below.refl _ w).alloc (Nat.le_refl _) _).size,fun j hj=>?_⟩
   by_cases e:j=b
   ·subst e;rw[iN _ _ _ _ _ hb1,iN _ _ _ _ _ hb]
   ·rw[setRow_other _ _ _ _ e,setRow_other _ _ _ _ e];exact((Below.refl _ w).alloc (Nat.le_refl _) _).block j hj
  refine⟨by simp only[put_defers];exact hdf,_,rfl,.tuple #[],by simp[results,Go.Proofs.Tryz.f193],⟨_,rfl⟩,rfl,hbe⟩
theorem wc (k:IntKind) (n:Int) (w:World) (t:Nat):(Instr.typeAssert (.iface 283 (.agg #[.int k n])) t 283 true).run Tryz.prog w= .ok (.tuple #[.agg #[.int k n],.bool true]) w:=by
 simp[Instr.typeAssert,go_sem]
theorem iC:uR Tryz.prog 212 283 26:=by
 refine⟨fun p w=>?_,fun b off ty cs₁ cs' k n w hb hs=>?_⟩
 ·refine callsDIn_of_wpSIn Go.Proofs.Tryz.func212 rfl (by show(Tryz.prog.funcs[212]?).isSome=true;kernel_rfl) fun c₀ cs hu=>?_
  apply wpSIn_seq
  apply wpSIn_region
  simp[wpOpsSIn,go_sem,recoverD,hu,Exit.thenS];refine wpSIn_of_wpIn rfl (wpIn_block (wpIn_seq (wpIn_region ?_)));simp[wpOpsIn,go_sem,Exit.then,gT];refine wpIn_cond_true (by simp[Act.eval,Array.replicate]) (wpIn_region ?_)
  simp[wpOpsIn,go_sem,Exit.inBlock,gT];cases c₀;simp_all[bodyPostS,results,Go.Proofs.Tryz.f212]
 ·refine callsDIn_of_wpSIn Go.Proofs.Tryz.func212 rfl (by show(Tryz.prog.funcs[212]?).isSome=true;kernel_rfl) fun c₀ cs hu=>?_
  apply wpSIn_seq
  apply wpSIn_region
  simp[wpOpsSIn,go_sem,recoverD,hu,Exit.thenS];refine wpSIn_of_wpIn rfl (wpIn_block (wpIn_seq (wpIn_region ?_)));simp[wpOpsIn,go_sem,Exit.then,gT];refine wpIn_cond_false (by simp[Act.eval,Array.replicate]) ?_
  refine wpIn_seq (wpIn_region ?_);generalize hA:({tmps:=_,defers:= []}:Act)=A
  have hz:A.tmps.size=15:=by subst hA;simp
  have hdf:A.defers= []:=by subst hA;rfl
  have h0:A.eval (.tmp 0)= .pointer (some ⟨b,off,none⟩):=by subst hA;simp[Act.eval]
  have h5:A.eval (.tmp 5)= .iface 283 (.agg #[.int k n]):=by subst hA;simp[Act.eval]
  clear hA;have hbl:b<w.heap.size:=(Array.getElem?_eq_some_iff.1 hb).1
  have hb1:(w.alloc (.cells #[.int k n] 283)).heap[b]? =some (.cells cs₁ ty (0,0)):=
   (((Below.refl _ w).alloc (Nat.le_refl _) _).block b hbl).trans hb
  refine cM (P:=Tryz.prog) rfl rfl (v:= .tuple #[.agg #[.int k n],.bool true]) (w':=w) (by simp[execOp,h5,wc]) (by intro c;simp) ?_
  refine cM (P:=Tryz.prog) rfl rfl (v:= .bool true) (w':=w) (by simp[execOp,cj,cN,ca,hz,Instr.extract]) (by intro c;simp) ?_
  refine cM (P:=Tryz.prog) rfl rfl (v:= .agg #[.int k n]) (w':=w) (by simp[execOp,cj,cN,ca,hz,Instr.extract]) (by intro c;simp) ?_
  show Code.wpIn _ _ _ _ _ _ _
  refine wpIn_cond_true (by simp[cj,ca,hz]) ?_
  refine wpIn_seq (wpIn_region ?_);refine cM (P:=Tryz.prog) rfl rfl (v:= .pointer (some ⟨w.heap.size,0,none⟩)) (w':=w.alloc (.cells #[.int .i64 0] 283)) (by simp[execOp,Instr.alloc,go_sem]) (by intro c;simp) ?_
  refine kJ (P:=Tryz.prog) rfl rfl (w':=w.alloc (.cells #[.int k n] 283)) (by simp[execOp,cj,cN,ca,hz,go_sem]) (by intro c;simp) ?_
  show Code.wpIn _ _ _ _ _ _ _
  refine wpIn_region ?_;refine cM (P:=Tryz.prog) rfl rfl (v:= .pointer (some ⟨b,off,none⟩)) (w':=w.alloc (.cells #[.int k n] 283)) (by simp[execOp,cj,cN,ca,hz,h0]) (by intro c;simp) ?_
  refine cM (P:=Tryz.prog) rfl rfl (v:= .pointer (some ⟨w.heap.size,0,none⟩)) (w':=w.alloc (.cells #[.int k n] 283)) (by simp[execOp,cj,cN,ca,hz,go_sem]) (by intro c;simp) ?_
  refine cM (P:=Tryz.prog) rfl rfl (v:= .int k n) (w':=w.alloc (.cells #[.int k n] 283)) (by simp[execOp,cj,cN,ca,hz,go_sem]) (by intro c;simp) ?_
  refine cM (P:=Tryz.prog) rfl rfl (v:= .pointer (some ⟨b,off,none⟩)) (w':=w.alloc (.cells #[.int k n] 283)) (by simp[execOp,cj,cN,ca,hz]) (by intro c;simp) ?_
  refine kJ (P:=Tryz.prog) rfl rfl (w':=(w.alloc (.cells #[.int k n] 283)).setRow b cs') (by simp[execOp,cj,cN,ca,hz,hs _ hb1]) (by intro c;simp) ?_
  have hbe:Below w.heap.size (w.setRow b cs') ((w.alloc (.cells #[.int k n] 283)).setRow b cs'):=by
   have hs1:∀(v:World) (c:Array Value),(v.setRow b c).heap.size=v.heap.size:=fun v c=>by simp[World.setRow]
   refine⟨rfl,rfl,rfl,by rw[hs1,hs1];exact((Below.refl _ w).alloc (Nat.le_refl _) _).size,fun j hj=>?_⟩
   by_cases e:j=b
   ·subst e;rw[iN _ _ _ _ _ hb1,iN _ _ _ _ _ hb]
   ·rw[setRow_other _ _ _ _ e,setRow_other _ _ _ _ e];exact((Below.refl _ w).alloc (Nat.le_refl _) _).block j hj
  refine⟨by simp only[put_defers];exact hdf,_,rfl,.tuple #[],by simp[results,Go.Proofs.Tryz.f212],⟨_,rfl⟩,rfl,hbe⟩
theorem xE (k:IntKind) (n:Int) (w:World) (t:Nat):(Instr.typeAssert (.iface 299 (.agg #[.int k n])) t 299 true).run Tryz.prog w= .ok (.tuple #[.agg #[.int k n],.bool true]) w:=by
 simp[Instr.typeAssert,go_sem]
theorem IF:uR Tryz.prog 242 299 202:=by
 refine⟨fun p w=>?_,fun b off ty cs₁ cs' k n w hb hs=>?_⟩
 ·refine callsDIn_of_wpSIn Go.Proofs.Tryz.func242 rfl (by show(Tryz.prog.funcs[242]?).isSome=true;kernel_rfl) fun c₀ cs hu=>?_
  apply wpSIn_seq
  apply wpSIn_region
  simp[wpOpsSIn,go_sem,recoverD,hu,Exit.thenS];refine wpSIn_of_wpIn rfl (wpIn_block (wpIn_seq (wpIn_region ?_)));simp[wpOpsIn,go_sem,Exit.then,gT];refine wpIn_cond_true (by simp[Act.eval,Array.replicate]) (wpIn_region ?_)
  simp[wpOpsIn,go_sem,Exit.inBlock,gT];cases c₀;simp_all[bodyPostS,results,Go.Proofs.Tryz.f242]
 ·refine callsDIn_of_wpSIn Go.Proofs.Tryz.func242 rfl (by show(Tryz.prog.funcs[242]?).isSome=true;kernel_rfl) fun c₀ cs hu=>?_
  apply wpSIn_seq
  apply wpSIn_region
  simp[wpOpsSIn,go_sem,recoverD,hu,Exit.thenS];refine wpSIn_of_wpIn rfl (wpIn_block (wpIn_seq (wpIn_region ?_)));simp[wpOpsIn,go_sem,Exit.then,gT];refine wpIn_cond_false (by simp[Act.eval,Array.replicate]) ?_
  refine wpIn_seq (wpIn_region ?_);generalize hA:({tmps:=_,defers:= []}:Act)=A
  have hz:A.tmps.size=12:=by subst hA;simp
  have hdf:A.defers= []:=by subst hA;rfl
  have h0:A.eval (.tmp 0)= .pointer (some ⟨b,off,none⟩):=by subst hA;simp[Act.eval]
  have h5:A.eval (.tmp 4)= .iface 299 (.agg #[.int k n]):=by subst hA;simp[Act.eval]
  clear hA;have hbl:b<w.heap.size:=(Array.getElem?_eq_some_iff.1 hb).1
  have hb1:(w.alloc (.cells #[.int k n] 299)).heap[b]? =some (.cells cs₁ ty (0,0)):=
   (((Below.refl _ w).alloc (Nat.le_refl _) _).block b hbl).trans hb
  refine cM (P:=Tryz.prog) rfl rfl (v:= .tuple #[.agg #[.int k n],.bool true]) (w':=w) (by simp[execOp,h5,xE]) (by intro c;simp) ?_
  refine cM (P:=Tryz.prog) rfl rfl (v:= .bool true) (w':=w) (by simp[execOp,cj,cN,ca,hz,Instr.extract]) (by intro c;simp) ?_
  refine cM (P:=Tryz.prog) rfl rfl (v:= .agg #[.int k n]) (w':=w) (by simp[execOp,cj,cN,ca,hz,Instr.extract]) (by intro c;simp) ?_
  show Code.wpIn _ _ _ _ _ _ _
  refine wpIn_cond_true (by simp[cj,ca,hz]) ?_
  refine wpIn_seq (wpIn_region ?_);refine cM (P:=Tryz.prog) rfl rfl (v:= .pointer (some ⟨w.heap.size,0,none⟩)) (w':=w.alloc (.cells #[.int .i64 0] 299)) (by simp[execOp,Instr.alloc,go_sem]) (by intro c;simp) ?_
  refine kJ (P:=Tryz.prog) rfl rfl (w':=w.alloc (.cells #[.int k n] 299)) (by simp[execOp,cj,cN,ca,hz,go_sem]) (by intro c;simp) ?_
  show Code.wpIn _ _ _ _ _ _ _
  refine wpIn_region ?_;refine cM (P:=Tryz.prog) rfl rfl (v:= .pointer (some ⟨w.heap.size,0,none⟩)) (w':=w.alloc (.cells #[.int k n] 299)) (by simp[execOp,cj,cN,ca,hz,go_sem]) (by intro c;simp) ?_
  refine cM (P:=Tryz.prog) rfl rfl (v:= .int k n) (w':=w.alloc (.cells #[.int k n] 299)) (by simp[execOp,cj,cN,ca,hz,go_sem]) (by intro c;simp) ?_
  refine kJ (P:=Tryz.prog) rfl rfl (w':=(w.alloc (.cells #[.int k n] 299)).setRow b cs') (by simp[execOp,cj,cN,ca,hz,h0,hs _ hb1]) (by intro c;simp) ?_
  have hbe:Below w.heap.size (w.setRow b cs') ((w.alloc (.cells #[.int k n] 299)).setRow b cs'):=by
   have hs1:∀(v:World) (c:Array Value),(v.setRow b c).heap.size=v.heap.size:=fun v c=>by simp[World.setRow]
   refine⟨rfl,rfl,rfl,by rw[hs1,hs1];exact((Below.refl _ w).alloc (Nat.le_refl _) _).size,fun j hj=>?_⟩
   by_cases e:j=b
   ·subst e;rw[iN _ _ _ _ _ hb1,iN _ _ _ _ _ hb]
   ·rw[setRow_other _ _ _ _ e,setRow_other _ _ _ _ e];exact((Below.refl _ w).alloc (Nat.le_refl _) _).block j hj
  refine⟨by simp only[put_defers];exact hdf,_,rfl,.tuple #[],by simp[results,Go.Proofs.Tryz.f242],⟨_,rfl⟩,rfl,hbe⟩
theorem wb (k:IntKind) (n:Int) (w:World) (t:Nat):(Instr.typeAssert (.iface 211 (.agg #[.int k n])) t 211 true).run Tryz.prog w= .ok (.tuple #[.agg #[.int k n],.bool true]) w:=by
 simp[Instr.typeAssert,go_sem]
theorem lB:uR Tryz.prog 90 211 26:=by
 refine⟨fun p w=>?_,fun b off ty cs₁ cs' k n w hb hs=>?_⟩
 ·refine callsDIn_of_wpSIn Go.Proofs.Tryz.func90 rfl (by show(Tryz.prog.funcs[90]?).isSome=true;kernel_rfl) fun c₀ cs hu=>?_
  apply wpSIn_seq
  apply wpSIn_region
  simp[wpOpsSIn,go_sem,recoverD,hu,Exit.thenS];refine wpSIn_of_wpIn rfl (wpIn_block (wpIn_seq (wpIn_region ?_)));simp[wpOpsIn,go_sem,Exit.then,gT];refine wpIn_cond_true (by simp[Act.eval,Array.replicate]) (wpIn_region ?_)
  simp[wpOpsIn,go_sem,Exit.inBlock,gT];cases c₀;simp_all[bodyPostS,results,Go.Proofs.Tryz.f90]
 ·refine callsDIn_of_wpSIn Go.Proofs.Tryz.func90 rfl (by show(Tryz.prog.funcs[90]?).isSome=true;kernel_rfl) fun c₀ cs hu=>?_
  apply wpSIn_seq
  apply wpSIn_region
  simp[wpOpsSIn,go_sem,recoverD,hu,Exit.thenS];refine wpSIn_of_wpIn rfl (wpIn_block (wpIn_seq (wpIn_region ?_)));simp[wpOpsIn,go_sem,Exit.then,gT];refine wpIn_cond_false (by simp[Act.eval,Array.replicate]) ?_
  refine wpIn_seq (wpIn_region ?_);generalize hA:({tmps:=_,defers:= []}:Act)=A
  have hz:A.tmps.size=15:=by subst hA;simp
  have hdf:A.defers= []:=by subst hA;rfl
  have h0:A.eval (.tmp 0)= .pointer (some ⟨b,off,none⟩):=by subst hA;simp[Act.eval]
  have h5:A.eval (.tmp 5)= .iface 211 (.agg #[.int k n]):=by subst hA;simp[Act.eval]
  clear hA;have hbl:b<w.heap.size:=(Array.getElem?_eq_some_iff.1 hb).1
  have hb1:(w.alloc (.cells #[.int k n] 211)).heap[b]? =some (.cells cs₁ ty (0,0)):=
   (((Below.refl _ w).alloc (Nat.le_refl _) _).block b hbl).trans hb
  refine cM (P:=Tryz.prog) rfl rfl (v:= .tuple #[.agg #[.int k n],.bool true]) (w':=w) (by simp[execOp,h5,wb]) (by intro c;simp) ?_
  refine cM (P:=Tryz.prog) rfl rfl (v:= .bool true) (w':=w) (by simp[execOp,cj,cN,ca,hz,Instr.extract]) (by intro c;simp) ?_
  refine cM (P:=Tryz.prog) rfl rfl (v:= .agg #[.int k n]) (w':=w) (by simp[execOp,cj,cN,ca,hz,Instr.extract]) (by intro c;simp) ?_
  show Code.wpIn _ _ _ _ _ _ _
  refine wpIn_cond_true (by simp[cj,ca,hz]) ?_
  refine wpIn_seq (wpIn_region ?_);refine cM (P:=Tryz.prog) rfl rfl (v:= .pointer (some ⟨w.heap.size,0,none⟩)) (w':=w.alloc (.cells #[.int .i64 0] 211)) (by simp[execOp,Instr.alloc,go_sem]) (by intro c;simp) ?_
  refine kJ (P:=Tryz.prog) rfl rfl (w':=w.alloc (.cells #[.int k n] 211)) (by simp[execOp,cj,cN,ca,hz,go_sem]) (by intro c;simp) ?_
  show Code.wpIn _ _ _ _ _ _ _
  refine wpIn_region ?_;refine cM (P:=Tryz.prog) rfl rfl (v:= .pointer (some ⟨b,off,none⟩)) (w':=w.alloc (.cells #[.int k n] 211)) (by simp[execOp,cj,cN,ca,hz,h0]) (by intro c;simp) ?_
  refine cM (P:=Tryz.prog) rfl rfl (v:= .pointer (some ⟨w.heap.size,0,none⟩)) (w':=w.alloc (.cells #[.int k n] 211)) (by simp[execOp,cj,cN,ca,hz,go_sem]) (by intro c;simp) ?_
  refine cM (P:=Tryz.prog) rfl rfl (v:= .int k n) (w':=w.alloc (.cells #[.int k n] 211)) (by simp[execOp,cj,cN,ca,hz,go_sem]) (by intro c;simp) ?_
  refine cM (P:=Tryz.prog) rfl rfl (v:= .pointer (some ⟨b,off,none⟩)) (w':=w.alloc (.cells #[.int k n] 211)) (by simp[execOp,cj,cN,ca,hz]) (by intro c;simp) ?_
  refine kJ (P:=Tryz.prog) rfl rfl (w':=(w.alloc (.cells #[.int k n] 211)).setRow b cs') (by simp[execOp,cj,cN,ca,hz,hs _ hb1]) (by intro c;simp) ?_
  have hbe:Below w.heap.size (w.setRow b cs') ((w.alloc (.cells #[.int k n] 211)).setRow b cs'):=by
   have hs1:∀(v:World) (c:Array Value),(v.setRow b c).heap.size=v.heap.size:=fun v c=>by simp[World.setRow]
   refine⟨rfl,rfl,rfl,by rw[hs1,hs1];exact((Below.refl _ w).alloc (Nat.le_refl _) _).size,fun j hj=>?_⟩
   by_cases e:j=b
   ·subst e;rw[iN _ _ _ _ _ hb1,iN _ _ _ _ _ hb]
   ·rw[setRow_other _ _ _ _ e,setRow_other _ _ _ _ e];exact((Below.refl _ w).alloc (Nat.le_refl _) _).block j hj
  refine⟨by simp only[put_defers];exact hdf,_,rfl,.tuple #[],by simp[results,Go.Proofs.Tryz.f90],⟨_,rfl⟩,rfl,hbe⟩
theorem wg (n:Int) (w:World) (t:Nat):(Instr.typeAssert (.iface 214 (.agg #[.int .i64 n])) t 214 true).run Tryz.prog w= .ok (.tuple #[.agg #[.int .i64 n],.bool true]) w:=by
 simp[Instr.typeAssert,go_sem]
theorem AB {n:Int} (hn:cc .i64 n) (w:World):(Instr.build 47 #[(0,.int .i64 n)]).run Tryz.prog w= .ok (den Env.zero (U0 n)) w:=
 (rn (J:=Env.zero) (w:=w) (K:=fun _=>True) (C:=(YJ [] [] [] bx aQ).toCtx) (t:=47) (parts:= [(0,.it .i64 n)]) (r:=U0 n) (zU pz) (by kernel_rfl) (by simp;exact hn)).1
theorem bZ:Pz Tryz.prog 130 214 47:=by
 refine⟨fun p w=>?_,fun b off ty cs₁ cs' n w hn hb hs=>?_⟩
 ·refine callsDIn_of_wpSIn Go.Proofs.Tryz.func130 rfl (by show(Tryz.prog.funcs[130]?).isSome=true;kernel_rfl) fun c₀ cs hu=>?_
  apply wpSIn_seq
  apply wpSIn_region
  simp[wpOpsSIn,go_sem,recoverD,hu,Exit.thenS];refine wpSIn_of_wpIn rfl (wpIn_block (wpIn_seq (wpIn_region ?_)));simp[wpOpsIn,go_sem,Exit.then,gT];refine wpIn_cond_true (by simp[Act.eval,Array.replicate]) (wpIn_region ?_)
  simp[wpOpsIn,go_sem,Exit.inBlock,gT];cases c₀;simp_all[bodyPostS,results,Go.Proofs.Tryz.f130]
 ·refine callsDIn_of_wpSIn Go.Proofs.Tryz.func130 rfl (by show(Tryz.prog.funcs[130]?).isSome=true;kernel_rfl) fun c₀ cs hu=>?_
  apply wpSIn_seq
  apply wpSIn_region
  simp[wpOpsSIn,go_sem,recoverD,hu,Exit.thenS];refine wpSIn_of_wpIn rfl (wpIn_block (wpIn_seq (wpIn_region ?_)));simp[wpOpsIn,go_sem,Exit.then,gT];refine wpIn_cond_false (by simp[Act.eval,Array.replicate]) ?_
  refine wpIn_seq (wpIn_region ?_);generalize hA:({tmps:=_,defers:= []}:Act)=A
  have hz:A.tmps.size=13:=by subst hA;simp
  have hdf:A.defers= []:=by subst hA;rfl
  have h0:A.eval (.tmp 0)= .pointer (some ⟨b,off,none⟩):=by subst hA;simp[Act.eval]
  have h5:A.eval (.tmp 4)= .iface 214 (.agg #[.int .i64 n]):=by subst hA;simp[Act.eval]
  clear hA;have hbl:b<w.heap.size:=(Array.getElem?_eq_some_iff.1 hb).1
  have hb1:(w.alloc (.cells #[.int .i64 n] 214)).heap[b]? =some (.cells cs₁ ty (0,0)):=
   (((Below.refl _ w).alloc (Nat.le_refl _) _).block b hbl).trans hb
  refine cM (P:=Tryz.prog) rfl rfl (v:= .tuple #[.agg #[.int .i64 n],.bool true]) (w':=w) (by simp[execOp,h5,wg]) (by intro c;simp) ?_
  refine cM (P:=Tryz.prog) rfl rfl (v:= .bool true) (w':=w) (by simp[execOp,cj,cN,ca,hz,Instr.extract]) (by intro c;simp) ?_
  refine cM (P:=Tryz.prog) rfl rfl (v:= .agg #[.int .i64 n]) (w':=w) (by simp[execOp,cj,cN,ca,hz,Instr.extract]) (by intro c;simp) ?_
  show Code.wpIn _ _ _ _ _ _ _
  refine wpIn_cond_true (by simp[cj,ca,hz]) ?_
  refine wpIn_seq (wpIn_region ?_);refine cM (P:=Tryz.prog) rfl rfl (v:= .pointer (some ⟨w.heap.size,0,none⟩)) (w':=w.alloc (.cells #[.int .i64 0] 214)) (by simp[execOp,Instr.alloc,go_sem]) (by intro c;simp) ?_
  refine kJ (P:=Tryz.prog) rfl rfl (w':=w.alloc (.cells #[.int .i64 n] 214)) (by simp[execOp,cj,cN,ca,hz,go_sem]) (by intro c;simp) ?_
  show Code.wpIn _ _ _ _ _ _ _
  refine wpIn_region ?_;refine cM (P:=Tryz.prog) rfl rfl (v:= .pointer (some ⟨w.heap.size,0,none⟩)) (w':=w.alloc (.cells #[.int .i64 n] 214)) (by simp[execOp,cj,cN,ca,hz,go_sem]) (by intro c;simp) ?_
  refine cM (P:=Tryz.prog) rfl rfl (v:= .int .i64 n) (w':=w.alloc (.cells #[.int .i64 n] 214)) (by simp[execOp,cj,cN,ca,hz,go_sem]) (by intro c;simp) ?_
  refine cM (P:=Tryz.prog) rfl rfl (v:=den Env.zero (U0 n)) (w':=w.alloc (.cells #[.int .i64 n] 214)) (by simp only[execOp,Array.map,cj,cN,ca,hz];first|rfl| (simp[cj,cN,ca,hz,AB hn])) (by intro c;simp) ?_
  refine kJ (P:=Tryz.prog) rfl rfl (w':=(w.alloc (.cells #[.int .i64 n] 214)).setRow b cs') (by simp[execOp,cj,cN,ca,hz,h0,hs _ hb1]) (by intro c;simp) ?_
  have hbe:Below w.heap.size (w.setRow b cs') ((w.alloc (.cells #[.int .i64 n] 214)).setRow b cs'):=by
   have hs1:∀(v:World) (c:Array Value),(v.setRow b c).heap.size=v.heap.size:=fun v c=>by simp[World.setRow]
   refine⟨rfl,rfl,rfl,by rw[hs1,hs1];exact((Below.refl _ w).alloc (Nat.le_refl _) _).size,fun j hj=>?_⟩
   by_cases e:j=b
   ·subst e;rw[iN _ _ _ _ _ hb1,iN _ _ _ _ _ hb]
   ·rw[setRow_other _ _ _ _ e,setRow_other _ _ _ _ e];exact((Below.refl _ w).alloc (Nat.le_refl _) _).block j hj
  refine⟨by simp only[put_defers];exact hdf,_,rfl,.tuple #[],by simp[results,Go.Proofs.Tryz.f130],⟨_,rfl⟩,rfl,hbe⟩
theorem PH (k:Key):
 ((bu []|| !decide (bB k=0))=true->void=ah [] k)/\
   ((bu []|| !decide (bB k=0))=false->
     ((aZ k&& !aU [] k)=true->void=ah [] k)/\((aZ k&& !aU [] k)=false->k=ah [] k)):=by
 exact Eb [] k
theorem ON (L:List Sx.Obj) (k:Key):
 ((bu L|| !decide (bB k=0))=true->void=ah L k)/\
   ((bu L|| !decide (bB k=0))=false->
     ((aZ k&& !aU L k)=true->void=ah L k)/\((aZ k&& !aU L k)=false->k=ah L k)):=by
 exact Eb L k
theorem iv:cz Tryz.prog 58 Xz:=
 yz gI (fun _ _=>rfl) (fun x _=>bc (inl:=bx) (ann:=aQ) (ae qw (ae gy (ae dJ (ae bR ar)))) (PH x) (by kernel_rfl)) (fun L x _ _ _=>bc (inl:=bx) (ann:=aQ) (ae qw (ae gy (ae dJ (ae bR ar)))) (ON L x) (by kernel_rfl)) fun _=>rfl
theorem OY (l:List Sx.Obj) (k:Key):
 ((decide (bQ (ai l)=0)|| !decide (bB k=0)||decide (0<=bf k)&& !aU l k)=true->
   void=ah l k)/\
   ((decide (bQ (ai l)=0)|| !decide (bB k=0)||decide (0<=bf k)&& !aU l k)=false->
     k=ah l k):=by
 exact J3 l k
theorem pL:cz Tryz.prog 50 Rm:=Hp gI (fun _ _=>rfl) (fun l k _ _ _=>bc (inl:=bx) (ann:=aQ) (ae vN (ae pR (ae mf ar))) (OY l k) (by kernel_rfl)) fun _=>rfl
end Go.Proofs.YtlblcfaclmpekaaGreat
namespace Go.Sx
def wkX (nid:Nat):V:= .mp nid
def wkN (nid:Nat):List aK:= [.mp .i64 [2,3,1,8] [.fn 240 [.lp (nid+1) 0],.fn 240 [.lp (nid+1+1) 0],.fn 238 [],.fn 238 []],
 .blk 42 (.ci .i64 3),.blk 42 (.ci .i64 1)]
def tN:Nat:=246
def clR (L:List Obj) (t f:Key) (g:Int):aK:= .blk tN (.ag [.ob (ew (aa L t) (dH L t f g)),.lp 0 0,.key t])
end Go.Sx
namespace Go.Proofs.YtlblcfaclmpekaaGreat
open Go.Sx
theorem R5:
 true=true/\
 true=true/\
  ∀(nid:Nat),some (wkX nid)=some (wkX nid)/\some (wkN nid)=some (wkN nid):=by
 exact⟨rfl,rfl,fun nid=>⟨rfl,rfl⟩⟩
theorem R0:cz Tryz.prog 234 (A9 wkX wkN):=vq (π:= [0,1,2]) (by decide) (fun _=>rfl) (bm (inl:=(fun f=>f==239)) (ann:=aQ) ar aE R5 (by kernel_rfl))
theorem Pq (r m:Int) (hr:cc .i64 r) (hm0:cc .i64 m):
 (∃g,kZ g/\r=r/\m=m/\0=gD r m g/\1=g)/\∀(g:Int),kZ g->aba (decide (g<=4)) ((nX g/\abd (r.tdiv g))/\(nX 2/\abd ((r.tdiv g).tmod 2))/\((!decide ((r.tdiv g).tmod 2=1))=true->nX g/\abd (m.tdiv g))/\((!decide ((r.tdiv g).tmod 2=1))=true->nX 2/\abd ((m.tdiv g).tmod 2))/\aba (decide ((r.tdiv g).tmod 2=1)||decide ((m.tdiv g).tmod 2=1)) (abd (gD r m g+g)/\abd (g*2)/\∃g',kZ g'/\(8-g').toNat<(8-g).toNat/\r=r/\m=m/\gD r m g+g=gD r m g'/\g*2=g') (abd (g*2)/\∃g',kZ g'/\(8-g').toNat<(8-g).toNat/\r=r/\m=m/\gD r m g=gD r m g'/\g*2=g')) (gD r m g=iD r m):=by
 delta aba abd
 refine⟨⟨1,.inl rfl,rfl,rfl,by simp[gD],rfl⟩,fun g hg=>⟨fun hlt=>?_,fun hge=>?_⟩⟩
 ·have hlt:=aaZ hlt;have hne:nX g:=by unfold nX;rcases hg with rfl|rfl|rfl|rfl<;>omega
  have h2:nX 2:=by unfold nX;omega
  have hs:=EP (r:=r) (m:=m) (g:=g)
  have hn:∃g',kZ g'/\(8-g').toNat<(8-g).toNat/\g*2=g':=by
   rcases hg with rfl|rfl|rfl|rfl
   ·exact⟨2,.inr (.inl rfl),by omega,rfl⟩
   ·exact⟨4,.inr (.inr (.inl rfl)),by omega,rfl⟩
   ·exact⟨8,.inr (.inr (.inr rfl)),by omega,rfl⟩
   ·omega
  obtain⟨g',hg1,hg2,rfl⟩:=hn;have hm:aF IntKind.i64 (g*2):=by simp only[aF,cc];rcases hg with rfl|rfl|rfl|rfl<;>omega
  refine⟨⟨hne,uE hr hg⟩,⟨h2,pq _⟩,fun _=>⟨hne,uE hm0 hg⟩,fun _=>⟨h2,pq _⟩,fun h=>⟨by simp only[aF,cc];omega,hm,_,hg1,hg2,rfl,rfl,?_,rfl⟩,fun h=>⟨hm,_,hg1,hg2,rfl,rfl,?_,rfl⟩⟩
  ·rcases hg with rfl|rfl|rfl|rfl
   ·simp[gD,gX]at h⊢;grind
   ·simp[gD,gX]at h⊢;grind
   ·simp[gD,gX]at h⊢;grind
   ·omega
  ·rcases hg with rfl|rfl|rfl|rfl
   ·simp[gD,gX,h]at h⊢ <;>grind
   ·simp[gD,gX,h]at h⊢ <;>grind
   ·simp[gD,gX,h]at h⊢ <;>grind
   ·omega
 ·have hge:=aaY hge;rcases hg with rfl|rfl|rfl|rfl<;>first|rfl|omega
theorem yE:cz Tryz.prog 125 R8:=
 pf (gq .i64) (gq .i64) (fun _ _=>rfl) fun r m hr hm=>bc (inl:=bx) (ann:=(iJ [(125,3,Ws [0,1,4] (fun g=> [(5,.it .i64 (gD r m g)),(6,.it .i64 g)]) kZ 8)])) ar (Pq r m hr hm) (by kernel_rfl)
theorem Ph (k:Key):
 aba (decide (k.kind=2)) ({kind:=k.kind,oid:=k.oid,count:=k.count,call:=k.call,rights:=iD k.rights 3,value:=k.value}=kT k) (aba (decide (k.kind=3)) ({kind:=k.kind,oid:=k.oid,count:=k.count,call:=k.call,rights:=1,value:=k.value}=kT k) (aba (decide (k.kind=1)) (aba (decide (k.kind=1)) (k=kT k) (void=kT k)) (aba (decide (k.kind=8)) (k=kT k) (void=kT k)))):=by
 delta aba
 unfold kT dn;grind
theorem PN:cz Tryz.prog 191 Tc:=
 qe gI (fun _=>rfl) fun k hk=>bc (inl:=bx) (ann:=aQ) (ae yE ar) (Ph k) (by kernel_rfl)
theorem JP (k:Key):
 aba (!decide (bB k=0)) (void=iX k/\2=bB k) (aba (decide (k.kind=2)||(decide (k.kind=3)||(decide (k.kind=1)||decide (k.kind=8)))) (aba (decide (k.kind=2)) (abb ({kind:=k.kind,oid:=k.oid,count:=k.count,call:=k.call,rights:=bk BinOp.or IntKind.i64 k.rights 3,value:=k.value}=iX k/\0=bB k)) (aba (decide (k.kind=3)) (abb ({kind:=k.kind,oid:=k.oid,count:=k.count,call:=k.call,rights:=bk BinOp.or IntKind.i64 k.rights 1,value:=k.value}=iX k/\0=bB k)) (aba (decide (k.kind=1)) (abb (k=iX k/\0=bB k)) (aba (decide (k.kind=8)) (abb (k=iX k/\0=bB k)) False)))) (void=iX k/\0=bB k)):=by
 delta aba abb
 unfold iX bB;cases hok:aV k
 ·simp
 have hr:=jj hok;have o3:k.kind=2->bk BinOp.or IntKind.i64 k.rights 3=iD k.rights 3:=fun e=>OB hr.1 (by rw[e]at hr;exact hr.2)
 have o1:k.kind=3->bk BinOp.or IntKind.i64 k.rights 1=1:=fun e=>Fg hr.1 (by rw[e]at hr;exact hr.2)
 unfold kT dn;grind
theorem AX:cz Tryz.prog 230 Mf:=
 qe gI (fun _=>rfl) fun k hk=>bm (inl:=(fun f=>f==240||f==238)) (ann:=aQ) (ae gy (ae R0 ar)) aE (JP k) (by kernel_rfl)
theorem Ms (o:Sx.Obj) (k:Key) (i:Int) (hq:o8 k i):
 (0<=i/\i< ↑16)/\
  ((!decide (bk BinOp.and IntKind.i64 k.rights 2=0))=true->
    iX (ah [] (o.slots.at i.toNat))=jB [] o k i)/\
    ((!decide (bk BinOp.and IntKind.i64 k.rights 2=0))=false->
      ah [] (o.slots.at i.toNat)=jB [] o k i):=by
 exact IH hq
theorem Tn (o:Sx.Obj) (L:List Sx.Obj) (k:Key) (i:Int) (hq:o8 k i):
 (0<=i/\i< ↑16)/\
  ((!decide (bk BinOp.and IntKind.i64 k.rights 2=0))=true->
    iX (ah L (o.slots.at i.toNat))=jB L o k i)/\
    ((!decide (bk BinOp.and IntKind.i64 k.rights 2=0))=false->ah L (o.slots.at i.toNat)=jB L o k i):=by
 exact IH hq
theorem ot:cz Tryz.prog 196 Xu:=
 eQ (aA (Gf Zu) (aA dE bV)) (fun _=>rfl) fun a hq hok=>by
  obtain⟨⟨o,S,k,_⟩,i,_⟩:=a;cases S with
  |none=>exact bc (inl:=bx) (ann:=aQ) (ae iv (ae AX ar)) (Ms o k i hq) (by kernel_rfl)
  |some L=>exact bc (inl:=bx) (ann:=aQ) (ae iv (ae AX ar)) (Tn o L k i hq) (by kernel_rfl)
theorem LK (L:List Sx.Obj) (k:Key) (d:Int) (c:Bool):
 aba (decide (bQ (ai L)=0)) (1=aB L k d c) (aba (!aU L k|| !decide (k.kind=d)) (190=aB L k d c) ((c=true->nX 4/\aF IntKind.i64 (k.rights.tmod 4))/\aba (c&& !decide (k.rights.tmod 4=0)) (191=aB L k d c) (0=aB L k d c))):=by
 delta aba
 unfold aB;refine⟨fun h=>?_,fun h=>⟨fun h2=>?_,fun h2=>⟨fun hc=>⟨by unfold nX;omega,?_⟩,fun h3=>?_,fun h3=>?_⟩⟩⟩
 ·rw[aa2 (by simpa[bQ]using h)]
 ·rw[aa1 (by simpa[bQ]using h),aa2 h2]
 ·have h1:=Int.tmod_lt_of_pos k.rights (show(0:Int)<4 by omega)
  have h2:=Int.lt_tmod_of_pos k.rights (show(0:Int)<4 by omega)
  simp only[aF,cc];omega
 ·rw[aa1 (by simpa[bQ]using h),aa1 (by rw[h2];simp),aa2 h3]
 ·rw[aa1 (by simpa[bQ]using h),aa1 (by rw[h2];simp),aa1 (by rw[h3];simp)]
theorem pK:cz Tryz.prog 135 R7:=
 eQ (aA jC (aA iI (aA dE (aA Fa bV)))) (fun _=>rfl) fun a hq hok=>by
  obtain⟨L,k,d,c,_⟩:=a;exact bc (inl:=bx) (ann:=aQ) (ae mf ar) (LK L k d c) (by kernel_rfl)
theorem UM (L:List Sx.Obj) (k:Key) (i:Int) (hk:cc .i64 k.rights) (hq:oL L k i):
 (0<=k.oid/\k.oid< ↑(ai L))/\(0<=i/\i< ↑16)/\k.oid.toNat<ai L/\(nX 2/\abd (k.rights.tdiv 2))/\(nX 2/\abd ((k.rights.tdiv 2).tmod 2))/\aba (decide ((k.rights.tdiv 2).tmod 2=1)) (kT (ah L ((aj L k.oid.toNat free).slots.at i.toNat))=di L k i) (ah L ((aj L k.oid.toNat free).slots.at i.toNat)=di L k i):=by
 delta aba abd
 obtain⟨h0,h1,h2,h3⟩:=hq;have e2:nX 2:=by unfold nX;omega
 refine⟨⟨h2,h3⟩,⟨h0,by omega⟩,by omega,⟨e2,uE hk (.inr (.inl rfl))⟩,⟨e2,pq _⟩,fun h=>?_,fun h=>?_⟩
 ·unfold di jB si;rw[aa2 h]
 ·unfold di jB si;rw[aa1 (by rw[h];simp)]
theorem x9:cz Tryz.prog 136 XE:=
 eQ (aA jC (aA iI (aA dE bV))) (fun _=>rfl) fun a hq hok=>by
  obtain⟨L,k,i,_⟩:=a;exact bc (inl:=bx) (ann:=aQ) (ae pL (ae PN ar)) (UM L k i hok.2.1.2.2.2.2.1 hq) (by kernel_rfl)
theorem VT (L:List Sx.Obj) (k:Key):
 (decide (bB k=0)&&decide (bf k<bQ (ai L)))=bJ L k:=by
 unfold bJ bB bQ;cases aV k<;>simp
theorem yV:cz Tryz.prog 73 Y9:=
 eQ (aA jC (aA iI bV)) (fun _=>rfl) fun a hq hok=>by
  obtain⟨L,k,_⟩:=a;exact bc (inl:=bx) (ann:=aQ) (ae vN (ae pR ar)) (VT L k) (by kernel_rfl)
theorem Sy (L:List Sx.Obj) (i:Int) (o:Sx.Obj) (hq:dO L i):
 Mv (ai L) 856/\
  (0<=i/\i< ↑(ai L))/\
   i.toNat<ai L/\
    ∀(nid:Nat),
     some (V.sa nid)=some (V.sa nid)/\
      some [aK.arr (some tO) 163 (TL.ob (b6 L i.toNat o))]=
       some [aK.arr (some tO) 163 (TL.ob (b6 L i.toNat o))]:=by
 obtain⟨h0,h1,h2⟩:=hq;exact⟨⟨by simp only[maxLen];omega,by omega⟩,⟨h0,h1⟩,by omega,fun nid=>⟨rfl,rfl⟩⟩
theorem jG:cz Tryz.prog 76 VR:=
 IQ (π:=fun _=> [2]) (aA jC (aA dE (aA NG bV))) (fun _=>by simp) (fun _ _=>rfl) fun a hq hok=>by
  obtain⟨L,i,o,_⟩:=a;exact bc (inl:=bx) (ann:=aQ) ar (Sy L i o hq) (by kernel_rfl)
theorem Qg (k:Key) (i:Int):
 abb (abb (aba (!decide (0<ak [])) (void=aJ [] k i/\1=bY [] k i) (abb (aba (!(aU [] k&&decide (k.kind=2))) (void=aJ [] k i/\190=bY [] k i) (abb (abb (aba (!(decide (0<=i)&&decide (i<16))) (void=aJ [] k i/\4=bY [] k i) (o8 k i/\jB [] (aa [] k) k i=aJ [] k i/\0=bY [] k i)))))))):=by
 delta aba abb
 have hE:∀e,aB [] k 2 false=e->e≠0->void=aJ [] k i/\e=bY [] k i:=fun e h h0=>by
  unfold aJ bY;rw[h,aa1 h0,aa1 h0];exact⟨rfl,rfl⟩
 refine⟨rfl,rfl,fun h=>hE _ ?_ (by omega),fun h=>⟨rfl,fun h2=>hE _ ?_ (by omega),fun h2=>⟨rfl,rfl,fun h3=>?_,fun h3=>?_⟩⟩⟩
 ·unfold aB;unfold ak at h;rw[aa2 (by simp at h;omega)]
 ·unfold aB;unfold ak at h;rw[aa1 (by simp at h;omega),aa2 (by simpa using h2)]
 ·have hA:aB [] k 2 false=0:=by
   unfold aB;unfold ak at h;rw[aa1 (by simp at h;omega),aa1 (by simpa using h2),aa1 (by simp)]
  rw[Bool.not_eq_true']at h3;unfold aJ bY ko;rw[hA,aa2 rfl,h3];exact⟨rfl,rfl⟩
 ·have hA:aB [] k 2 false=0:=by
   unfold aB;unfold ak at h;rw[aa1 (by simp at h;omega),aa1 (by simpa using h2),aa1 (by simp)]
  obtain⟨a1,_,_⟩:=gw hA;obtain⟨b1,b2,b3,b4,_⟩:=ei a1;rw[Bool.not_eq_false']at h3;have h3':0<=i/\i<16:=by simpa using h3
  unfold aJ bY ko;rw[hA,aa2 rfl,h3,aa2 rfl,aa2 rfl,b4];exact⟨⟨h3'.1,h3'.2,b1⟩,rfl,rfl⟩
theorem UW (L:List Sx.Obj) (k:Key) (i:Int):
 abb (abb (aba (!decide (0<ak L)) (void=aJ L k i/\1=bY L k i) (abb (aba (!(aU L k&&decide (k.kind=2))) (void=aJ L k i/\190=bY L k i) (abb (abb (aba (!(decide (0<=i)&&decide (i<16))) (void=aJ L k i/\4=bY L k i) (o8 k i/\jB L (aa L k) k i=aJ L k i/\0=bY L k i)))))))):=by
 delta aba abb
 have hE:∀e,aB L k 2 false=e->e≠0->void=aJ L k i/\e=bY L k i:=fun e h h0=>by
  unfold aJ bY;rw[h,aa1 h0,aa1 h0];exact⟨rfl,rfl⟩
 refine⟨rfl,rfl,fun h=>hE _ ?_ (by omega),fun h=>⟨rfl,fun h2=>hE _ ?_ (by omega),fun h2=>⟨rfl,rfl,fun h3=>?_,fun h3=>?_⟩⟩⟩
 ·unfold aB;unfold ak at h;rw[aa2 (by simp at h;omega)]
 ·unfold aB;unfold ak at h;rw[aa1 (by simp at h;omega),aa2 (by simpa using h2)]
 ·have hA:aB L k 2 false=0:=by
   unfold aB;unfold ak at h;rw[aa1 (by simp at h;omega),aa1 (by simpa using h2),aa1 (by simp)]
  rw[Bool.not_eq_true']at h3;unfold aJ bY ko;rw[hA,aa2 rfl,h3];exact⟨rfl,rfl⟩
 ·have hA:aB L k 2 false=0:=by
   unfold aB;unfold ak at h;rw[aa1 (by simp at h;omega),aa1 (by simpa using h2),aa1 (by simp)]
  obtain⟨a1,_,_⟩:=gw hA;obtain⟨b1,b2,b3,b4,_⟩:=ei a1;rw[Bool.not_eq_false']at h3;have h3':0<=i/\i<16:=by simpa using h3
  unfold aJ bY ko;rw[hA,aa2 rfl,h3,aa2 rfl,aa2 rfl,b4];exact⟨⟨h3'.1,h3'.2,b1⟩,rfl,rfl⟩
theorem sQ:cz Tryz.prog 147 X8:=
 eQ (aA tk (aA iI (aA dE bV))) (fun _=>rfl) fun a hq hok=>by
  obtain⟨S,k,i,_⟩:=a;cases S with
  |none=>exact aY (inl:=(fun f=>f==195||f==194)) (ann:=aQ) (ae bC (ae bR (ae ot ar))) aE (eg iS) (Qg k i) (by kernel_rfl)
  |some L=>exact aY (inl:=(fun f=>f==195||f==194)) (ann:=aQ) (ae bC (ae bR (ae ot ar))) aE (eg iS) (UW L k i) (by kernel_rfl)
theorem Qp (k:Key) (i:Int) (v:Key):
 abb (abb (aba (!decide (0<ak [])) (void=cT [] k i v/\1=bj [] k i v) (abb (aba (!(aU [] k&&decide (k.kind=2))) (void=cT [] k i v/\190=bj [] k i v) (abb (aba (!decide (bk BinOp.and IntKind.i64 k.rights 3=0)) (void=cT [] k i v/\191=bj [] k i v) (abb (aba (!(decide (0<=i)&&decide (i<16))) (void=cT [] k i v/\4=bj [] k i v) (abb (aba (!(decide (bB v=0)&&(!aZ v||decide (cy v<ak [])))) (void=cT [] k i v/\2=bj [] k i v) (o8 k i/\abb (abb ((0<=i/\i< ↑16)/\abb (jB [] (aa [] k) k i=cT [] k i v/\0=bj [] k i v)))))))))))))):=by
 delta aba abb
 refine⟨rfl,rfl,fun _=>⟨rfl,rfl⟩,fun h=>absurd h (by decide)⟩
theorem LX (k:Key) (i:Int) (v:Key):
 abb (abb (aba (!decide (0<ak [])) (void=cT [] k i v/\1=bj [] k i v) (abb (aba (!(aU [] k&&decide (k.kind=2))) (void=cT [] k i v/\190=bj [] k i v) (abb (aba (!decide (bk BinOp.and IntKind.i64 k.rights 3=0)) (void=cT [] k i v/\191=bj [] k i v) (abb (aba (!(decide (0<=i)&&decide (i<16))) (void=cT [] k i v/\4=bj [] k i v) (abb (aba (!(decide (bB v=0)&&(!aZ v||decide (cy v<ak [])))) (void=cT [] k i v/\2=bj [] k i v) (o8 k i/\abb (abb ((0<=i/\i< ↑16)/\abb False))))))))))))):=by
 delta aba abb
 refine⟨rfl,rfl,fun _=>⟨rfl,rfl⟩,fun h=>absurd h (by decide)⟩
theorem T3 (L:List Sx.Obj) (k:Key) (i:Int) (v:Key) (hL:aq L):
 abb (abb (aba (!decide (0<ak L)) ((void=cT L k i v/\1=bj L k i v)/\L=cC L k i v) (abb (aba (!(aU L k&&decide (k.kind=2))) ((void=cT L k i v/\190=bj L k i v)/\L=cC L k i v) (abb (aba (!decide (bk BinOp.and IntKind.i64 k.rights 3=0)) ((void=cT L k i v/\191=bj L k i v)/\L=cC L k i v) (abb (aba (!(decide (0<=i)&&decide (i<16))) ((void=cT L k i v/\4=bj L k i v)/\L=cC L k i v) (abb (aba (!(decide (bB v=0)&&(!aZ v||decide (cy v<ak L)))) ((void=cT L k i v/\2=bj L k i v)/\L=cC L k i v) (o8 k i/\abb (abb ((0<=i/\i< ↑16)/\abb ((jB L (aa L k) k i=cT L k i v/\0=bj L k i v)/\cK L k.oid {kind:=(aa L k).kind,count:=(aa L k).count,calls:=(aa L k).calls,slots:=(aa L k).slots.put i.toNat (ah L v),bytes:=(aa L k).bytes}=cC L k i v)))))))))))))):=by
 delta aba abb
 have fin:∀e,bj L k i v=e->e≠0->(void=cT L k i v/\e=bj L k i v)/\L=cC L k i v:=fun e h h0=>by
  unfold cT cC;rw[h,aa1 h0,aa1 h0];exact⟨⟨rfl,rfl⟩,rfl⟩
 have bad:∀e,aB L k 2 true=e->e≠0->bj L k i v=e:=fun e h h0=>by unfold bj;rw[h,aa1 h0]
 refine⟨rfl,rfl,fun h=>fin _ (bad _ (PE h) (by omega)) (by omega),fun h=>⟨rfl,fun h2=>fin _ (bad _ (Jx h h2) (by omega)) (by omega),fun h2=>⟨rfl,fun h3=>fin _ (bad _ (XI h h2 h3) (by omega)) (by omega),fun h3=>⟨rfl,fun h4=>fin 4 ?_ (by omega),fun h4=>⟨rfl,fun h5=>fin 2 ?_ (by omega),fun h5=>?_⟩⟩⟩⟩⟩
 ·rw[Bool.not_eq_true']at h4;unfold bj ko;rw[JS h h2 h3,aa2 rfl,h4];rfl
 ·rw[Bool.not_eq_false']at h4;have hm:bJ L v=false:=by rw[<-uO];rw[Bool.not_eq_true']at h5;exact h5
  unfold bj ko;rw[JS h h2 h3,aa2 rfl,h4,hm];rfl
 ·rw[Bool.not_eq_false']at h4;have h4':0<=i/\i<16:=by simpa using h4
  have hm:bJ L v=true:=by rw[<-uO];rw[Bool.not_eq_false']at h5;exact h5
  have hE:bj L k i v=0:=by
   unfold bj ko;rw[JS h h2 h3,aa2 rfl,h4,hm];rfl
  obtain⟨a1,a2⟩:=nO h2;obtain⟨b1,b2,b3,b4,_⟩:=ei a1;have hp:=(pB hL a1 a2 (EU (v:=v) hL a1 a2 h4'.1 h4'.2)).1;unfold cT cC;rw[hE,aa2 rfl,aa2 rfl,<-hp,b4];exact⟨⟨h4'.1,h4'.2,b1⟩,rfl,rfl,⟨h4'.1,by omega⟩,rfl,⟨rfl,rfl⟩,rfl⟩
theorem S4 (L:List Sx.Obj) (k:Key) (i:Int) (v:Key) (hL:aq L):an Tryz.prog 150 [.lp 0 0,.key k,.it .i64 i,.key v] [.store tS eS L] (CA (.tp [.key (cT L k i v),.it .i64 (bj L k i v)]) (cC L k i v)) (fun _ _=>False):=
 aY (inl:=(fun f=>f==195||f==194||f==197||f==198)) (ann:=aQ) (ae bC (ae bR (ae ot (ae dJ (ae gy (ae iv ar)))))) (aC dB aE) (eg iS) (T3 L k i v hL) (by kernel_rfl)
theorem Hk:lh Tryz.prog 150 XM:=
 od (m:=fun x=> [.key x.1,.it .i64 x.2.1,.key x.2.2]) LQ (fun _=>rfl) (fun _ _=>rfl) (fun x=>aY (inl:=(fun f=>f==195||f==194||f==197||f==198)) (ann:=aQ) (ae bC (ae bR (ae ot (ae dJ (ae gy (ae iv ar)))))) (aC dB aE) (eg iS) (Qp x.1 x.2.1 x.2.2) (by kernel_rfl)) (fun x=>aY (inl:=(fun f=>f==195||f==194||f==197||f==198)) (ann:=aQ) (ae bC (ae bR (ae ot (ae dJ (ae gy (ae iv ar)))))) (aC dB aE) (eg iS) (LX x.1 x.2.1 x.2.2) (by kernel_rfl)) fun L x hL _ _=>S4 L x.1 x.2.1 x.2.2 hL
theorem NL (k:Key):
 abb (abb (aba (!decide (0<ak [])) (1=aB [] k 2 true) (abb (aba (!(aU [] k&&decide (k.kind=2))) (190=aB [] k 2 true) (abb (aba (!decide (bk BinOp.and IntKind.i64 k.rights 3=0)) (191=aB [] k 2 true) (abb (abb (abb (0=aB [] k 2 true)))))))))):=by
 delta aba abb
 refine⟨rfl,rfl,fun _=>rfl,fun h=>absurd h (by decide)⟩
theorem Lr (k:Key):
 abb (abb (aba (!decide (0<ak [])) (1=aB [] k 2 true) (abb (aba (!(aU [] k&&decide (k.kind=2))) (190=aB [] k 2 true) (abb (aba (!decide (bk BinOp.and IntKind.i64 k.rights 3=0)) (191=aB [] k 2 true) (abb (abb (abb False))))))))):=by
 delta aba abb
 refine⟨rfl,rfl,fun _=>rfl,fun h=>absurd h (by decide)⟩
theorem Ui (L:List Sx.Obj) (k:Key) (hL:aq L):
 abb (abb (aba (!decide (0<ak L)) (1=aB L k 2 true/\L=fA L k) (abb (aba (!(aU L k&&decide (k.kind=2))) (190=aB L k 2 true/\L=fA L k) (abb (aba (!decide (bk BinOp.and IntKind.i64 k.rights 3=0)) (191=aB L k 2 true/\L=fA L k) (abb (abb (abb (0=aB L k 2 true/\cK L k.oid {kind:=(aa L k).kind,count:=(aa L k).count,calls:=(aa L k).calls,slots:=g9,bytes:=(aa L k).bytes}=fA L k)))))))))):=by
 delta aba abb
 have fin:∀e,aB L k 2 true=e->e≠0->e=aB L k 2 true/\L=fA L k:=fun e h h0=>by
  unfold fA;rw[h,aa1 h0];exact⟨rfl,rfl⟩
 refine⟨rfl,rfl,fun h=>fin _ (PE h) (by omega),fun h=>⟨rfl,fun h2=>fin _ (Jx h h2) (by omega),fun h2=>⟨rfl,fun h3=>fin _ (XI h h2 h3) (by omega),fun h3=>⟨rfl,rfl,rfl,?_⟩⟩⟩⟩
 obtain⟨a1,a2⟩:=nO h2;have hp:=(pB hL a1 a2 (Hr (by omega))).1
 unfold fA;rw[JS h h2 h3,aa2 rfl,<-hp];exact⟨rfl,rfl⟩
theorem Uk (L:List Sx.Obj) (k:Key) (hL:aq L):an Tryz.prog 153 [.lp 0 0,.key k] [.store tS eS L] (CA (.it .i64 (aB L k 2 true)) (fA L k)) (fun _ _=>False):=
 aY (inl:=(fun f=>f==195||f==194||f==197||f==199)) (ann:=aQ) (ae bC (ae bR ar)) (aC dB aE) (eg iS) (Ui L k hL) (by kernel_rfl)
theorem RC:lh Tryz.prog 153 VW:=
 od (m:=fun x=> [.key x]) N8 (fun _=>rfl) (fun _ _=>rfl) (fun x=>aY (inl:=(fun f=>f==195||f==194||f==197||f==199)) (ann:=aQ) (ae bC (ae bR ar)) (aC dB aE) (eg iS) (NL x) (by kernel_rfl)) (fun x=>aY (inl:=(fun f=>f==195||f==194||f==197||f==199)) (ann:=aQ) (ae bC (ae bR ar)) (aC dB aE) (eg iS) (Lr x) (by kernel_rfl)) fun L x hL _ _=>Uk L x hL
theorem MU (t f:Key):
 abb (abb (aba (!decide (0<ak [])) (1=bT [] t f) (abb (aba (!(aU [] t&&decide (t.kind=2))) (190=bT [] t f) (abb (aba (!decide (bk BinOp.and IntKind.i64 t.rights 3=0)) (191=bT [] t f) (abb (abb (aba (!decide (0<ak [])) (1=bT [] t f) (abb (aba (!(aU [] f&&decide (f.kind=2))) (190=bT [] t f) (abb (abb (abb False)))))))))))))):=by
 delta aba abb
 refine⟨rfl,rfl,fun _=>rfl,fun h=>absurd h (by decide)⟩
theorem Oi (t f:Key):
 abb (abb (aba (!decide (0<ak [])) (1=bT [] t f) (abb (aba (!(aU [] t&&decide (t.kind=2))) (190=bT [] t f) (abb (aba (!decide (bk BinOp.and IntKind.i64 t.rights 3=0)) (191=bT [] t f) (abb (abb (aba (!decide (0<ak [])) (1=bT [] t f) (abb (aba (!(aU [] f&&decide (f.kind=2))) (190=bT [] t f) (abb (abb (abb False)))))))))))))):=by
 delta aba abb
 refine⟨rfl,rfl,fun _=>rfl,fun h=>absurd h (by decide)⟩
theorem TO (L:List Sx.Obj) (t f:Key) (hL:aq L):
 abb (abb (aba (!decide (0<ak L)) (1=bT L t f/\L=eT L t f) (abb (aba (!(aU L t&&decide (t.kind=2))) (190=bT L t f/\L=eT L t f) (abb (aba (!decide (bk BinOp.and IntKind.i64 t.rights 3=0)) (191=bT L t f/\L=eT L t f) (abb (abb (aba (!decide (0<ak L)) (1=bT L t f/\L=eT L t f) (abb (aba (!(aU L f&&decide (f.kind=2))) (190=bT L t f/\L=eT L t f) (abb (abb (abb ((∃g,lD g/\0=g/\L=L/\t=t/\f=f/\t=t/\aa L t=aa L t/\t=t/\aa L t=aa L t/\aa L t=aa L t/\t=t/\f=f/\aa L f=aa L f/\f=f/\aa L f=aa L f/\aa L f=aa L f/\f=f/\aa L t=ew (aa L t) (dH L t f g)/\t=t)/\∀(g:Int),lD g->aba (decide (g<16)) (o8 f g/\(0<=g/\g< ↑16)/\aF IntKind.i64 (g+1)/\∃g',lD g'/\oU g'<oU g/\g+1=g'/\L=L/\t=t/\f=f/\t=t/\aa L t=aa L t/\t=t/\aa L t=aa L t/\aa L t=aa L t/\t=t/\f=f/\aa L f=aa L f/\f=f/\aa L f=aa L f/\aa L f=aa L f/\f=f/\{kind:=(ew (aa L t) (dH L t f g)).kind,count:=(ew (aa L t) (dH L t f g)).count,calls:=(ew (aa L t) (dH L t f g)).calls,slots:=(ew (aa L t) (dH L t f g)).slots.put g.toNat (jB L (aa L f) f g),bytes:=(ew (aa L t) (dH L t f g)).bytes}=ew (aa L t) (dH L t f g')/\t=t) (abb (0=bT L t f/\cK L t.oid (ew (aa L t) (dH L t f g))=eT L t f))))))))))))))))):=by
 delta aba abb
 have fin:∀e,bT L t f=e->e≠0->e=bT L t f/\L=eT L t f:=fun e h h0=>by
  unfold eT;rw[h,aa1 h0];exact⟨rfl,rfl⟩
 have bad:∀e,aB L t 2 true=e->e≠0->bT L t f=e:=fun e h h0=>by unfold bT;rw[h,aa1 h0]
 refine⟨rfl,rfl,fun h=>fin _ (bad _ (PE h) (by omega)) (by omega),fun h=>⟨rfl,fun h2=>fin _ (bad _ (Jx h h2) (by omega)) (by omega),fun h2=>⟨rfl,fun h3=>fin _ (bad _ (XI h h2 h3) (by omega)) (by omega),fun h3=>⟨rfl,rfl,fun h4=>?_,fun h4=>⟨rfl,fun h5=>fin 190 ?_ (by omega),fun h5=>⟨rfl,rfl,rfl,?_,fun g hg=>⟨fun hlt=>?_,fun hge=>?_⟩⟩⟩⟩⟩⟩⟩
 ·rw[h]at h4;simp at h4
 ·unfold bT;rw[JS h h2 h3,aa2 rfl,Jx h h5]
 ·obtain⟨a1,a2⟩:=nO h2;refine⟨0,⟨by omega,by omega⟩,?_⟩
  have:=DU (f:=f) (ei a1).2.2.2.1;repeat' apply And.intro
  all_goals first|rfl|exact this
 ·obtain⟨g0,g1⟩:=hg;have hlt:=aaZ hlt;obtain⟨a1,a2⟩:=nO h5;have hs:=DR (t:=t) g0 (ei a1).2.2.2.1 (aa L t) g9;refine⟨⟨g0,by omega,(ei a1).1⟩,⟨g0,by omega⟩,by simp only[aF,cc];omega,g+1,⟨by omega,by omega⟩,by unfold oU;omega,?_⟩
  repeat' apply And.intro
  all_goals first|rfl|exact hs
 ·obtain⟨g0,g1⟩:=hg;have hge:=aaY hge;have:g=16:=by omega
  subst this;obtain⟨a1,a2⟩:=nO h2;have hE:bT L t f=0:=by unfold bT;rw[JS h h2 h3,aa2 rfl,HY h h5]
  have hp:=(pB hL a1 a2 (yZ (f:=f) hL a1 a2 16 (by omega))).1
  unfold eT;rw[hE,aa2 rfl];exact⟨rfl,rfl,hp⟩
theorem Tm (L:List Sx.Obj) (t f:Key) (hL:aq L):an Tryz.prog 155 [.lp 0 0,.key t,.key f] [.store tS eS L] (CA (.it .i64 (bT L t f)) (eT L t f)) (fun _ _=>False):=
 aY (inl:=(fun f=>f==195||f==194||f==197||f==200)) (ann:=(iJ [(200,1,YN [0,1,2] (fun g=> [(4,.it .i64 g)]) 0 (clR L t f) lD oU)])) (ae bC (ae bR (ae ot ar))) (aC dB aE) (eg iS) (TO L t f hL) (by kernel_rfl)
theorem Rn:lh Tryz.prog 155 Xw:=
 od (m:=fun x=> [.key x.1,.key x.2]) IU (fun _=>rfl) (fun _ _=>rfl) (fun x=>aY (inl:=(fun f=>f==195||f==194||f==197||f==200)) (ann:=aQ) (ae bC (ae bR (ae ot ar))) (aC dB aE) (eg iS) (MU x.1 x.2) (by kernel_rfl)) (fun x=>aY (inl:=(fun f=>f==195||f==194||f==197||f==200)) (ann:=aQ) (ae bC (ae bR (ae ot ar))) (aC dB aE) (eg iS) (Oi x.1 x.2) (by kernel_rfl)) fun L x hL _ _=>Tm L x.1 x.2 hL
end Go.Proofs.YtlblcfaclmpekaaGreat
namespace Go.Sx
def aW (L:List Obj) (k:Key) (c:Bool):Int:=if aB L k 3 false=0 then(if(c&& !decide (k.rights=0))=true then 191 else 0)else aB L k 3 false
def cB (i n:Int):Bool:=decide (0<=i)&&decide (0<=n)&&decide (i<=64)&&decide (n<=64-i)
def cD (L:List Obj) (k:Key) (i n:Int):Int:=if aW L k false=0 then(if cB i n then 0 else 4)else aW L k false
def ec (L:List Obj) (k:Key) (i n:Int):ByteArray:=if cD L k i n=0 then xN (aj L k.oid.toNat free).bytes i.toNat (i+n).toNat else⟨#[]⟩
def jV (o:Obj) (b:Bytes):Obj:= {o with bytes:=b}
def ue (L:List Obj) (k:Key) (b:Bytes):List Obj:=b6 L k.oid.toNat (jV (aj L k.oid.toNat free) b)
def cL (L:List Obj) (k:Key) (i:Int) (s:ByteArray):Int:=if aW L k true=0 then(if cB i (bO s)then 0 else 4)else aW L k true
def eZ (L:List Obj) (k:Key) (i:Int) (s:ByteArray):List Obj:=if cL L k i s=0 then ue L k (s6 (aj L k.oid.toNat free).bytes i.toNat s.size s)else L
def fq (L:List Obj) (k:Key):List Obj:=if aW L k true=0 then ue L k e9 else L
def cU (L:List Obj) (t f:Key):Int:=if aW L t true=0 then aW L f false else aW L t true
def fM (L:List Obj) (t f:Key):List Obj:=if cU L t f=0 then ue L t (aj L f.oid.toNat free).bytes else L
def aw (s:ByteArray):Prop:=(s.size:Int)<=9223372036854775807
def EM (v:V):Option ByteArray:=match v with
 | .st s=>some s
 |_=>none
theorem yq:tc EM V.st:=fun v x h=>by
 cases v<;>simp only[EM,aaT,reduceCtorEq]at h
 subst h;exact⟨fun _=>rfl,fun _=>id⟩
def zA:Arg ByteArray:=Fw EM V.st
theorem Z6:m8 zA:=sm yq (fun _=>rfl) fun v x h=>by cases v<;>simp[EM]at h;rfl
def A8 (l:List V):Option (Key×Int×ByteArray):=match l with
 | [a,b,c]=>match rK a with
   |some k=>match rI .i64 b with
    |some i=>match EM c with
     |some s=>some (k,i,s)
     |none=>none
    |none=>none
   |none=>none
 |_=>none
theorem vb:∀l x,A8 l=some x->ff l [.key x.1,.it .i64 x.2.1,.st x.2.2]:=fun l x h=>by
 unfold A8 at h;split at h
 ·split at h
  ·rename_i h1;split at h
   ·rename_i h2;split at h<;>simp only[aaT,reduceCtorEq]at h
    rename_i h3;subst h;exact ff.rd gI h1 (ff.rd (gq .i64) h2 (ff.rd yq h3 ff.nil))
   ·simp at h
  ·simp at h
 ·simp at h
def E6:Ct:=Se (rI .i64) (rI .i64) fun i n=> .bo (cB i n)
def Xi:Ct:=s7 (ba AE (ba kA (ba bA gJ))) (fun _=>none) fun x=> .it .i64 (aW x.1 x.2.1 x.2.2.1)
def SQ:Ct:=s7 (ba sA (ba kA (ba iA (ba iA gJ)))) (fun _=>none) fun x=> .tp [.st (ec (DG x.1) x.2.1 x.2.2.1 x.2.2.2.1),.it .i64 (cD (DG x.1) x.2.1 x.2.2.1 x.2.2.2.1)]
def aay:kq:=JV A8 (fun L x=>aq L/\aw x.2.2) (fun L x=> .it .i64 (cL L x.1 x.2.1 x.2.2)) fun L x=>eZ L x.1 x.2.1 x.2.2
def Yw:kq:=JV rdK (fun L _=>aq L) (fun L x=> .it .i64 (aW L x true)) fun L x=>fq L x
def Zi:kq:=JV SH (fun L _=>aq L) (fun L x=> .it .i64 (cU L x.1 x.2)) fun L x=>fM L x.1 x.2
theorem Nd {o:Obj} {n:Int} {b:Bytes} (h:bM o n=true) (hk:o.kind=1\/o.kind=2):bM (jV o b) n=true:=by
 rw[fo]at h⊢;simp only[jV];obtain⟨a1,a2,a3,a4,a5,a6,a7,a8,a9,a10,a11⟩:=h;exact⟨a1,a2,a3,a4,a5,a6,a7,a8,a9,a10,fun i hi=> .inl hk⟩
theorem JX {L:List Obj} {k:Key} (h:aU L k=true) (h2:k.kind=3):(aj L k.oid.toNat free).kind=2:=by
 rw[(ei h).2.2.2.2];unfold gz;rw[aa1 (by have:=(zj h).1;omega),aa2 h2]
theorem qX {L:List Obj} {k:Key} {b:Bytes} (hL:aq L) (h:aU L k=true) (h2:k.kind=3):gi L k.oid (jV (aa L k) b)=0/\cK L k.oid (jV (aa L k) b)=ue L k b/\aq (ue L k b):=by
 obtain⟨b1,b2,b3,b4,_⟩:=ei h;have hr:=gM.1 hL;have ho:=Nd (b:=b) (hr.2.2 k.oid.toNat (by omega)) (.inr (JX h h2))
 obtain⟨p1,p2⟩:=vf (L:=L) (o:=jV (aj L k.oid.toNat free) b) (mR.2 ⟨b2,b3⟩) (uJ ho).symm;rw[b4];refine⟨p1,p2,?_⟩;refine gM.2 ?_;unfold ue;have hl:(b6 L k.oid.toNat (jV (aj L k.oid.toNat free) b)).length=L.length:=by simp[b6]
 rw[hl];refine⟨hr.1,hr.2.1,fun i hi=>?_⟩
 by_cases e:i=k.oid.toNat
 ·subst e;rw[show aj (b6 L k.oid.toNat (jV (aj L k.oid.toNat free) b)) k.oid.toNat free=jV (aj L k.oid.toNat free) b by simp[aj,b6,aa0,hi]]
  exact ho
 ·rw[show aj (b6 L k.oid.toNat (jV (aj L k.oid.toNat free) b)) i free=aj L i free by simp[aj,b6,aa0,List.getElem?_set,Ne.symm e]]
  exact hr.2.2 i hi
theorem CO {L:List Obj} {k:Key} (h:aU L k=true) (h2:k.kind=3):0<=k.rights/\k.rights<=1:=by
 have:=jj (ei h).1;rw[h2]at this;exact this
theorem XT {r:Int} (h0:0<=r) (h1:r<=1):bk .and .i64 r 1=r:=by
 have:r=0\/r=1:=by omega
 rcases this with rfl|rfl<;>decide
theorem nN {i n:Int}:cB i n=true↔0<=i/\0<=n/\i<=64/\n<=64-i:=by
 simp only[cB,aaV,aaW,and_assoc]
theorem P5 (b:Bytes) (i:Int) (s:ByteArray) (h:cB i (bO s)=true):KB b i.toNat 64 s=s6 b i.toNat s.size s:=by
 unfold KB J0
 have hle:s.size<=64-i.toNat:=by
  obtain⟨h0,h1,h2,h3⟩:=nN.1 h;have h3:(s.size:Int)<=64-i:=h3;omega
 rw[show Nat.min s.size (64-i.toNat)=s.size from Nat.min_eq_left hle]
theorem KG (b:Bytes):FA b 0 64=e9:=by
 unfold FA s6 e9;ext i hi
 simp[sat_empty,hi]
theorem Bz (b:Bytes) (i:Nat) (s:ByteArray):s6 b i 0 s=b:=by
 apply Vector.ext
 intro j hj;have:=xQ b i 0 s j hj;rw[aa1 (by omega)]at this
 simpa[Bytes.at,Array.getD_eq_getD_getElem?,hj]using this
theorem V8 {a b:Bytes} (h:∀j,j<64->a.at j=b.at j):a=b:=by
 apply Vector.ext
 intro j hj;have:=h j hj;simpa[Bytes.at,Array.getD_eq_getD_getElem?,hj]using this
theorem Bq (b:Bytes) (i g:Nat) (s:ByteArray) (h:i+g<64):(s6 b i g s).put (i+g) (sat s g)=s6 b i (g+1) s:=by
 apply V8
 intro j hj;rw[Bytes.gd _ _ _ _ h,xQ _ _ _ _ _ hj,xQ _ _ _ _ _ hj];by_cases e:j=i+g
 ·subst e;rw[aa2 rfl,aa2 (by omega),show i+g-i=g by omega]
 ·rw[aa1 e];by_cases e2:i<=j/\j<i+g
  ·rw[aa2 e2,aa2 (by omega)]
  ·rw[aa1 e2,aa1 (by omega)]
theorem pD {L:List Obj} {k:Key} (hL:aq L) (h:aU L k=true):dO L k.oid/\0<=k.oid/\k.oid<(ai L:Int)/\k.oid.toNat<ai L:=vl hL h
theorem nj {L:List Obj} {k:Key} {c:Bool} (h:aW L k c=0):aU L k=true/\k.kind=3/\(c=true->k.rights=0):=by
 unfold aW at h;split at h
 ·rename_i h1;obtain⟨a1,a2,_⟩:=gw h1;split at h
  ·omega
  ·rename_i h2;exact⟨a1,a2,fun hc=>by simpa[hc]using h2⟩
 ·rename_i h1;exact absurd h h1
theorem V9 {L:List Obj} {k:Key}:aW L k false=aB L k 3 false:=by
 unfold aW;split
 ·rename_i h;rw[h];rfl
 ·rfl
theorem O7 {L:List Obj} {k:Key} {c:Bool} (h:decide (ak L=0)=true):aW L k c=1:=by
 have:aB L k 3 false=1:=PE (by rw[aaW]at h;simp[h])
 unfold aW;rw[this,aa1 (by omega)]
theorem YA {L:List Obj} {k:Key} {c:Bool} (h:decide (ak L=0)=false) (h2:(!aU L k|| !decide (k.kind=3))=true):aW L k c=190:=by
 have h0:(!decide (0<ak L))=false:=by
  rw[decide_eq_false_iff_not]at h;unfold ak at h⊢;simp;omega
 have:aB L k 3 false=190:=Jx h0 (by simpa using h2)
 unfold aW;rw[this,aa1 (by omega)]
theorem rD {L:List Obj} {k:Key} (h2:(!aU L k|| !decide (k.kind=3))=false):aU L k=true/\k.kind=3:=by simpa using h2
theorem pg0 {L:List Obj} {k:Key} (h:decide (ak L=0)=false) (h2:(!aU L k|| !decide (k.kind=3))=false):aB L k 3 false=0:=by
 refine HY ?_ (by simpa using h2)
 rw[decide_eq_false_iff_not]at h;unfold ak at h⊢;simp;omega
theorem pgf {L:List Obj} {k:Key} (h:decide (ak L=0)=false) (h2:(!aU L k|| !decide (k.kind=3))=false):aW L k false=0:=by rw[V9];exact pg0 h h2
theorem pg3 {L:List Obj} {k:Key} (h:decide (ak L=0)=false) (h2:(!aU L k|| !decide (k.kind=3))=false) (h3:(!decide (bk BinOp.and IntKind.i64 k.rights 1=0))=true):aW L k true=191:=by
 obtain⟨a1,a2⟩:=rD h2;have hr:=CO a1 a2;rw[XT hr.1 hr.2]at h3;unfold aW;rw[aa2 (pg0 h h2),aa2 (by simpa using h3)]
theorem ZX {L:List Obj} {k:Key} (h:decide (ak L=0)=false) (h2:(!aU L k|| !decide (k.kind=3))=false) (h3:(!decide (bk BinOp.and IntKind.i64 k.rights 1=0))=false):aW L k true=0:=by
 obtain⟨a1,a2⟩:=rD h2;have hr:=CO a1 a2;rw[XT hr.1 hr.2]at h3;unfold aW;rw[aa2 (pg0 h h2),aa1 (by simpa using h3)]
theorem rF {L:List Obj} {k:Key} {i n e:Int} (h:aW L k false=e) (he:e≠0):(⟨#[]⟩:ByteArray)=ec L k i n/\e=cD L k i n:=by
 have:cD L k i n=e:=by unfold cD;rw[h,aa1 he]
 unfold ec;rw[this,aa1 he];exact⟨rfl,rfl⟩
theorem yS {L:List Obj} {k:Key} {i n:Int} (h:aW L k false=0) (hi:(!cB i n)=true):(⟨#[]⟩:ByteArray)=ec L k i n/\4=cD L k i n:=by
 rw[Bool.not_eq_true']at hi;have:cD L k i n=4:=by unfold cD;rw[aa2 h,hi];rfl
 unfold ec;rw[this];exact⟨rfl,rfl⟩
theorem xS {L:List Obj} {k:Key} {i n:Int} (h:aW L k false=0) (hi:(!cB i n)=false):aF IntKind.i64 (i+n)/\CU i (i+n) 64/\xN (aj L k.oid.toNat free).bytes i.toNat (i+n).toNat=ec L k i n/\0=cD L k i n:=by
 rw[Bool.not_eq_false']at hi;obtain⟨a,b,c,d⟩:=nN.1 hi;have:cD L k i n=0:=by unfold cD;rw[aa2 h,hi];rfl
 unfold ec;rw[this];exact⟨by simp only[aF,cc];omega,⟨by omega,by omega,by omega⟩,rfl,rfl⟩
theorem wk {L:List Obj} {k:Key} {i e:Int} {z:ByteArray} (h:aW L k true=e) (he:e≠0):e=cL L k i z/\L=eZ L k i z:=by
 have:cL L k i z=e:=by unfold cL;rw[h,aa1 he]
 unfold eZ;rw[this,aa1 he];exact⟨rfl,rfl⟩
theorem Mo {L:List Obj} {k:Key} {i:Int} {z:ByteArray} (h:aW L k true=0) (hi:(!cB i (bO z))=true):4=cL L k i z/\L=eZ L k i z:=by
 rw[Bool.not_eq_true']at hi;have:cL L k i z=4:=by unfold cL;rw[aa2 h,hi];rfl
 unfold eZ;rw[this];exact⟨rfl,rfl⟩
theorem ZA {L:List Obj} {k:Key} {i:Int} {z:ByteArray} (hL:aq L) (h1:aU L k=true) (h2:k.kind=3) (h:aW L k true=0) (hi:(!cB i (bO z))=false):CU i 64 64/\
  gi L k.oid (jV (aa L k) (KB (aa L k).bytes i.toNat (Int.toNat 64) z))=cL L k i z/\cK L k.oid (jV (aa L k) (KB (aa L k).bytes i.toNat (Int.toNat 64) z))=eZ L k i z:=by
 rw[Bool.not_eq_false']at hi;obtain⟨a,b,c,d⟩:=nN.1 hi;have hE:cL L k i z=0:=by unfold cL;rw[aa2 h,hi];rfl
 have hb:=P5 (aa L k).bytes i z hi;obtain⟨p1,p2,_⟩:=qX (b:=s6 (aa L k).bytes i.toNat z.size z) hL h1 h2;have h64:Int.toNat 64=64:=rfl;rw[h64,hb,p1,p2,hE];refine⟨⟨by omega,by omega,by omega⟩,rfl,?_⟩
 unfold eZ;rw[hE,aa2 rfl,(ei h1).2.2.2.1]
theorem yT {L:List Obj} {k:Key} {e:Int} (h:aW L k true=e) (he:e≠0):e=aW L k true/\L=fq L k:=by
 refine⟨h.symm,?_⟩;unfold fq;rw[h,aa1 he]
theorem aap {L:List Obj} {k:Key} (hL:aq L) (h1:aU L k=true) (h2:k.kind=3) (h:aW L k true=0):CU 0 64 64/\
  gi L k.oid (jV (aa L k) (FA (aa L k).bytes (Int.toNat 0) (Int.toNat 64)))=aW L k true/\cK L k.oid (jV (aa L k) (FA (aa L k).bytes (Int.toNat 0) (Int.toNat 64)))=fq L k:=by
 have h64:Int.toNat 64=64:=rfl;have h0:Int.toNat 0=0:=rfl;obtain⟨p1,p2,_⟩:=qX (b:=e9) hL h1 h2;rw[h64,h0,KG,p1,p2,h];refine⟨⟨by omega,by omega,by omega⟩,rfl,?_⟩
 unfold fq;rw[aa2 h]
theorem wW {L:List Obj} {t f:Key} {e:Int} (h:aW L t true=e) (he:e≠0):e=cU L t f/\L=fM L t f:=by
 have:cU L t f=e:=by unfold cU;rw[h,aa1 he]
 unfold fM;rw[this,aa1 he];exact⟨rfl,rfl⟩
theorem HG {L:List Obj} {t f:Key} {e:Int} (h:aW L t true=0) (h2:aW L f false=e) (he:e≠0):e=cU L t f/\L=fM L t f:=by
 have:cU L t f=e:=by unfold cU;rw[aa2 h,h2]
 unfold fM;rw[this,aa1 he];exact⟨rfl,rfl⟩
theorem aas {L:List Obj} {t f:Key} (hL:aq L) (h1:aU L t=true) (h2:t.kind=3) (h:aW L t true=0) (g1:aU L f=true) (g:aW L f false=0):
  gi L t.oid (jV (aa L t) (aa L f).bytes)=cU L t f/\cK L t.oid (jV (aa L t) (aa L f).bytes)=fM L t f:=by
 have hE:cU L t f=0:=by unfold cU;rw[aa2 h,g]
 obtain⟨p1,p2,_⟩:=qX (b:=(aa L f).bytes) hL h1 h2;rw[p1,p2,hE];refine⟨rfl,?_⟩;unfold fM;rw[hE,aa2 rfl,(ei g1).2.2.2.1]
structure Acp where
 kind:Int
 pos:Int
 num:Int
 key:Key
 other:Key
 bytes:ByteArray
def Acp.wf (x:Acp):Prop:=cc .i64 x.kind/\cc .i64 x.pos/\cc .i64 x.num/\x.key.wf/\x.other.wf/\aw x.bytes
def De (L:List Obj) (a:Acp):Bool:=
 if a.kind=1 then false else if a.kind=2 then decide (cL L a.key a.pos a.bytes=0)else if a.kind=3 then decide (aW L a.key true=0)else decide (cU L a.key a.other=0)
def Ox (L:List Obj) (a:Acp):List Obj:=
 if a.kind=1 then L else if a.kind=2 then eZ L a.key a.pos a.bytes else if a.kind=3 then fq L a.key else fM L a.key a.other
def tz (L:List Obj) (k:Key) (i:Int) (s:ByteArray) (g:Int):Obj:=jV (aj L k.oid.toNat free) (s6 (aj L k.oid.toNat free).bytes i.toNat g.toNat s)
def ry (s:ByteArray) (g:Int):Prop:=0<=g/\g<=(s.size:Int)
def xc (s:ByteArray) (g:Int):Nat:=s.size-g.toNat
theorem Tb {L:List Obj} {k:Key} {i:Int} {s:ByteArray}:aj L k.oid.toNat free=tz L k i s 0:=by
 unfold tz jV;rw[show(0:Int).toNat=0 from rfl,Bz]
theorem SF {L:List Obj} {k:Key} {i:Int} {s:ByteArray} {g:Int} (h0:0<=i) (h1:0<=g) (h:i+g<64):jV (tz L k i s g) ((tz L k i s g).bytes.put (i+g).toNat (sat s g.toNat))=tz L k i s (g+1):=by
 unfold tz jV;simp only;rw[show(i+g).toNat=i.toNat+g.toNat by omega,show(g+1).toNat=g.toNat+1 by omega,Bq _ _ _ _ (by omega)]
theorem jy (s:ByteArray):AD s s=true:=by simp[AD]
end Go.Sx
namespace Go.Proofs.YtlblcfaclmpekaaGreat
open Go.Sx
theorem Jn (i n:Int):
 ((decide (0<=i)&&decide (0<=n)&&decide (i<=64))=true->aF IntKind.i64 (64-i))/\
   (decide (0<=i)&&decide (0<=n)&&decide (i<=64)&&decide (n<=64-i))=cB i n:=by
 unfold cB;refine⟨fun h=>?_,?_⟩
 ·simp only[aaV,aaW]at h;simp only[aF,cc];omega
 ·rfl
theorem pP:cz Tryz.prog 205 E6:=
 pf (gq .i64) (gq .i64) (fun _ _=>rfl) fun i n _ _=>bc (inl:=bx) (ann:=aQ) ar (Jn i n) (by kernel_rfl)
theorem G8 (i n:Int):
 ((decide (0<=i)&&decide (0<=n)&&decide (i<=64)&&decide (n<=64))=true->aF IntKind.i64 (i+n))/\
   (decide (0<=i)&&decide (0<=n)&&decide (i<=64)&&decide (n<=64)&&decide (i+n<=64))=cB i n:=by
 unfold cB;refine⟨fun h=>?_,?_⟩
 ·simp only[aaV,aaW]at h;simp only[aF,cc]at *;omega
 ·rw[Bool.eq_iff_iff];simp only[aaV,aaW];omega
theorem ug:cz Tryz.prog 138 E6:=
 pf (gq .i64) (gq .i64) (fun _ _=>rfl) fun i n _ _=>bc (inl:=bx) (ann:=aQ) ar (G8 i n) (by kernel_rfl)
theorem Uu (L:List Sx.Obj) (k:Key) (c:Bool):
 ((decide (aB L k 3 false=0)&&c&& !decide (k.rights=0))=true->191=aW L k c)/\
   ((decide (aB L k 3 false=0)&&c&& !decide (k.rights=0))=false->aB L k 3 false=aW L k c):=by
 unfold aW;refine⟨fun h=>?_,fun h=>?_⟩
 ·simp only[aaV,aaW]at h;rw[aa2 h.1.1,aa2 (by rw[h.1.2,Bool.true_and];exact h.2)]
 ·split
  ·rename_i h1;rw[decide_eq_true h1,Bool.true_and]at h;rw[aa1 (by rw[h];simp),h1]
  ·rfl
theorem vp:cz Tryz.prog 137 Xi:=
 eQ (aA jC (aA iI (aA Fa bV))) (fun _=>rfl) fun a hq hok=>by
  obtain⟨L,k,c,_⟩:=a;exact bc (inl:=bx) (ann:=aQ) (ae pK ar) (Uu L k c) (by kernel_rfl)
theorem Jz (k:Key) (i n:Int):
 true=true/\aba (decide (ak []=0)) ((⟨#[]⟩:ByteArray)=ec [] k i n/\1=cD [] k i n) (aba (!aU [] k|| !decide (k.kind=3)) ((⟨#[]⟩:ByteArray)=ec [] k i n/\190=cD [] k i n) (aba (!cB i n) ((⟨#[]⟩:ByteArray)=ec [] k i n/\4=cD [] k i n) (aF IntKind.i64 (i+n)/\CU i (i+n) 64/\xN (aa [] k).bytes i.toNat (i+n).toNat=ec [] k i n/\0=cD [] k i n))):=by
 delta aba
 refine⟨rfl,fun h=>rF (O7 h) (by omega),fun h=>⟨fun h2=>rF (YA h h2) (by omega),fun h2=>⟨fun h3=>yS (pgf h h2) h3,fun h3=>?_⟩⟩⟩
 rw[(ei (rD h2).1).2.2.2.1];exact xS (pgf h h2) h3
theorem KM (L:List Sx.Obj) (k:Key) (i n:Int):
 true=true/\aba (decide (ak L=0)) ((⟨#[]⟩:ByteArray)=ec L k i n/\1=cD L k i n) (aba (!aU L k|| !decide (k.kind=3)) ((⟨#[]⟩:ByteArray)=ec L k i n/\190=cD L k i n) (aba (!cB i n) ((⟨#[]⟩:ByteArray)=ec L k i n/\4=cD L k i n) (aF IntKind.i64 (i+n)/\CU i (i+n) 64/\xN (aa L k).bytes i.toNat (i+n).toNat=ec L k i n/\0=cD L k i n))):=by
 delta aba
 refine⟨rfl,fun h=>rF (O7 h) (by omega),fun h=>⟨fun h2=>rF (YA h h2) (by omega),fun h2=>⟨fun h3=>yS (pgf h h2) h3,fun h3=>?_⟩⟩⟩
 rw[(ei (rD h2).1).2.2.2.1];exact xS (pgf h h2) h3
theorem ph:cz Tryz.prog 203 SQ:=
 eQ (aA tk (aA iI (aA dE (aA dE bV)))) (fun _=>rfl) fun a hq hok=>by
  obtain⟨S,k,i,n,_⟩:=a;cases S with
  |none=>exact bm (inl:=(fun f=>f==204)) (ann:=aQ) (ae bC (ae bR (ae pP ar))) aE (Jz k i n) (by kernel_rfl)
  |some L=>exact bm (inl:=(fun f=>f==204)) (ann:=aQ) (ae bC (ae bR (ae pP ar))) aE (KM L k i n) (by kernel_rfl)
theorem RK (k:Key) (i:Int) (s:ByteArray):
 abb (aba (decide (ak []=0)) (1=cL [] k i s) (aba (!aU [] k|| !decide (k.kind=3)) (190=cL [] k i s) (aba (!decide (bk BinOp.and IntKind.i64 k.rights 1=0)) (191=cL [] k i s) (aF IntKind.i64 (bO s)/\aba (!cB i (bO s)) (4=cL [] k i s) (abb (abb (CU i 64 64/\abb (gi [] k.oid {kind:=(aa [] k).kind,count:=(aa [] k).count,calls:=(aa [] k).calls,slots:=(aa [] k).slots,bytes:=KB (aa [] k).bytes i.toNat (Int.toNat 64) s}=cL [] k i s)))))))):=by
 delta aba abb
 exact⟨rfl,fun h=>(wk (O7 h) (by omega)).1,fun h=>absurd h (by decide)⟩
theorem Rg (k:Key) (i:Int) (s:ByteArray):
 abb (aba (decide (ak []=0)) (1=cL [] k i s) (aba (!aU [] k|| !decide (k.kind=3)) (190=cL [] k i s) (aba (!decide (bk BinOp.and IntKind.i64 k.rights 1=0)) (191=cL [] k i s) (aF IntKind.i64 (bO s)/\aba (!cB i (bO s)) (4=cL [] k i s) (abb (abb (CU i 64 64/\abb False))))))):=by
 delta aba abb
 exact⟨rfl,fun h=>(wk (O7 h) (by omega)).1,fun h=>absurd h (by decide)⟩
theorem Wf (L:List Sx.Obj) (k:Key) (i:Int) (s:ByteArray) (hL:aq L) (hs:aw s):
 abb (aba (decide (ak L=0)) (1=cL L k i s/\L=eZ L k i s) (aba (!aU L k|| !decide (k.kind=3)) (190=cL L k i s/\L=eZ L k i s) (aba (!decide (bk BinOp.and IntKind.i64 k.rights 1=0)) (191=cL L k i s/\L=eZ L k i s) (aF IntKind.i64 (bO s)/\aba (!cB i (bO s)) (4=cL L k i s/\L=eZ L k i s) (abb (abb (CU i 64 64/\abb (gi L k.oid {kind:=(aa L k).kind,count:=(aa L k).count,calls:=(aa L k).calls,slots:=(aa L k).slots,bytes:=KB (aa L k).bytes i.toNat (Int.toNat 64) s}=cL L k i s/\cK L k.oid {kind:=(aa L k).kind,count:=(aa L k).count,calls:=(aa L k).calls,slots:=(aa L k).slots,bytes:=KB (aa L k).bytes i.toNat (Int.toNat 64) s}=eZ L k i s)))))))):=by
 delta aba abb
 refine⟨rfl,fun h=>wk (O7 h) (by omega),fun h=>⟨fun h2=>wk (YA h h2) (by omega),fun h2=>⟨fun h3=>wk (pg3 h h2 h3) (by omega),fun h3=>⟨?_,fun h4=>Mo (ZX h h2 h3) h4,fun h4=>?_⟩⟩⟩⟩
 ·unfold aw at hs;simp only[aF,cc,bO];omega
 ·obtain⟨a,b,c⟩:=ZA hL (rD h2).1 (rD h2).2 (ZX h h2 h3) h4;exact⟨rfl,rfl,a,rfl,b,c⟩
theorem Xc (L:List Sx.Obj) (k:Key) (i:Int) (s:ByteArray) (hL:aq L) (hs:aw s):an Tryz.prog 160 [.lp 0 0,.key k,.it .i64 i,.st s] [.store tS eS L] (CA (.it .i64 (cL L k i s)) (eZ L k i s)) (fun _ _=>False):=
 bm (inl:=(fun f=>f==204||f==206||f==207)) (ann:=aQ) (ae bC (ae bR (ae pP ar))) (aC dB aE) (Wf L k i s hL hs) (by kernel_rfl)
theorem Ds:lh Tryz.prog 160 aay:=
 od (m:=fun x=> [.key x.1,.it .i64 x.2.1,.st x.2.2]) vb (fun _=>rfl) (fun _ _=>rfl) (fun x=>bm (inl:=(fun f=>f==204||f==206||f==207)) (ann:=aQ) (ae bC (ae bR (ae pP ar))) (aC dB aE) (RK x.1 x.2.1 x.2.2) (by kernel_rfl)) (fun x=>bm (inl:=(fun f=>f==204||f==206||f==207)) (ann:=aQ) (ae bC (ae bR (ae pP ar))) (aC dB aE) (Rg x.1 x.2.1 x.2.2) (by kernel_rfl)) fun L x hL _ _=>Xc L x.1 x.2.1 x.2.2 hL.1 hL.2
theorem ML (k:Key):
 abb (aba (decide (ak []=0)) (1=aW [] k true) (aba (!aU [] k|| !decide (k.kind=3)) (190=aW [] k true) (aba (!decide (bk BinOp.and IntKind.i64 k.rights 1=0)) (191=aW [] k true) (abb (abb (CU 0 64 64/\abb (gi [] k.oid {kind:=(aa [] k).kind,count:=(aa [] k).count,calls:=(aa [] k).calls,slots:=(aa [] k).slots,bytes:=FA (aa [] k).bytes (Int.toNat 0) (Int.toNat 64)}=aW [] k true))))))):=by
 delta aba abb
 exact⟨rfl,fun h=>(yT (O7 h) (by omega)).1,fun h=>absurd h (by decide)⟩
theorem LL (k:Key):
 abb (aba (decide (ak []=0)) (1=aW [] k true) (aba (!aU [] k|| !decide (k.kind=3)) (190=aW [] k true) (aba (!decide (bk BinOp.and IntKind.i64 k.rights 1=0)) (191=aW [] k true) (abb (abb (CU 0 64 64/\abb False)))))):=by
 delta aba abb
 exact⟨rfl,fun h=>(yT (O7 h) (by omega)).1,fun h=>absurd h (by decide)⟩
theorem Th (L:List Sx.Obj) (k:Key) (hL:aq L):
 abb (aba (decide (ak L=0)) (1=aW L k true/\L=fq L k) (aba (!aU L k|| !decide (k.kind=3)) (190=aW L k true/\L=fq L k) (aba (!decide (bk BinOp.and IntKind.i64 k.rights 1=0)) (191=aW L k true/\L=fq L k) (abb (abb (CU 0 64 64/\abb (gi L k.oid {kind:=(aa L k).kind,count:=(aa L k).count,calls:=(aa L k).calls,slots:=(aa L k).slots,bytes:=FA (aa L k).bytes (Int.toNat 0) (Int.toNat 64)}=aW L k true/\cK L k.oid {kind:=(aa L k).kind,count:=(aa L k).count,calls:=(aa L k).calls,slots:=(aa L k).slots,bytes:=FA (aa L k).bytes (Int.toNat 0) (Int.toNat 64)}=fq L k))))))):=by
 delta aba abb
 refine⟨rfl,fun h=>yT (O7 h) (by omega),fun h=>⟨fun h2=>yT (YA h h2) (by omega),fun h2=>⟨fun h3=>yT (pg3 h h2 h3) (by omega),fun h3=>?_⟩⟩⟩
 obtain⟨a,b,c⟩:=aap hL (rD h2).1 (rD h2).2 (ZX h h2 h3);exact⟨rfl,rfl,a,rfl,b,c⟩
theorem Q5 (L:List Sx.Obj) (k:Key) (hL:aq L):an Tryz.prog 162 [.lp 0 0,.key k] [.store tS eS L] (CA (.it .i64 (aW L k true)) (fq L k)) (fun _ _=>False):=
 bm (inl:=(fun f=>f==204||f==206||f==208)) (ann:=aQ) (ae bC (ae bR ar)) (aC dB aE) (Th L k hL) (by kernel_rfl)
theorem Ra:lh Tryz.prog 162 Yw:=
 od (m:=fun x=> [.key x]) N8 (fun _=>rfl) (fun _ _=>rfl) (fun x=>bm (inl:=(fun f=>f==204||f==206||f==208)) (ann:=aQ) (ae bC (ae bR ar)) (aC dB aE) (ML x) (by kernel_rfl)) (fun x=>bm (inl:=(fun f=>f==204||f==206||f==208)) (ann:=aQ) (ae bC (ae bR ar)) (aC dB aE) (LL x) (by kernel_rfl)) fun L x hL _ _=>Q5 L x hL
theorem R9 (t f:Key):
 abb (aba (decide (ak []=0)) (1=cU [] t f) (aba (!aU [] t|| !decide (t.kind=3)) (190=cU [] t f) (aba (!decide (bk BinOp.and IntKind.i64 t.rights 1=0)) (191=cU [] t f) (abb (aba (decide (ak []=0)) (1=cU [] t f) (aba (!aU [] f|| !decide (f.kind=3)) (190=cU [] t f) (abb (abb (abb (gi [] t.oid {kind:=(aa [] t).kind,count:=(aa [] t).count,calls:=(aa [] t).calls,slots:=(aa [] t).slots,bytes:=(aa [] f).bytes}=cU [] t f)))))))))):=by
 delta aba abb
 exact⟨rfl,fun h=>(wW (O7 h) (by omega)).1,fun h=>absurd h (by decide)⟩
theorem Rq (t f:Key):
 abb (aba (decide (ak []=0)) (1=cU [] t f) (aba (!aU [] t|| !decide (t.kind=3)) (190=cU [] t f) (aba (!decide (bk BinOp.and IntKind.i64 t.rights 1=0)) (191=cU [] t f) (abb (aba (decide (ak []=0)) (1=cU [] t f) (aba (!aU [] f|| !decide (f.kind=3)) (190=cU [] t f) (abb (abb (abb False))))))))):=by
 delta aba abb
 exact⟨rfl,fun h=>(wW (O7 h) (by omega)).1,fun h=>absurd h (by decide)⟩
theorem W8 (L:List Sx.Obj) (t f:Key) (hL:aq L):
 abb (aba (decide (ak L=0)) (1=cU L t f/\L=fM L t f) (aba (!aU L t|| !decide (t.kind=3)) (190=cU L t f/\L=fM L t f) (aba (!decide (bk BinOp.and IntKind.i64 t.rights 1=0)) (191=cU L t f/\L=fM L t f) (abb (aba (decide (ak L=0)) (1=cU L t f/\L=fM L t f) (aba (!aU L f|| !decide (f.kind=3)) (190=cU L t f/\L=fM L t f) (abb (abb (abb (gi L t.oid {kind:=(aa L t).kind,count:=(aa L t).count,calls:=(aa L t).calls,slots:=(aa L t).slots,bytes:=(aa L f).bytes}=cU L t f/\cK L t.oid {kind:=(aa L t).kind,count:=(aa L t).count,calls:=(aa L t).calls,slots:=(aa L t).slots,bytes:=(aa L f).bytes}=fM L t f)))))))))):=by
 delta aba abb
 refine⟨rfl,fun h=>wW (O7 h) (by omega),fun h=>⟨fun h2=>wW (YA h h2) (by omega),fun h2=>⟨fun h3=>wW (pg3 h h2 h3) (by omega),fun h3=>⟨rfl,fun h'=>?_,fun _=>⟨fun h5=>HG (ZX h h2 h3) (YA h h5) (by omega),fun h5=>?_⟩⟩⟩⟩⟩
 ·rw[h]at h';simp at h'
 ·obtain⟨b,c⟩:=aas hL (rD h2).1 (rD h2).2 (ZX h h2 h3) (rD h5).1 (pgf h h5);exact⟨rfl,rfl,rfl,b,c⟩
theorem Ym (L:List Sx.Obj) (t f:Key) (hL:aq L):an Tryz.prog 164 [.lp 0 0,.key t,.key f] [.store tS eS L] (CA (.it .i64 (cU L t f)) (fM L t f)) (fun _ _=>False):=
 bm (inl:=(fun f=>f==204||f==206||f==209)) (ann:=aQ) (ae bC (ae bR ar)) (aC dB aE) (W8 L t f hL) (by kernel_rfl)
theorem VO:lh Tryz.prog 164 Zi:=
 od (m:=fun x=> [.key x.1,.key x.2]) IU (fun _=>rfl) (fun _ _=>rfl) (fun x=>bm (inl:=(fun f=>f==204||f==206||f==209)) (ann:=aQ) (ae bC (ae bR ar)) (aC dB aE) (R9 x.1 x.2) (by kernel_rfl)) (fun x=>bm (inl:=(fun f=>f==204||f==206||f==209)) (ann:=aQ) (ae bC (ae bR ar)) (aC dB aE) (Rq x.1 x.2) (by kernel_rfl)) fun L x hL _ _=>Ym L x.1 x.2 hL
end Go.Proofs.YtlblcfaclmpekaaGreat
namespace Go.Sx
def jD (o:Obj):Bool:=decide (o.kind=0)&&decide (4294967295<=o.count)
def fH (o:Obj):Bool:=decide (o.kind=0)&&decide (o.count<4294967295)
def G9 (o:Obj):Obj:=⟨3,o.count,0,g9,e9⟩
def mn (o:Obj) (kind:Int):Obj:=⟨kind,o.count+1,0,g9,e9⟩
def zq (o:Obj):Obj:=⟨0,o.count,0,g9,e9⟩
def lA (L:List Obj) (p:Nat->Obj->Bool) (t:Obj->Obj):List Obj:=(List.range L.length).map fun j=>if p j (aj L j free)then t (aj L j free)else aj L j free
def bN (L:List Obj) (f g:Int):List Obj:=lA L (fun j o=>decide (f<=(j:Int))&&decide ((j:Int)<g)&&jD o) G9
def kQ (L:List Obj) (f g:Int):Prop:=∀j:Nat,f<=(j:Int)->(j:Int)<g->fH (aj L j free)=false
def mh (L:List Obj) (f g:Int):Bool:=(List.range L.length).any fun(j:Nat)=>decide (f<=(j:Int))&&decide ((j:Int)<g)&&jD (aj L j free)
def br (L:List Obj) (f l:Int):Int:=match (List.range L.length).find? fun(j:Nat)=>decide (f<=(j:Int))&&decide ((j:Int)<=l)&&fH (aj L j free)with
 |some j=>(j:Int)
 |none=> -1
def cH (L:List Obj) (f l kind:Int):List Obj:=if br L f l= -1 then bN L f (l+1)else b6 (bN L f (br L f l)) (br L f l).toNat (mn (aj L (br L f l).toNat free) kind)
def lH (L:List Obj) (f l:Int):Bool:= !decide (br L f l= -1)||mh L f (l+1)
def dq (kind oid count:Int):Key:=⟨if kind=2 then 3 else 2,oid,count,0,0,0⟩
def iM (o:Obj) (n:Int):Bool:=decide ((o.slots.at 0).kind=1)&&decide ((o.slots.at 1).kind=1)&&decide (0<=(o.slots.at 0).value)&&decide ((o.slots.at 0).value<=(o.slots.at 1).value)&&decide ((o.slots.at 1).value<n)
def aN (L:List Obj) (k:Key):Int:=if aB L k 4 false=0 then(if iM (aj L k.oid.toNat free) (ai L:Int)then 0 else 220)else aB L k 4 false
def ay (L:List Obj) (k:Key):Int:=((aj L k.oid.toNat free).slots.at 0).value
def aI (L:List Obj) (k:Key):Int:=((aj L k.oid.toNat free).slots.at 1).value
def aM (L:List Obj) (k:Key):Int:=if aN L k=0 then ay L k else 0
def aD (L:List Obj) (k:Key):Int:=if aN L k=0 then aI L k else 0
def gB (L:List Obj) (k:Key) (kind:Int):Int:=if aN L k=0 then(if kind=1\/kind=2 then 0 else 2)else aN L k
def cA (L:List Obj) (k:Key) (kind:Int):Int:=if gB L k kind=0 then(if br L (ay L k) (aI L k)= -1 then 221 else 0)else gB L k kind
def fx (L:List Obj) (k:Key) (kind:Int):List Obj:=if gB L k kind=0 then cH L (ay L k) (aI L k) kind else L
def gE (L:List Obj) (k:Key) (kind:Int):Bool:=decide (gB L k kind=0)&&lH L (ay L k) (aI L k)
def dh (L:List Obj) (k:Key) (kind:Int):Key:=if cA L k kind=0 then dq kind (br L (ay L k) (aI L k)) ((aj L (br L (ay L k) (aI L k)).toNat free).count+1)else void
def je (L:List Obj) (v:Key):Bool:=aU L v&&(decide (v.kind=2)||decide (v.kind=3))
def cE (L:List Obj) (k v:Key):Int:=if aN L k=0 then(if je L v then(if ay L k<=v.oid/\v.oid<=aI L k/\v.oid≠k.oid then 0 else 4)else 5)else aN L k
def gA (L:List Obj) (k v:Key):List Obj:=if cE L k v=0 then b6 L v.oid.toNat (zq (aj L v.oid.toNat free))else L
def jU (L:List Obj) (k v:Key):Bool:=decide (cE L k v=0)
def mY (o:Obj):Bool:=decide (o.kind=1)||decide (o.kind=2)
def lG (f g oid:Int) (j:Nat) (o:Obj):Bool:=decide (f<=(j:Int))&&decide ((j:Int)<g)&&mY o&& !decide ((j:Int)=oid)
def dT (L:List Obj) (f g oid:Int):List Obj:=lA L (lG f g oid) zq
def eW (L:List Obj) (f g oid:Int):Int:=(((List.range L.length).filter fun j=>lG f g oid j (aj L j free)).length:Int)
def ib (L:List Obj) (k:Key):List Obj:=if aN L k=0 then dT L (ay L k) (aI L k+1) k.oid else L
def fN (L:List Obj) (k:Key):Int:=if aN L k=0 then eW L (ay L k) (aI L k+1) k.oid else 0
def kX (L:List Obj) (k:Key):Bool:=decide (aN L k=0)&& !decide (eW L (ay L k) (aI L k+1) k.oid=0)
def jF (L:List Obj) (k v:Key):Bool:=decide (aN L k=0)&&je L v&&decide (ay L k<=v.oid)&&decide (v.oid<=aI L k)
theorem jo {L:List Obj} {p:Nat->Obj->Bool} {t:Obj->Obj}:(lA L p t).length=L.length:=by simp[lA]
theorem kK {L:List Obj} {p:Nat->Obj->Bool} {t:Obj->Obj} {j:Nat} (h:j<L.length):aj (lA L p t) j free=if p j (aj L j free)then t (aj L j free)else aj L j free:=by
 rw[show aj (lA L p t) j free=(lA L p t).getD j free from rfl,aa0];unfold lA;rw[List.getElem?_map,List.getElem?_range h];rfl
theorem zT {L:List Obj} {p:Nat->Obj->Bool} {t:Obj->Obj} (h:∀j,j<L.length->p j (aj L j free)=false):lA L p t=L:=by
 refine rE jo fun j hj=>?_
 rw[jo]at hj;rw[kK hj,h j hj];rfl
theorem ES {L:List Obj} {p p':Nat->Obj->Bool} {t:Obj->Obj} {g:Nat} (hg:g<L.length) (hp:∀j,j≠g->p' j (aj L j free)=p j (aj L j free)) (h1:p' g (aj L g free)=true):
  b6 (lA L p t) g (t (aj L g free))=lA L p' t:=by
 refine rE (by rw[iy,jo,jo]) fun j hj=>?_
 rw[iy,jo]at hj;rw[gh (by rw[jo];exact hg),kK hj,kK hj]
 by_cases e:j=g
 ·subst e;rw[aa2 rfl,h1,aa2 rfl]
 ·rw[aa1 e,hp j e]
theorem A1 {L:List Obj} {p p':Nat->Obj->Bool} {t:Obj->Obj} (hp:∀j,j<L.length->p' j (aj L j free)=p j (aj L j free)):lA L p' t=lA L p t:=by
 refine rE (by rw[jo,jo]) fun j hj=>?_
 rw[jo]at hj;rw[kK hj,kK hj,hp j hj]
theorem kR {L:List Obj} {f g:Int}:(bN L f g).length=L.length:=jo
theorem Ei {L:List Obj} {f:Int}:L=bN L f f:=by
 symm
 refine zT fun j hj=>?_
 simp only[Bool.and_eq_false_iff,decide_eq_false_iff_not];omega
theorem DD {L:List Obj} {f g:Int} (h0:0<=g):aj (bN L f g) g.toNat free=aj L g.toNat free:=by
 by_cases h:g.toNat<L.length
 ·unfold bN;rw[kK h,aa1];simp only[aaV,aaW];omega
 ·rw[show aj (bN L f g) g.toNat free=free by simp[aj,aa0,List.getElem?_eq_none (show(bN L f g).length<=g.toNat by rw[kR];omega)]]
  simp[aj,aa0,List.getElem?_eq_none (show L.length<=g.toNat by omega)]
theorem yi {L:List Obj} {f g:Int} (h0:0<=g) (h1:g<(L.length:Int)) (hf:f<=g) (hr:jD (aj L g.toNat free)=true):b6 (bN L f g) g.toNat (G9 (aj L g.toNat free))=bN L f (g+1):=by
 refine ES (by omega) (fun j hj=>?_) ?_
 ·have:decide ((j:Int)<g+1)=decide ((j:Int)<g):=by rw[decide_eq_decide];omega
  rw[this]
 ·rw[hr];simp;omega
theorem zM {L:List Obj} {f g:Int} (h0:0<=g) (hr:jD (aj L g.toNat free)=false):bN L f (g+1)=bN L f g:=by
 refine A1 fun j hj=>?_
 by_cases e:(j:Int)=g
 ·rw[show j=g.toNat by omega,hr,Bool.and_false,Bool.and_false]
 ·have:decide ((j:Int)<g+1)=decide ((j:Int)<g):=by rw[decide_eq_decide];omega
  rw[this]
theorem Yv {L:List Obj} {f l g:Int} (h0:0<=f) (hf:f<=g) (hl:g<=l) (hg:g<(L.length:Int)) (hn:kQ L f g) (hw:fH (aj L g.toNat free)=true):br L f l=g:=by
 unfold br
 have:(List.range L.length).find? (fun(j:Nat)=>decide (f<=(j:Int))&&decide ((j:Int)<=l)&&fH (aj L j free))=some g.toNat:=by
  rw[List.find?_eq_some_iff_getElem];refine⟨by rw[hw];simp;omega,g.toNat,by simp;omega,by simp,fun j hj=>?_⟩
  simp only[List.getElem_range,Bool.not_eq_true',Bool.and_eq_false_iff,decide_eq_false_iff_not];by_cases e:f<=(j:Int)
  ·right;exact hn j e (by omega)
  ·left;left;exact e
 rw[this];show((g.toNat:Nat):Int)=g
 omega
theorem Oc {L:List Obj} {f l:Int} (hn:kQ L f (l+1)):br L f l= -1:=by
 unfold br
 have:(List.range L.length).find? (fun(j:Nat)=>decide (f<=(j:Int))&&decide ((j:Int)<=l)&&fH (aj L j free))=none:=by
  rw[List.find?_eq_none];intro j hj h;simp only[aaV,aaW]at h;rw[hn j h.1.1 (by omega)]at h
  simp at h
 rw[this]
theorem jP {L:List Obj} {f g:Int} (h:kQ L f g) (hg:fH (aj L g.toNat free)=false):kQ L f (g+1):=fun j h1 h2=>by
 by_cases e:(j:Int)=g
 ·rw[show j=g.toNat by omega];exact hg
 ·exact h j h1 (by omega)
theorem uj {L:List Obj} {f:Int}:kQ L f f:=fun j h1 h2=>by omega
theorem JH {L:List Obj} {f:Int}:mh L f f=false:=by
 unfold mh;rw[List.any_eq_false];intro j hj h;simp only[aaV,aaW]at h;omega
theorem Ep {L:List Obj} {f g:Int} (h0:0<=g) (h1:g<(L.length:Int)) (hf:f<=g) (hr:jD (aj L g.toNat free)=true):mh L f (g+1)=true:=by
 unfold mh;rw[List.any_eq_true];exact⟨g.toNat,by simp;omega,by rw[hr];simp;omega⟩
theorem IL {L:List Obj} {f g:Int} (h0:0<=g) (hr:jD (aj L g.toNat free)=false):mh L f (g+1)=mh L f g:=by
 unfold mh;rw[Bool.eq_iff_iff,List.any_eq_true,List.any_eq_true];refine exists_congr fun j=>and_congr_right fun _=>?_
 simp only[aaV,aaW];constructor
 ·rintro⟨⟨a,b⟩,c⟩
  refine⟨⟨a,?_⟩,c⟩;by_cases e:(j:Int)=g
  ·rw[show j=g.toNat by omega,hr]at c;simp at c
  ·omega
 ·rintro⟨⟨a,b⟩,c⟩
  exact⟨⟨a,by omega⟩,c⟩
theorem Dw {L:List Obj} {f g oid:Int}:(dT L f g oid).length=L.length:=jo
theorem yH {L:List Obj} {f g oid:Int} (h:eW L f g oid=0):dT L f g oid=L:=by
 refine zT fun j hj=>?_
 unfold eW at h;have h2:((List.range L.length).filter fun j=>lG f g oid j (aj L j free))= []:=List.eq_nil_of_length_eq_zero (by omega)
 rw[List.filter_eq_nil_iff]at h2;have:=h2 j (by simp;omega)
 simpa using this
theorem u7 {L:List Obj} {f oid:Int}:eW L f f oid=0:=by
 unfold eW;rw[show((List.range L.length).filter fun j=>lG f f oid j (aj L j free))= []from ?_]
 ·rfl
 ·rw[List.filter_eq_nil_iff];intro j hj;unfold lG;simp only[aaV,aaW];omega
theorem Px {L:List Obj} {f oid:Int}:L=dT L f f oid:=(yH u7).symm
theorem Pn {L:List Obj} {f g oid:Int} (h0:0<=g):aj (dT L f g oid) g.toNat free=aj L g.toNat free:=by
 by_cases h:g.toNat<L.length
 ·unfold dT;rw[kK h,aa1];unfold lG;simp only[aaV,aaW];omega
 ·rw[show aj (dT L f g oid) g.toNat free=free by simp[aj,aa0,List.getElem?_eq_none (show(dT L f g oid).length<=g.toNat by rw[Dw];omega)]]
  simp[aj,aa0,List.getElem?_eq_none (show L.length<=g.toNat by omega)]
def j5 (L:List Obj) (g oid:Int):Bool:=mY (aj L g.toNat free)&& !decide (g=oid)
theorem Dg {L:List Obj} {f g oid:Int} (h0:0<=g) (hf:f<=g):lG f (g+1) oid g.toNat (aj L g.toNat free)=j5 L g oid:=by
 unfold lG j5;rw[show((g.toNat:Nat):Int)=g by omega]
 have a:decide (f<=g)=true:=by simp;omega
 have b:decide (g<g+1)=true:=by simp;omega
 rw[a,b];simp
theorem yo {L:List Obj} {f g oid:Int} {j:Nat} (h:(j:Int)≠g) (o:Obj):lG f (g+1) oid j o=lG f g oid j o:=by
 unfold lG;have:decide ((j:Int)<g+1)=decide ((j:Int)<g):=by rw[decide_eq_decide];omega
 rw[this]
theorem Cl {f g oid:Int} {j:Nat} (h:(j:Int)=g) (o:Obj):lG f g oid j o=false:=by
 unfold lG;have:decide ((j:Int)<g)=false:=by simp;omega
 rw[this];simp
theorem Dv {L:List Obj} {f g oid:Int} (h0:0<=g) (h1:g<(L.length:Int)) (hf:f<=g) (hr:j5 L g oid=true):b6 (dT L f g oid) g.toNat (zq (aj L g.toNat free))=dT L f (g+1) oid:=
 ES (by omega) (fun j hj=>yo (L:=L) (by omega) _) (by rw[Dg h0 hf];exact hr)
theorem zX {L:List Obj} {f g oid:Int} (h0:0<=g) (hf:f<=g) (hr:j5 L g oid=false):dT L f (g+1) oid=dT L f g oid:=by
 refine A1 fun j hj=>?_
 by_cases e:(j:Int)=g
 ·rw[show j=g.toNat by omega,Dg h0 hf,hr,Cl (by omega)]
 ·exact yo (L:=L) e _
theorem uL {L:List Obj} {f g oid:Int} (h0:0<=g) (hf:f<=g) (hr:j5 L g oid=false):eW L f (g+1) oid=eW L f g oid:=by
 unfold eW;rw[show((List.range L.length).filter fun j=>lG f (g+1) oid j (aj L j free))=(List.range L.length).filter fun j=>lG f g oid j (aj L j free)from List.filter_congr fun j hj=>?_]
 by_cases e:(j:Int)=g
 ·rw[show j=g.toNat by omega,Dg h0 hf,hr,Cl (by omega)]
 ·exact yo (L:=L) e _
theorem filter_one {l:List Nat} {p p':Nat->Bool} {g:Nat} (hn:l.Nodup) (hg:g∈l) (hp:∀j,j≠g->p' j=p j) (h0:p g=false) (h1:p' g=true):(l.filter p').length=(l.filter p).length+1:=by
 induction l with
 |nil=>simp at hg
 |cons a l ih=>
  rw[List.nodup_cons]at hn;by_cases e:a=g
  ·subst e;have:l.filter p'=l.filter p:=List.filter_congr fun j hj=>hp j fun e=>hn.1 (e▸hj)
   rw[List.filter_cons,List.filter_cons,h0,h1,aa2 rfl,aa1 (by simp),this]
   simp
  ·have hg2:g∈l:=by
    rcases List.mem_cons.1 hg with h|h
    ·exact absurd h.symm e
    ·exact h
   rw[List.filter_cons,List.filter_cons,hp a e];split
   ·simp only[List.length_cons];rw[ih hn.2 hg2]
   ·exact ih hn.2 hg2
theorem zS {L:List Obj} {f g oid:Int} (h0:0<=g) (h1:g<(L.length:Int)) (hf:f<=g) (hr:j5 L g oid=true):eW L f (g+1) oid=eW L f g oid+1:=by
 unfold eW;have:=filter_one (l:=List.range L.length) (p:=fun j=>lG f g oid j (aj L j free)) (p':=fun j=>lG f (g+1) oid j (aj L j free)) (g:=g.toNat) List.nodup_range (by simp;omega) (fun j hj=>yo (L:=L) (by omega) _) (Cl (by omega) _) (by show lG f (g+1) oid g.toNat (aj L g.toNat free)=true;rw[Dg h0 hf];exact hr)
 omega
theorem um {L:List Obj} {f g oid:Int}:0<=eW L f g oid:=by unfold eW;omega
theorem QN {L:List Obj} {f g oid:Int}:eW L f g oid<=(L.length:Int):=by
 unfold eW;have:=List.length_filter_le (fun j=>lG f g oid j (aj L j free)) (List.range L.length)
 rw[List.length_range]at this;omega
theorem C7 {n:Int} {kind count:Int} (h1:1<=n) (h2:n<=64) (h3:0<=kind) (h4:kind<=3) (h5:0<=count) (h6:count<=4294967295):bM ⟨kind,count,0,g9,e9⟩ n=true:=by
 rw[fo];refine⟨h1,h2,h3,h4,h5,h6,by simp,by simp,.inr rfl,fun i hi=>?_,fun i hi=>?_⟩
 ·simp only[Aa];unfold mM;rw[nb.1,nb.2];simp;omega
 ·have hz:=Ip.1 (show e9=e9 from rfl) i hi;first|exact .inr (.inr hz)|exact hz|simp[hz]
theorem kf {o:Obj} {n:Int} (h:bM o n=true):0<=o.count/\o.count<=4294967295/\0<=o.kind/\o.kind<=3/\1<=n/\n<=64:=by
 obtain⟨a1,a2,a3,a4,a5,a6,_⟩:=fo.1 h;exact⟨a5,a6,a3,a4,a1,a2⟩
theorem Cy {o:Obj} {n:Int} (h:bM o n=true):bM (G9 o) n=true:=by
 obtain⟨a,b,c,d,e,f⟩:=kf h;exact C7 e f (by omega) (by omega) a b
theorem xW {o:Obj} {n:Int} (h:bM o n=true):bM (zq o) n=true:=by
 obtain⟨a,b,c,d,e,f⟩:=kf h;exact C7 e f (by omega) (by omega) a b
theorem CE {o:Obj} {n kind:Int} (h:bM o n=true) (hn:fH o=true) (hk:kind=1\/kind=2):bM (mn o kind) n=true:=by
 obtain⟨a,b,c,d,e,f⟩:=kf h;unfold fH at hn;simp only[aaV,aaW]at hn;exact C7 e f (by omega) (by omega) (by omega) (by omega)
theorem IE {L:List Obj} {p:Nat->Obj->Bool} {t:Obj->Obj} (h:aq L) (ht:∀o,bM o (L.length:Int)=true->bM (t o) (L.length:Int)=true):aq (lA L p t):=by
 refine Ly h jo fun j hj=>?_
 rw[kK hj];split
 ·exact ht _ (dt h j hj)
 ·exact dt h j hj
theorem GN {L:List Obj} {f g:Int} (h:aq L):aq (bN L f g):=IE h fun o ho=>Cy ho
def kB:ly (Key×Unit):=ba kA gJ
def NY:ly (Key×Key×Unit):=ba kA (ba kA gJ)
def TW:ly (Key×Int×Unit):=ba kA (ba iA gJ)
def i3B:ly (Int×Int×Int×Unit):=ba iA (ba iA (ba iA gJ))
theorem D1:gR kB:=aA iI bV
theorem wj:gR NY:=aA iI (aA iI bV)
theorem CC:gR TW:=aA iI (aA dE bV)
theorem Yu:gR i3B:=aA dE (aA dE (aA dE bV))
def D8 (L:List Obj) (f l:Int):Prop:=aq L/\0<=f/\l<(ai L:Int)/\f<=l+1
def S6:Ct:=s7 (ba AE kB) (fun _=>none) fun x=> .tp [.it .i64 (aM x.1 x.2.1),.it .i64 (aD x.1 x.2.1),.it .i64 (aN x.1 x.2.1)]
def My:kq:=Az (uw i3B) (fun L x=>D8 L x.1 x.2.1) (fun L x=>lH L x.1 x.2.1) (fun L x=>cH L x.1 x.2.1 x.2.2.1) fun L x=> [.it .i64 (br L x.1 x.2.1)]
def Uy:kq:=Az (uw TW) (fun L _=>aq L) (fun L x=>gE L x.1 x.2.1) (fun L x=>fx L x.1 x.2.1) fun L x=> [.key (dh L x.1 x.2.1),.it .i64 (cA L x.1 x.2.1)]
def XX:kq:=Az (uw NY) (fun L _=>aq L) (fun L x=>jU L x.1 x.2.1) (fun L x=>gA L x.1 x.2.1) fun L x=> [.it .i64 (cE L x.1 x.2.1)]
def Uf:kq:=Az (uw kB) (fun L _=>aq L) (fun L x=>kX L x.1) (fun L x=>ib L x.1) fun L x=> [.it .i64 (fN L x.1),.it .i64 (aN L x.1)]
def RV:Ct:=s7 (ba AE NY) (fun _=>none) fun x=> .tp [.bo (jF x.1 x.2.1 x.2.2.1),.it .i64 (aN x.1 x.2.1)]
def uH (L:List Obj) (f l:Int) (g:Int):Prop:=f<=g/\g<=l+1/\kQ L f g/\mh L f g=false
def sP (L:List Obj) (f l:Int) (g:Int):Prop:=f<=g/\g<=l+1/\kQ L f g/\mh L f g=true
def Wc:Ct:=mk3 (rI .i64) (rI .i64) (rI .i64) fun a b c=> .key (dq a b c)
theorem zI {L:List Obj} {f g:Int} (h:mh L f g=false):bN L f g=L:=by
 refine zT fun j hj=>?_
 unfold mh at h;rw[List.any_eq_false]at h;simpa using h j (by simpa using hj)
theorem yy {o:Obj} (h:o.kind≠0):jD o=false/\fH o=false:=by simp[jD,fH,h]
theorem CD {o:Obj} (h:o.kind=0) (h2:4294967295<=o.count):jD o=true/\fH o=false:=by simp[jD,fH,h,h2]
theorem Cg {o:Obj} (h:o.kind=0) (h2:¬4294967295<=o.count):jD o=false/\fH o=true:=by
 refine⟨by simp[jD,h2],?_⟩
 simp only[fH,aaV,aaW];omega
theorem yD {L:List Obj} {f l g:Int} (kind:Int) (h0:0<=f) (hf:f<=g) (hl:g<=l) (hg:g<(L.length:Int)) (hn:kQ L f g) (hw:fH (aj L g.toNat free)=true):
  br L f l=g/\lH L f l=true/\cH L f l kind=b6 (bN L f g) g.toNat (mn (aj L g.toNat free) kind):=by
 have e:=Yv h0 hf hl hg hn hw;refine⟨e,?_,?_⟩
 ·unfold lH;rw[e];simp;left;omega
 ·unfold cH;rw[e,aa1 (by omega)]
theorem Du {L:List Obj} {f l:Int} (kind:Int) (hn:kQ L f (l+1)):br L f l= -1/\cH L f l kind=bN L f (l+1)/\lH L f l=mh L f (l+1):=by
 have e:=Oc hn;refine⟨e,?_,?_⟩
 ·unfold cH;rw[e,aa2 rfl]
 ·unfold lH;rw[e];rfl
theorem MH (o:Obj) (n:Nat):(!decide ((o.slots.at 0).kind=1)|| !decide ((o.slots.at 1).kind=1)||decide ((o.slots.at 0).value<0)||decide ((o.slots.at 1).value<(o.slots.at 0).value)||decide (bQ n<=(o.slots.at 1).value))= !iM o (n:Int):=by
 unfold iM bQ;rw[Bool.eq_iff_iff];simp only[Bool.or_eq_true,Bool.not_eq_true',Bool.and_eq_false_iff,aaW,decide_eq_false_iff_not];omega
theorem Gy {L:List Obj} {k:Key} (h:aB L k 4 false≠0):aN L k=aB L k 4 false/\aM L k=0/\aD L k=0:=by
 have e:aN L k=aB L k 4 false:=by unfold aN;rw[aa1 h]
 refine⟨e,?_,?_⟩
 ·unfold aM;rw[e,aa1 h]
 ·unfold aD;rw[e,aa1 h]
theorem C0 {L:List Obj} {k:Key} (h:aB L k 4 false=0) (h2:iM (aj L k.oid.toNat free) (ai L:Int)=false):aN L k=220/\aM L k=0/\aD L k=0:=by
 have e:aN L k=220:=by unfold aN;rw[aa2 h,h2];rfl
 refine⟨e,?_,?_⟩
 ·unfold aM;rw[e];rfl
 ·unfold aD;rw[e];rfl
theorem vI {L:List Obj} {k:Key} (h:aB L k 4 false=0) (h2:iM (aj L k.oid.toNat free) (ai L:Int)=true):aN L k=0/\aM L k=ay L k/\aD L k=aI L k:=by
 have e:aN L k=0:=by unfold aN;rw[aa2 h,h2];rfl
 refine⟨e,?_,?_⟩
 ·unfold aM;rw[e];rfl
 ·unfold aD;rw[e];rfl
theorem mP {L:List Obj} {k:Key} (h:aN L k=0):aB L k 4 false=0/\0<=ay L k/\ay L k<=aI L k/\aI L k<(L.length:Int)/\0<=k.oid/\k.oid<(L.length:Int):=by
 have ha:aB L k 4 false=0:=by
  unfold aN at h;split at h
  ·assumption
  ·rename_i h1;exact absurd h h1
 have hb:iM (aj L k.oid.toNat free) (ai L:Int)=true:=by
  cases hb:iM (aj L k.oid.toNat free) (ai L:Int)with
  |true=>rfl
  |false=>rw[(C0 ha hb).1]at h;simp at h
 obtain⟨_,b2,b3,_⟩:=ei (gw ha).1;unfold iM at hb;simp only[aaV,aaW]at hb;obtain⟨⟨⟨⟨_,_⟩,h3⟩,h4⟩,h5⟩:=hb;exact⟨ha,h3,h4,h5,b2,b3⟩
theorem wa {L:List Obj} {f l:Int} (h0:0<=f):br L f l= -1\/(f<=br L f l/\br L f l<=l/\br L f l<(L.length:Int)/\fH (aj L (br L f l).toNat free)=true):=by
 unfold br;split
 ·rename_i j hj;right
  have h1:=List.find?_some hj;have h2:=List.mem_of_find?_eq_some hj;simp only[aaV,aaW]at h1;rw[List.mem_range]at h2;exact⟨h1.1.1,h1.1.2,by omega,h1.2⟩
 ·exact .inl rfl
theorem uF {L:List Obj} {f l kind:Int}:(cH L f l kind).length=L.length:=by
 unfold cH;split
 ·exact kR
 ·rw[iy,kR]
theorem KH {L:List Obj} {f l kind:Int} (h0:0<=f) (h:br L f l≠ -1):aj (cH L f l kind) (br L f l).toNat free=mn (aj L (br L f l).toNat free) kind:=by
 rcases wa (L:=L) (l:=l) h0 with e|⟨a,b,c,d⟩
 ·exact absurd e h
 ·unfold cH;rw[aa1 h,gh (by rw[kR];omega),aa2 rfl]
theorem Dd {L:List Obj} {f l:Int} (h:br L f l≠ -1):lH L f l=true:=by unfold lH;simp[h]
theorem Ca {L:List Obj} {k:Key} (h:aN L k=0):aM L k=ay L k/\aD L k=aI L k:=by
 unfold aM aD;rw[aa2 h,aa2 h];exact⟨rfl,rfl⟩
theorem UB {L:List Obj} {k:Key} {kind:Int} (h:aN L k=0) (h1:kind≠1) (h2:kind≠2):gE L k kind=false/\void=dh L k kind/\2=cA L k kind:=by
 have e:gB L k kind=2:=by unfold gB;rw[aa2 h,aa1 (by omega)]
 have e2:cA L k kind=2:=by unfold cA;rw[e];rfl
 refine⟨by unfold gE;rw[e];rfl,by unfold dh;rw[e2];rfl,e2.symm⟩
theorem Rs {L:List Obj} {k:Key} {kind:Int} (h:aN L k≠0):gE L k kind=false/\void=dh L k kind/\aN L k=cA L k kind:=by
 have e:gB L k kind=aN L k:=by unfold gB;rw[aa1 h]
 have e2:cA L k kind=aN L k:=by unfold cA;rw[e,aa1 h]
 refine⟨by unfold gE;rw[e];simp[h],by unfold dh;rw[e2,aa1 h],e2.symm⟩
theorem zo {L:List Obj} {k:Key} {kind:Int} (h:aN L k=0) (hk:kind=1\/kind=2) (hi:br L (ay L k) (aI L k)= -1):gE L k kind=lH L (ay L k) (aI L k)/\void=dh L k kind/\221=cA L k kind/\cH L (ay L k) (aI L k) kind=fx L k kind:=by
 have e:gB L k kind=0:=by unfold gB;rw[aa2 h,aa2 hk]
 have e2:cA L k kind=221:=by unfold cA;rw[aa2 e,aa2 hi]
 refine⟨by unfold gE;rw[e];simp,by unfold dh;rw[e2];rfl,e2.symm,by unfold fx;rw[aa2 e]⟩
theorem HK {L:List Obj} {k:Key} {kind:Int} (h:aN L k=0) (hk:kind=1\/kind=2) (hi:br L (ay L k) (aI L k)≠ -1):gE L k kind=true/\Key.mk (1+kind) (br L (ay L k) (aI L k)) (aj (cH L (ay L k) (aI L k) kind) (br L (ay L k) (aI L k)).toNat free).count 0 0 0=dh L k kind/\0=cA L k kind/\cH L (ay L k) (aI L k) kind=fx L k kind:=by
 have e:gB L k kind=0:=by unfold gB;rw[aa2 h,aa2 hk]
 have e2:cA L k kind=0:=by unfold cA;rw[aa2 e,aa1 hi]
 refine⟨by unfold gE;rw[e,Dd hi];rfl,?_,e2.symm,by unfold fx;rw[aa2 e]⟩
 unfold dh;rw[aa2 e2,KH (mP h).2.1 hi];unfold dq mn;rcases hk with rfl|rfl<;>rfl
theorem zp {L:List Obj} {v:Key}:je L v= !(!aU L v|| !decide (v.kind=2)&& !decide (v.kind=3)):=by unfold je;cases aU L v<;>cases decide (v.kind=2)<;>cases decide (v.kind=3)<;>rfl
theorem Fe {L:List Obj} {v:Key} (h:je L v=true):aU L v=true:=by unfold je at h;simp only[aaV]at h;exact h.1
def gu (L:List Obj) (k:Key):Int:=br L (ay L k) (aI L k)
def dW (L:List Obj) (k:Key):List Obj:=cH L (ay L k) (aI L k) 1
def lI (M:List Obj) (f g:Int):Bool:=(List.range M.length).any fun(j:Nat)=>decide (f<=(j:Int))&&decide ((j:Int)<g)&&mY (aj M j free)
def mQ (L:List Obj) (k:Key) (n:Int):Int:=if aN L k=0 then(if n<1\/aI L k-ay L k<n then 4 else 0)else aN L k
def b8 (L:List Obj) (k:Key) (n:Int):Int:=if mQ L k n=0 then(if gu L k<0\/aI L k-n<gu L k then 221 else if lI (dW L k) (aI L k-n+1) (aI L k+1)=true then 221 else 0)else mQ L k n
def k9 (L:List Obj) (k:Key) (n:Int):Bool:=decide (b8 L k n=0)
def jL (o:Obj) (a b:Int):Obj:= {o with slots:=(o.slots.put 0 (bL a)).put 1 (bL b)}
def mS (o:Obj) (b:Int):Obj:= {o with slots:=o.slots.put 1 (bL b)}
def bE (L:List Obj) (k:Key) (n:Int):List Obj:=if b8 L k n=0 then b6 (b6 (dW L k) (gu L k).toNat (jL (aj (dW L k) (gu L k).toNat free) (aI L k-n+1) (aI L k))) k.oid.toNat (mS (aj (dW L k) k.oid.toNat free) (aI L k-n))else L
def ck (L:List Obj) (k:Key) (n:Int):Key:=if b8 L k n=0 then⟨4,gu L k,(aj (dW L k) (gu L k).toNat free).count,0,0,0⟩else void
def Mp:kq:=Az (uw TW) (fun L _=>aq L) (fun L x=>k9 L x.1 x.2.1) (fun L x=>bE L x.1 x.2.1) fun L x=> [.key (ck L x.1 x.2.1),.it .i64 (b8 L x.1 x.2.1)]
def pT (L:List Obj) (k:Key) (n g:Int):Prop:=aI L k-n+1<=g/\g<=aI L k+1/\lI (dW L k) (aI L k-n+1) g=false
theorem E0 {L:List Obj} {k:Key} {n e:Int} (h:b8 L k n=e) (he:e≠0):k9 L k n=false/\void=ck L k n/\e=b8 L k n:=by
 refine⟨by unfold k9;rw[h];simpa using he,by unfold ck;rw[h,aa1 he],h.symm⟩
theorem zb {L:List Obj} {k:Key} {n:Int} (h:aN L k≠0):b8 L k n=aN L k:=by
 have e:mQ L k n=aN L k:=by unfold mQ;rw[aa1 h]
 unfold b8;rw[e,aa1 h]
theorem B4 {L:List Obj} {k:Key} {n:Int} (h:aN L k=0) (hn:n<1\/aI L k-ay L k<n):b8 L k n=4:=by
 have e:mQ L k n=4:=by unfold mQ;rw[aa2 h,aa2 hn]
 unfold b8;rw[e];rfl
theorem Hf {L:List Obj} {k:Key} {n:Int} (h:aN L k=0) (h1:1<=n) (h2:n<=aI L k-ay L k):mQ L k n=0:=by
 unfold mQ;rw[aa2 h,aa1 (by omega)]
theorem va {L:List Obj} {k:Key} {n:Int} (h:mQ L k n=0) (hi:gu L k<0\/aI L k-n<gu L k):b8 L k n=221:=by
 unfold b8;rw[aa2 h,aa2 hi]
theorem D4 {L:List Obj} {k:Key} {n:Int} (h:mQ L k n=0) (hi:lI (dW L k) (aI L k-n+1) (aI L k+1)=true):b8 L k n=221:=by
 unfold b8;rw[aa2 h,aa2 hi];split<;>rfl
theorem Iv {L:List Obj} {k:Key} {n:Int} (h:mQ L k n=0) (h1:0<=gu L k) (h2:gu L k<=aI L k-n) (hi:lI (dW L k) (aI L k-n+1) (aI L k+1)=false):b8 L k n=0:=by
 unfold b8;rw[aa2 h,aa1 (by omega),hi];rfl
theorem Ju {M:List Obj} {f:Int}:lI M f f=false:=by
 unfold lI;rw[List.any_eq_false];intro j hj h;simp only[aaV,aaW]at h;omega
theorem EI {M:List Obj} {f g e:Int} (h0:0<=g) (h1:g<(M.length:Int)) (hf:f<=g) (he:g<e) (hr:mY (aj M g.toNat free)=true):lI M f e=true:=by
 unfold lI;rw[List.any_eq_true];exact⟨g.toNat,by simp;omega,by rw[hr];simp;omega⟩
theorem Hv {M:List Obj} {f g:Int} (h0:0<=g) (hr:mY (aj M g.toNat free)=false):lI M f (g+1)=lI M f g:=by
 unfold lI;rw[Bool.eq_iff_iff,List.any_eq_true,List.any_eq_true];refine exists_congr fun j=>and_congr_right fun _=>?_
 simp only[aaV,aaW];constructor
 ·rintro⟨⟨a,b⟩,c⟩
  refine⟨⟨a,?_⟩,c⟩;by_cases e:(j:Int)=g
  ·rw[show j=g.toNat by omega,hr]at c;simp at c
  ·omega
 ·rintro⟨⟨a,b⟩,c⟩
  exact⟨⟨a,by omega⟩,c⟩
theorem Xm {L:List Obj} {k:Key} (h:aU L k=true):cy k=k.oid:=by
 unfold aU at h;simp only[aaV]at h;unfold cy;rw[aa2 h.1.1]
theorem Il {L:List Obj} {k:Key} (h:(!decide (0<ak L))=true):aN L k=1:=by unfold aN;rw[PE h];rfl
theorem bk2 {L:List Obj} {k:Key} (h:(!decide (0<ak L))=false) (h2:(!(aU L k&&decide (k.kind=4)))=true):aN L k=190:=by unfold aN;rw[Jx h h2];rfl
theorem Zv {L:List Obj} {k:Key} (h:(!decide (0<ak L))=false) (h2:(!(aU L k&&decide (k.kind=4)))=false) (h3:(!iM (aa L k) (ak L))=true):aN L k=220:=by
 have ha:=HY h h2;rw[(ei (nO h2).1).2.2.2.1]at h3;exact(C0 ha (show iM (aj L k.oid.toNat free) (ak L)=false by simpa using h3)).1
theorem Rw {L:List Obj} {k:Key} (h:(!decide (0<ak L))=false) (h2:(!(aU L k&&decide (k.kind=4)))=false) (h3:(!iM (aa L k) (ak L))=false):aN L k=0/\((aa L k).slots.at 0).value=ay L k/\((aa L k).slots.at 1).value=aI L k:=by
 have ha:=HY h h2;have e:=(ei (nO h2).1).2.2.2.1;rw[e]at h3;rw[e];exact⟨(vI ha (show iM (aj L k.oid.toNat free) (ak L)=true by simpa using h3)).1,rfl,rfl⟩
theorem Cd {L:List Obj} {k v:Key} {e:Int} (h:aN L k=e) (he:e≠0):false=jF L k v/\e=aN L k:=by
 refine⟨?_,h.symm⟩;unfold jF;rw[h];simp[he]
theorem tw {L:List Obj} {k v:Key} {e:Int} (h:cE L k v=e) (he:e≠0):e=cE L k v/\L=gA L k v:=by
 refine⟨h.symm,?_⟩;unfold gA;rw[h,aa1 he]
theorem rJ {L:List Obj} {k v:Key} {e:Int} (h:aN L k=e) (he:e≠0):cE L k v=e:=by
 unfold cE;rw[h,aa1 he]
theorem yR {L:List Obj} {k:Key} {e:Int} (h:aN L k=e) (he:e≠0):(0=fN L k/\e=aN L k)/\L=ib L k:=by
 unfold fN ib;rw[h,aa1 he,aa1 he];exact⟨⟨rfl,rfl⟩,rfl⟩
theorem wh {L:List Obj} {k:Key} {kind e:Int} (h:gB L k kind=e) (he:e≠0):(void=dh L k kind/\e=cA L k kind)/\L=fx L k kind:=by
 have e2:cA L k kind=e:=by unfold cA;rw[h,aa1 he]
 unfold dh fx;rw[e2,h,aa1 he,aa1 he];exact⟨⟨rfl,rfl⟩,rfl⟩
theorem rX {L:List Obj} {k:Key} {kind e:Int} (h:aN L k=e) (he:e≠0):gB L k kind=e:=by unfold gB;rw[h,aa1 he]
theorem MD {L:List Obj} {k:Key} {kind:Int} (h:aN L k=0) (h2:(!(decide (kind=1)||decide (kind=2)))=true):gB L k kind=2:=by
 unfold gB;rw[aa2 h,aa1];simp only[Bool.not_eq_true',Bool.or_eq_false_iff,decide_eq_false_iff_not]at h2;omega
theorem p7 {L:List Obj} {k:Key} {n e:Int} (h:b8 L k n=e) (he:e≠0):(void=ck L k n/\e=b8 L k n)/\L=bE L k n:=by
 unfold ck bE;rw[h,aa1 he,aa1 he];exact⟨⟨rfl,rfl⟩,rfl⟩
theorem vo {L:List Obj} {k:Key} {n e:Int} (h:aN L k=e) (he:e≠0):b8 L k n=e:=by rw[zb (by omega),h]
def Rh:Ct:=s7 (ba sA NY) (fun _=>none) fun x=> .tp [.bo (jF (DG x.1) x.2.1 x.2.2.1),.it .i64 (aN (DG x.1) x.2.1)]
def Ub:kq:=JV (uw TW) (fun L _=>aq L) (fun L x=> .tp [.key (dh L x.1 x.2.1),.it .i64 (cA L x.1 x.2.1)]) fun L x=>fx L x.1 x.2.1
def X7:kq:=JV (uw NY) (fun L _=>aq L) (fun L x=> .it .i64 (cE L x.1 x.2.1)) fun L x=>gA L x.1 x.2.1
def RO:kq:=JV (uw kB) (fun L _=>aq L) (fun L x=> .tp [.it .i64 (fN L x.1),.it .i64 (aN L x.1)]) fun L x=>ib L x.1
def N0:kq:=JV (uw TW) (fun L _=>aq L) (fun L x=> .tp [.key (ck L x.1 x.2.1),.it .i64 (b8 L x.1 x.2.1)]) fun L x=>bE L x.1 x.2.1
def qp (L:List Obj) (k:Key) (n g:Int):Prop:=ay L k<=g/\g<=aI L k+1/\lI (dW L k) (aI L k-n+1) g=false
def LF (L M:List Obj) (g:Int):Int:=aj (dQ L M) g.toNat 0
def KD:List Obj->List Obj->Nat->List Obj
 |L,_,0=>L
 |L,M,g+1=>cK (KD L M g) (LF L M (g:Int)) (aL M (LF L M (g:Int)))
def m5 (L M:List Obj) (g:Int):List Obj:=KD L M g.toNat
def sH (L M:List Obj) (g:Int):Prop:=0<=g/\g<=((dQ L M).length:Int)
def fg (L:List Obj) (k:Key) (g:Int):Obj:=aL (bN L (ay L k) g) g
def qP (L:List Obj) (k:Key) (g:Int):List Obj:=cK (bN L (ay L k) g) g (Obj.mk 1 ((fg L k g).count+1) free.calls free.slots free.bytes)
def o9 (x:Int):Key:=Key.mk 1 void.oid void.count void.call void.rights x
def Dx (L:List Obj) (k:Key) (n g:Int):Obj:=Obj.mk (aL (qP L k g) g).kind (aL (qP L k g) g).count (aL (qP L k g) g).calls (((aL (qP L k g) g).slots.put 0 (o9 (((aa L k).slots.at 1).value-n+1))).put 1 (o9 ((aa L k).slots.at 1).value)) (aL (qP L k g) g).bytes
def CK (L:List Obj) (k:Key) (n g:Int):List Obj:=cK (qP L k g) g (Dx L k n g)
def C8 (L:List Obj) (k:Key) (n g:Int):Obj:=Obj.mk (aL (CK L k n g) k.oid).kind (aL (CK L k n g) k.oid).count (aL (CK L k n g) k.oid).calls ((aL (CK L k n g) k.oid).slots.put 1 (o9 (((aa L k).slots.at 1).value-n))) (aL (CK L k n g) k.oid).bytes
def mW (L:List Obj) (k:Key) (n g:Int):List Obj:=cK (CK L k n g) k.oid (C8 L k n g)
def jE (L:List Obj) (k:Key) (g:Int):Prop:=ay L k<=g/\g<=aI L k+1/\kQ L (ay L k) g
def sF (L:List Obj) (k:Key) (g:Int):Prop:=ay L k<=g/\g<=aI L k+1
def vT (L:List Obj) (k:Key) (g:Int):Prop:=ay L k<=g/\g<=aI L k+1/\eW L (ay L k) g k.oid=0
def sS (L:List Obj) (k:Key) (g:Int):Prop:=ay L k<=g/\g<=aI L k+1/\eW L (ay L k) g k.oid≠0
theorem B9 {L:List Obj} {k:Key} (h:aU L k=true) (h2:k.kind=4):(aj L k.oid.toNat free).kind=1:=by
 unfold aU at h;simp only[aaV]at h;obtain⟨⟨h1,_⟩,h3⟩:=h;unfold cI at h3;simp only[aaV,Bool.or_eq_true,aaW]at h3;rcases lq k with⟨_,e,h0⟩|⟨e,_⟩
 ·rcases h3.2 with h|h
  ·omega
  ·rw[h.1.1];unfold gz;rw[aa1 (by omega),aa1 (by omega)]
 ·rw[e]at h1;simp at h1
theorem Iz {o:Obj} {n b:Int} (h:bM o n=true) (hk:o.kind=1):bM (mS o b) n=true:=by
 refine zF h hk fun i hi=>?_
 have:=(kf h).2.2.2.2.1;rw[cZ.gd _ _ _ _ (by omega)]
 split
 ·exact sI (by omega) _
 ·exact sB h hk i hi
theorem HL {o:Obj} {n a b:Int} (h:bM o n=true) (hk:o.kind=1):bM (jL o a b) n=true:=by
 refine zF h hk fun i hi=>?_
 have:=(kf h).2.2.2.2.1;rw[cZ.gd _ _ _ _ (by omega),cZ.gd _ _ _ _ (by omega)]
 split
 ·exact sI (by omega) _
 split
 ·exact sI (by omega) _
 ·exact sB h hk i hi
theorem Vb {L:List Obj} {k:Key} {g:Int} (hL:aq L) (e:aN L k=0) (hk:(aj L k.oid.toNat free).kind=1) (g0:ay L k<=g) (gl:g<=aI L k) (g2:kQ L (ay L k) g) (f2:fH (aj L g.toNat free)=true):
  gu L k=g/\fg L k g=aj L g.toNat free/\qP L k g=dW L k/\(dW L k).length=L.length/\aq (dW L k)/\aj (dW L k) g.toNat free=mn (aj L g.toNat free) 1/\aj (dW L k) k.oid.toNat free=aj L k.oid.toNat free/\k.oid.toNat≠g.toNat:=by
 obtain⟨_,a0,a1,a2,a3,a4⟩:=mP e;have hgn:g.toNat<L.length:=by omega
 have hgz:(bN L (ay L k) g).length=L.length:=kR;have hgt:aL (bN L (ay L k) g) g=aj L g.toNat free:=by rw[fG (by omega) (by omega),DD (by omega)]
 obtain⟨m1,m2,m3⟩:=yD (l:=aI L k) 1 a0 g0 gl (by omega) g2 f2
 have hO:fg L k g=aj L g.toNat free:=hgt;have hnew:=CE (dt hL g.toNat hgn) f2 (.inl rfl);have hp:=(my (L:=bN L (ay L k) g) (i:=g) (x:=mn (aj L g.toNat free) 1) (by omega) (by omega) (by rw[hgz];exact hnew)).1
 have hP:qP L k g=dW L k:=by
  unfold qP;rw[hO];exact hp.trans m3.symm
 have hne:k.oid.toNat≠g.toNat:=fun h=>by
  rw[h]at hk;unfold fH at f2;simp only[aaV,aaW]at f2;omega
 have hM:dW L k=b6 (bN L (ay L k) g) g.toNat (mn (aj L g.toNat free) 1):=m3;have hko:k.oid.toNat<L.length:=by omega
 refine⟨m1,hO,hP,uF,?_,?_,?_,hne⟩
 ·rw[hM];exact kS (GN hL) (by rw[hgz];exact hnew)
 ·rw[hM,gh (by rw[hgz];exact hgn),aa2 rfl]
 ·rw[hM,gh (by rw[hgz];exact hgn),aa1 hne]
  unfold bN;rw[kK hko,aa1];simp only[jD,hk,aaV,aaW];omega
theorem SY {L:List Obj} {k:Key} {n g:Int} (hL:aq L) (e:aN L k=0) (hk:(aj L k.oid.toNat free).kind=1) (hB:((aa L k).slots.at 1).value=aI L k) (g0:ay L k<=g) (gl:g<=aI L k) (g2:kQ L (ay L k) g) (f2:fH (aj L g.toNat free)=true) (h:b8 L k n=0):
  mW L k n g=bE L k n/\aq (bE L k n)/\(bE L k n).length=L.length/\Key.mk 4 g ((fg L k g).count+1) 0 0 0=ck L k n:=by
 obtain⟨i1,i2,i3,i4,i5,i6,i7,i8⟩:=Vb hL e hk g0 gl g2 f2;obtain⟨_,a0,a1,a2,a3,a4⟩:=mP e;have hgM:aL (dW L k) g=aj (dW L k) g.toNat free:=fG (by omega) (by omega)
 have hR1:Dx L k n g=jL (aj (dW L k) g.toNat free) (aI L k-n+1) (aI L k):=by
  unfold Dx;rw[i3,hgM,hB];rfl
 have o1:bM (jL (aj (dW L k) g.toNat free) (aI L k-n+1) (aI L k)) ((dW L k).length:Int)=true:=HL (dt i5 g.toNat (by omega)) (by rw[i6];rfl)
 have hP2:CK L k n g=b6 (dW L k) g.toNat (jL (aj (dW L k) g.toNat free) (aI L k-n+1) (aI L k)):=by
  unfold CK;rw[i3,hR1];exact(my (by omega) (by omega) o1).1
 have ok2:=kS (i:=g.toNat) i5 o1;have l2:(b6 (dW L k) g.toNat (jL (aj (dW L k) g.toNat free) (aI L k-n+1) (aI L k))).length=L.length:=by rw[iy];exact i4
 have g2':aL (CK L k n g) k.oid=aj (dW L k) k.oid.toNat free:=by
  rw[hP2,fG (by omega) (by omega),gh (by omega),aa1 i8]
 have hR2:C8 L k n g=mS (aj (dW L k) k.oid.toNat free) (aI L k-n):=by
  unfold C8;rw[g2',hB];rfl
 have o2:bM (mS (aj (dW L k) k.oid.toNat free) (aI L k-n)) (L.length:Int)=true:=Iz (by rw[<-i4];exact dt i5 k.oid.toNat (by omega)) (by rw[i7];exact hk)
 have hlast:bE L k n=b6 (b6 (dW L k) g.toNat (jL (aj (dW L k) g.toNat free) (aI L k-n+1) (aI L k))) k.oid.toNat (mS (aj (dW L k) k.oid.toNat free) (aI L k-n)):=by
  unfold bE;rw[aa2 h,i1]
 refine⟨?_,?_,?_,?_⟩
 ·unfold mW;rw[hR2,hP2,hlast];exact(my (by omega) (by omega) (by rw[l2];exact o2)).1
 ·rw[hlast];exact kS ok2 (by rw[l2];exact o2)
 ·rw[hlast,iy];exact l2
 ·unfold ck;rw[aa2 h,i1,i6,i2];rfl
theorem Tz {L M:List Obj} {x:Int} (h:x∈dQ L M):0<=x/\x<(L.length:Int):=by
 unfold dQ iY at h;rw[List.mem_map]at h;obtain⟨j,h1,rfl⟩:=h;have:=List.mem_range.1 (List.mem_filter.1 h1).1;unfold ai at this;exact⟨Int.natCast_nonneg j,by show(j:Int)<_;omega⟩
theorem X6 {L M:List Obj} {i:Nat} (h:i<(dQ L M).length):aj (dQ L M) i 0∈dQ L M:=by
 unfold aj;rw[aa0,List.getElem?_eq_getElem h];exact List.getElem_mem h
theorem S5 {L M:List Obj} {j:Nat} (hj:j<L.length) (h:aj L j free≠aj M j free):∃i,i<(dQ L M).length/\aj (dQ L M) i 0=(j:Int):=by
 have:(j:Int)∈dQ L M:=by
  unfold dQ iY;rw[List.mem_map];refine⟨j,List.mem_filter.2 ⟨List.mem_range.2 (by unfold ai;omega),?_⟩,rfl⟩
  simp[CW,h]
 obtain⟨i,hi,e⟩:=List.mem_iff_getElem.1 this;refine⟨i,hi,?_⟩;unfold aj;rw[aa0,List.getElem?_eq_getElem hi,e];rfl
theorem LN {L M:List Obj} (hl:M.length=L.length) (hM:aq M):∀g:Nat,g<=(dQ L M).length->(KD L M g).length=L.length/\(∀j,j<L.length->aj (KD L M g) j free=aj L j free\/aj (KD L M g) j free=aj M j free)/\
  ∀i,i<g->aj (KD L M g) (aj (dQ L M) i 0).toNat free=aj M (aj (dQ L M) i 0).toNat free
 |0,_=>⟨rfl,fun j hj=> .inl rfl,fun i hi=>by omega⟩
 |g+1,hg=>by
  obtain⟨h1,h2,h3⟩:=LN hl hM g (by omega)
  obtain⟨u1,u2⟩:=Tz (X6 (L:=L) (M:=M) (i:=g) (by omega))
  have e:LF L M (g:Int)=aj (dQ L M) g 0:=rfl;generalize hu:aj (dQ L M) g 0=u at *
  have hp:=(my (L:=KD L M g) (i:=u) (x:=aj M u.toNat free) u1 (by omega) (by rw[h1,<-hl];exact dt hM _ (by omega))).1
  have hs:KD L M (g+1)=b6 (KD L M g) u.toNat (aj M u.toNat free):=by
   simp only[KD];rw[e,fG u1 (by omega)]
   exact hp
  rw[hs];refine⟨by rw[iy];exact h1,fun j hj=>?_,fun i hi=>?_⟩
  ·rw[gh (by omega)]
   split
   ·rename_i hj';rw[hj'];exact .inr rfl
   ·exact h2 j hj
  ·rw[gh (by omega)]
   split
   ·rename_i hj';rw[hj']
   ·rename_i hne;by_cases hig:i=g
    ·rw[hig,hu]at hne;exact absurd rfl hne
    ·exact h3 i (by omega)
theorem Uw {L M:List Obj} (hl:M.length=L.length) (hM:aq M) {g:Int} (hg:g=((dQ L M).length:Int)):m5 L M g=M:=by
 obtain⟨h1,h2,h3⟩:=LN hl hM (dQ L M).length (Nat.le_refl _);have e:m5 L M g=KD L M (dQ L M).length:=by unfold m5;rw[hg];rfl
 rw[e];refine rE (by omega) fun j hj=>?_
 by_cases hne:aj L j free=aj M j free
 ·rcases h2 j (by omega)with h|h
  ·rw[h,hne]
  ·exact h
 ·obtain⟨i,hi,hij⟩:=S5 (by omega) hne
  have:=h3 i hi;rw[hij]at this;exact this
theorem Pe {L M:List Obj} {g:Int} (h0:0<=g):cK (m5 L M g) (aj (dQ L M) g.toNat 0) (aL M (aj (dQ L M) g.toNat 0))=m5 L M (g+1):=by
 unfold m5;rw[show(g+1).toNat=g.toNat+1 by omega]
 simp only[KD];rfl
theorem Ni {L M:List Obj} (hl:M.length=L.length) (h:1<=L.length):j7 L M=false:=by
 unfold j7 bu ai;simp only[hl,show decide (L.length=0)=false from decide_eq_false (by omega),Bool.false_or,decide_true,Bool.not_true]
theorem Hs {M:List Obj} {f g:Int} (h:g<=f):lI M f g=false:=by
 unfold lI;rw[List.any_eq_false];intro j _;simp only[aaV,aaW,not_and];intro h1 h2;omega
theorem Rj {L M:List Obj}:(dQ L M).length<=L.length:=by
 unfold dQ iY;rw[List.length_map];have:=List.length_filter_le (fun j=> !CW (aj L j free) (aj M j free)) (List.range (ai L:Int).toNat)
 simpa[ai]using this
structure Acb where
 kind:Int
 num:Int
 bank:Key
 key:Key
 obj:Int
def Acb.wf (x:Acb):Prop:=cc .i64 x.kind/\cc .i64 x.num/\x.bank.wf/\x.key.wf/\cc .i64 x.obj
theorem I9 {L M:List Obj} {k:Key} {d:Int} {c:Bool} (hl:M.length=L.length) (h1:(aj M k.oid.toNat free).kind=(aj L k.oid.toNat free).kind) (h2:(aj M k.oid.toNat free).count=(aj L k.oid.toNat free).count) (h3:(aj M k.oid.toNat free).calls=(aj L k.oid.toNat free).calls):aB M k d c=aB L k d c:=by
 have hi:aU M k=aU L k:=by
  unfold aU dA cI ai;rw[hl,h1,h2,h3]
 unfold aB ai;rw[hl,hi]
theorem R2 {L:List Obj} {k:Key} (h:aN L k=0):iM (aj L k.oid.toNat free) (L.length:Int)=true/\(aj L k.oid.toNat free).kind=1:=by
 obtain⟨ha,_⟩:=mP h;obtain⟨i1,i2,_⟩:=gw ha;refine⟨?_,B9 i1 i2⟩;unfold aN at h;rw[aa2 ha]at h;split at h
 ·rename_i hc;exact hc
 ·omega
theorem NH {L:List Obj} {f l kind:Int} {j:Nat} (h0:0<=f) (hj:j<L.length) (hk:(aj L j free).kind≠0):aj (cH L f l kind) j free=aj L j free:=by
 have hG:∀g,aj (bN L f g) j free=aj L j free:=fun g=>by
  unfold bN;rw[kK hj,aa1];simp only[jD,aaV,aaW];omega
 unfold cH;split
 ·exact hG _
 ·rename_i hi;rcases wa (L:=L) (l:=l) h0 with e|⟨a,b,c,d⟩
  ·exact absurd e hi
  ·rw[gh (by rw[kR];omega),aa1,hG]
   intro e;rw[<-e]at d;unfold fH at d;simp only[aaV,aaW]at d;exact hk d.1
theorem Pv {L:List Obj} {f l kind:Int} (hL:aq L) (h0:0<=f) (hk:kind=1\/kind=2):aq (cH L f l kind):=by
 unfold cH;split
 ·exact GN hL
 ·rename_i hi;rcases wa (L:=L) (l:=l) h0 with e|⟨a,b,c,d⟩
  ·exact absurd e hi
  ·exact kS (GN hL) (by rw[kR];exact CE (dt hL _ (by omega)) d hk)
theorem HS {L:List Obj} {k:Key} {kind:Int} (hL:aq L):aq (fx L k kind):=by
 unfold fx;split
 ·rename_i h
  have he:aN L k=0:=by
   unfold gB at h;split at h
   ·assumption
   ·rename_i h';exact absurd h h'
  refine Pv hL (mP he).2.1 ?_;unfold gB at h;rw[aa2 he]at h;split at h
  ·assumption
  ·omega
 ·exact hL
theorem QM {L:List Obj} {k:Key} {n:Int} (hL:aq L) (e:aN L k=0) (h:b8 L k n=0):
 aq (bE L k n)/\(bE L k n).length=L.length/\aN (bE L k n) k=0/\ay (bE L k n) k=ay L k/\aI (bE L k n) k=aI L k-n/\aN (bE L k n) (ck L k n)=0/\ay (bE L k n) (ck L k n)=aI L k-n+1/\aI (bE L k n) (ck L k n)=aI L k/\ay L k<=(ck L k n).oid/\(ck L k n).oid<=aI L k-n/\1<=n/\n<=aI L k-ay L k/\fH (aj L (ck L k n).oid.toNat free)=true:=by
 obtain⟨ha,a0,a1,a2,a3,a4⟩:=mP e;obtain⟨hok,hk1⟩:=R2 e;obtain⟨x1,x2⟩:=gY hL;have h':=h;unfold b8 at h;split at h
 case isFalse h2=>exact absurd h h2
 rename_i hE0;split at h
 case isTrue=>omega
 rename_i hI
 have hn:1<=n/\n<=aI L k-ay L k:=by
  unfold mQ at hE0;rw[aa2 e]at hE0;split at hE0
  ·omega
  ·omega
 have hin:=wa (L:=L) (l:=aI L k) a0;have hIe:br L (ay L k) (aI L k)=gu L k:=rfl;have hne1:br L (ay L k) (aI L k)≠ -1:=by rw[hIe];omega
 rw[hIe]at hin;rcases hin with hin|⟨i1,i2,i3,i4⟩
 ·omega
 have hMlen:(dW L k).length=L.length:=uF;have hMok:aq (dW L k):=Pv hL a0 (.inl rfl);have hMI:aj (dW L k) (gu L k).toNat free=mn (aj L (gu L k).toNat free) 1:=KH a0 hne1;have UI:aj (dW L k) k.oid.toNat free=aj L k.oid.toNat free:=NH a0 (by omega) (by omega)
 have hne:k.oid.toNat≠(gu L k).toNat:=fun hh=>by
  rw[hh]at hk1;unfold fH at i4;simp only[aaV,aaW]at i4;omega
 have hLL:bE L k n=b6 (b6 (dW L k) (gu L k).toNat (jL (aj (dW L k) (gu L k).toNat free) (aI L k-n+1) (aI L k))) k.oid.toNat (mS (aj (dW L k) k.oid.toNat free) (aI L k-n)):=by
  unfold bE;rw[aa2 h']
 have hKK:ck L k n=⟨4,gu L k,(aj L (gu L k).toNat free).count+1,0,0,0⟩:=by
  unfold ck;rw[aa2 h',hMI];rfl
 have o1:bM (jL (aj (dW L k) (gu L k).toNat free) (aI L k-n+1) (aI L k)) (L.length:Int)=true:=HL (by rw[<-hMlen];exact dt hMok _ (by omega)) (by rw[hMI];rfl)
 have o2:bM (mS (aj (dW L k) k.oid.toNat free) (aI L k-n)) (L.length:Int)=true:=Iz (by rw[<-hMlen];exact dt hMok _ (by omega)) (by rw[UI];exact hk1)
 have l1:(b6 (dW L k) (gu L k).toNat (jL (aj (dW L k) (gu L k).toNat free) (aI L k-n+1) (aI L k))).length=L.length:=by rw[iy];exact hMlen
 have okX:=kS (i:=(gu L k).toNat) hMok (by rw[hMlen];exact o1)
 have hlen:(bE L k n).length=L.length:=by rw[hLL,iy];exact l1
 have hokL:aq (bE L k n):=by rw[hLL];exact kS okX (by rw[l1];exact o2)
 have hgk:aj (bE L k n) k.oid.toNat free=mS (aj L k.oid.toNat free) (aI L k-n):=by
  rw[hLL,gh (by omega),aa2 rfl,UI]
 have hgI:aj (bE L k n) (gu L k).toNat free=jL (mn (aj L (gu L k).toNat free) 1) (aI L k-n+1) (aI L k):=by
  rw[hLL,gh (by omega),aa1 (Ne.symm hne),gh (by omega),aa2 rfl,hMI]
 have s2:∀(o:Obj) (b:Int),(mS o b).slots.at 0=o.slots.at 0/\(mS o b).slots.at 1=bL b:=fun o b=>by
  unfold mS;simp only;rw[cZ.gd _ _ _ _ (by omega),cZ.gd _ _ _ _ (by omega)]
  exact⟨rfl,rfl⟩
 have s1:∀(o:Obj) (a b:Int),(jL o a b).slots.at 0=bL a/\(jL o a b).slots.at 1=bL b:=fun o a b=>by
  unfold jL;simp only;rw[cZ.gd _ _ _ _ (by omega),cZ.gd _ _ _ _ (by omega),cZ.gd _ _ _ _ (by omega)]
  exact⟨rfl,rfl⟩
 have hask:aB (bE L k n) k 4 false=0:=by
  rw[I9 hlen (by rw[hgk];rfl) (by rw[hgk];rfl) (by rw[hgk];rfl)];exact ha
 unfold iM at hok;simp only[aaV,aaW]at hok;obtain⟨⟨⟨⟨c1,c2⟩,c3⟩,c4⟩,c5⟩:=hok;have hA':ay (bE L k n) k=ay L k:=by unfold ay;rw[hgk,(s2 _ _).1]
 have hB':aI (bE L k n) k=aI L k-n:=by
  have:aI (bE L k n) k=((mS (aj L k.oid.toNat free) (aI L k-n)).slots.at 1).value:=by rw[<-hgk];rfl
  rw[this,(s2 _ _).2];rfl
 have hE':aN (bE L k n) k=0:=(vI hask (by
  rw[hgk];unfold iM ai;rw[(s2 _ _).1,(s2 _ _).2,hlen];have v0:((aj L k.oid.toNat free).slots.at 0).value=ay L k:=rfl;simp only[bL,aaV,aaW];refine⟨⟨⟨⟨c1,?_⟩,c3⟩,?_⟩,?_⟩
  ·trivial
  ·exact decide_eq_true (by omega)
  ·exact decide_eq_true (by omega))).1
 have i4':=i4;unfold fH at i4';simp only[aaV,aaW]at i4';have hcb:=kf (dt hL (gu L k).toNat (by omega))
 have hkey:aV (ck L k n)=true:=by
  rw[hKK];unfold aV fZ;simp only[ea,gO,kG,fy];simp;omega
 have hoid:(ck L k n).oid=gu L k:=by rw[hKK]
 have hisO:ea (ck L k n).kind=true:=by rw[hKK];rfl
 have hnm:aZ (ck L k n)=true:=by unfold aZ;rw[hkey,hisO];rfl
 have hnames:bf (ck L k n)=gu L k:=by unfold bf;rw[hkey,hisO,hoid];rfl
 have hcounts:cI (ck L k n) (aj (bE L k n) (ck L k n).oid.toNat free)=true:=by
  unfold cI gz;rw[hkey,hnames,hoid,hgI,aa1 (by omega),hKK]
  simp[jL,mn]
 have his:aU (bE L k n) (ck L k n)=true:=by
  unfold aU;rw[hnm,hcounts,mR.2 ⟨by omega,by omega⟩];rfl
 have hask2:aB (bE L k n) (ck L k n) 4 false=0:=by
  unfold aB ai;rw[aa1 (by omega),aa1 (by rw[his,hKK];simp),aa1 (by simp)]
 have hobj:aj (bE L k n) (ck L k n).oid.toNat free=jL (mn (aj L (gu L k).toNat free) 1) (aI L k-n+1) (aI L k):=by rw[hoid];exact hgI
 refine⟨hokL,hlen,hE',hA',hB',(vI hask2 ?_).1,?_,?_,by rw[hoid];exact i1,by rw[hoid];omega,hn.1,hn.2,by rw[hoid];exact i4⟩
 ·rw[hobj];unfold iM ai;rw[(s1 _ _ _).1,(s1 _ _ _).2,hlen];simp only[bL,aaV,aaW];refine⟨⟨⟨⟨?_,?_⟩,?_⟩,?_⟩,?_⟩
  ·trivial
  ·trivial
  ·exact decide_eq_true (by omega)
  ·exact decide_eq_true (by omega)
  ·exact decide_eq_true (by omega)
 ·unfold ay;rw[hobj,(s1 _ _ _).1];rfl
 ·have:aI (bE L k n) (ck L k n)=((jL (mn (aj L (gu L k).toNat free) 1) (aI L k-n+1) (aI L k)).slots.at 1).value:=by rw[<-hobj];rfl
  rw[this,(s1 _ _ _).2];rfl
end Go.Sx
