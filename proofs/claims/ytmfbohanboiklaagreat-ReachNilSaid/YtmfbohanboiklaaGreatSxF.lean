import Derived.Test.YtmfbohanboiklaaGreatCfg
set_option linter.unusedSimpArgs false
set_option linter.unusedVariables false
namespace Go.Sx
open Go.RowKit (Below)
abbrev Ct:=List ae->Nat->List V->RR
def cQ (P:Program) (f:Nat) (g:Ct):Prop:=
 ∀J fps res K w0 F0 w nid args q x new,an J fps res K w0 F0 w->bH K args->g res nid args=some (q,x,new)->aN q->
  (∀k,k<new.length->¬K (nid+k))->
  (CallsIn (FF P none) 0 P f (aw J args).toArray w fun e w'=>∃v,e= .returned v/\ji K J nid x new w0 F0 w v w')/\∀k,k<new.length->aa new k≠ .yet
def kz:List (Nat×Ct)->Nat->Option Ct
 | [],_=>none
 | (g,c)::l,f=>if f==g then some c else kz l f
theorem jc {P:Program}:∀{l:List (Nat×Ct)},(∀p∈l,cQ P p.1 p.2)->∀f g,kz l f=some g->cQ P f g
 | [],_,f,g,h=>by simp[kz]at h
 | (k,c)::l,hl,f,g,h=>by
   simp only[kz]at h;split at h
   ·simp_all
   ·exact jc (fun p hp=>hl p (by simp[hp])) f g h
mutual
def gy:V->Bool
 | .lp _ _=>false
 | .lx _ _ _ _ _ _=>false
 | .sc _ _ _=>false
 | .so _ _=>false
 | .ap _ _ _ _=>false
 | .ax _ _ _ _ _ _ _ _=>false
 | .sa _=>false
 | .op _ _=>false
 | .yl _=>false
 | .mp _=>false
 | .ch _ _ _ _=>false
 | .bs _ _ _=>false
 | .ks _ _ _ _ _| .vw _ _ _ _=>false
 | .fn _ l=>ij l
 | .ic _ x=>gy x
 | .ag l=>ij l
 | .tp l=>ij l
 |_=>true
def ij:List V->Bool
 | []=>true
 |x::l=>gy x&&ij l
end
mutual
theorem iR {K K':Nat->Prop}:∀v,gy v=true->ok K v->ok K' v
 | .lp _ _,h,_| .lx _ _ _ _ _ _,h,_| .sc _ _ _,h,_| .so _ _,h,_| .ap _ _ _ _,h,_| .sa _,h,_| .op _ _,h,_| .yl _,h,_| .mp _,h,_| .ch _ _ _ _,h,_| .ax _ _ _ _ _ _ _ _,h,_| .bs _ _ _,h,_| .ks _ _ _ _ _,h,_| .vw _ _ _ _,h,_=>by simp[gy]at h
 | .fn _ l,h,hk=>iN l h hk
 | .ic _ x,h,hk=>iR x h hk
 | .ag l,h,hk=>⟨iN l h hk.1,hk.2⟩
 | .tp l,h,hk=>iN l h hk
 | .cb _,_,hk| .bo _,_,hk| .ci _ _,_,hk| .it _ _,_,hk| .bt _,_,hk| .st _,_,hk| .nl _,_,hk| .key _,_,hk| .sl _,_,hk| .by _,_,hk| .ob _,_,hk=>hk
theorem iN {K K':Nat->Prop}:∀l,ij l=true->bH K l->bH K' l
 | [],_,_=>trivial
 |x::l,h,hk=>by
  simp only[ij,JR]at h;exact⟨iR x h.1 hk.1,iN l h.2 hk.2⟩
end
theorem kR {K:Nat->Prop} {v:V} (h:gy v=true) (hk:ok K v) (J ρ':Env):den ρ' v=den J v:=
 bT (N:=fun _=>False) (fun _ h=>h.elim) v (iR v h hk)
def sq (v:V) (v':V) (_:List ae):Prop:=
 match nk v' v with
 |some l=>cR l
 |none=>False
def sk (x v:V) (_:List ae):Prop:=∀J K,mj J K v x
theorem cI {x v:V} {r:List ae} (h:sq x v r):sk x v r:=by
 unfold sq at h;split at h
 ·rename_i l hl;exact fun J K=>jv J K _ _ l hl h
 ·exact h.elim
theorem ah.mono {P:Program} {f:Nat} {args:List V} {res:List ae} {K K' KP KP':V->List ae->Prop} (h:ah P f args res K KP) (hK:∀v r,K v r->K' v r) (hP:∀v r,KP v r->KP' v r):
  ah P f args res K' KP':=by
 intro J fps w0 F0 w hH ha;refine(h J fps w0 F0 w hH ha).mono fun e w' ⟨x,ρ',fps',res',g1,g2,g3,g4⟩=>⟨x,ρ',fps',res',g1,g2,g3,?_⟩
 rcases g4 with⟨e1,e2⟩|⟨e1,e2⟩
 ·exact .inl ⟨e1,hK _ _ e2⟩
 ·exact .inr ⟨e1,hP _ _ e2⟩
def HX (l m:List V):Prop:=(∀J,aw J l=aw J m)/\∀K,bH K l->bH (fun _=>False) m
theorem mS {P:Program} {f:Nat} {g:Ct} (h:∀res nid args q x new,g res nid args=some (q,x,new)->new= []/\gy x=true/\
  ∃args',HX args args'/\(aN q->bH (fun _=>False) args'->ah P f args' [] (sk x) (fun _ _=>False))):cQ P f g:=by
 intro J fps res K w0 F0 w nid args q x new hH hargs hg hq hfr;obtain⟨rfl,hid,args',⟨s1,s2⟩,hc⟩:=h res nid args q x new hg;refine⟨?_,fun k hk=>by simp at hk⟩
 have hok:=s2 K hargs
 have hrep:an J (fun _ _=>False) [] (known []) w (fun _=>False) w:=
  ⟨fun i hi=>hi,Nat.le_refl _,rfl,rfl,rfl,fun i hi=>by simp[known,aa]at hi,fun i b hi=>by simp[known,aa]at hi,fun i j b hi=>by simp[known,aa]at hi,fun i b hi=>by simp[known,aa]at hi,fun _ _ _=>rfl⟩
 have hcall:=hc hq hok J (fun _ _=>False) w (fun _=>False) w hrep (by rw[de]at hok⊢;exact fun z hz=>ca (hok z hz))
 rw[s1 J];refine hcall.mono fun e w' ⟨y,ρ',fps',res',g1,g2,g3,g4⟩=>?_
 rcases g4 with⟨rfl,hK⟩|⟨_,hK⟩
 ·refine⟨_,rfl,J,?_,?_,?_⟩
  ·have hb:Below w.heap.size w w':=by
    refine⟨g1.os,g1.tape,g1.output,g1.old,fun b hb=>g1.same b hb (fun h=>h)⟩
   exact⟨hb,Env.agree.refl _ _,fun _ _=>False,fun k hk=>by simp at hk,fun k l b hk=>by simp at hk⟩
  ·obtain⟨e1,e2,_⟩:=hK ρ' (known res');rw[e1];exact kR hid (e2 g3) J ρ'
  ·obtain⟨e1,e2,_⟩:=hK ρ' (known res');exact iR x hid (e2 g3)
 ·exact hK.elim
def ny {α:Type} (r:V->Option α) (m:α->V):Prop:=∀v x,r v=some x->(∀J,den J v=den J (m x))/\∀K,ok K v->ok (fun _=>False) (m x)
def rI (k:IntKind) (v:V):Option Int:=
 match toInt v with
 |some (k',n)=>if k==k' then some n else none
 |none=>none
def rK (v:V):Option Key:=
 match v with
 | .key k=>some k
 | .ag l=>match l with
   | [a,b,c,d,e,f]=>match rI .i64 a with
     |some a=>match rI .i64 b with
      |some b=>match rI .i64 c with
       |some c=>match rI .i64 d with
        |some d=>match rI .i64 e with
         |some e=>match rI .i64 f with
          |some f=>some ⟨a,b,c,d,e,f⟩
          |none=>none
         |none=>none
        |none=>none
       |none=>none
      |none=>none
     |none=>none
   |_=>none
 |_=>none
def rO:V->Option Obj
 | .ob o=>some o
 |_=>none
theorem BV:ny toBool V.bo:=by
 intro v x h;cases v<;>simp[toBool]at h<;>subst h<;>exact⟨fun _=>rfl,fun _ _=>trivial⟩
theorem gR (k:IntKind):ny (rI k) (V.it k):=by
 intro v x h;unfold rI at h;cases v<;>simp[toInt]at h<;>obtain⟨rfl,rfl⟩:=h
 ·exact⟨fun _=>rfl,fun _ hk=>hk⟩
 ·exact⟨fun _=>rfl,fun _ hk=>hk⟩
 ·rename_i b;refine⟨fun _=>rfl,fun _ _=>?_⟩
  have:=b.toNat_lt;simp only[ok,br,HE];omega
theorem ou:ny rK V.key:=by
 intro v x h;unfold rK at h;split at h
 ·simp only[JP]at h;subst h;exact⟨fun _=>rfl,fun _ hk=>hk⟩
 ·split at h
  case h_2=>simp at h
  split at h<;>try(simp at h;done)
  rename_i h1;split at h<;>try(simp at h;done)
  rename_i h2;split at h<;>try(simp at h;done)
  rename_i h3;split at h<;>try(simp at h;done)
  rename_i h4;split at h<;>try(simp at h;done)
  rename_i h5;split at h<;>simp only[JP,reduceCtorEq]at h
  rename_i h6;subst h;have e1:=gR .i64 _ _ h1;have e2:=gR .i64 _ _ h2;have e3:=gR .i64 _ _ h3;have e4:=gR .i64 _ _ h4;have e5:=gR .i64 _ _ h5;have e6:=gR .i64 _ _ h6;refine⟨fun J=>?_,fun K hK=>?_⟩
  ·simp only[den,aq,e1.1 J,e2.1 J,e3.1 J,e4.1 J,e5.1 J,e6.1 J];rfl
  ·obtain⟨⟨k1,k2,k3,k4,k5,k6,_⟩,_⟩:=hK;exact⟨e1.2 K k1,e2.2 K k2,e3.2 K k3,e4.2 K k4,e5.2 K k5,e6.2 K k6⟩
 ·simp at h
theorem HB {v:V} {x:Key} (h:rK v=some x):aP v=false:=by
 cases v<;>first|rfl|simp[rK]at h
theorem xa:ny rO V.ob:=by
 intro v x h;cases v<;>simp[rO]at h<;>subst h<;>exact⟨fun _=>rfl,fun _ hk=>hk⟩
def Gs (F:V):Ct:=fun _ _ xs=>match xs with
 | []=>some (none,F,[])
 |_=>none
def GJ {α:Type} (r:V->Option α) (F:α->V):Ct:=fun _ _ xs=>match xs with
 | [a]=>match r a with
   |some x=>some (none,F x,[])
   |none=>none
 |_=>none
def GZ {α β:Type} (r:V->Option α) (s:V->Option β) (F:α->β->V):Ct:=fun _ _ xs=>match xs with
 | [a,b]=>match r a,s b with
   |some x,some y=>some (none,F x y,[])
   |_,_=>none
 |_=>none
def Jb {α β γ:Type} (r:V->Option α) (s:V->Option β) (t:V->Option γ) (F:α->β->γ->V):Ct:=fun _ _ xs=>match xs with
 | [a,b,c]=>match r a,s b,t c with
   |some x,some y,some z=>some (none,F x y z,[])
   |_,_,_=>none
 |_=>none
theorem Ge {P:Program} {f:Nat} {F:V} (hF:gy F=true) (h:ah P f [] [] (sq F) (fun _ _=>False)):cQ P f (Gs F):=by
 refine mS fun res nid args q x new hg=>?_
 unfold Gs at hg;split at hg<;>simp only[JP,JQ,reduceCtorEq]at hg
 obtain⟨rfl,rfl,rfl⟩:=hg;exact⟨rfl,hF,[],⟨fun _=>rfl,fun _ _=>trivial⟩,fun _ _=>h.mono (fun _ _=>cI) fun _ _ h=>h⟩
theorem Fx {P:Program} {f:Nat} {F:V} (hF:gy F=true) (h:ah P f [] [] (fun v _=>v=F) (fun _ _=>False)):cQ P f (Gs F):=by
 refine mS fun res nid args q x new hg=>?_
 unfold Gs at hg;split at hg<;>simp only[JP,JQ,reduceCtorEq]at hg
 obtain⟨rfl,rfl,rfl⟩:=hg;exact⟨rfl,hF,[],⟨fun _=>rfl,fun _ _=>trivial⟩,fun _ _=>h.mono (fun v _ e=>by subst e;exact fun J K=>mj.refl J K v) fun _ _ h=>h⟩
theorem sY {P:Program} {f:Nat} {α:Type} {r:V->Option α} {m:α->V} {F:α->V} (hr:ny r m) (hF:∀x,gy (F x)=true)
  (h:∀x,ok (fun _=>False) (m x)->ah P f [m x] [] (sq (F x)) (fun _ _=>False)):cQ P f (GJ r F):=by
 refine mS fun res nid args q x new hg=>?_
 unfold GJ at hg;split at hg<;>(try split at hg)<;>simp only[JP,JQ,reduceCtorEq]at hg
 rename_i a x h1;obtain⟨rfl,rfl,rfl⟩:=hg;obtain⟨a1,a2⟩:=hr _ x h1;exact⟨rfl,hF x,[m x],⟨fun J=>by simp[aw,a1 J],fun K hK=>⟨a2 K hK.1,trivial⟩⟩,fun _ hok=>(h x hok.1).mono (fun _ _=>cI) fun _ _ h=>h⟩
theorem vX {P:Program} {f:Nat} {α β:Type} {r:V->Option α} {s:V->Option β} {m:α->V} {n:β->V} {F:α->β->V} (hr:ny r m) (hs:ny s n) (hF:∀x y,gy (F x y)=true)
  (h:∀x y,ok (fun _=>False) (m x)->ok (fun _=>False) (n y)->ah P f [m x,n y] [] (sq (F x y)) (fun _ _=>False)):cQ P f (GZ r s F):=by
 refine mS fun res nid args q x new hg=>?_
 unfold GZ at hg;split at hg<;>(try split at hg)<;>simp only[JP,JQ,reduceCtorEq]at hg
 rename_i a b x y h1 h2;obtain⟨rfl,rfl,rfl⟩:=hg;obtain⟨a1,a2⟩:=hr _ x h1;obtain⟨b1,b2⟩:=hs _ y h2;exact⟨rfl,hF x y,[m x,n y],⟨fun J=>by simp[aw,a1 J,b1 J],fun K hK=>⟨a2 K hK.1,b2 K hK.2.1,trivial⟩⟩,fun _ hok=>(h x y hok.1 hok.2.1).mono (fun _ _=>cI) fun _ _ h=>h⟩
theorem F7 {P:Program} {f:Nat} {α β γ:Type} {r:V->Option α} {s:V->Option β} {t:V->Option γ} {m:α->V} {n:β->V} {o:γ->V} {F:α->β->γ->V} (hr:ny r m) (hs:ny s n) (ht:ny t o)
  (hF:∀x y z,gy (F x y z)=true)
  (h:∀x y z,ok (fun _=>False) (m x)->ok (fun _=>False) (n y)->ok (fun _=>False) (o z)->ah P f [m x,n y,o z] [] (sq (F x y z)) (fun _ _=>False)):cQ P f (Jb r s t F):=by
 refine mS fun res nid args q x new hg=>?_
 unfold Jb at hg;split at hg<;>(try split at hg)<;>simp only[JP,JQ,reduceCtorEq]at hg
 rename_i a b c x y z h1 h2 h3;obtain⟨rfl,rfl,rfl⟩:=hg;obtain⟨a1,a2⟩:=hr _ x h1;obtain⟨b1,b2⟩:=hs _ y h2;obtain⟨c1,c2⟩:=ht _ z h3;exact⟨rfl,hF x y z,[m x,n y,o z],⟨fun J=>by simp[aw,a1 J,b1 J,c1 J],fun K hK=>⟨a2 K hK.1,b2 K hK.2.1,c2 K hK.2.2.1,trivial⟩⟩,fun _ hok=>(h x y z hok.1 hok.2.1 hok.2.2.1).mono (fun _ _=>cI) fun _ _ h=>h⟩
def Ji:List Nat->Nat->Bool
 | [],_=>false
 |x::l,i=>x==i||Ji l i
def Hw:List (Nat×V)->Nat->Option V
 | [],_=>none
 | (j,v)::l,i=>if j==i then some v else Hw l i
def GH (k7:List Nat) (set:List (Nat×V)):Nat->List S->List S
 |_,[]=> []
 |i,s::l=>(match Hw set i with
  |some v=> .v v
  |none=>if Ji k7 i then s else .und)::GH k7 set (i+1) l
def JC (k7:List Nat) (set:Int->List (Nat×V)) (inv:Int->Prop) (m:Int):bG:=
 {γ:=Int,head:=fun U g=> {U with slots:=GH k7 (set g) 0 U.slots},inv:=inv,μ:=fun g=>fU (qV m g)}
def y0:List (Nat×Nat×bG)->Nat->Nat->Option bG
 | [],_,_=>none
 | (f,r,A)::l,f',r'=>if f==f'&&r==r' then some A else y0 l f' r'
def cm (_ _:Nat):Option bG:=none
def cg (_:Nat):Bool:=false
def JI:Handler:=fun _ _ _ _ _=>False
end Go.Sx
namespace Go.Proofs.YtmfbohanboiklaaGreat
open Go.Sx
noncomputable def cf (l:List (Nat×Ct)) (inl:Nat->Bool) (ann:Nat->Nat->Option bG):zL:= {P:=Tryz.prog,Z:=zeroOf,Γ:=kz l,H0:=JI,inl:=inl,ann:=ann,opn:=EL inl}
theorem A1 {l:List (Nat×Ct)} {inl:Nat->Bool} {ann:Nat->Nat->Option bG} (hl:∀p∈l,cQ Tryz.prog p.1 p.2):(cf l inl ann).toCtx.Sound:=
 ⟨Ck rj,Tryz.checked.mixed,fun f g hg=>jc hl f g hg,fun f ts te h=>by simp[cf]at h⟩
abbrev vc (l:List (Nat×Ct)) (inl:Nat->Bool) (ann:Nat->Nat->Option bG) (f:Nat) (args:List V) (res:List ae) (K KP:V->List ae->Prop):Prop:=
 enter (cf l inl ann).toCtx (exec (cf l inl ann) 100 ⟨false,none⟩) (exec (cf l inl ann) 100 ⟨false,none⟩ f) f args res K KP
set_option maxRecDepth 100000 in
theorem bx {l:List (Nat×Ct)} {inl:Nat->Bool} {ann:Nat->Nat->Option bG} (hl:∀p∈l,cQ Tryz.prog p.1 p.2) {f:Nat} {args:List V} {res:List ae} {K KP:V->List ae->Prop}
  {G:Prop} (hG:G) (h:G=vc l inl ann f args res K KP):ah Tryz.prog f args res K KP:=
 xB (C:=cf l inl ann) (n:=100) (A1 hl) (fun _ _ _ _ _ hh=>hh.elim) (Eq.mp h hG)
end Go.Proofs.YtmfbohanboiklaaGreat
namespace Go.Sx
theorem aS {P:Program}:∀p∈([]:List (Nat×Ct)),cQ P p.1 p.2:=by simp
theorem az {P:Program} {f:Nat} {g:Ct} {l:List (Nat×Ct)} (h:cQ P f g) (t:∀p∈l,cQ P p.1 p.2):∀p∈(f,g)::l,cQ P p.1 p.2:=by
 simp_all
end Go.Sx
namespace Go.Sx
open Go.RowKit (Below)
theorem an.sw {J:Env} {fps:Nat->Nat->Prop} {res:List ae} {K:Nat->Prop} {w0:World} {F0:Nat->Prop} {w:World} (h:an J fps res K w0 F0 w) {i:Nat} {r:ae}
  (hr:aW res i=r) (hk:known res i):∃fp:Nat->Prop,r.holds K J i fp w0 F0 w/\∀b,fp b->fps i b\/(b<w0.heap.size/\¬F0 b):=by
 have hh:=h.holds i hk;unfold aW at hr;split at hr
 ·rename_i r' he;rw[he]at hh;subst hr;obtain⟨fp',h1,h2⟩:=hh;exact⟨fp',ae.bJ _ h1 fun b hb=>h.same b (h2 b hb).1 (h2 b hb).2,fun b hb=> .inr (h2 b hb)⟩
 ·subst hr;exact⟨fps i,hh,fun b hb=> .inl hb⟩
def cX (κ:Nat->Option Nat) (res:List ae):List (Nat×Bool)->List ae
 | []=> []
 | (p,o)::l=>(if o then dg κ (aa res p)else .ro (dg κ (aW res p)))::cX κ res l
def cD:List (Nat×Bool)->List Nat
 | []=> []
 | (p,_)::l=>p::cD l
def dN (res:List ae):List (Nat×Bool)->Bool
 | []=>true
 | (p,_)::l=>dI res p&&dN res l
theorem fW:∀(l:List (Nat×Bool)) (i:Nat),(cD l)[i]? =(l[i]?).map (·.1)
 | [],i=>by simp[cD]
 | (p,o)::l,0=>by simp[cD]
 | (p,o)::l,i+1=>by simp[cD,fW l i]
theorem nV (κ:Nat->Option Nat) (res:List ae):∀(l:List (Nat×Bool)) (i:Nat),aa (cX κ res l) i=match l[i]? with
  |some (p,o)=>if o then dg κ (aa res p)else .ro (dg κ (aW res p))
  |none=> .yet
 | [],i=>by simp[cX,aa]
 | (p,o)::l,0=>by simp[cX,aa]
 | (p,o)::l,i+1=>by simp[cX,aa,nV κ res l i]
theorem nh (κ:Nat->Option Nat) (res:List ae):∀(l:List (Nat×Bool)),(cX κ res l).length=l.length
 | []=>rfl
 | (p,o)::l=>by simp[cX,nh κ res l]
theorem bk {res:List ae}:∀{l:List (Nat×Bool)},dN res l=true->∀(i:Nat) (p:Nat) (o:Bool),l[i]? =some (p,o)->known res p
 | [],_,i,p,o,h=>by simp at h
 | (x,y)::l,hk,i,p,o,h=>by
   simp only[dN,JR]at hk;cases i with
   |zero=>simp at h;obtain⟨rfl,_⟩:=h;exact bE.1 hk.1
   |succ i=>exact bk hk.2 i p o (by simpa using h)
theorem gn {p:Nat}:∀(l:List Nat) (m k:Nat),l.Nodup->l[k]? =some p->idxOf l m p=some (m+k)
 | [],m,k,_,h=>by simp at h
 |x::l,m,k,hnd,h=>by
  simp only[idxOf];cases k with
  |zero=>simp at h;subst h;simp
  |succ k=>
   simp at h
   have hne:(x==p)=false:=by
    grind
   rw[hne];simp only[Bool.false_eq_true,if_false];rw[gn l (m+1) k (List.nodup_cons.1 hnd).2 h];congr 1;omega
theorem yv {l:List Nat} {p i:Nat} (h:jS 0 l p=some i):l[i]? =some p:=by
 unfold jS at h;split at h
 ·rename_i hb;simp at hb
 ·have:=di h;simpa using this.2.2
theorem s4 {l:List Nat} {p i:Nat} (hnd:l.Nodup) (h:l[i]? =some p):jS 0 l p=some i:=by
 unfold jS;rw[JX (by simp),gn l 0 i hnd h];simp
def Frame (J:Env) (fps:Nat->Nat->Prop) (pl:List (Nat×Bool)) (b:Nat):Prop:=∃(i p:Nat),pl[i]? =some (p,true)/\fps p b
section
variable {J:Env} {fps:Nat->Nat->Prop} {res:List ae} {w0 w:World} {F0:Nat->Prop}
theorem an.cX {K:Nat->Prop} (h:an J fps res K w0 F0 w) {pl:List (Nat×Bool)} (hk:dN res pl=true) (hnd:(cD pl).Nodup):
  an (J.pull (src 0 (cD pl))) (fun i b=>∃p:Nat,pl[i]? =some (p,true)/\fps p b) (cX (jS 0 (cD pl)) res pl) (known (cX (jS 0 (cD pl)) res pl)) w (Frame J fps pl) w/\
   (∀i,i<pl.length->known (cX (jS 0 (cD pl)) res pl) i)/\Env.via (jS 0 (cD pl)) J (J.pull (src 0 (cD pl)))/\∀p i,jS 0 (cD pl) p=some i->K p->known (Sx.cX (jS 0 (cD pl)) res pl) i:=by
 generalize hκ:jS 0 (cD pl)=κ
 have hπ:∀p i,κ p=some i->src 0 (cD pl) i=p:=fun p i hp=>by subst hκ;exact xw hp
 have hv:Env.via κ J (J.pull (src 0 (cD pl))):=mX hπ
 have hsome:∀i p o,pl[i]? =some (p,o)->κ p=some i:=fun i p o hi=>by
  subst hκ;exact s4 hnd (by rw[fW,hi];rfl)
 have hkn:∀i p o,pl[i]? =some (p,o)->known (Sx.cX κ res pl) i:=fun i p o hi=>by
  unfold known;rw[nV,hi];simp only;split
  ·exact fun e=>bk hk i p o hi (fu.1 e)
  ·simp
 have hget:∀i,known (Sx.cX κ res pl) i->∃p o,pl[i]? =some (p,o):=fun i hi=>by
  have:=ai hi;rw[nh]at this;exact⟨pl[i].1,pl[i].2,by rw[List.getElem?_eq_getElem this]⟩
 have hN:∀p i,κ p=some i->K p->known (Sx.cX κ res pl) i:=fun p i hp _=>by
  subst hκ;have:=yv hp;rw[fW]at this;cases hi:pl[i]? with
  |none=>rw[hi]at this;simp at this
  |some po=>exact hkn i po.1 po.2 hi
 have huniq:∀i j p o o',pl[i]? =some (p,o)->pl[j]? =some (p,o')->i=j:=fun i j p o o' hi hj=>by
  have a:=hsome i p o hi;rw[hsome j p o' hj]at a;simpa using a.symm
 have hfr:∀b,b<w0.heap.size->¬F0 b->w.heap[b]? =w0.heap[b]? /\¬Frame J fps pl b:=fun b hb hF=>by
  refine⟨h.same b hb hF,?_⟩;rintro⟨i,p,hi,hf⟩
  exact hF (h.inF p b (bk hk i p true hi) hf hb)
 refine⟨⟨fun i hi=>hi,Nat.le_refl _,rfl,rfl,rfl,fun i hi=>?_,?_,?_,?_,fun _ _ _=>rfl⟩,fun i hi=>hkn i pl[i].1 pl[i].2 (by rw[List.getElem?_eq_getElem hi]),hv,hN⟩
 ·obtain⟨p,o,hp⟩:=hget i hi;have hkp:=bk hk i p o hp;rw[nV,hp];simp only;cases o with
  |true=>
   simp only[if_true];have:=ae.nO h.old hfr _ _ (h.holds p hkp);have:=dC hv hN (hsome i p true hp) _ _ _ this
   have e:(fun b=>∃p':Nat,some (p,true)=some (p',true)/\fps p' b)=fps p:=by
    funext b;simp
   rw[e];exact this
  |false=>
   simp only[Bool.false_eq_true,if_false];obtain⟨fp,g1,g2⟩:=h.sw rfl hkp;refine⟨fp,dC hv hN (hsome i p false hp) _ _ _ (ae.nO h.old hfr _ _ g1),fun b hb=>?_⟩
   rcases g2 b hb with hf|⟨hl,hF⟩
   ·refine⟨h.lt p b hkp hf,?_⟩;rintro⟨j,p',hj,hf'⟩
    have hkp':=bk hk j p' true hj;refine h.disj p p' b hkp hkp' (fun e=>?_) hf hf'
    subst e;have:=huniq i j p false true hp hj;subst this;rw[hp]at hj;simp at hj
   ·exact⟨Nat.lt_of_lt_of_le hl h.old,(hfr b hl hF).2⟩
 ·rintro i b hi ⟨p,hp,hf⟩
  exact h.lt p b (bk hk i p true hp) hf
 ·rintro i j b hi hj hne ⟨p,hp,hf⟩ ⟨p',hp',hf'⟩
  refine h.disj p p' b (bk hk i p true hp) (bk hk j p' true hp') (fun e=>hne ?_) hf hf'
  subst e;exact huniq i j p true true hp hp'
 ·rintro i b hi ⟨p,hp,hf⟩ _
  exact⟨i,p,hp,hf⟩
def cK (κ2:Nat->Option Nat) (r':List ae):Nat->List (Nat×Bool)->List ae->List ae
 |_,[],res=>res
 |i,(p,o)::l,res=>if o then cK κ2 r' (i+1) l (aG res p (dg κ2 (aa r' i)))else cK κ2 r' (i+1) l res
def tI:List (Nat×Bool)->Nat->Option Nat
 | [],_=>none
 | (p,_)::_,0=>some p
 |_::l,i+1=>tI l i
def back (pl:List (Nat×Bool)) (ext:List Nat) (n j:Nat):Option Nat:=
 match tI pl j with
 |some p=>some p
 |none=>idxOf ext n j
def merge (pl:List (Nat×Bool)) (ext:List Nat) (r' res:List ae):List ae:=
 cK (back pl ext res.length) r' 0 pl res++dH (back pl ext res.length) r' ext
theorem pt:∀(l:List (Nat×Bool)) (i:Nat),tI l i=(l[i]?).map (·.1)
 | [],i=>by simp[tI]
 | (p,o)::l,0=>by simp[tI]
 | (p,o)::l,i+1=>by simp[tI,pt l i]
theorem gd (κ2:Nat->Option Nat) (r':List ae):∀(l:List (Nat×Bool)) (i:Nat) (res:List ae),(cK κ2 r' i l res).length=res.length
 | [],_,_=>rfl
 | (p,o)::l,i,res=>by
   simp only[cK];split
   ·rw[gd κ2 r' l,aE]
   ·exact gd κ2 r' l _ _
theorem fk (κ2:Nat->Option Nat) (r':List ae):∀(l:List (Nat×Bool)) (i:Nat) (res:List ae) (x:Nat),(∀k:Nat,l[k]? ≠some (x,true))->(∀(k p:Nat) (o:Bool),l[k]? =some (p,o)->p<res.length)->aa (cK κ2 r' i l res) x=aa res x
 | [],_,_,_,_,_=>rfl
 | (p,o)::l,i,res,x,h,hb=>by
   have hl:∀k:Nat,l[k]? ≠some (x,true):=fun k=>by have:=h (k+1);simpa using this
   have hb':∀(k p:Nat) (o:Bool),l[k]? =some (p,o)->p<res.length:=fun k p o hk=>hb (k+1) p o (by simpa using hk)
   simp only[cK];split
   ·rename_i ho;subst ho;have hne:x≠p:=fun e=>h 0 (by simp[e])
    rw[fk κ2 r' l _ _ x hl (fun k p o hk=>by rw[aE];exact hb' k p o hk),aA _ _ _ _ (hb 0 p true (by simp)),JX hne]
   ·exact fk κ2 r' l _ _ x hl hb'
theorem jC (κ2:Nat->Option Nat) (r':List ae):∀(l:List (Nat×Bool)) (i:Nat) (res:List ae) (x k:Nat),l[k]? =some (x,true)->(cD l).Nodup->(∀(k p:Nat) (o:Bool),l[k]? =some (p,o)->p<res.length)->
  aa (cK κ2 r' i l res) x=dg κ2 (aa r' (i+k))
 | [],_,_,_,_,h,_,_=>by simp at h
 | (p,o)::l,i,res,x,k,h,hnd,hb=>by
   have hb':∀(k p:Nat) (o:Bool),l[k]? =some (p,o)->p<res.length:=fun k p o hk=>hb (k+1) p o (by simpa using hk)
   have hnd':=List.nodup_cons.1 (show(p::cD l).Nodup from hnd);simp only[cK];cases k with
   |zero=>
    simp at h;obtain⟨rfl,rfl⟩:=h;simp only[if_true,Nat.add_zero];rw[fk κ2 r' l _ _ p (fun k hk=>hnd'.1 (List.mem_of_getElem? (i:=k) (by rw[fW,hk];rfl))) (fun k p o hk=>by rw[aE];exact hb' k p o hk),aA _ _ _ _ (hb 0 p true (by simp)),JY rfl]
   |succ k=>
    have h:l[k]? =some (x,true):=by simpa using h
    split
    ·rw[jC κ2 r' l _ _ x k h hnd'.2 (fun k p o hk=>by rw[aE];exact hb' k p o hk)]
     congr 2;omega
    ·rw[jC κ2 r' l _ _ x k h hnd'.2 hb'];congr 2;omega
def Env.join (n:Nat) (ext:List Nat) (J ρ2:Env):Env:=
 {num:=fun i=>if i<n then J.num i else ρ2.num (ext.getD (i-n) 0),cap:=fun i=>if i<n then J.cap i else ρ2.cap (ext.getD (i-n) 0),adr:=fun i=>if i<n then J.adr i else ρ2.adr (ext.getD (i-n) 0),
  sa:=fun i=>if i<n then J.sa i else ρ2.sa (ext.getD (i-n) 0),sn:=fun i=>if i<n then J.sn i else ρ2.sn (ext.getD (i-n) 0),ob:=fun i=>if i<n then J.ob i else ρ2.ob (ext.getD (i-n) 0)}
section
variable {J:Env} {fps:Nat->Nat->Prop} {res:List ae} {w0 w:World} {F0:Nat->Prop}
theorem an.merge (h:an J fps res (known res) w0 F0 w) {pl:List (Nat×Bool)} (hk:dN res pl=true) (hnd:(cD pl).Nodup) {ρ2:Env} {fps2:Nat->Nat->Prop} {r':List ae} {w':World}
  (h2:an ρ2 fps2 r' (known r') w (Frame J fps pl) w') (hg:Good (J.pull (src 0 (cD pl))) (Sx.cX (jS 0 (cD pl)) res pl) ρ2 r') {ext:List Nat} (he:gJ pl.length r'.length ext=true)
  (ho1:∀(i p:Nat),pl[i]? =some (p,true)->ev (aa r' i)=true) (ho2:∀j,j∈ext->ev (aa r' j)=true):
  ∃ρ3 fps3,an ρ3 fps3 (Sx.merge pl ext r' res) (known (Sx.merge pl ext r' res)) w0 F0 w'/\Good J res ρ3 (Sx.merge pl ext r' res)/\Env.via (back pl ext res.length) ρ2 ρ3/\
   ∀j i,back pl ext res.length j=some i->known r' j->known (Sx.merge pl ext r' res) i:=by
 obtain⟨_,hkr,_,_⟩:=h.cX hk hnd;obtain⟨e1,e2⟩:=iW he;have hlt:∀(k p:Nat) (o:Bool),pl[k]? =some (p,o)->p<res.length:=fun k p o hp=>ai (bk hk k p o hp)
 have hpll:∀(k p:Nat) (o:Bool),pl[k]? =some (p,o)->k<pl.length:=fun k p o hp=>(List.getElem?_eq_some_iff.1 hp).1
 have huniq:∀i j p o o',pl[i]? =some (p,o)->pl[j]? =some (p,o')->i=j:=fun i j p o o' hi hj=>by
  have a:=s4 hnd (show(cD pl)[i]? =some p by rw[fW,hi];rfl)
  rw[s4 hnd (show(cD pl)[j]? =some p by rw[fW,hj];rfl)]at a
  simpa using a.symm
 have huniqE:∀(a b j:Nat),ext[a]? =some j->ext[b]? =some j->a=b:=fun a b j ha hb=>by
  have x:=gn ext 0 a e2 ha;rw[gn ext 0 b e2 hb]at x;simpa using x.symm
 have hback1:∀k p o,pl[k]? =some (p,o)->back pl ext res.length k=some p:=fun k p o hp=>by
  unfold back;rw[pt,hp];rfl
 have hback2:∀a j,ext[a]? =some j->back pl ext res.length j=some (res.length+a):=fun a j ha=>by
  unfold back;have:=(e1 j (List.mem_of_getElem? ha)).1;rw[pt,List.getElem?_eq_none this];exact gn ext _ a e2 ha
 have hbackS:∀j i,back pl ext res.length j=some i->(∃o,pl[j]? =some (i,o))\/(∃a,ext[a]? =some j/\i=res.length+a):=fun j i hj=>by
  unfold back at hj;rw[pt]at hj;cases hp:pl[j]? with
  |some po=>rw[hp]at hj;simp at hj;exact .inl ⟨po.2,by rw[<-hj]⟩
  |none=>
   rw[hp]at hj;simp at hj;obtain⟨a1,a2,a3⟩:=di hj;exact .inr ⟨i-res.length,a3,by omega⟩
 have hget:∀i,aa (Sx.merge pl ext r' res) i=if i<res.length then aa (cK (back pl ext res.length) r' 0 pl res) i else match ext[i-res.length]? with|some j=>dg (back pl ext res.length) (aa r' j)|none=> .yet:=fun i=>by
  unfold Sx.merge;rw[aH,gd];by_cases hi:i<res.length
  ·rw[JY hi,JY hi]
  ·grind[ki]
 have hown:∀k p,pl[k]? =some (p,true)->aa (Sx.merge pl ext r' res) p=dg (back pl ext res.length) (aa r' k):=fun k p hp=>by
  rw[hget,JY (hlt k p true hp),jC _ r' pl 0 res p k hp hnd hlt,Nat.zero_add]
 have hother:∀i,i<res.length->(∀k,pl[k]? ≠some (i,true))->aa (Sx.merge pl ext r' res) i=aa res i:=fun i hi hno=>by
  rw[hget,JY hi,fk _ r' pl 0 res i hno hlt]
 have hext:∀a j,ext[a]? =some j->aa (Sx.merge pl ext r' res) (res.length+a)=dg (back pl ext res.length) (aa r' j):=fun a j ha=>by
  grind
 have hkr':∀k p o,pl[k]? =some (p,o)->known r' k:=fun k p o hp=>hg.2 k (hkr k (hpll k p o hp))
 have hN:∀j i,back pl ext res.length j=some i->known r' j->known (Sx.merge pl ext r' res) i:=fun j i hj hkj=>by
  rcases hbackS j i hj with⟨o,hp⟩|⟨a,ha,rfl⟩
  ·by_cases hT:∃k:Nat,pl[k]? =some (i,true)
   ·obtain⟨k,hk'⟩:=hT;unfold known;rw[hown k i hk'];exact fun e=>hkr' k i true hk' (fu.1 e)
   ·unfold known;rw[hother i (hlt j i o hp) fun k hk'=>hT ⟨k,hk'⟩]
    exact bk hk j i o hp
  ·unfold known;rw[hext a j ha];exact fun e=>hkj (fu.1 e)
 have hmono:∀i,known res i->known (Sx.merge pl ext r' res) i:=fun i hi=>by
  grind[known,ai]
 have hag:Env.agree (known res) J (Env.join res.length ext J ρ2):=fun i hi=>by
  have:=ai hi;simp[Env.join,this]
 have hvia:Env.via (back pl ext res.length) ρ2 (Env.join res.length ext J ρ2):=fun j i hj=>by
  rcases hbackS j i hj with⟨o,hp⟩|⟨a,ha,rfl⟩
  ·have hil:=hlt j i o hp;have hj':=hg.1 j (hkr j (hpll j i o hp))
   have hsrc:src 0 (cD pl) j=i:=by
    grind[src,fW]
   simp only[Env.pull,hsrc]at hj';obtain⟨a1,a2,a3,a4,a5,a6⟩:=hj';simp[Env.join,hil,a1,a2,a3,a4,a5,a6]
  ·grind[Env.join]
 obtain⟨fps3,g⟩:=h.turn (res':=Sx.merge pl ext r' res) (K':=known (Sx.merge pl ext r' res)) (fun i=>∃k:Nat,pl[k]? =some (i,true)) (fun i=>(∃k:Nat,pl[k]? =some (i,true))\/res.length<=i)
  (fun i b=>(∃k:Nat,pl[k]? =some (i,true)/\fps2 k b)\/(res.length<=i/\∃j,ext[i-res.length]? =some j/\known r' j/\fps2 j b))
  (fun i hi=>hi) hmono hag
  (fun i hi hb=>by
   have hlt':i<res.length:=by
    rcases Nat.lt_or_ge i res.length with h|h
    ·exact h
    ·exact absurd (.inr h) hb
   have e:=hother i hlt' fun k hk'=>hb (.inl ⟨k,hk'⟩)
   exact⟨by unfold known at hi⊢;rw[e]at hi;exact hi,fun hT=>hb (.inl hT),e⟩)
  (fun i hi hb=>by
   have hfoot:∀k b,known r' k->fps2 k b->(∃t,(∃k:Nat,pl[k]? =some (t,true))/\known res t/\fps t b)\/(w.heap.size<=b/\b<w'.heap.size):=fun k b hk' hf=>by
    by_cases hbw:b<w.heap.size
    ·obtain⟨x,p,hp,hfp⟩:=h2.inF k b hk' hf hbw;exact .inl ⟨p,⟨x,hp⟩,bk hk x p true hp,hfp⟩
    ·exact .inr ⟨by omega,h2.lt k b hk' hf⟩
   by_cases hT:∃k:Nat,pl[k]? =some (i,true)
   ·obtain⟨k,hp⟩:=hT;have hkk:=hkr' k i true hp;have hil:=hlt k i true hp
    have e:(fun b=>(∃k:Nat,pl[k]? =some (i,true)/\fps2 k b)\/(res.length<=i/\∃j,ext[i-res.length]? =some j/\known r' j/\fps2 j b))=fps2 k:=by
     funext b
     apply propext
     constructor
     ·rintro(⟨k',hp',hf⟩|⟨hge,_⟩)
      ·rw[huniq k k' i true true hp hp'];exact hf
      ·omega
     ·exact fun hf=> .inl ⟨k,hp,hf⟩
    refine⟨?_,fun b hf=>hfoot k b hkk (by rw[<-e];exact hf)⟩
    rw[e,hown k i hp];exact dC hvia hN (hback1 k i true hp) _ _ _ (eX (ho1 k i hp) (h2.holds k hkk))
   ·have hge:res.length<=i:=hb.resolve_left hT
    have hj:∃j,ext[i-res.length]? =some j:=by
     unfold known at hi;rw[hget,JX (by omega)]at hi
     cases hx:ext[i-res.length]? with
     |none=>rw[hx]at hi;exact absurd rfl hi
     |some j=>exact⟨j,rfl⟩
    obtain⟨j,hj⟩:=hj
    have hkj:known r' j:=by
     unfold known at hi;rw[hget,JX (by omega),hj]at hi
     exact fun e=>hi (fu.2 e)
    have e:(fun b=>(∃k:Nat,pl[k]? =some (i,true)/\fps2 k b)\/(res.length<=i/\∃j,ext[i-res.length]? =some j/\known r' j/\fps2 j b))=fps2 j:=by
     grind
    refine⟨?_,fun b hf=>hfoot j b hkj (by rw[<-e];exact hf)⟩
    have hie:i=res.length+(i-res.length):=by omega
    have hb2:=hback2 _ j hj;rw[<-hie]at hb2;have hx:=hext _ j hj;rw[<-hie]at hx;rw[e,hx];exact dC hvia hN hb2 _ _ _ (eX (ho2 j (List.mem_of_getElem? hj)) (h2.holds j hkj)))
  (fun i j b hbi hbj hne hf hf'=>by
   have sel:∀x,((∃k:Nat,pl[k]? =some (x,true)/\fps2 k b)\/(res.length<=x/\∃j,ext[x-res.length]? =some j/\known r' j/\fps2 j b))->∃k,known r' k/\fps2 k b/\((pl[k]? =some (x,true))\/(res.length<=x/\ext[x-res.length]? =some k)):=by
    rintro x (⟨k,hp,hf⟩|⟨hge,j,hj,hkj,hf⟩)
    ·exact⟨k,hkr' k x true hp,hf,.inl hp⟩
    ·exact⟨j,hkj,hf,.inr ⟨hge,hj⟩⟩
   obtain⟨k,k1,k2,k3⟩:=sel i hf;obtain⟨l,l1,l2,l3⟩:=sel j hf';refine h2.disj k l b k1 l1 (fun e=>hne ?_) k2 l2
   subst e;rcases k3 with k3|⟨k3,k4⟩<;>rcases l3 with l3|⟨l3,l4⟩
   ·rw[k3]at l3;simp at l3;exact l3
   ·grind
   ·have:=(e1 k (List.mem_of_getElem? k4)).1;have:=hpll k j true l3;omega
   ·have:=huniqE _ _ _ k4 l4;omega)
  h2.os h2.tape h2.output h2.old
  (fun b hb hno=>h2.same b hb fun⟨i,p,hp,hf⟩=>hno p ⟨i,hp⟩ (bk hk i p true hp) hf)
 exact⟨_,fps3,g,⟨hag,hmono⟩,hvia,hN⟩
end
end
end Go.Sx
namespace Go.Sx
open Go.RowKit (Below)
def iH (r':List ae):Nat->List (Nat×Bool)->Bool
 |_,[]=>true
 |i,(_,o)::l=>(if o then ev (aa r' i)else true)&&iH r' (i+1) l
theorem oy {r':List ae}:∀{l:List (Nat×Bool)} {i:Nat},iH r' i l=true->∀k p:Nat,l[k]? =some (p,true)->ev (aa r' (i+k))=true
 | [],i,_,k,p,h=>by simp at h
 | (x,o)::l,i,ha,k,p,h=>by
   simp only[iH,JR]at ha;cases k with
   |zero=>simp at h;obtain⟨_,rfl⟩:=h;simpa using ha.1
   |succ k=>
    have:=oy ha.2 k p (by simpa using h)
    rwa [show i+(k+1)=i+1+k by omega]
def kL (r':List ae):List Nat->Bool
 | []=>true
 |j::l=>ev (aa r' j)&&kL r' l
theorem mw {r':List ae}:∀{l:List Nat},kL r' l=true->∀j∈l,ev (aa r' j)=true
 | [],_,j,h=>by simp at h
 |x::l,ha,j,h=>by
  simp only[kL,JR]at ha;rcases List.mem_cons.1 h with rfl|h
  ·exact ha.1
  ·exact mw ha.2 j h
def gK (κ:Nat->Option Nat) (v v3:V):Prop:=∀(ρ2 ρ3:Env) (N N':Nat->Prop),Env.via κ ρ2 ρ3->(∀j i,κ j=some i->N j->N' i)->ok N v->den ρ3 v3=den ρ2 v/\ok N' v3
theorem gK.gy {κ:Nat->Option Nat} {v x:V} (h:sk x v []) (hx:Sx.gy x=true):gK κ v x:=fun ρ2 ρ3 N N' _ _ hv=>by
 obtain⟨s1,s2,_⟩:=h ρ2 N;exact⟨by rw[s1];exact kR hx (s2 hv) ρ2 ρ3,iR x hx (s2 hv)⟩
def E9 (pl:List (Nat×Bool)) (res:List ae) (v:V) (r':List ae) (K:V->List ae->Prop):Prop:=
 ∃(ext:List Nat) (v3:V),gJ pl.length r'.length ext=true/\iH r' 0 pl=true/\kL r' ext=true/\gK (back pl ext res.length) v v3/\K v3 (merge pl ext r' res)
section
variable {P:Program}
theorem ah.frame {f:Nat} {args args0:List V} {res:List ae} {pl:List (Nat×Bool)} {K0 KP0 K KP:V->List ae->Prop} (hk:dN res pl=true) (hnd:gJ 0 res.length (cD pl)=true)
  (ha:cG (jS 0 (cD pl)) args=some args0) (hc:ah P f args0 (cX (jS 0 (cD pl)) res pl) K0 KP0)
  (hK:∀v r',K0 v r'->E9 pl res v r' K) (hKP:∀v r',KP0 v r'->E9 pl res v r' KP):ah P f args res K KP:=by
 intro J fps w0 F0 w hH hargs;have hnd:=(iW hnd).2;obtain⟨g1,g2,g3,g4⟩:=hH.cX hk hnd;obtain⟨a1,_,a3,_⟩:=dc g3 g4 _ _ ha;rw[<-a1];refine(hc _ _ _ _ _ g1 (a3 hargs)).mono fun e w' ⟨x,ρ2,fps2,r',h1,h2,h3,h4⟩=>?_
 have fin:∀{K:V->List ae->Prop},E9 pl res x r' K->∃x' ρ' fps' res',an ρ' fps' res' (known res') w0 F0 w'/\Good J res ρ' res'/\ok (known res') x'/\den ρ' x'=den ρ2 x/\K x' res':=by
  rintro K ⟨ext,v3,b1,b2,b3,b4,b5⟩
  obtain⟨ρ3,fps3,m1,m2,m3,m4⟩:=hH.merge hk hnd h1 h2 b1 (fun i p hp=>by have:=oy b2 i p hp;rwa [Nat.zero_add]at this) (mw b3)
  obtain⟨c1,c2⟩:=b4 ρ2 ρ3 _ _ m3 m4 h3;exact⟨v3,ρ3,fps3,_,m1,m2,c2,c1,b5⟩
 rcases h4 with⟨rfl,h4⟩|⟨rfl,h4⟩
 ·grind
 ·grind
def kO:ae->Bool
 | .store _ _ _=>true
 | .arr _ _ _=>true
 |_=>false
theorem mU {κ:Nat->Option Nat} {r:ae} (h:kO r=true):dg κ r=r:=by
 cases r<;>first|rfl|simp[kO]at h
def kX (res:List ae) (p:Nat) (r:ae):Prop:=known res p/\∀J fps K w0 F0 w,an J fps res K w0 F0 w->
 ∃fp:Nat->Prop,r.holds K J p fp w0 F0 w/\∀b,fp b->(∃i,known res i/\fps i b)\/(b<w0.heap.size/\¬F0 b)
theorem kX.look {res:List ae} {p:Nat} {r:ae} (h:aW res p=r) (hne:r≠ .yet):kX res p r:=by
 have hk:=bR h hne;refine⟨hk,fun J fps K w0 F0 w hH=>?_⟩
 obtain⟨fp,g1,g2⟩:=hH.sw h hk;exact⟨fp,g1,fun b hb=>(g2 b hb).elim (fun h=> .inl ⟨p,hk,h⟩) .inr⟩
def nT:List (Nat×ae)->List ae
 | []=> []
 | (_,r)::l=> .ro r::nT l
theorem pd:∀(l:List (Nat×ae)) (i:Nat),aa (nT l) i=match l[i]? with|some p=> .ro p.2|none=> .yet
 | [],i=>by simp[nT,aa]
 | (p,r)::l,0=>by simp[nT,aa]
 | (p,r)::l,i+1=>by simp[nT,aa,pd l i]
theorem lC:∀l:List (Nat×ae),(nT l).length=l.length
 | []=>rfl
 | (p,r)::l=>by simp[nT,lC l]
def mo:List (Nat×ae)->Nat->Nat
 | [],_=>0
 | (p,_)::_,0=>p
 |_::l,i+1=>mo l i
theorem mf:∀(l:List (Nat×ae)) (i:Nat) (p:Nat×ae),l[i]? =some p->mo l i=p.1
 | [],i,p,h=>by simp at h
 | (x,r)::l,0,p,h=>by simp at h;subst h;rfl
 | (x,r)::l,i+1,p,h=>by simp only[mo];exact mf l i p (by simpa using h)
theorem xT {f:Nat} {g:Ct} (h:∀res nid args q x new,g res nid args=some (q,x,new)->new= []/\gy x=true/\
  ∃(pls:List (Nat×ae)) (args0:List V),(∀p∈pls,kX res p.1 p.2/\kO p.2=true)/\(∀(J:Env) K,bH K args->aw (J.pull (mo pls)) args0=aw J args)/\(∀K,bH K args->bH (known (nT pls)) args0)/\
   (aN q->bH (known (nT pls)) args0->ah P f args0 (nT pls) (sk x) (fun _ _=>False))):cQ P f g:=by
 intro J fps res K w0 F0 w nid args q x new hH hargs hg hq hfr;obtain⟨rfl,hid,pls,args0,hcl,hden,hok,hc⟩:=h res nid args q x new hg;refine⟨?_,fun k hk=>by simp at hk⟩
 have hfr:∀b,b<w0.heap.size->¬F0 b->w.heap[b]? =w0.heap[b]? /\¬(fun _:Nat=>False) b:=fun b hb hF=>⟨hH.same b hb hF,fun h=>h⟩
 have hrep:an (J.pull (mo pls)) (fun _ _=>False) (nT pls) (known (nT pls)) w (fun _=>False) w:=by
  refine⟨fun i hi=>hi,Nat.le_refl _,rfl,rfl,rfl,fun i hi=>?_,fun i b hi h=>h.elim,fun i j b hi hj hne h=>h.elim,fun i b hi h=>h.elim,fun _ _ _=>rfl⟩
  have hlt:=ai hi;rw[lC]at hlt;have hp:pls[i]? =some pls[i]:=List.getElem?_eq_getElem hlt;generalize pls[i]=p at hp
  rw[pd,hp];simp only;obtain⟨hs,hcl⟩:=hcl p (List.mem_of_getElem? hp);obtain⟨fp,g1,g2⟩:=hs.2 J fps K w0 F0 w hH
  have hv:Env.via (fun x=>if x=p.1 then some i else none) J (J.pull (mo pls)):=mX fun x j hx=>by
   split at hx
   ·simp only[JP]at hx;subst hx;rename_i e;subst e;exact mf pls i p hp
   ·simp at hx
  have:=dC (N':=known (nT pls)) hv (fun x j hx _=>by
   split at hx
   ·simp only[JP]at hx;subst hx;exact hi
   ·simp at hx) (p:=p.1) (i:=i) (by simp) _ _ _ (ae.nO hH.old hfr _ _ g1)
  rw[mU hcl]at this;refine⟨fp,this,fun b hb=>⟨?_,fun h=>h⟩⟩
  rcases g2 b hb with⟨j,hj,hf⟩|⟨hl,_⟩
  ·exact hH.lt j b hj hf
  ·exact Nat.lt_of_lt_of_le hl hH.old
 have hok0:=hok K hargs;rw[<-hden J K hargs];refine(hc hq hok0 _ _ _ _ _ hrep hok0).mono fun e w' ⟨y,ρ',fps',res',g1,g2,g3,g4⟩=>?_
 rcases g4 with⟨rfl,hK⟩|⟨_,hK⟩
 ·refine⟨_,rfl,J,?_,?_,?_⟩
  ·exact⟨⟨g1.os,g1.tape,g1.output,g1.old,fun b hb=>g1.same b hb (fun h=>h)⟩,Env.agree.refl _ _,fun _ _=>False,fun k hk=>by simp at hk,fun k l b hk=>by simp at hk⟩
  ·obtain⟨e1,e2,_⟩:=hK ρ' (known res');rw[e1];exact kR hid (e2 g3) J ρ'
  ·obtain⟨e1,e2,_⟩:=hK ρ' (known res');exact iR x hid (e2 g3)
 ·exact hK.elim
theorem ah.oS {f:Nat} {args:List V} {res res1:List ae} {K KP:V->List ae->Prop} (h:ah P f args res1 K KP)
  (ho:∀J fps w0 F0 w,an J fps res (known res) w0 F0 w->∃ρ' fps',an ρ' fps' res1 (known res1) w0 F0 w/\Good J res ρ' res1):ah P f args res K KP:=by
 intro J fps w0 F0 w hH hargs;obtain⟨ρ',fps',h1,h2⟩:=ho J fps w0 F0 w hH;rw[<-bL h2.1 args hargs];refine(h ρ' fps' w0 F0 w h1 (aM h2.2 _ hargs)).mono fun e w' ⟨x,ρ2,fps2,r',g1,g2,g3,g4⟩=>⟨x,ρ2,fps2,r',g1,h2.trans g2,g3,g4⟩
theorem ah.eo {f:Nat} {args:List V} {res:List ae} {k t e:Nat} {L:List Obj} {K KP:V->List ae->Prop} (hr:aa res k= .store t e L) (h:ah P f args (eo res k t e L) K KP):ah P f args res K KP:=
 h.oS fun _ _ _ _ _ hH=>rX hr hH
theorem ah.cz {f:Nat} {args:List V} {res:List ae} {k t e:Nat} {L:List Obj} {K KP:V->List ae->Prop} (hr:aa res k= .ro (.store t e L)) (h:ah P f args (cz res k t e L) K KP):ah P f args res K KP:=
 h.oS fun _ _ _ _ _ hH=>pA hr hH
theorem ah.shut {f:Nat} {args:List V} {res:List ae} {K0 KP K:V->List ae->Prop} (h:ah P f args res K0 KP) (hK:∀v r,K0 v r->K v r\/∃k r',oA r k=some r'/\K v r'):ah P f args res K KP:=by
 intro J fps w0 F0 w hH hargs;refine(h J fps w0 F0 w hH hargs).mono fun e w' ⟨x,ρ2,fps2,r',g1,g2,g3,g4⟩=>?_
 rcases g4 with⟨rfl,hk⟩|g4
 ·rcases hK _ _ hk with hk|⟨k,r2,s1,s2⟩
  ·exact⟨x,ρ2,fps2,r',g1,g2,g3,.inl ⟨rfl,hk⟩⟩
  ·obtain⟨fps3,m1,m2⟩:=rm s1 g1;exact⟨x,ρ2,fps3,r2,m1,⟨g2.1,fun i hi=>m2 i (g2.2 i hi)⟩,aU m2 _ g3,.inl ⟨rfl,s2⟩⟩
 ·exact⟨x,ρ2,fps2,r',g1,g2,g3,.inr g4⟩
theorem ah.rk {f:Nat} {args:List V} {res res':List ae} {k:Nat} {K KP:V->List ae->Prop} (hr:Sx.rk res k=some res') (h:ah P f args res' K KP):ah P f args res K KP:=
 h.oS fun _ _ _ _ _ hH=>sr hr hH
theorem ah.oC {f:Nat} {args:List V} {res:List ae} {k e:Nat} {K0 KP K:V->List ae->Prop} (h:ah P f args res K0 KP) (hK:∀v r,K0 v r->∃r',Sx.oC r k e=some r'/\K v r'):ah P f args res K KP:=by
 intro J fps w0 F0 w hH hargs;refine(h J fps w0 F0 w hH hargs).mono fun e' w' ⟨x,ρ2,fps2,r',g1,g2,g3,g4⟩=>?_
 rcases g4 with⟨rfl,hk⟩|g4
 ·obtain⟨r2,s1,s2⟩:=hK _ _ hk;obtain⟨fps3,m1,m2⟩:=rZ s1 g1;exact⟨x,ρ2,fps3,r2,m1,⟨g2.1,fun i hi=>m2 i (g2.2 i hi)⟩,aU m2 _ g3,.inl ⟨rfl,s2⟩⟩
 ·exact⟨x,ρ2,fps2,r',g1,g2,g3,.inr g4⟩
end
end Go.Sx
namespace Go.Sx
open Go.RowKit (Below)
section
variable {P:Program}
theorem ah.fact {f:Nat} {args:List V} {res:List ae} {K KP:V->List ae->Prop} {k t e:Nat} {L:List Obj} (hr:aW res k= .store t e L)
  (h:(∀o∈L,o.wf)->L.length<=9223372036854775807->ah P f args res K KP):ah P f args res K KP:=by
 intro J fps w0 F0 w hH hargs;obtain⟨fp,hh,_⟩:=hH.look hr (by simp)
 obtain⟨_,h1,h2,_⟩:=hh;exact h h1 h2 J fps w0 F0 w hH hargs
theorem ah.Hg {f:Nat} {args:List V} {res:List ae} {K KP:V->List ae->Prop} {k esz:Nat} {own:Option Nat} {L:List Obj} (hr:aW res k= .arr own esz (.ob L))
  (h:(∀o∈L,o.wf)->L.length<=9223372036854775807->ah P f args res K KP):ah P f args res K KP:=by
 intro J fps w0 F0 w hH hargs;obtain⟨fp,hh,_⟩:=hH.look hr (by simp)
 obtain⟨h1,_,h2,_⟩:=hh;refine h (fun o ho=>?_) h2 J fps w0 F0 w hH hargs
 obtain⟨i,hi,rfl⟩:=List.getElem_of_mem ho;have:=(h1 i hi).1;simpa[TL.get,aB,JW,hi,ok]using this
theorem kX.open {res:List ae} {p j t e q:Nat} {L:List Obj} (hp:aW res p= .blk t (.ag [.sa j])) (hj:aW res j= .obs e q L) (hte:t≠e):kX res p (.store t e L):=by
 have hkp:=bR hp (by simp)
 have hkj:=bR hj (by simp)
 refine⟨hkp,fun J fps K w0 F0 w hH=>?_⟩
 obtain⟨fp1,⟨_,_,b3,b4⟩,g1⟩:=hH.sw hp hkp;obtain⟨fp2,⟨_,c1,c2,c3,c4,c5,c6,c7⟩,g2⟩:=hH.sw hj hkj
 have b4':w.heap[J.num p]? =some (.cells #[J.sl j] t (0,0)):=by
  rw[b4];have:den J (.sa j)=J.sl j:=rfl;simp[aX,aq,this,Env.sl,Value.cells]
 refine⟨fun b=>fp1 b\/fp2 b,⟨.inl b3,c1,c3,J.sl j,J.ob q,b4',c6,fun b hb=>?_,fun x hx=>?_⟩,fun b hb=>?_⟩
 ·have hb':=hb;cases ha:J.sa j with
  |none=>simp[Env.sl,ha,Value.ownBlock]at hb
  |some a=>
   simp only[Env.sl,ha,Value.ownBlock,JP]at hb;subst hb;refine⟨.inr (c4 a ha).2,fun e'=>?_⟩
   rcases c6.2 with⟨hh,_⟩|⟨g,cap,cur,hh,_,h3,_⟩
   ·simp[Env.sl,ha]at hh
   ·rw[hh]at hb';simp only[Value.ownBlock,JP]at hb';rw[hb',e',b4']at h3;simp only[JP,Go.Obj.cells.injEq]at h3;exact hte h3.2.1
 ·grind[gw]
 ·grind
theorem kX.zero {res:List ae} {p t e:Nat} (hp:aW res p= .blk t (.ag [.nl (.slice none 0 0)])):kX res p (.store t e []):=by
 have hkp:=bR hp (by simp)
 refine⟨hkp,fun J fps K w0 F0 w hH=>?_⟩
 obtain⟨fp1,⟨_,_,b3,b4⟩,g1⟩:=hH.sw hp hkp;refine⟨fp1,⟨b3,by simp,by simp,.slice none 0 0,fun _=>0,?_,World.ownsRow_nil w 0 e 1,fun b hb=>by simp[Value.ownBlock]at hb,fun x hx=>by simp at hx⟩,fun b hb=>(g1 b hb).elim (fun h=> .inl ⟨p,hkp,h⟩) .inr⟩
 rw[b4];simp[aX,aq,den,Value.cells]
def rS (t e:Nat) (res:List ae) (v:V):Option (Option Nat×List Obj):=
 match v with
 | .nl v=>match v with
   | .pointer p=>match p with
     |none=>some (none,[])
     |some _=>none
   |_=>none
 | .lp k off=>if off==0 then match aW res k with
   | .store t' e' L=>if t'==t&&e'==e then some (some k,L)else none
   | .blk t' c=>if t'==t&& !(t==e)then match c with
     | .ag l=>match l with
       | [x]=>match x with
         | .sa j=>match aW res j with
           | .obs e' _ L=>if e'==e then some (some k,L)else none
           |_=>none
         | .nl v=>match v with
           | .slice none 0 0=>some (some k,[])
           |_=>none
         |_=>none
       |_=>none
     |_=>none
     else none
   |_=>none
   else none
 |_=>none
theorem tj {t e:Nat} {res:List ae} {v:V} {o:Option Nat} {L:List Obj} (h:rS t e res v=some (o,L)):(o=none/\L= []/\v= .nl (.pointer none))\/∃k,o=some k/\v= .lp k 0/\kX res k (.store t e L):=by
 unfold rS at h;split at h
 ·grind
 ·rename_i k off;split at h
  ·rename_i ho;have ho:=JT.1 ho;subst ho;split at h
   ·grind[kX.look]
   ·grind[kX.open,kX.zero]
   ·simp at h
  ·simp at h
 ·simp at h
def tx:V:= .nl (.pointer none)
def Gw (t e:Nat) (F:List Obj->V):Ct:=fun res _ xs=>match xs with
 | [a]=>match rS t e res a with
   |some (_,L)=>some (none,F L,[])
   |none=>none
 |_=>none
def yV {α:Type} (t e:Nat) (r:V->Option α) (F:List Obj->α->V):Ct:=fun res _ xs=>match xs with
 | [a,b]=>match rS t e res a with
   |some (_,L)=>match r b with
    |some x=>some (none,F L x,[])
    |none=>none
   |none=>none
 |_=>none
theorem B3 {f t e:Nat} {F:List Obj->V} (hF:∀L,gy (F L)=true) (h0:ah P f [tx] [] (sq (F [])) (fun _ _=>False))
  (h1:∀L,(∀o∈L,o.wf)->L.length<=9223372036854775807->ah P f [.lp 0 0] [.ro (.blk t (.ag [.sa 1])),.ro (.obs e 2 L),.gen 1] (sq (F L)) (fun _ _=>False)):cQ P f (Gw t e F):=by
 refine xT fun res nid args q x new hg=>?_
 unfold Gw at hg;split at hg<;>(try split at hg)<;>simp only[JP,JQ,reduceCtorEq]at hg
 rename_i a o L hr;obtain⟨rfl,rfl,rfl⟩:=hg;rcases tj hr with⟨rfl,rfl,rfl⟩|⟨k,rfl,rfl,hs⟩
 ·exact⟨rfl,hF [],[],[tx],by simp,fun J _ _=>rfl,fun K hK=>⟨hK.1,trivial⟩,fun _ _=>h0.mono (fun _ _=>cI) fun _ _ h=>h⟩
 ·refine⟨rfl,hF L,[(k,.store t e L)],[.lp 0 0],by simpa using⟨hs,rfl⟩,fun J _ _=>rfl,fun K hK=>⟨by simp[ok,known,nT,aa],trivial⟩,fun _ _=>?_⟩
  exact ah.fact (k:=0) rfl fun w1 w2=>(ah.cz (res:=nT [(k,.store t e L)]) (k:=0) rfl (h1 L w1 w2)).mono (fun _ _=>cI) fun _ _ h=>h
theorem oY {f t e:Nat} {α:Type} {r:V->Option α} {m:α->V} {F:List Obj->α->V} (hr:ny r m) (hF:∀L x,gy (F L x)=true)
  (h0:∀x,ok (fun _=>False) (m x)->ah P f [tx,m x] [] (sq (F [] x)) (fun _ _=>False))
  (h1:∀L x,(∀o∈L,o.wf)->L.length<=9223372036854775807->ok (fun _=>False) (m x)->ah P f [.lp 0 0,m x] [.ro (.blk t (.ag [.sa 1])),.ro (.obs e 2 L),.gen 1] (sq (F L x)) (fun _ _=>False))
  (hid:∀x,gy (m x)=true):cQ P f (yV t e r F):=by
 refine xT fun res nid args q x new hg=>?_
 unfold yV at hg;split at hg<;>(try split at hg)<;>(try split at hg)<;>simp only[JP,JQ,reduceCtorEq]at hg
 rename_i a b _ o L hs _ x hb;obtain⟨rfl,rfl,rfl⟩:=hg;obtain⟨b1,b2⟩:=hr _ x hb;have hde:∀J ρ':Env,∀K,ok K b->den ρ' (m x)=den J b:=fun J ρ' K hk=>by rw[b1 J];exact kR (hid x) (b2 K hk) J ρ'
 rcases tj hs with⟨rfl,rfl,rfl⟩|⟨k,rfl,rfl,hse⟩
 ·refine⟨rfl,hF [] x,[],[tx,m x],by simp,fun J K hK=>?_,fun K hK=>⟨hK.1,ca (b2 K hK.2.1),trivial⟩,fun _ hok=>?_⟩
  ·simp only[aw,hde J (J.pull (mo [])) K hK.2.1];rfl
  ·exact(h0 x (iR _ (hid x) hok.2.1)).mono (fun _ _=>cI) fun _ _ h=>h
 ·refine⟨rfl,hF L x,[(k,.store t e L)],[.lp 0 0,m x],by simpa using⟨hse,rfl⟩,fun J K hK=>?_,fun K hK=>⟨by simp[ok,known,nT,aa],ca (b2 K hK.2.1),trivial⟩,fun _ hok=>?_⟩
  ·simp only[aw,hde J (J.pull (mo [(k,.store t e L)])) K hK.2.1];rfl
  ·exact ah.fact (k:=0) rfl fun w1 w2=>(ah.cz (res:=nT [(k,.store t e L)]) (k:=0) rfl (h1 L x w1 w2 (iR _ (hid x) hok.2.1))).mono (fun _ _=>cI) fun _ _ h=>h
theorem kX.arr {res:List ae} {p esz:Nat} {own:Option Nat} {l:TL} (h:aW res p= .arr own esz l):kX res p (.arr none esz l):=by
 have hk:=bR h (by simp)
 refine⟨hk,fun J fps K w0 F0 w hH=>?_⟩
 obtain⟨fp,⟨h1,h2,h3,h4,h5,h6,h7⟩,g2⟩:=hH.sw h hk;refine⟨fp,⟨h1,h2,h3,h4,h5,h6,?_⟩,fun b hb=>(g2 b hb).elim (fun h=> .inl ⟨p,hk,h⟩) .inr⟩
 rcases h7 with⟨e,h7⟩|⟨e,e1,e2⟩
 ·exact .inl ⟨rfl,h7⟩
 ·exact .inr ⟨e,by simp,e2⟩
end
end Go.Sx
namespace Go.Sx
open Go.RowKit (Below)
abbrev oR:=List V->List ae->(V->List ae->Prop)->Prop
def qX (P:Program) (f:Nat) (h:oR):Prop:=∀args res K KP,h args res K->ah P f args res K KP
def x6:List (Nat×oR)->Handler
 | [],_,_,_,_,_=>False
 | (g,h)::l,f,args,res,K,KP=>if f==g then h args res K else x6 l f args res K KP
theorem u9 {P:Program}:∀{l:List (Nat×oR)},(∀p∈l,qX P p.1 p.2)->Handler.OK P (x6 l)
 | [],_,f,args,res,K,KP,h=>h.elim
 | (g,x)::l,hl,f,args,res,K,KP,h=>by
   simp only[x6]at h;split at h
   ·rename_i e;have e:=JT.1 e;subst e;exact hl (f,x) (by simp) args res K KP h
   ·exact u9 (fun p hp=>hl p (by simp[hp])) f args res K KP h
theorem dR {P:Program}:∀p∈([]:List (Nat×oR)),qX P p.1 p.2:=by simp
theorem bI {P:Program} {f:Nat} {g:oR} {l:List (Nat×oR)} (h:qX P f g) (t:∀p∈l,qX P p.1 p.2):∀p∈(f,g)::l,qX P p.1 p.2:=by
 simp_all
theorem AS {κ:Nat->Option Nat}:∀v,gy v=true->cW κ v=some v:=by
 intro v
 exact V.rec (motive_1:=fun v=>gy v=true->cW κ v=some v) (motive_2:=fun l=>ij l=true->cG κ l=some l)
  (fun b _=>rfl) (fun b _=>rfl) (fun k n _=>rfl) (fun k n _=>rfl) (fun b _=>rfl) (fun s _=>rfl) (fun v _=>rfl) (fun _ _ h=>by simp[gy]at h) (fun _ _ _ _ _ _ h=>by simp[gy]at h)
  (fun _ _ _ h=>by simp[gy]at h) (fun _ _ h=>by simp[gy]at h) (fun _ _ _ _ h=>by simp[gy]at h) (fun _ h=>by simp[gy]at h) (fun _ _ h=>by simp[gy]at h) (fun _ h=>by simp[gy]at h)
  (fun f l ih h=>by simp only[cW];rw[ih h]) (fun t x ih h=>by simp only[cW];rw[ih h]) (fun l ih h=>by simp only[cW];rw[ih h]) (fun l ih h=>by simp only[cW];rw[ih h])
  (fun _ _=>rfl) (fun _ _=>rfl) (fun _ _=>rfl) (fun _ _=>rfl) (fun _ h=>by simp[gy]at h) (fun _ _ _ _ _ _ h=>by simp[gy]at h) (fun _ _ _ _ _ _ _ _ h=>by simp[gy]at h) (fun _ _ _ _ h=>by simp[gy]at h) (fun _ _ _ _ _ _ h=>by simp[gy]at h) (fun _ _ _ _ h=>by simp[gy]at h) (fun _=>rfl)
  (fun x l ih1 ih2 h=>by simp only[ij,JR]at h;simp only[cG];rw[ih1 h.1];simp only;rw[ih2 h.2]) v
theorem ey {κ:Nat->Option Nat}:∀l,ij l=true->cG κ l=some l
 | [],_=>rfl
 |x::l,h=>by
  simp_all[ij,cG,AS,ey]
def ft (l m:List V):Prop:=∀(J:Env) K,bH K l->aw J l=aw J m/\bH K m
theorem ft.nil:ft [] []:=fun _ _ _=>⟨rfl,trivial⟩
theorem ft.k7 {x:V} {l m:List V} (h:ft l m):ft (x::l) (x::m):=fun J K hk=>⟨by simp only[aw,(h J K hk.2).1],hk.1,(h J K hk.2).2⟩
theorem ft.rd {α:Type} {r:V->Option α} {f:α->V} (hr:ny r f) {a:V} {x:α} (hx:r a=some x) {l m:List V} (h:ft l m):ft (a::l) (f x::m):=fun J K hk=>by
 obtain⟨a1,a2⟩:=hr a x hx;exact⟨by simp only[aw,(h J K hk.2).1,a1],ca (a2 K hk.1),(h J K hk.2).2⟩
section
variable {P:Program}
theorem ah.args {f:Nat} {args args':List V} {res:List ae} {K KP:V->List ae->Prop} (h:ft args args') (hc:ah P f args' res K KP):ah P f args res K KP:=by
 intro J fps w0 F0 w hH hargs;obtain⟨h1,h2⟩:=h J _ hargs;rw[h1];exact hc J fps w0 F0 w hH h2
theorem ah.F3 {f:Nat} {args:List V} {res:List ae} {K KP:V->List ae->Prop} (h:bH (known res) args->ah P f args res K KP):ah P f args res K KP:=by
 intro J fps w0 F0 w hH hargs;exact h hargs J fps w0 F0 w hH hargs
theorem ah.Cz {f:Nat} {rest:List V} {res:List ae} {K KP:V->List ae->Prop} {k t e:Nat} {L M:List Obj} {x:V} (hr:aa res k= .store t e L) (hid:ij rest=true) (hx:gy x=true)
  (h:ah P f (.lp 0 0::rest) [.store t e L] (fun v r=>sk x v r/\aa r 0= .store t e M) (fun _ _=>False)) (hK:K x (aG res k (.store t e M))):ah P f (.lp k 0::rest) res K KP:=by
 have hk:known res k:=by unfold known;rw[hr];simp
 have hlt:=ai hk;refine ah.frame (pl:= [(k,true)]) (args0:= .lp 0 0::rest) (K0:=fun v r=>sk x v r/\aa r 0= .store t e M) (KP0:=fun _ _=>False) (by simp[dN,bE.2 hk]) (by simpa[gJ,cD,oT]using hlt) ?_ ?_ (fun v r hv=>?_) (fun _ _ h=>h.elim)
 ·simp only[cG,cW,jS,idxOf,cD];rw[ey rest hid];simp
 ·simp_all[cX,jS,cD,dg]
 ·obtain⟨h1,h2⟩:=hv;have hm:merge [(k,true)] [] r res=aG res k (.store t e M):=by simp[merge,cK,h2,dg,dH]
  exact⟨[],x,rfl,by simp[iH,h2,ev],rfl,gK.gy h1 hx,by rw[hm];exact hK⟩
theorem ah.pure {f:Nat} {args:List V} {res:List ae} {K KP:V->List ae->Prop} {x:V} (hid:ij args=true) (hx:gy x=true)
  (h:ah P f args [] (fun v _=>sk x v []) (fun _ _=>False)) (hK:K x res):ah P f args res K KP:=by
 refine ah.frame (pl:= []) (args0:=args) (K0:=fun v _=>sk x v []) (KP0:=fun _ _=>False) rfl rfl (ey args hid) h (fun v r hv=>?_) (fun _ _ h=>h.elim)
 have hm:merge [] [] r res=res:=by simp[merge,cK,dH]
 exact⟨[],x,rfl,rfl,rfl,gK.gy hv hx,by rw[hm];exact hK⟩
theorem ah.GX {f:Nat} {rest:List V} {res:List ae} {K KP:V->List ae->Prop} {k:Nat} {r0:ae} {x:V} (hr:aW res k=r0) (hne:r0≠ .yet) (hren:∀κ,dg κ r0=r0) (hid:ij rest=true) (hx:gy x=true)
  (h:ah P f (.lp 0 0::rest) [.ro r0] (fun v _=>sk x v []) (fun _ _=>False)) (hK:K x res):ah P f (.lp k 0::rest) res K KP:=by
 have hk:=bR hr hne;have hlt:=ai hk;refine ah.frame (pl:= [(k,false)]) (args0:= .lp 0 0::rest) (K0:=fun v _=>sk x v []) (KP0:=fun _ _=>False) (by simp[dN,bE.2 hk]) (by simpa[gJ,cD,oT]using hlt) ?_ ?_ (fun v r hv=>?_) (fun _ _ h=>h.elim)
 ·simp only[cG,cW,jS,idxOf,cD];rw[ey rest hid];simp
 ·simp_all[cX,jS,cD]
 ·have hm:merge [(k,false)] [] r res=res:=by simp[merge,cK,dH]
  exact⟨[],x,rfl,by simp[iH],rfl,gK.gy hv hx,by rw[hm];exact hK⟩
theorem an.weaken {J:Env} {fps:Nat->Nat->Prop} {res res':List ae} {w0 w:World} {F0:Nat->Prop} (h:an J fps res (known res) w0 F0 w)
  (hk:∀i,known res' i->known res i/\∀fp,(aa res i).holds (known res) J i fp w0 F0 w->(aa res' i).holds (known res') J i fp w0 F0 w):an J fps res' (known res') w0 F0 w:=
 ⟨fun i hi=>hi,h.old,h.os,h.tape,h.output,fun i hi=>(hk i hi).2 _ (h.holds i (hk i hi).1),fun i b hi=>h.lt i b (hk i hi).1,fun i j b hi hj=>h.disj i j b (hk i hi).1 (hk j hj).1,fun i b hi=>h.inF i b (hk i hi).1,h.same⟩
theorem Ax {K K':Nat->Prop} {J:Env} {i:Nat} {fp:Nat->Prop} {w0 w:World} {F0:Nat->Prop} {own:Option Nat} {e:Nat} {l:TL} (h:(ae.arr own e l).holds K J i fp w0 F0 w):(ae.arr none e l).holds K' J i fp w0 F0 w:=by
 obtain⟨h1,h2,h3,h4,h5,h6,h7⟩:=h;refine⟨h1,h2,h3,h4,h5,h6,?_⟩;rcases h7 with⟨e,h7⟩|⟨e,e1,e2⟩
 ·exact .inl ⟨rfl,h7⟩
 ·exact .inr ⟨e,by simp,e2⟩
theorem ah.Hy {f:Nat} {args:List V} {K KP:V->List ae->Prop} {own:Option Nat} {e:Nat} {l:TL} (h:ah P f args [.ro (.arr none e l)] K KP):ah P f args [.ro (.arr own e l)] K KP:=by
 have hk:∀i (own:Option Nat),known [.ro (.arr own e l)] i↔i=0:=fun i own=>by
  unfold known;cases i with
  |zero=>simp[aa]
  |succ i=>simp[aa]
 refine h.oS fun J fps w0 F0 w hH=>⟨J,fps,hH.weaken fun i hi=>?_,Env.agree.refl _ _,fun i hi=>(hk i _).2 ((hk i _).1 hi)⟩
 have:=(hk i _).1 hi;subst this;refine⟨(hk 0 _).2 rfl,fun fp hh=>?_⟩
 obtain⟨fp',g1,g2⟩:=hh;exact⟨fp',Ax g1,g2⟩
theorem ah.A7 {f:Nat} {rest:List V} {res:List ae} {K KP:V->List ae->Prop} {t e k esz:Nat} {own:Option Nat} {l:TL} {M:List Obj} {F:Nat->V} (hr:aW res k= .arr own esz l) (hid:ij rest=true)
  (h:ah P f (.sa 0::rest) [.ro (.arr own esz l)] (fun v r=>∃j,1<=j/\aa r j= .store t e M/\(∀(κ:Nat->Option Nat) (i:Nat),κ j=some i->gK κ v (F i))) (fun _ _=>False)) (hK:K (F res.length) (res++ [.store t e M])):ah P f (.sa k::rest) res K KP:=by
 have hk:=bR hr (by simp)
 have hlt:=ai hk;refine ah.frame (pl:= [(k,false)]) (args0:= .sa 0::rest) (K0:=fun v r=>∃j,1<=j/\aa r j= .store t e M/\(∀(κ:Nat->Option Nat) (i:Nat),κ j=some i->gK κ v (F i))) (KP0:=fun _ _=>False) (by simp[dN,bE.2 hk]) (by simpa[gJ,cD,oT]using hlt) ?_ ?_ (fun v r hv=>?_) (fun _ _ h=>h.elim)
 ·simp only[cG,cW,jS,idxOf,cD];rw[ey rest hid];simp
 ·have:cX (jS 0 (cD [(k,false)])) res [(k,false)]= [.ro (.arr own esz l)]:=by simp[cX,hr,dg]
  rw[this];exact h
 ·obtain⟨j,hj1,hj,hv⟩:=hv;have hjl:j<r.length:=ai (by rw[hj];simp)
  have hm:merge [(k,false)] [j] r res=res++ [.store t e M]:=by simp[merge,cK,dH,hj,dg]
  refine⟨[j],F res.length,by simpa[gJ,oT]using⟨hj1,hjl⟩,by simp[iH],by simp[kL,hj,ev],hv _ _ ?_,by rw[hm];exact hK⟩
  obtain⟨m,rfl⟩:∃m,j=m+1:=⟨j-1,by omega⟩
  simp[back,tI,idxOf]
theorem ah.GR {f:Nat} {rest:List V} {res:List ae} {K KP:V->List ae->Prop} {k esz:Nat} {own:Option Nat} {l:TL} {x:V} (hr:aW res k= .arr own esz l) (hid:ij rest=true) (hx:gy x=true)
  (h:ah P f (.sa 0::rest) [.ro (.arr own esz l)] (fun v _=>sk x v []) (fun _ _=>False)) (hK:K x res):ah P f (.sa k::rest) res K KP:=by
 have hk:=bR hr (by simp)
 have hlt:=ai hk;refine ah.frame (pl:= [(k,false)]) (args0:= .sa 0::rest) (K0:=fun v _=>sk x v []) (KP0:=fun _ _=>False) (by simp[dN,bE.2 hk]) (by simpa[gJ,cD,oT]using hlt) ?_ ?_ (fun v r hv=>?_) (fun _ _ h=>h.elim)
 ·simp only[cG,cW,jS,idxOf,cD];rw[ey rest hid];simp
 ·have:cX (jS 0 (cD [(k,false)])) res [(k,false)]= [.ro (.arr own esz l)]:=by simp[cX,hr,dg]
  rw[this];exact h
 ·have hm:merge [(k,false)] [] r res=res:=by simp[merge,cK,dH]
  exact⟨[],x,rfl,by simp[iH],rfl,gK.gy hv hx,by rw[hm];exact hK⟩
theorem rp {r:List ae} {k t e j:Nat} {L:List Obj} (h:uS r k=some (t,e,j,L)):∃r',oA r k=some r'/\aa r' k= .store t e L:=by
 grind[oA,uS,ai,aA,aE]
def wR (r:List ae) (k:Nat):Option (Nat×Nat×List Obj):=
 match aa r k with
 | .store t e L=>some (t,e,L)
 |_=>match uS r k with
  |some (t,e,_,L)=>some (t,e,L)
  |none=>none
theorem Am {r:List ae} {k t e:Nat} {L:List Obj} (h:wR r k=some (t,e,L)):aa r k= .store t e L\/∃r',oA r k=some r'/\aa r' k= .store t e L:=by
 grind[wR,rp]
theorem CF {a b c:V} (h:sk c b []):sk (.tp [a,c]) (.tp [a,b]) []:=fun J K=>by
 obtain⟨s1,s2,_⟩:=h J K;exact⟨by simp only[den,aw,s1],fun hk=>⟨hk.1,s2 hk.2.1,trivial⟩,rfl⟩
theorem ah.DJ {f:Nat} {args:List V} {res:List ae} {K KP:V->List ae->Prop} {t e:Nat} {M:List Obj} {F:Nat->V} (hid:ij args=true)
  (h:ah P f args [] (fun v r=>∃j,aa r j= .store t e M/\(∀(κ:Nat->Option Nat) (i:Nat),κ j=some i->gK κ v (F i))) (fun _ _=>False)) (hK:K (F res.length) (res++ [.store t e M])):ah P f args res K KP:=by
 refine ah.frame (pl:= []) (args0:=args) (K0:=fun v r=>∃j,aa r j= .store t e M/\(∀(κ:Nat->Option Nat) (i:Nat),κ j=some i->gK κ v (F i))) (KP0:=fun _ _=>False) rfl rfl (ey args hid) h (fun v r hv=>?_) (fun _ _ h=>h.elim)
 obtain⟨j,hj,hv⟩:=hv;have hlt:j<r.length:=ai (by rw[hj];simp)
 have hm:merge [] [j] r res=res++ [.store t e M]:=by simp[merge,cK,dH,hj,dg]
 exact⟨[j],F res.length,by simpa[gJ,oT]using hlt,rfl,by simp[kL,hj,ev],hv _ _ (by simp[back,tI,idxOf]),by rw[hm];exact hK⟩
end
def Iw (v:V):Option Nat:=
 match v with
 | .sa j=>some j
 | .ag l=>match l with
   | [x]=>match x with
     | .sa j=>some j
     |_=>none
   |_=>none
 |_=>none
def Hh (c:Nat) (U:St):Option (List Nat):=
 match aa U.res c with
 | .blk _ x=>match Iw x with
   |some j=>match aa U.res j with
    | .obs _ q _=>some [j,q]
    |_=>some [j]
   |none=>some []
 |_=>some []
def Jl (k7:List Nat) (set:Int->List (Nat×V)) (k:Nat) (R:Int->ae) (inv:Int->Prop) (m:Int):bG:=
 {γ:=Int,head:=fun U g=> {U with slots:=GH k7 (set g) 0 U.slots,res:=aG U.res k (R g)},inv:=inv,μ:=fun g=>fU (qV m g)}
def ES:List (Nat×ae)->List ae->List ae
 | [],r=>r
 | (k,x)::l,r=>ES l (aG r k x)
def JG {γ:Type} (k7:List Nat) (set:γ->List (Nat×V)) (rs:γ->List (Nat×ae)) (inv:γ->Prop) (μ:γ->Nat):bG:=
 {γ:=γ,head:=fun U g=> {U with slots:=GH k7 (set g) 0 U.slots,res:=ES (rs g) U.res},inv:=inv,μ:=μ}
def JH (k7:List Nat) (set:Int->List (Nat×V)) (c t e:Nat) (L:Int->List Obj) (inv:Int->Prop) (m:Int):bG:=
 {γ:=Int,head:=fun U g=> {U with slots:=GH k7 (set g) 0 U.slots,res:=aG U.res c (.blk t (.ag [.sa U.res.length]))++ [.obs e (U.res.length+1) (L g),.gen U.res.length]},
  inv:=inv,μ:=fun g=>fU (qV m g),pre:= [.bl c e],ext:=Hh c}
end Go.Sx
namespace Go.Proofs.YtmfbohanboiklaaGreat
open Go.Sx
noncomputable def GC (l:List (Nat×Ct)) (hl:List (Nat×oR)) (inl:Nat->Bool) (ann:Nat->Nat->Option bG):zL:= {P:=Tryz.prog,Z:=zeroOf,Γ:=kz l,H0:=x6 hl,inl:=inl,ann:=ann,opn:=EL inl}
theorem zs {l:List (Nat×Ct)} {hl:List (Nat×oR)} {inl:Nat->Bool} {ann:Nat->Nat->Option bG} (h:∀p∈l,cQ Tryz.prog p.1 p.2):(GC l hl inl ann).toCtx.Sound:=
 ⟨Ck rj,Tryz.checked.mixed,fun f g hg=>jc h f g hg,fun f ts te h=>by simp[GC]at h⟩
abbrev JA (l:List (Nat×Ct)) (hl:List (Nat×oR)) (inl:Nat->Bool) (ann:Nat->Nat->Option bG) (f:Nat) (args:List V) (res:List ae) (K KP:V->List ae->Prop):Prop:=
 enter (GC l hl inl ann).toCtx (exec (GC l hl inl ann) 100 ⟨false,none⟩) (exec (GC l hl inl ann) 100 ⟨false,none⟩ f) f args res K KP
set_option maxRecDepth 100000 in
theorem dM {l:List (Nat×Ct)} {hl:List (Nat×oR)} {inl:Nat->Bool} {ann:Nat->Nat->Option bG} (h:∀p∈l,cQ Tryz.prog p.1 p.2) (hh:∀p∈hl,qX Tryz.prog p.1 p.2) {f:Nat} {args:List V} {res:List ae}
  {K KP:V->List ae->Prop} {G:Prop} (hG:G) (he:G=JA l hl inl ann f args res K KP):ah Tryz.prog f args res K KP:=
 xB (C:=GC l hl inl ann) (n:=100) (zs h) (u9 hh) (Eq.mp he hG)
end Go.Proofs.YtmfbohanboiklaaGreat
namespace Go.Sx
open Go.RowKit (Below)
def Cc (κ:Nat->Option Nat) (r:List ae):List Nat->Option (List ae)
 | []=>some []
 |p::l=>if dI r p&&ev (aa r p)then match Cc κ r l with
   |some m=>some (dg κ (aa r p)::m)
   |none=>none
  else none
def xC (π:List Nat) (x:Nat->V) (new:Nat->List ae) (v:V) (r:List ae):Prop:=
 ∀nid,cW (idxOf π nid) v=some (x nid)/\Cc (idxOf π nid) r π=some (new nid)
def Aq (x:Nat->V) (new:Nat->List ae):Ct:=fun _ nid args=>match args with
 | []=>some (none,x nid,new nid)
 |_=>none
def Ha:List ae->Bool
 | []=>true
 |r::l=>match r with
  | .yet=>false
  |_=>Ha l
theorem qD:∀{l:List ae},Ha l=true->∀k,k<l.length->aa l k≠ .yet
 | [],_,k,hk=>by simp at hk
 |r::l,h,k,hk=>by
  simp only[Ha]at h;split at h
  ·simp at h
  ·rename_i hr;cases k with
   |zero=>exact hr
   |succ k=>exact qD h k (by simpa using hk)
theorem nR {κ:Nat->Option Nat} {r:List ae}:∀{π:List Nat} {new:List ae},Cc κ r π=some new->new.length=π.length/\
  ∀(k p:Nat),π[k]? =some p->known r p/\ev (aa r p)=true/\aa new k=dg κ (aa r p)
 | [],new,h=>by simp only[Cc,JP]at h;subst h;exact⟨rfl,fun k p h=>by simp at h⟩
 |q::π,new,h=>by
  simp only[Cc]at h;split at h
  ·rename_i hc;simp only[JR]at hc;split at h<;>simp only[JP,reduceCtorEq]at h
   rename_i m hm;subst h;obtain⟨a,b⟩:=nR hm;refine⟨by simp[a],fun k p hk=>?_⟩
   cases k with
   |zero=>simp at hk;subst hk;exact⟨bE.1 hc.1,hc.2,rfl⟩
   |succ k=>exact b k p (by simpa using hk)
  ·simp at h
theorem BN {P:Program} {f:Nat} {π:List Nat} {x:Nat->V} {new:Nat->List ae} (hnd:π.Nodup) (hy:∀nid,Ha (new nid)=true) (h:ah P f [] [] (xC π x new) (fun _ _=>False)):cQ P f (Aq x new):=by
 intro J fps res K w0 F0 w nid args q y new' hH hargs hg hq hfr;unfold Aq at hg;split at hg<;>simp only[JP,JQ,reduceCtorEq]at hg
 obtain⟨_,rfl,rfl⟩:=hg
 have hE:an J (fun _ _=>False) [] (known []) w (fun _=>False) w:=
  ⟨fun i hi=>hi,Nat.le_refl _,rfl,rfl,rfl,fun i hi=>by simp[known,aa]at hi,fun i b hi=>by simp[known,aa]at hi,fun i j b hi=>by simp[known,aa]at hi,fun i b hi=>by simp[known,aa]at hi,fun _ _ _=>rfl⟩
 have hc:=h J _ w (fun _=>False) w hE trivial
 refine⟨?_,?_⟩
 ·refine hc.mono fun e w' ⟨v,ρ1,fps1,r,g1,g2,g3,g4⟩=>?_
  rcases g4 with⟨rfl,hN⟩|⟨_,hF⟩
  ·obtain⟨n1,n2⟩:=hN nid;obtain⟨l1,l2⟩:=nR n2;refine⟨_,rfl,?_⟩
   let ρ':Env:=⟨fun i=>if i<nid then J.num i else if i<nid+π.length then ρ1.num (π.getD (i-nid) 0)else J.num i,fun i=>if i<nid then J.cap i else if i<nid+π.length then ρ1.cap (π.getD (i-nid) 0)else J.cap i,
    fun i=>if i<nid then J.adr i else if i<nid+π.length then ρ1.adr (π.getD (i-nid) 0)else J.adr i,fun i=>if i<nid then J.sa i else if i<nid+π.length then ρ1.sa (π.getD (i-nid) 0)else J.sa i,
    fun i=>if i<nid then J.sn i else if i<nid+π.length then ρ1.sn (π.getD (i-nid) 0)else J.sn i,fun i=>if i<nid then J.ob i else if i<nid+π.length then ρ1.ob (π.getD (i-nid) 0)else J.ob i⟩
   have hvia:Env.via (idxOf π nid) ρ1 ρ':=by
    intro p i hp;obtain⟨a1,a2,a3⟩:=di hp;have:π.getD (i-nid) 0=p:=by simp[JW,a3]
    simp[ρ',JX (show¬i<nid by omega),JY a2,a3]
   have hat:∀k,k<(new nid).length->∃p,π[k]? =some p/\idxOf π nid p=some (nid+k):=fun k hk=>by
    have hk':k<π.length:=by omega
    exact⟨π[k],by simp[hk'],gn π nid k hnd (by simp[hk'])⟩
   have hNN:∀p i,idxOf π nid p=some i->known r p->K i\/fresh nid (new nid).length i:=fun p i hp _=>by
    obtain⟨a1,a2,a3⟩:=di hp;exact .inr ⟨a1,by omega⟩
   refine⟨ρ',⟨⟨g1.os,g1.tape,g1.output,g1.old,fun b hb=>g1.same b hb (by simp)⟩,fun i hi=>?_,fun k=>fps1 (π.getD k 0),fun k hk=>?_,fun k l b hk hl hne=>?_⟩,?_,?_⟩
   ·grind
   ·obtain⟨p,p1,p2⟩:=hat k hk;obtain⟨m1,m2,m3⟩:=l2 k p p1;have hgd:π.getD k 0=p:=by simp[JW,p1]
    simp only[hgd];refine⟨?_,fun b hb=>⟨?_,g1.lt p b m1 hb⟩⟩
    ·rw[m3];exact dC hvia hNN p2 _ _ _ (eX m2 (g1.holds p m1))
    ·refine Nat.le_of_not_lt fun hlt=>?_
     exact g1.inF p b m1 hb hlt
   ·obtain⟨p,p1,p2⟩:=hat k hk;obtain⟨p',p1',p2'⟩:=hat l hl;have hgd:π.getD k 0=p:=by simp[JW,p1]
    have hgd':π.getD l 0=p':=by simp[JW,p1']
    simp only[hgd,hgd']
    have hpp:p≠p':=by
     grind
    exact g1.disj p p' b (l2 k p p1).1 (l2 l p' p1').1 hpp
   ·exact(dZ hvia hNN _ _ n1).1.symm
   ·exact(dZ hvia hNN _ _ n1).2.1 g3
  ·exact hF.elim
 ·intro k hk;exact qD (hy nid) k hk
end Go.Sx
namespace Go.Sx
open Go.RowKit (Below)
structure Arg (α:Type) where
 rd:List ae->V->Option (List (Nat×ae)×α)
 cn:α->Nat->V
 pl:α->List ae
structure lB (α:Type) where
 rd:List ae->List V->Option (List (Nat×ae)×α)
 cn:α->Nat->List V
 pl:α->List ae
def oa {α:Type} (A:Arg α):Prop:=∀res v pls a,A.rd res v=some (pls,a)->pls.map (·.2)=A.pl a/\(∀p∈pls,kX res p.1 p.2/\kO p.2=true)/\aP (A.cn a 0)=aP v/\(∀n,aP (A.cn a n)=aP (A.cn a 0))/\
 ∀(pre post:List (Nat×ae)),(∀J K,ok K v->den (J.pull (mo (pre++(pls++post)))) (A.cn a pre.length)=den J v)/\∀K,ok K v->ok (known (nT (pre++(pls++post)))) (A.cn a pre.length)
def jN {α:Type} (A:lB α):Prop:=∀res l pls a,A.rd res l=some (pls,a)->pls.map (·.2)=A.pl a/\(∀p∈pls,kX res p.1 p.2/\kO p.2=true)/\(ni l->∀n,ni (A.cn a n))/\
 ∀(pre post:List (Nat×ae)),(∀J K,bH K l->aw (J.pull (mo (pre++(pls++post)))) (A.cn a pre.length)=aw J l/\aq (J.pull (mo (pre++(pls++post)))) (A.cn a pre.length)=aq J l)/\∀K,bH K l->bH (known (nT (pre++(pls++post)))) (A.cn a pre.length)
def tF:lB Unit:=⟨fun _ l=>match l with| []=>some ([],())|_=>none,fun _ _=> [],fun _=> []⟩
def eH {α β:Type} (A:Arg α) (B:lB β):lB (α×β):=
 ⟨fun res l=>match l with
  |v::l=>match A.rd res v with
   |some (p,a)=>match B.rd res l with
    |some (q,b)=>some (p++q,(a,b))
    |none=>none
   |none=>none
  | []=>none,fun x n=>A.cn x.1 n::B.cn x.2 (n+(A.pl x.1).length),fun x=>A.pl x.1++B.pl x.2⟩
def B2 {α:Type} (r:V->Option α) (m:α->V):Arg α:=⟨fun _ v=>match r v with|some x=>some ([],x)|none=>none,fun x _=>m x,fun _=> []⟩
def Hk (t e:Nat):Arg (Option (List Obj)):=
 ⟨fun res v=>match rS t e res v with
  |some (o,L)=>match o with
   |none=>some ([],none)
   |some k=>some ([(k,.store t e L)],some L)
  |none=>none,fun o n=>match o with|none=>tx|some _=> .lp n 0,fun o=>match o with|none=> []|some L=> [.store t e L]⟩
def H2 {α:Type} (B:lB α):Arg α:=
 ⟨fun res v=>match v with
  | .ag l=>B.rd res l
  |_=>none,fun x n=> .ag (B.cn x n),B.pl⟩
theorem AQ {pre pls post:List (Nat×ae)} {k:Nat} {r:ae}:mo (pre++((k,r)::pls++post)) pre.length=k:=mf _ _ (k,r) (by simp)
theorem yw {pre pls post:List (Nat×ae)} {k:Nat} {r:ae}:known (nT (pre++((k,r)::pls++post))) pre.length:=by
 unfold known;rw[pd];simp
theorem iC:jN tF:=by
 intro res l pls a h;simp only[tF]at h;split at h<;>simp only[JP,JQ,reduceCtorEq]at h
 obtain⟨rfl,_⟩:=h;exact⟨rfl,by simp,fun _ _=>trivial,fun pre post=>⟨fun _ _ _=>⟨rfl,rfl⟩,fun _ _=>trivial⟩⟩
theorem cF {α β:Type} {A:Arg α} {B:lB β} (hA:oa A) (hB:jN B):jN (eH A B):=by
 intro res l pls x h;simp only[eH]at h;split at h
 case h_2=>simp at h
 rename_i v l;split at h
 case h_2=>simp at h
 rename_i p a ha;split at h
 case h_2=>simp at h
 rename_i q b hb;simp only[JP,JQ]at h;obtain⟨rfl,rfl⟩:=h;obtain⟨a1,a2,a3,a3',a4⟩:=hA _ _ _ _ ha;obtain⟨b1,b2,b3,b4⟩:=hB _ _ _ _ hb;refine⟨by simp[eH,a1,b1],fun p' hp'=>?_,fun hc n=>?_,fun pre post=>?_⟩
 ·grind
 ·grind[bm,eH]
 ·have hlen:(A.pl a).length=p.length:=by rw[<-a1];simp
  obtain⟨c1,c2⟩:=a4 pre (q++post);obtain⟨d1,d2⟩:=b4 (pre++p) post;have e1:pre++(p++q++post)=pre++(p++(q++post)):=by simp
  have e2:(pre++p)++(q++post)=pre++(p++(q++post)):=by simp
  have e3:(pre++p).length=pre.length+(A.pl a).length:=by simp[hlen]
  rw[e2,e3]at d1 d2;rw[e1];refine⟨fun J K hK=>?_,fun K hK=>?_⟩
  ·obtain⟨f1,f2⟩:=d1 J K hK.2;have f3:=c1 J K hK.1;simp only[eH];exact⟨by simp only[aw];rw[f3,f1],by simp only[aq];rw[f3,f2]⟩
  ·exact⟨c2 K hK.1,d2 K hK.2⟩
theorem th {α:Type} {r:V->Option α} {m:α->V} (hr:ny r m) (hid:∀x,gy (m x)=true) (ht:∀v x,r v=some x->aP v=aP (m x)):oa (B2 r m):=by
 intro res v pls a h;simp only[B2]at h;split at h<;>simp only[JP,JQ,reduceCtorEq]at h
 rename_i x hx;obtain⟨rfl,rfl⟩:=h;obtain⟨b1,b2⟩:=hr _ x hx;refine⟨rfl,by simp,(ht v x hx).symm,fun _=>rfl,fun pre post=>⟨fun J K hK=>?_,fun K hK=>ca (b2 K hK)⟩⟩
 show den _ (m x)=_
 rw[b1 J];exact kR (hid x) (b2 K hK) J _
theorem A2 (t e:Nat):oa (Hk t e):=by
 intro res v pls a h;simp only[Hk]at h;split at h
 case h_2=>simp at h
 rename_i o L hs;rcases tj hs with⟨rfl,rfl,rfl⟩|⟨k,rfl,rfl,hse⟩<;>simp only[JP,JQ]at h<;>obtain⟨rfl,rfl⟩:=h
 ·exact⟨rfl,by simp,rfl,fun _=>rfl,fun pre post=>⟨fun _ _ _=>rfl,fun _ _=>rfl⟩⟩
 ·refine⟨rfl,by simpa using⟨hse,rfl⟩,rfl,fun _=>rfl,fun pre post=>⟨fun J K hK=>?_,fun K hK=>yw (pls:= [])⟩⟩
  simp only[Hk,den,Env.pull];rw[AQ (pls:= [])]
theorem Ga {α:Type} {B:lB α} (hB:jN B):oa (H2 B):=by
 intro res v pls a h;simp only[H2]at h;split at h
 case h_2=>simp at h
 rename_i l;obtain⟨b1,b2,b3,b4⟩:=hB _ _ _ _ h;refine⟨b1,b2,rfl,fun _=>rfl,fun pre post=>?_⟩
 obtain⟨c1,c2⟩:=b4 pre post;refine⟨fun J K hK=>?_,fun K hK=>⟨c2 K hK.1,b3 hK.2 _⟩⟩
 simp only[H2,den];rw[(c1 J K hK.1).2]
def iq (l:List ae):List ae:=l.map .ro
theorem Af (pls:List (Nat×ae)):nT pls=iq (pls.map (·.2)):=by
 induction pls with
 |nil=>rfl
 |cons p l ih=>obtain⟨p,r⟩:=p;simp[nT,iq,ih]
def FA {α:Type} (B:lB α) (Q:α->Option Prop) (x:α->Nat->V) (new:α->Nat->List ae):Ct:=fun res nid xs=>match B.rd res xs with
 |some (_,a)=>some (Q a,x a nid,new a nid)
 |none=>none
theorem xJ {J:Env} {fps:Nat->Nat->Prop} {res:List ae} {K:Nat->Prop} {w0 w:World} {F0:Nat->Prop} (hH:an J fps res K w0 F0 w) {pls:List (Nat×ae)} (hcl:∀p∈pls,kX res p.1 p.2/\kO p.2=true):
  an (J.pull (mo pls)) (fun _ _=>False) (nT pls) (known (nT pls)) w (fun _=>False) w:=by
 have hfr:∀b,b<w0.heap.size->¬F0 b->w.heap[b]? =w0.heap[b]? /\¬(fun _:Nat=>False) b:=fun b hb hF=>⟨hH.same b hb hF,fun h=>h⟩
 refine⟨fun i hi=>hi,Nat.le_refl _,rfl,rfl,rfl,fun i hi=>?_,fun i b hi h=>h.elim,fun i j b hi hj hne h=>h.elim,fun i b hi h=>h.elim,fun _ _ _=>rfl⟩
 have hlt:=ai hi;rw[lC]at hlt;have hp:pls[i]? =some pls[i]:=List.getElem?_eq_getElem hlt;generalize pls[i]=p at hp
 rw[pd,hp];simp only;obtain⟨hs,hcl⟩:=hcl p (List.mem_of_getElem? hp);obtain⟨fp,g1,g2⟩:=hs.2 J fps K w0 F0 w hH
 have hv:Env.via (fun x=>if x=p.1 then some i else none) J (J.pull (mo pls)):=mX fun x j hx=>by
  split at hx
  ·simp only[JP]at hx;subst hx;rename_i e;subst e;exact mf pls i p hp
  ·simp at hx
 have:=dC (N':=known (nT pls)) hv (fun x j hx _=>by
  split at hx
  ·simp only[JP]at hx;subst hx;exact hi
  ·simp at hx) (p:=p.1) (i:=i) (by simp) _ _ _ (ae.nO hH.old hfr _ _ g1)
 rw[mU hcl]at this;refine⟨fp,this,fun b hb=>⟨?_,fun h=>h⟩⟩
 rcases g2 b hb with⟨j,hj,hf⟩|⟨hl,_⟩
 ·exact hH.lt j b hj hf
 ·exact Nat.lt_of_lt_of_le hl hH.old
theorem pN {J ρ1:Env} {K:Nat->Prop} {fps1:Nat->Nat->Prop} {r:List ae} {w0 w w':World} {F0:Nat->Prop} {nid:Nat} {π:List Nat} {x:Nat->V} {new:Nat->List ae} {v:V} (hnd:π.Nodup)
  (g1:an ρ1 fps1 r (known r) w (fun _=>False) w') (g3:ok (known r) v) (hN:xC π x new v r):ji K J nid (x nid) (new nid) w0 F0 w (den ρ1 v) w':=by
 obtain⟨n1,n2⟩:=hN nid;obtain⟨l1,l2⟩:=nR n2
 let ρ':Env:=⟨fun i=>if i<nid then J.num i else if i<nid+π.length then ρ1.num (π.getD (i-nid) 0)else J.num i,fun i=>if i<nid then J.cap i else if i<nid+π.length then ρ1.cap (π.getD (i-nid) 0)else J.cap i,
  fun i=>if i<nid then J.adr i else if i<nid+π.length then ρ1.adr (π.getD (i-nid) 0)else J.adr i,fun i=>if i<nid then J.sa i else if i<nid+π.length then ρ1.sa (π.getD (i-nid) 0)else J.sa i,
  fun i=>if i<nid then J.sn i else if i<nid+π.length then ρ1.sn (π.getD (i-nid) 0)else J.sn i,fun i=>if i<nid then J.ob i else if i<nid+π.length then ρ1.ob (π.getD (i-nid) 0)else J.ob i⟩
 have hvia:Env.via (idxOf π nid) ρ1 ρ':=by
  intro p i hp;obtain⟨a1,a2,a3⟩:=di hp;simp[ρ',JX (show¬i<nid by omega),JY a2,a3]
 have hat:∀k,k<(new nid).length->∃p,π[k]? =some p/\idxOf π nid p=some (nid+k):=fun k hk=>by
  have hk':k<π.length:=by omega
  exact⟨π[k],by simp[hk'],gn π nid k hnd (by simp[hk'])⟩
 have hNN:∀p i,idxOf π nid p=some i->known r p->K i\/fresh nid (new nid).length i:=fun p i hp _=>by
  obtain⟨a1,a2,a3⟩:=di hp;exact .inr ⟨a1,by omega⟩
 refine⟨ρ',⟨⟨g1.os,g1.tape,g1.output,g1.old,fun b hb=>g1.same b hb (by simp)⟩,fun i hi=>?_,fun k=>fps1 (π.getD k 0),fun k hk=>?_,fun k l b hk hl hne=>?_⟩,?_,?_⟩
 ·have:¬(nid<=i/\i<nid+π.length):=fun⟨a,b⟩=>hi ⟨a,by omega⟩
  by_cases hlt:i<nid
  ·simp[ρ',JY hlt]
  ·simp[ρ',JX hlt,JX (show¬i<nid+π.length by omega)]
 ·obtain⟨p,p1,p2⟩:=hat k hk;obtain⟨m1,m2,m3⟩:=l2 k p p1;have hgd:π.getD k 0=p:=by simp[JW,p1]
  simp only[hgd];refine⟨?_,fun b hb=>⟨?_,g1.lt p b m1 hb⟩⟩
  ·rw[m3];exact dC hvia hNN p2 _ _ _ (eX m2 (g1.holds p m1))
  ·refine Nat.le_of_not_lt fun hlt=>?_
   exact g1.inF p b m1 hb hlt
 ·obtain⟨p,p1,p2⟩:=hat k hk;obtain⟨p',p1',p2'⟩:=hat l hl;have hgd:π.getD k 0=p:=by simp[JW,p1]
  have hgd':π.getD l 0=p':=by simp[JW,p1']
  simp only[hgd,hgd']
  have hpp:p≠p':=by
   rintro rfl
   rw[p2]at p2';simp at p2';omega
  exact g1.disj p p' b (l2 k p p1).1 (l2 l p' p1').1 hpp
 ·exact(dZ hvia hNN _ _ n1).1.symm
 ·exact(dZ hvia hNN _ _ n1).2.1 g3
theorem DX {P:Program} {f:Nat} {α:Type} {B:lB α} {Q:α->Option Prop} {x:α->Nat->V} {new:α->Nat->List ae} {π:α->List Nat} (hB:jN B) (hnd:∀a,(π a).Nodup) (hy:∀a nid,Ha (new a nid)=true)
  (h:∀a,aN (Q a)->bH (known (iq (B.pl a))) (B.cn a 0)->ah P f (B.cn a 0) (iq (B.pl a)) (fun v r=>xC (π a) (x a) (new a) v r) (fun _ _=>False)):cQ P f (FA B Q x new):=by
 intro J fps res K w0 F0 w nid args q y new' hH hargs hg hq hfr;unfold FA at hg;split at hg<;>simp only[JP,JQ,reduceCtorEq]at hg
 rename_i pls a ha;obtain⟨rfl,rfl,rfl⟩:=hg;obtain⟨b1,b2,_,b4⟩:=hB _ _ _ _ ha;obtain⟨c1,c2⟩:=b4 [] [];simp only[List.nil_append,List.append_nil,List.length_nil]at c1 c2;refine⟨?_,fun k hk=>qD (hy a nid) k hk⟩
 have hrep:=xJ hH b2;have hok:=c2 K hargs;rw[<-(c1 J K hargs).1];have hro:nT pls=iq (B.pl a):=by rw[Af,b1]
 rw[hro]at hrep hok;refine(h a hq hok _ _ _ _ _ hrep hok).mono fun e w' ⟨v,ρ1,fps1,r,g1,g2,g3,g4⟩=>?_
 rcases g4 with⟨rfl,hN⟩|⟨_,hF⟩
 ·exact⟨_,rfl,pN (hnd a) g1 g3 hN⟩
 ·exact hF.elim
theorem ah.yd {P:Program} {f:Nat} {args:List V} {res:List ae} {x:V} {new:List ae} {K KP:V->List ae->Prop} (hy:∀k,k<new.length->aa new k≠ .yet)
  (h:∀J fps w0 F0 w,an J fps res (known res) w0 F0 w->bH (known res) args->CallsIn (FF P none) 0 P f (aw J args).toArray w fun e w'=>∃v,e= .returned v/\ji (known res) J res.length x new w0 F0 w v w') (hK:K x (res++new)):ah P f args res K KP:=by
 intro J fps w0 F0 w hH hargs;refine(h J fps w0 F0 w hH hargs).mono fun e w' ⟨v,he,ρ',hg,hv,hx⟩=>?_
 have hfr':∀i,known res i->¬fresh res.length new.length i:=fun i hi hf=>by have:=ai hi;unfold fresh at hf;omega
 have hK':∀i,known res i\/fresh res.length new.length i->known (res++new) i:=by
  intro i hi;obtain⟨b1,b2,b3⟩:=eA res new;rcases hi with hi|⟨f1,f2⟩
  ·unfold known;rw[(b1 i hi).1];exact hi
  ·have:=b3 (i-res.length) (by omega)
   rw[show res.length+(i-res.length)=i by omega]at this
   unfold known;rw[this];exact hy _ (by omega)
 obtain⟨fps',g1,g2⟩:=hH.grow (res':=res++new) (eA _ _) hfr' hK' hg;exact⟨x,ρ',fps',res++new,g1,⟨g2,fun i hi=>hK' i (.inl hi)⟩,aU hK' _ hx,.inl ⟨by rw[he,hv],hK⟩⟩
def Ix {α:Type} (B:lB α) (Q:α->Prop) (c:α->Bool) (F0:α->V) (F1:α->Nat->V) (new:α->ae):oR:=fun args res K=>
 match B.rd res args with
 |some (_,a)=>Q a/\(c a=false->K (F0 a) res)/\(c a=true->K (F1 a res.length) (res++ [new a]))
 |none=>False
def Gf (c:Bool) (x0:V) (F1:Nat->V) (new:ae) (p:Option Nat) (v:V) (r:List ae):Prop:=
 match p with
 |some p=>c=true/\xC [p] F1 (fun _=> [new]) v r
 |none=>c=false/\sq x0 v r
def I9 (v:V):Option Nat:=
 match v with
 | .sa p=>some p
 | .lp p _=>some p
 | .tp l=>match l with
   |x::_=>match x with
    | .sa p=>some p
    | .lp p _=>some p
    |_=>none
   | []=>none
 |_=>none
def C1 (c:Bool) (x0:V) (F1:Nat->V) (new:ae) (v:V) (r:List ae):Prop:=Gf c x0 F1 new (I9 v) v r
theorem Fb {P:Program} {f:Nat} {α:Type} {B:lB α} {Q:α->Prop} {c:α->Bool} {F0:α->V} {F1:α->Nat->V} {new:α->ae} (hB:jN B) (hF:∀a,gy (F0 a)=true) (hn:∀a,new a≠ .yet)
  (h:∀a,Q a->bH (known (iq (B.pl a))) (B.cn a 0)->ah P f (B.cn a 0) (iq (B.pl a)) (C1 (c a) (F0 a) (F1 a) (new a)) (fun _ _=>False)):qX P f (Ix B Q c F0 F1 new):=by
 intro args res K KP hh;unfold Ix at hh;split at hh
 case h_2=>exact hh.elim
 rename_i pls a ha;obtain⟨hQ,h0,h1⟩:=hh;obtain⟨b1,b2,_,b4⟩:=hB _ _ _ _ ha;obtain⟨c1,c2⟩:=b4 [] [];simp only[List.nil_append,List.append_nil,List.length_nil]at c1 c2;have hro:nT pls=iq (B.pl a):=by rw[Af,b1]
 have main:∀J fps w0 F0' w,an J fps res (known res) w0 F0' w->bH (known res) args->CallsIn (FF P none) 0 P f (aw J args).toArray w fun e w'=>∃v ρ1 fps1 r,e= .returned (den ρ1 v)/\an ρ1 fps1 r (known r) w (fun _=>False) w'/\ok (known r) v/\C1 (c a) (F0 a) (F1 a) (new a) v r:=by
  intro J fps w0 F0' w hH hargs;have hrep:=xJ hH b2;have hok:=c2 _ hargs;rw[hro]at hrep hok;rw[<-(c1 J _ hargs).1];refine(h a hQ hok _ _ _ _ _ hrep hok).mono fun e w' ⟨v,ρ1,fps1,r,g1,g2,g3,g4⟩=>?_
  rcases g4 with⟨rfl,hN⟩|⟨_,hF⟩
  ·exact⟨v,ρ1,fps1,r,rfl,g1,g3,hN⟩
  ·exact hF.elim
 cases hc:c a with
 |true=>
  refine ah.yd (x:=F1 a res.length) (new:= [new a]) (fun k hk=>by simp at hk;subst hk;exact hn a) (fun J fps w0 F0' w hH hargs=>?_) (h1 hc)
  refine(main J fps w0 F0' w hH hargs).mono fun e w' ⟨v,ρ1,fps1,r,he,g1,g3,hv⟩=>?_
  unfold C1 Gf at hv;split at hv
  ·exact⟨_,he,pN (new:=fun _=> [new a]) (by simp) g1 g3 hv.2⟩
  ·rw[hc]at hv;simp at hv
 |false=>
  have h0':=h0 hc;rw[<-List.append_nil res]at h0';refine ah.yd (x:=F0 a) (new:= []) (fun k hk=>by simp at hk) (fun J fps w0 F0' w hH hargs=>?_) h0'
  refine(main J fps w0 F0' w hH hargs).mono fun e w' ⟨v,ρ1,fps1,r,he,g1,g3,hv⟩=>?_
  unfold C1 Gf at hv;split at hv
  ·rw[hc]at hv;simp at hv
  ·refine⟨_,he,J,⟨⟨g1.os,g1.tape,g1.output,g1.old,fun b hb=>g1.same b hb (fun h=>h)⟩,Env.agree.refl _ _,fun _ _=>False,fun k hk=>by simp at hk,fun k l b hk=>by simp at hk⟩,?_,?_⟩
   ·obtain⟨e1,e2,_⟩:=cI hv.2 ρ1 (known r);rw[e1];exact kR (hF a) (e2 g3) J ρ1
   ·obtain⟨e1,e2,_⟩:=cI hv.2 ρ1 (known r);exact iR _ (hF a) (e2 g3)
end Go.Sx
namespace Go.Sx
open Go.RowKit (Below)
theorem ah.GK {P:Program} {f:Nat} {rest:List V} {res:List ae} {K KP:V->List ae->Prop} {k n e:Nat} {x:V} {L:List Obj} (hr:aa res k= .blk e x) (hl:zh x=some L) (hn:n=L.length) (hs:n<=1000)
  (h:ah P f (.sa res.length::rest) (aG res k .gone++ [.arr (some e) 163 (.ob L)]) K KP):ah P f (.sc k n n::rest) res K KP:=by
 intro J fps w0 F0 w hH hargs;have hk:known res k:=by unfold known;rw[hr];simp
 have hnk:¬known res res.length:=fun hk=>by have:=ai hk;omega
 have hag:=iJ (N:=known res) J (i:=res.length) (a:=some ⟨J.num k,0,none⟩) (n:=n) (cap:=n) hnk;obtain⟨fps',g1,g2,g3,g4⟩:=uD hH hr hl hn hs;have hargs':bH (known (aL [k] res++ [.arr (some e) 163 (.ob L)])) (.sa res.length::rest):=⟨g4,aM g3 _ hargs.2⟩
 have hd:aw (J.bY res.length (some ⟨J.num k,0,none⟩) n n) (.sa res.length::rest)=aw J (.sc k n n::rest):=by
  simp only[aw,bL hag rest hargs.2];simp[den,Env.bY]
 have:=h _ fps' w0 F0 w g1 hargs';rw[hd]at this;refine this.mono fun en w' ⟨x,ρ'',fps'',res'',a1,a2,a3,a4⟩=>⟨x,ρ'',fps'',res'',a1,⟨g2.trans (a2.1.mono fun i hi=>g3 i hi) (fun _ h=>h),fun i hi=>a2.2 i (g3 i hi)⟩,a3,a4⟩
def FX (h:oR):oR:=fun args res K=>
 match args with
 |a::rest=>match a with
  | .sc k n c=>match aa res k with
    | .blk e x=>match zh x with
      |some L=>if n==L.length&&c==n&&Nat.ble n 1000 then h (.sa res.length::rest) (aG res k .gone++ [.arr (some e) 163 (.ob L)]) K else False
      |none=>False
    |_=>False
  |a=>h (a::rest) res K
 | []=>h [] res K
theorem DA {P:Program} {f:Nat} {h:oR} (hh:qX P f h):qX P f (FX h):=by
 intro args res K KP hc;unfold FX at hc;split at hc
 ·split at hc
  ·split at hc
   case h_2=>exact hc.elim
   rename_i e x hr;split at hc
   case h_2=>exact hc.elim
   rename_i L hL;split at hc
   case isFalse=>exact hc.elim
   rename_i hb;simp only[JR,JT,Nat.ble_eq]at hb;obtain⟨⟨h1,rfl⟩,h2⟩:=hb;exact ah.GK hr hL h1 h2 (hh _ _ _ _ hc)
  ·exact hh _ _ _ _ hc
 ·exact hh _ _ _ _ hc
end Go.Sx
