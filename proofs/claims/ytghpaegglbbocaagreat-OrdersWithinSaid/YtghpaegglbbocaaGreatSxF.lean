import Derived.Test.YtghpaegglbbocaaGreatCfg
set_option linter.unusedSimpArgs false
set_option linter.unusedVariables false
namespace Go.Sx
open Go.RowKit (Below)
abbrev Ct:=List aw->Nat->List V->RR
def cW (P:Program) (f:Nat) (g:Ct):Prop:=
 ∀J fps res K w0 F0 w nid args q x new,aT J fps res K w0 F0 w->eE K args->g res nid args=some (q,x,new)->cZ q->
  (∀k,k<new.length->¬K (nid+k))->
  (CallsIn (FF P none) 0 P f (ba J args).toArray w fun e w'=>∃v,e= .returned v/\nR K J nid x new w0 F0 w v w')/\∀k,k<new.length->aj new k≠ .yet
def m8:List (Nat×Ct)->Nat->Option Ct
 | [],_=>none
 | (g,c)::l,f=>if f==g then some c else m8 l f
theorem ke {P:Program}:∀{l:List (Nat×Ct)},(∀p∈l,cW P p.1 p.2)->∀f g,m8 l f=some g->cW P f g
 | [],_,f,g,h=>by simp[m8]at h
 | (k,c)::l,hl,f,g,h=>by
   simp only[m8]at h;split at h
   ·rename_i e;have e:=Tj.1 e;simp only[Tf]at h;subst h;subst e;exact hl (f,c) (by simp)
   ·exact ke (fun p hp=>hl p (by simp[hp])) f g h
mutual
def jr:V->Bool
 | .lp _ _=>false
 | .lx _ _ _ _ _ _=>false
 | .sc _ _ _=>false
 | .so _ _=>false
 | .ap _ _ _ _=>false
 | .ax _ _ _ _ _ _ _ _=>false
 | .sa _=>false
 | .op _ _=>false
 | .yl _=>false
 | .mp _=>false
 | .ch _ _ _ _=>false
 | .bs _ _ _=>false
 | .ks _ _ _ _ _=>false
 | .fn _ l=>km l
 | .ic _ x=>jr x
 | .ag l=>km l
 | .tp l=>km l
 |_=>true
def km:List V->Bool
 | []=>true
 |x::l=>jr x&&km l
end
mutual
theorem mW {K K':Nat->Prop}:∀v,jr v=true->ok K v->ok K' v
 | .lp _ _,h,_| .lx _ _ _ _ _ _,h,_| .sc _ _ _,h,_| .so _ _,h,_| .ap _ _ _ _,h,_| .sa _,h,_| .op _ _,h,_| .yl _,h,_| .mp _,h,_| .ch _ _ _ _,h,_| .ax _ _ _ _ _ _ _ _,h,_| .bs _ _ _,h,_| .ks _ _ _ _ _,h,_=>by simp[jr]at h
 | .fn _ l,h,hk=>pd l h hk
 | .ic _ x,h,hk=>mW x h hk
 | .ag l,h,hk=>⟨pd l h hk.1,hk.2⟩
 | .tp l,h,hk=>pd l h hk
 | .cb _,_,hk| .bo _,_,hk| .ci _ _,_,hk| .it _ _,_,hk| .bt _,_,hk| .st _,_,hk| .nl _,_,hk| .key _,_,hk| .sl _,_,hk| .by _,_,hk| .ob _,_,hk=>hk
theorem pd {K K':Nat->Prop}:∀l,km l=true->eE K l->eE K' l
 | [],_,_=>trivial
 |x::l,h,hk=>by
  simp only[km,Th]at h;exact⟨mW x h.1 hk.1,pd l h.2 hk.2⟩
end
theorem oW {K:Nat->Prop} {v:V} (h:jr v=true) (hk:ok K v) (J ρ':Env):den ρ' v=den J v:=
 eo (N:=fun _=>False) (fun _ h=>h.elim) v (mW v h hk)
def rm (v:V) (v':V) (_:List aw):Prop:=
 match tK v' v with
 |some l=>gK l
 |none=>False
def wh (x v:V) (_:List aw):Prop:=∀J K,qh J K v x
theorem dB {x v:V} {r:List aw} (h:rm x v r):wh x v r:=by
 unfold rm at h;split at h
 ·rename_i l hl;exact fun J K=>nX J K _ _ l hl h
 ·exact h.elim
theorem ai.mono {P:Program} {f:Nat} {args:List V} {res:List aw} {K K' KP KP':V->List aw->Prop} (h:ai P f args res K KP) (hK:∀v r,K v r->K' v r) (hP:∀v r,KP v r->KP' v r):
  ai P f args res K' KP':=by
 intro J fps w0 F0 w hH ha;refine(h J fps w0 F0 w hH ha).mono fun e w' ⟨x,ρ',fps',res',g1,g2,g3,g4⟩=>⟨x,ρ',fps',res',g1,g2,g3,?_⟩
 rcases g4 with⟨e1,e2⟩|⟨e1,e2⟩
 ·exact .inl ⟨e1,hK _ _ e2⟩
 ·exact .inr ⟨e1,hP _ _ e2⟩
def Rt (l m:List V):Prop:=(∀J,ba J l=ba J m)/\∀K,eE K l->eE (fun _=>False) m
theorem ra {P:Program} {f:Nat} {g:Ct} (h:∀res nid args q x new,g res nid args=some (q,x,new)->new= []/\jr x=true/\
  ∃args',Rt args args'/\(cZ q->eE (fun _=>False) args'->ai P f args' [] (wh x) (fun _ _=>False))):cW P f g:=by
 intro J fps res K w0 F0 w nid args q x new hH hargs hg hq hfr;obtain⟨rfl,hid,args',⟨s1,s2⟩,hc⟩:=h res nid args q x new hg;refine⟨?_,fun k hk=>by simp at hk⟩
 have hok:=s2 K hargs
 have hrep:aT J (fun _ _=>False) [] (known []) w (fun _=>False) w:=
  ⟨fun i hi=>hi,Nat.le_refl _,rfl,rfl,rfl,fun i hi=>by simp[known,aj]at hi,fun i b hi=>by simp[known,aj]at hi,fun i j b hi=>by simp[known,aj]at hi,fun i b hi=>by simp[known,aj]at hi,fun _ _ _=>rfl⟩
 have hcall:=hc hq hok J (fun _ _=>False) w (fun _=>False) w hrep (by rw[gg]at hok⊢;exact fun z hz=>eJ (hok z hz))
 rw[s1 J];refine hcall.mono fun e w' ⟨y,ρ',fps',res',g1,g2,g3,g4⟩=>?_
 rcases g4 with⟨rfl,hK⟩|⟨_,hK⟩
 ·refine⟨_,rfl,J,?_,?_,?_⟩
  ·have hb:Below w.heap.size w w':=by
    refine⟨g1.os,g1.tape,g1.output,g1.old,fun b hb=>g1.same b hb (fun h=>h)⟩
   exact⟨hb,Env.aW.refl _ _,fun _ _=>False,fun k hk=>by simp at hk,fun k l b hk=>by simp at hk⟩
  ·obtain⟨e1,e2,_⟩:=hK ρ' (known res');rw[e1];exact oW hid (e2 g3) J ρ'
  ·obtain⟨e1,e2,_⟩:=hK ρ' (known res');exact mW x hid (e2 g3)
 ·exact hK.elim
def p7 {α:Type} (r:V->Option α) (m:α->V):Prop:=∀v x,r v=some x->(∀J,den J v=den J (m x))/\∀K,ok K v->ok (fun _=>False) (m x)
def rI (k:IntKind) (v:V):Option Int:=
 match toInt v with
 |some (k',n)=>if k==k' then some n else none
 |none=>none
def rK (v:V):Option Key:=
 match v with
 | .key k=>some k
 | .ag l=>match l with
   | [a,b,c,d,e,f]=>match rI .i64 a with
     |some a=>match rI .i64 b with
      |some b=>match rI .i64 c with
       |some c=>match rI .i64 d with
        |some d=>match rI .i64 e with
         |some e=>match rI .i64 f with
          |some f=>some ⟨a,b,c,d,e,f⟩
          |none=>none
         |none=>none
        |none=>none
       |none=>none
      |none=>none
     |none=>none
   |_=>none
 |_=>none
def rO:V->Option Obj
 | .ob o=>some o
 |_=>none
theorem Ho:p7 toBool V.bo:=by
 intro v x h;cases v<;>simp[toBool]at h<;>subst h<;>exact⟨fun _=>rfl,fun _ _=>trivial⟩
theorem fF (k:IntKind):p7 (rI k) (V.it k):=by
 intro v x h;unfold rI at h;cases v<;>simp[toInt]at h<;>obtain⟨rfl,rfl⟩:=h
 ·exact⟨fun _=>rfl,fun _ hk=>hk⟩
 ·exact⟨fun _=>rfl,fun _ hk=>hk⟩
 ·rename_i b;refine⟨fun _=>rfl,fun _ _=>?_⟩
  have:=b.toNat_lt;simp only[ok,cy,MK];omega
theorem fO:p7 rK V.key:=by
 intro v x h;unfold rK at h;split at h
 ·simp only[Tf]at h;subst h;exact⟨fun _=>rfl,fun _ hk=>hk⟩
 ·split at h
  case h_2=>simp at h
  split at h<;>try(simp at h;done)
  rename_i h1;split at h<;>try(simp at h;done)
  rename_i h2;split at h<;>try(simp at h;done)
  rename_i h3;split at h<;>try(simp at h;done)
  rename_i h4;split at h<;>try(simp at h;done)
  rename_i h5;split at h<;>simp only[Tf,reduceCtorEq]at h
  rename_i h6;subst h;have e1:=fF .i64 _ _ h1;have e2:=fF .i64 _ _ h2;have e3:=fF .i64 _ _ h3;have e4:=fF .i64 _ _ h4;have e5:=fF .i64 _ _ h5;have e6:=fF .i64 _ _ h6;refine⟨fun J=>?_,fun K hK=>?_⟩
  ·simp only[den,aR,e1.1 J,e2.1 J,e3.1 J,e4.1 J,e5.1 J,e6.1 J];rfl
  ·obtain⟨⟨k1,k2,k3,k4,k5,k6,_⟩,_⟩:=hK;exact⟨e1.2 K k1,e2.2 K k2,e3.2 K k3,e4.2 K k4,e5.2 K k5,e6.2 K k6⟩
 ·simp at h
theorem Qn {v:V} {x:Key} (h:rK v=some x):bH v=false:=by
 cases v<;>first|rfl|simp[rK]at h
theorem xt:p7 rO V.ob:=by
 intro v x h;cases v<;>simp[rO]at h<;>subst h<;>exact⟨fun _=>rfl,fun _ hk=>hk⟩
def PO (F:V):Ct:=fun _ _ xs=>match xs with
 | []=>some (none,F,[])
 |_=>none
def Nn {α:Type} (r:V->Option α) (F:α->V):Ct:=fun _ _ xs=>match xs with
 | [a]=>match r a with
   |some x=>some (none,F x,[])
   |none=>none
 |_=>none
def MX {α β:Type} (r:V->Option α) (s:V->Option β) (F:α->β->V):Ct:=fun _ _ xs=>match xs with
 | [a,b]=>match r a,s b with
   |some x,some y=>some (none,F x y,[])
   |_,_=>none
 |_=>none
def Rw {α β γ:Type} (r:V->Option α) (s:V->Option β) (t:V->Option γ) (F:α->β->γ->V):Ct:=fun _ _ xs=>match xs with
 | [a,b,c]=>match r a,s b,t c with
   |some x,some y,some z=>some (none,F x y z,[])
   |_,_,_=>none
 |_=>none
theorem Ob {P:Program} {f:Nat} {F:V} (hF:jr F=true) (h:ai P f [] [] (rm F) (fun _ _=>False)):cW P f (PO F):=by
 refine ra fun res nid args q x new hg=>?_
 unfold PO at hg;split at hg<;>simp only[Tf,Tg,reduceCtorEq]at hg
 obtain⟨rfl,rfl,rfl⟩:=hg;exact⟨rfl,hF,[],⟨fun _=>rfl,fun _ _=>trivial⟩,fun _ _=>h.mono (fun _ _=>dB) fun _ _ h=>h⟩
theorem PF {P:Program} {f:Nat} {F:V} (hF:jr F=true) (h:ai P f [] [] (fun v _=>v=F) (fun _ _=>False)):cW P f (PO F):=by
 refine ra fun res nid args q x new hg=>?_
 unfold PO at hg;split at hg<;>simp only[Tf,Tg,reduceCtorEq]at hg
 obtain⟨rfl,rfl,rfl⟩:=hg;exact⟨rfl,hF,[],⟨fun _=>rfl,fun _ _=>trivial⟩,fun _ _=>h.mono (fun v _ e=>by subst e;exact fun J K=>qh.refl J K v) fun _ _ h=>h⟩
theorem p5 {P:Program} {f:Nat} {α:Type} {r:V->Option α} {m:α->V} {F:α->V} (hr:p7 r m) (hF:∀x,jr (F x)=true)
  (h:∀x,ok (fun _=>False) (m x)->ai P f [m x] [] (rm (F x)) (fun _ _=>False)):cW P f (Nn r F):=by
 refine ra fun res nid args q x new hg=>?_
 unfold Nn at hg;split at hg<;>(try split at hg)<;>simp only[Tf,Tg,reduceCtorEq]at hg
 rename_i a x h1;obtain⟨rfl,rfl,rfl⟩:=hg;obtain⟨a1,a2⟩:=hr _ x h1;exact⟨rfl,hF x,[m x],⟨fun J=>by simp[ba,a1 J],fun K hK=>⟨a2 K hK.1,trivial⟩⟩,fun _ hok=>(h x hok.1).mono (fun _ _=>dB) fun _ _ h=>h⟩
theorem oI {P:Program} {f:Nat} {α β:Type} {r:V->Option α} {s:V->Option β} {m:α->V} {n:β->V} {F:α->β->V} (hr:p7 r m) (hs:p7 s n) (hF:∀x y,jr (F x y)=true)
  (h:∀x y,ok (fun _=>False) (m x)->ok (fun _=>False) (n y)->ai P f [m x,n y] [] (rm (F x y)) (fun _ _=>False)):cW P f (MX r s F):=by
 refine ra fun res nid args q x new hg=>?_
 unfold MX at hg;split at hg<;>(try split at hg)<;>simp only[Tf,Tg,reduceCtorEq]at hg
 rename_i a b x y h1 h2;obtain⟨rfl,rfl,rfl⟩:=hg;obtain⟨a1,a2⟩:=hr _ x h1;obtain⟨b1,b2⟩:=hs _ y h2;exact⟨rfl,hF x y,[m x,n y],⟨fun J=>by simp[ba,a1 J,b1 J],fun K hK=>⟨a2 K hK.1,b2 K hK.2.1,trivial⟩⟩,fun _ hok=>(h x y hok.1 hok.2.1).mono (fun _ _=>dB) fun _ _ h=>h⟩
theorem Hs {P:Program} {f:Nat} {α β γ:Type} {r:V->Option α} {s:V->Option β} {t:V->Option γ} {m:α->V} {n:β->V} {o:γ->V} {F:α->β->γ->V} (hr:p7 r m) (hs:p7 s n) (ht:p7 t o)
  (hF:∀x y z,jr (F x y z)=true)
  (h:∀x y z,ok (fun _=>False) (m x)->ok (fun _=>False) (n y)->ok (fun _=>False) (o z)->ai P f [m x,n y,o z] [] (rm (F x y z)) (fun _ _=>False)):cW P f (Rw r s t F):=by
 refine ra fun res nid args q x new hg=>?_
 unfold Rw at hg;split at hg<;>(try split at hg)<;>simp only[Tf,Tg,reduceCtorEq]at hg
 rename_i a b c x y z h1 h2 h3;obtain⟨rfl,rfl,rfl⟩:=hg;obtain⟨a1,a2⟩:=hr _ x h1;obtain⟨b1,b2⟩:=hs _ y h2;obtain⟨c1,c2⟩:=ht _ z h3;exact⟨rfl,hF x y z,[m x,n y,o z],⟨fun J=>by simp[ba,a1 J,b1 J,c1 J],fun K hK=>⟨a2 K hK.1,b2 K hK.2.1,c2 K hK.2.2.1,trivial⟩⟩,fun _ hok=>(h x y z hok.1 hok.2.1 hok.2.2.1).mono (fun _ _=>dB) fun _ _ h=>h⟩
def S1:List Nat->Nat->Bool
 | [],_=>false
 |x::l,i=>x==i||S1 l i
def Q4:List (Nat×V)->Nat->Option V
 | [],_=>none
 | (j,v)::l,i=>if j==i then some v else Q4 l i
def MY (k7:List Nat) (set:List (Nat×V)):Nat->List S->List S
 |_,[]=> []
 |i,s::l=>(match Q4 set i with
  |some v=> .v v
  |none=>if S1 k7 i then s else .und)::MY k7 set (i+1) l
def S3 (k7:List Nat) (t:Nat) (inv:Int->Prop) (m:Int):dL:=
 {γ:=Int,head:=fun U g=> {U with slots:=MY k7 [(t,.it .i64 g)] 0 U.slots},inv:=inv,μ:=fun g=>nN (sJ m g)}
def PX (k7:List Nat) (set:Int->List (Nat×V)) (inv:Int->Prop) (m:Int):dL:=
 {γ:=Int,head:=fun U g=> {U with slots:=MY k7 (set g) 0 U.slots},inv:=inv,μ:=fun g=>nN (sJ m g)}
def me:List (Nat×Nat×dL)->Nat->Nat->Option dL
 | [],_,_=>none
 | (f,r,A)::l,f',r'=>if f==f'&&r==r' then some A else me l f' r'
def aL (_ _:Nat):Option dL:=none
def bM (_:Nat):Bool:=false
def S6:Handler:=fun _ _ _ _ _=>False
end Go.Sx
namespace Go.Proofs.YtghpaegglbbocaaGreat
open Go.Sx
noncomputable def cf (l:List (Nat×Ct)) (inl:Nat->Bool) (ann:Nat->Nat->Option dL):Kb:= {P:=Tryz.prog,Z:=zeroOf,Γ:=m8 l,H0:=S6,inl:=inl,ann:=ann,opn:=Iu inl}
theorem JC {l:List (Nat×Ct)} {inl:Nat->Bool} {ann:Nat->Nat->Option dL} (hl:∀p∈l,cW Tryz.prog p.1 p.2):(cf l inl ann).toCtx.Sound:=
 ⟨vD mC,Tryz.checked.mixed,fun f g hg=>ke hl f g hg,fun f ts te h=>by simp[cf]at h⟩
abbrev vc (l:List (Nat×Ct)) (inl:Nat->Bool) (ann:Nat->Nat->Option dL) (f:Nat) (args:List V) (res:List aw) (K KP:V->List aw->Prop):Prop:=
 enter (cf l inl ann).toCtx (exec (cf l inl ann) 100 ⟨false,none⟩) (exec (cf l inl ann) 100 ⟨false,none⟩ f) f args res K KP
set_option maxRecDepth 100000 in
theorem bh {l:List (Nat×Ct)} {inl:Nat->Bool} {ann:Nat->Nat->Option dL} (hl:∀p∈l,cW Tryz.prog p.1 p.2) {f:Nat} {args:List V} {res:List aw} {K KP:V->List aw->Prop}
  {G:Prop} (hG:G) (h:G=vc l inl ann f args res K KP):ai Tryz.prog f args res K KP:=
 yO (C:=cf l inl ann) (n:=100) (JC hl) (fun _ _ _ _ _ hh=>hh.elim) (Eq.mp h hG)
end Go.Proofs.YtghpaegglbbocaaGreat
namespace Go.Sx
theorem ak {P:Program}:∀p∈([]:List (Nat×Ct)),cW P p.1 p.2:=by simp
theorem ab {P:Program} {f:Nat} {g:Ct} {l:List (Nat×Ct)} (h:cW P f g) (t:∀p∈l,cW P p.1 p.2):∀p∈(f,g)::l,cW P p.1 p.2:=by
 intro p hp;rcases List.mem_cons.1 hp with rfl|hp
 ·exact h
 ·exact t p hp
end Go.Sx
namespace Go.Sx
open Go.RowKit (Below)
theorem aT.xy {J:Env} {fps:Nat->Nat->Prop} {res:List aw} {K:Nat->Prop} {w0:World} {F0:Nat->Prop} {w:World} (h:aT J fps res K w0 F0 w) {i:Nat} {r:aw}
  (hr:cN res i=r) (hk:known res i):∃fp:Nat->Prop,r.holds K J i fp w0 F0 w/\∀b,fp b->fps i b\/(b<w0.heap.size/\¬F0 b):=by
 have hh:=h.holds i hk;unfold cN at hr;split at hr
 ·rename_i r' he;rw[he]at hh;subst hr;obtain⟨fp',h1,h2⟩:=hh;exact⟨fp',aw.eF _ h1 fun b hb=>h.same b (h2 b hb).1 (h2 b hb).2,fun b hb=> .inr (h2 b hb)⟩
 ·subst hr;exact⟨fps i,hh,fun b hb=> .inl hb⟩
def ei (κ:Nat->Option Nat) (res:List aw):List (Nat×Bool)->List aw
 | []=> []
 | (p,o)::l=>(if o then fI κ (aj res p)else .ro (fI κ (cN res p)))::ei κ res l
def de:List (Nat×Bool)->List Nat
 | []=> []
 | (p,_)::l=>p::de l
def ej (res:List aw):List (Nat×Bool)->Bool
 | []=>true
 | (p,_)::l=>iL res p&&ej res l
theorem kJ:∀(l:List (Nat×Bool)) (i:Nat),(de l)[i]? =(l[i]?).map (·.1)
 | [],i=>by simp[de]
 | (p,o)::l,0=>by simp[de]
 | (p,o)::l,i+1=>by simp[de,kJ l i]
theorem sE (κ:Nat->Option Nat) (res:List aw):∀(l:List (Nat×Bool)) (i:Nat),aj (ei κ res l) i=match l[i]? with
  |some (p,o)=>if o then fI κ (aj res p)else .ro (fI κ (cN res p))
  |none=> .yet
 | [],i=>by simp[ei,aj]
 | (p,o)::l,0=>by simp[ei,aj]
 | (p,o)::l,i+1=>by simp[ei,aj,sE κ res l i]
theorem qO (κ:Nat->Option Nat) (res:List aw):∀(l:List (Nat×Bool)),(ei κ res l).length=l.length
 | []=>rfl
 | (p,o)::l=>by simp[ei,qO κ res l]
theorem cV {res:List aw}:∀{l:List (Nat×Bool)},ej res l=true->∀(i:Nat) (p:Nat) (o:Bool),l[i]? =some (p,o)->known res p
 | [],_,i,p,o,h=>by simp at h
 | (x,y)::l,hk,i,p,o,h=>by
   simp only[ej,Th]at hk;cases i with
   |zero=>simp at h;obtain⟨rfl,_⟩:=h;exact cS.1 hk.1
   |succ i=>exact cV hk.2 i p o (by simpa using h)
theorem lj {p:Nat}:∀(l:List Nat) (m k:Nat),l.Nodup->l[k]? =some p->idxOf l m p=some (m+k)
 | [],m,k,_,h=>by simp at h
 |x::l,m,k,hnd,h=>by
  simp only[idxOf];cases k with
  |zero=>simp at h;subst h;simp
  |succ k=>
   simp at h
   have hne:(x==p)=false:=by
    rw[beq_eq_false_iff_ne];rintro rfl
    exact(List.nodup_cons.1 hnd).1 (List.mem_of_getElem? h)
   rw[hne];simp only[Bool.false_eq_true,if_false];rw[lj l (m+1) k (List.nodup_cons.1 hnd).2 h];congr 1;omega
theorem EW {l:List Nat} {p i:Nat} (h:jO 0 l p=some i):l[i]? =some p:=by
 unfold jO at h;split at h
 ·rename_i hb;simp at hb
 ·have:=gh h;simpa using this.2.2
theorem zc {l:List Nat} {p i:Nat} (hnd:l.Nodup) (h:l[i]? =some p):jO 0 l p=some i:=by
 unfold jO;rw[Tn (by simp),lj l 0 i hnd h];simp
def Frame (J:Env) (fps:Nat->Nat->Prop) (pl:List (Nat×Bool)) (b:Nat):Prop:=∃(i p:Nat),pl[i]? =some (p,true)/\fps p b
section
variable {J:Env} {fps:Nat->Nat->Prop} {res:List aw} {w0 w:World} {F0:Nat->Prop}
theorem aT.ei {K:Nat->Prop} (h:aT J fps res K w0 F0 w) {pl:List (Nat×Bool)} (hk:ej res pl=true) (hnd:(de pl).Nodup):
  aT (J.pull (src 0 (de pl))) (fun i b=>∃p:Nat,pl[i]? =some (p,true)/\fps p b) (ei (jO 0 (de pl)) res pl) (known (ei (jO 0 (de pl)) res pl)) w (Frame J fps pl) w/\
   (∀i,i<pl.length->known (ei (jO 0 (de pl)) res pl) i)/\Env.via (jO 0 (de pl)) J (J.pull (src 0 (de pl)))/\∀p i,jO 0 (de pl) p=some i->K p->known (Sx.ei (jO 0 (de pl)) res pl) i:=by
 generalize hκ:jO 0 (de pl)=κ
 have hπ:∀p i,κ p=some i->src 0 (de pl) i=p:=fun p i hp=>by subst hκ;exact Dq hp
 have hv:Env.via κ J (J.pull (src 0 (de pl))):=rC hπ
 have hsome:∀i p o,pl[i]? =some (p,o)->κ p=some i:=fun i p o hi=>by
  subst hκ;exact zc hnd (by rw[kJ,hi];rfl)
 have hkn:∀i p o,pl[i]? =some (p,o)->known (Sx.ei κ res pl) i:=fun i p o hi=>by
  unfold known;rw[sE,hi];simp only;split
  ·exact fun e=>cV hk i p o hi (jN.1 e)
  ·simp
 have hget:∀i,known (Sx.ei κ res pl) i->∃p o,pl[i]? =some (p,o):=fun i hi=>by
  have:=aF hi;rw[qO]at this;exact⟨pl[i].1,pl[i].2,by rw[List.getElem?_eq_getElem this]⟩
 have hN:∀p i,κ p=some i->K p->known (Sx.ei κ res pl) i:=fun p i hp _=>by
  subst hκ;have:=EW hp;rw[kJ]at this;cases hi:pl[i]? with
  |none=>rw[hi]at this;simp at this
  |some po=>exact hkn i po.1 po.2 hi
 have huniq:∀i j p o o',pl[i]? =some (p,o)->pl[j]? =some (p,o')->i=j:=fun i j p o o' hi hj=>by
  have a:=hsome i p o hi;rw[hsome j p o' hj]at a;simpa using a.symm
 have hfr:∀b,b<w0.heap.size->¬F0 b->w.heap[b]? =w0.heap[b]? /\¬Frame J fps pl b:=fun b hb hF=>by
  refine⟨h.same b hb hF,?_⟩;rintro⟨i,p,hi,hf⟩
  exact hF (h.inF p b (cV hk i p true hi) hf hb)
 refine⟨⟨fun i hi=>hi,Nat.le_refl _,rfl,rfl,rfl,fun i hi=>?_,?_,?_,?_,fun _ _ _=>rfl⟩,fun i hi=>hkn i pl[i].1 pl[i].2 (by rw[List.getElem?_eq_getElem hi]),hv,hN⟩
 ·obtain⟨p,o,hp⟩:=hget i hi;have hkp:=cV hk i p o hp;rw[sE,hp];simp only;cases o with
  |true=>
   simp only[if_true];have:=aw.sI h.old hfr _ _ (h.holds p hkp);have:=gx hv hN (hsome i p true hp) _ _ _ this
   have e:(fun b=>∃p':Nat,some (p,true)=some (p',true)/\fps p' b)=fps p:=by
    funext b;simp
   rw[e];exact this
  |false=>
   simp only[Bool.false_eq_true,if_false];obtain⟨fp,g1,g2⟩:=h.xy rfl hkp;refine⟨fp,gx hv hN (hsome i p false hp) _ _ _ (aw.sI h.old hfr _ _ g1),fun b hb=>?_⟩
   rcases g2 b hb with hf|⟨hl,hF⟩
   ·refine⟨h.lt p b hkp hf,?_⟩;rintro⟨j,p',hj,hf'⟩
    have hkp':=cV hk j p' true hj;refine h.disj p p' b hkp hkp' (fun e=>?_) hf hf'
    subst e;have:=huniq i j p false true hp hj;subst this;rw[hp]at hj;simp at hj
   ·exact⟨Nat.lt_of_lt_of_le hl h.old,(hfr b hl hF).2⟩
 ·rintro i b hi ⟨p,hp,hf⟩
  exact h.lt p b (cV hk i p true hp) hf
 ·rintro i j b hi hj hne ⟨p,hp,hf⟩ ⟨p',hp',hf'⟩
  refine h.disj p p' b (cV hk i p true hp) (cV hk j p' true hp') (fun e=>hne ?_) hf hf'
  subst e;exact huniq i j p true true hp hp'
 ·rintro i b hi ⟨p,hp,hf⟩ _
  exact⟨i,p,hp,hf⟩
def eM (κ2:Nat->Option Nat) (r':List aw):Nat->List (Nat×Bool)->List aw->List aw
 |_,[],res=>res
 |i,(p,o)::l,res=>if o then eM κ2 r' (i+1) l (bG res p (fI κ2 (aj r' i)))else eM κ2 r' (i+1) l res
def wx:List (Nat×Bool)->Nat->Option Nat
 | [],_=>none
 | (p,_)::_,0=>some p
 |_::l,i+1=>wx l i
def back (pl:List (Nat×Bool)) (ext:List Nat) (n j:Nat):Option Nat:=
 match wx pl j with
 |some p=>some p
 |none=>idxOf ext n j
def merge (pl:List (Nat×Bool)) (ext:List Nat) (r' res:List aw):List aw:=
 eM (back pl ext res.length) r' 0 pl res++fL (back pl ext res.length) r' ext
theorem ur:∀(l:List (Nat×Bool)) (i:Nat),wx l i=(l[i]?).map (·.1)
 | [],i=>by simp[wx]
 | (p,o)::l,0=>by simp[wx]
 | (p,o)::l,i+1=>by simp[wx,ur l i]
theorem lb (κ2:Nat->Option Nat) (r':List aw):∀(l:List (Nat×Bool)) (i:Nat) (res:List aw),(eM κ2 r' i l res).length=res.length
 | [],_,_=>rfl
 | (p,o)::l,i,res=>by
   simp only[eM];split
   ·rw[lb κ2 r' l,bP]
   ·exact lb κ2 r' l _ _
theorem jI (κ2:Nat->Option Nat) (r':List aw):∀(l:List (Nat×Bool)) (i:Nat) (res:List aw) (x:Nat),(∀k:Nat,l[k]? ≠some (x,true))->(∀(k p:Nat) (o:Bool),l[k]? =some (p,o)->p<res.length)->aj (eM κ2 r' i l res) x=aj res x
 | [],_,_,_,_,_=>rfl
 | (p,o)::l,i,res,x,h,hb=>by
   have hl:∀k:Nat,l[k]? ≠some (x,true):=fun k=>by have:=h (k+1);simpa using this
   have hb':∀(k p:Nat) (o:Bool),l[k]? =some (p,o)->p<res.length:=fun k p o hk=>hb (k+1) p o (by simpa using hk)
   simp only[eM];split
   ·rename_i ho;subst ho;have hne:x≠p:=fun e=>h 0 (by simp[e])
    rw[jI κ2 r' l _ _ x hl (fun k p o hk=>by rw[bP];exact hb' k p o hk),bB _ _ _ _ (hb 0 p true (by simp)),Tn hne]
   ·exact jI κ2 r' l _ _ x hl hb'
theorem oi (κ2:Nat->Option Nat) (r':List aw):∀(l:List (Nat×Bool)) (i:Nat) (res:List aw) (x k:Nat),l[k]? =some (x,true)->(de l).Nodup->(∀(k p:Nat) (o:Bool),l[k]? =some (p,o)->p<res.length)->
  aj (eM κ2 r' i l res) x=fI κ2 (aj r' (i+k))
 | [],_,_,_,_,h,_,_=>by simp at h
 | (p,o)::l,i,res,x,k,h,hnd,hb=>by
   have hb':∀(k p:Nat) (o:Bool),l[k]? =some (p,o)->p<res.length:=fun k p o hk=>hb (k+1) p o (by simpa using hk)
   have hnd':=List.nodup_cons.1 (show(p::de l).Nodup from hnd);simp only[eM];cases k with
   |zero=>
    simp at h;obtain⟨rfl,rfl⟩:=h;simp only[if_true,Nat.add_zero];rw[jI κ2 r' l _ _ p (fun k hk=>hnd'.1 (List.mem_of_getElem? (i:=k) (by rw[kJ,hk];rfl))) (fun k p o hk=>by rw[bP];exact hb' k p o hk),bB _ _ _ _ (hb 0 p true (by simp)),To rfl]
   |succ k=>
    have h:l[k]? =some (x,true):=by simpa using h
    split
    ·rw[oi κ2 r' l _ _ x k h hnd'.2 (fun k p o hk=>by rw[bP];exact hb' k p o hk)]
     congr 2;omega
    ·rw[oi κ2 r' l _ _ x k h hnd'.2 hb'];congr 2;omega
def Env.join (n:Nat) (ext:List Nat) (J ρ2:Env):Env:=
 {num:=fun i=>if i<n then J.num i else ρ2.num (ext.getD (i-n) 0),cap:=fun i=>if i<n then J.cap i else ρ2.cap (ext.getD (i-n) 0),adr:=fun i=>if i<n then J.adr i else ρ2.adr (ext.getD (i-n) 0),
  sa:=fun i=>if i<n then J.sa i else ρ2.sa (ext.getD (i-n) 0),sn:=fun i=>if i<n then J.sn i else ρ2.sn (ext.getD (i-n) 0),ob:=fun i=>if i<n then J.ob i else ρ2.ob (ext.getD (i-n) 0)}
section
variable {J:Env} {fps:Nat->Nat->Prop} {res:List aw} {w0 w:World} {F0:Nat->Prop}
theorem aT.merge (h:aT J fps res (known res) w0 F0 w) {pl:List (Nat×Bool)} (hk:ej res pl=true) (hnd:(de pl).Nodup) {ρ2:Env} {fps2:Nat->Nat->Prop} {r':List aw} {w':World}
  (h2:aT ρ2 fps2 r' (known r') w (Frame J fps pl) w') (hg:Good (J.pull (src 0 (de pl))) (Sx.ei (jO 0 (de pl)) res pl) ρ2 r') {ext:List Nat} (he:iq pl.length r'.length ext=true)
  (ho1:∀(i p:Nat),pl[i]? =some (p,true)->iw (aj r' i)=true) (ho2:∀j,j∈ext->iw (aj r' j)=true):
  ∃ρ3 fps3,aT ρ3 fps3 (Sx.merge pl ext r' res) (known (Sx.merge pl ext r' res)) w0 F0 w'/\Good J res ρ3 (Sx.merge pl ext r' res)/\Env.via (back pl ext res.length) ρ2 ρ3/\
   ∀j i,back pl ext res.length j=some i->known r' j->known (Sx.merge pl ext r' res) i:=by
 obtain⟨_,hkr,_,_⟩:=h.ei hk hnd;obtain⟨e1,e2⟩:=ng he;have hlt:∀(k p:Nat) (o:Bool),pl[k]? =some (p,o)->p<res.length:=fun k p o hp=>aF (cV hk k p o hp)
 have hpll:∀(k p:Nat) (o:Bool),pl[k]? =some (p,o)->k<pl.length:=fun k p o hp=>(List.getElem?_eq_some_iff.1 hp).1
 have huniq:∀i j p o o',pl[i]? =some (p,o)->pl[j]? =some (p,o')->i=j:=fun i j p o o' hi hj=>by
  have a:=zc hnd (show(de pl)[i]? =some p by rw[kJ,hi];rfl)
  rw[zc hnd (show(de pl)[j]? =some p by rw[kJ,hj];rfl)]at a
  simpa using a.symm
 have huniqE:∀(a b j:Nat),ext[a]? =some j->ext[b]? =some j->a=b:=fun a b j ha hb=>by
  have x:=lj ext 0 a e2 ha;rw[lj ext 0 b e2 hb]at x;simpa using x.symm
 have hback1:∀k p o,pl[k]? =some (p,o)->back pl ext res.length k=some p:=fun k p o hp=>by
  unfold back;rw[ur,hp];rfl
 have hback2:∀a j,ext[a]? =some j->back pl ext res.length j=some (res.length+a):=fun a j ha=>by
  unfold back;have:=(e1 j (List.mem_of_getElem? ha)).1;rw[ur,List.getElem?_eq_none this];exact lj ext _ a e2 ha
 have hbackS:∀j i,back pl ext res.length j=some i->(∃o,pl[j]? =some (i,o))\/(∃a,ext[a]? =some j/\i=res.length+a):=fun j i hj=>by
  unfold back at hj;rw[ur]at hj;cases hp:pl[j]? with
  |some po=>rw[hp]at hj;simp at hj;exact .inl ⟨po.2,by rw[<-hj]⟩
  |none=>
   rw[hp]at hj;simp at hj;obtain⟨a1,a2,a3⟩:=gh hj;exact .inr ⟨i-res.length,a3,by omega⟩
 have hget:∀i,aj (Sx.merge pl ext r' res) i=if i<res.length then aj (eM (back pl ext res.length) r' 0 pl res) i else match ext[i-res.length]? with|some j=>fI (back pl ext res.length) (aj r' j)|none=> .yet:=fun i=>by
  unfold Sx.merge;rw[bC,lb];by_cases hi:i<res.length
  ·rw[To hi,To hi]
  ·rw[Tn hi,Tn hi,ou];cases ext[i-res.length]? <;>rfl
 have hown:∀k p,pl[k]? =some (p,true)->aj (Sx.merge pl ext r' res) p=fI (back pl ext res.length) (aj r' k):=fun k p hp=>by
  rw[hget,To (hlt k p true hp),oi _ r' pl 0 res p k hp hnd hlt,Nat.zero_add]
 have hother:∀i,i<res.length->(∀k,pl[k]? ≠some (i,true))->aj (Sx.merge pl ext r' res) i=aj res i:=fun i hi hno=>by
  rw[hget,To hi,jI _ r' pl 0 res i hno hlt]
 have hext:∀a j,ext[a]? =some j->aj (Sx.merge pl ext r' res) (res.length+a)=fI (back pl ext res.length) (aj r' j):=fun a j ha=>by
  rw[hget,Tn (by omega),show res.length+a-res.length=a by omega,ha]
 have hkr':∀k p o,pl[k]? =some (p,o)->known r' k:=fun k p o hp=>hg.2 k (hkr k (hpll k p o hp))
 have hN:∀j i,back pl ext res.length j=some i->known r' j->known (Sx.merge pl ext r' res) i:=fun j i hj hkj=>by
  rcases hbackS j i hj with⟨o,hp⟩|⟨a,ha,rfl⟩
  ·by_cases hT:∃k:Nat,pl[k]? =some (i,true)
   ·obtain⟨k,hk'⟩:=hT;unfold known;rw[hown k i hk'];exact fun e=>hkr' k i true hk' (jN.1 e)
   ·unfold known;rw[hother i (hlt j i o hp) fun k hk'=>hT ⟨k,hk'⟩]
    exact cV hk j i o hp
  ·unfold known;rw[hext a j ha];exact fun e=>hkj (jN.1 e)
 have hmono:∀i,known res i->known (Sx.merge pl ext r' res) i:=fun i hi=>by
  by_cases hT:∃k:Nat,pl[k]? =some (i,true)
  ·obtain⟨k,hk'⟩:=hT;exact hN k i (hback1 k i true hk') (hkr' k i true hk')
  ·unfold known;rw[hother i (aF hi) fun k hk'=>hT ⟨k,hk'⟩]
   exact hi
 have hag:Env.aW (known res) J (Env.join res.length ext J ρ2):=fun i hi=>by
  have:=aF hi;simp[Env.join,this]
 have hvia:Env.via (back pl ext res.length) ρ2 (Env.join res.length ext J ρ2):=fun j i hj=>by
  rcases hbackS j i hj with⟨o,hp⟩|⟨a,ha,rfl⟩
  ·have hil:=hlt j i o hp;have hj':=hg.1 j (hkr j (hpll j i o hp))
   have hsrc:src 0 (de pl) j=i:=by
    unfold src;rw[Tn (by omega),Nat.sub_zero,Tm,kJ,hp];rfl
   simp only[Env.pull,hsrc]at hj';obtain⟨a1,a2,a3,a4,a5,a6⟩:=hj';simp[Env.join,hil,a1,a2,a3,a4,a5,a6]
  ·have hng:¬res.length+a<res.length:=by omega
   have:ext.getD (res.length+a-res.length) 0=j:=by
    rw[show res.length+a-res.length=a by omega,Tm,ha];rfl
   simp only[Env.join,Tn hng,this];simp
 obtain⟨fps3,g⟩:=h.turn (res':=Sx.merge pl ext r' res) (K':=known (Sx.merge pl ext r' res)) (fun i=>∃k:Nat,pl[k]? =some (i,true)) (fun i=>(∃k:Nat,pl[k]? =some (i,true))\/res.length<=i)
  (fun i b=>(∃k:Nat,pl[k]? =some (i,true)/\fps2 k b)\/(res.length<=i/\∃j,ext[i-res.length]? =some j/\known r' j/\fps2 j b))
  (fun i hi=>hi) hmono hag
  (fun i hi hb=>by
   have hlt':i<res.length:=by
    rcases Nat.lt_or_ge i res.length with h|h
    ·exact h
    ·exact absurd (.inr h) hb
   have e:=hother i hlt' fun k hk'=>hb (.inl ⟨k,hk'⟩)
   exact⟨by unfold known at hi⊢;rw[e]at hi;exact hi,fun hT=>hb (.inl hT),e⟩)
  (fun i hi hb=>by
   have hfoot:∀k b,known r' k->fps2 k b->(∃t,(∃k:Nat,pl[k]? =some (t,true))/\known res t/\fps t b)\/(w.heap.size<=b/\b<w'.heap.size):=fun k b hk' hf=>by
    by_cases hbw:b<w.heap.size
    ·obtain⟨x,p,hp,hfp⟩:=h2.inF k b hk' hf hbw;exact .inl ⟨p,⟨x,hp⟩,cV hk x p true hp,hfp⟩
    ·exact .inr ⟨by omega,h2.lt k b hk' hf⟩
   by_cases hT:∃k:Nat,pl[k]? =some (i,true)
   ·obtain⟨k,hp⟩:=hT;have hkk:=hkr' k i true hp;have hil:=hlt k i true hp
    have e:(fun b=>(∃k:Nat,pl[k]? =some (i,true)/\fps2 k b)\/(res.length<=i/\∃j,ext[i-res.length]? =some j/\known r' j/\fps2 j b))=fps2 k:=by
     funext b
     apply propext
     constructor
     ·rintro(⟨k',hp',hf⟩|⟨hge,_⟩)
      ·rw[huniq k k' i true true hp hp'];exact hf
      ·omega
     ·exact fun hf=> .inl ⟨k,hp,hf⟩
    refine⟨?_,fun b hf=>hfoot k b hkk (by rw[<-e];exact hf)⟩
    rw[e,hown k i hp];exact gx hvia hN (hback1 k i true hp) _ _ _ (jB (ho1 k i hp) (h2.holds k hkk))
   ·have hge:res.length<=i:=hb.resolve_left hT
    have hj:∃j,ext[i-res.length]? =some j:=by
     unfold known at hi;rw[hget,Tn (by omega)]at hi
     cases hx:ext[i-res.length]? with
     |none=>rw[hx]at hi;exact absurd rfl hi
     |some j=>exact⟨j,rfl⟩
    obtain⟨j,hj⟩:=hj
    have hkj:known r' j:=by
     unfold known at hi;rw[hget,Tn (by omega),hj]at hi
     exact fun e=>hi (jN.2 e)
    have e:(fun b=>(∃k:Nat,pl[k]? =some (i,true)/\fps2 k b)\/(res.length<=i/\∃j,ext[i-res.length]? =some j/\known r' j/\fps2 j b))=fps2 j:=by
     funext b
     apply propext
     constructor
     ·rintro(⟨k',hp',hf⟩|⟨_,j',hj',_,hf⟩)
      ·exact absurd ⟨k',hp'⟩ hT
      ·rw[hj]at hj';simp at hj';subst hj';exact hf
     ·exact fun hf=> .inr ⟨hge,j,hj,hkj,hf⟩
    refine⟨?_,fun b hf=>hfoot j b hkj (by rw[<-e];exact hf)⟩
    have hie:i=res.length+(i-res.length):=by omega
    have hb2:=hback2 _ j hj;rw[<-hie]at hb2;have hx:=hext _ j hj;rw[<-hie]at hx;rw[e,hx];exact gx hvia hN hb2 _ _ _ (jB (ho2 j (List.mem_of_getElem? hj)) (h2.holds j hkj)))
  (fun i j b hbi hbj hne hf hf'=>by
   have sel:∀x,((∃k:Nat,pl[k]? =some (x,true)/\fps2 k b)\/(res.length<=x/\∃j,ext[x-res.length]? =some j/\known r' j/\fps2 j b))->∃k,known r' k/\fps2 k b/\((pl[k]? =some (x,true))\/(res.length<=x/\ext[x-res.length]? =some k)):=by
    rintro x (⟨k,hp,hf⟩|⟨hge,j,hj,hkj,hf⟩)
    ·exact⟨k,hkr' k x true hp,hf,.inl hp⟩
    ·exact⟨j,hkj,hf,.inr ⟨hge,hj⟩⟩
   obtain⟨k,k1,k2,k3⟩:=sel i hf;obtain⟨l,l1,l2,l3⟩:=sel j hf';refine h2.disj k l b k1 l1 (fun e=>hne ?_) k2 l2
   subst e;rcases k3 with k3|⟨k3,k4⟩<;>rcases l3 with l3|⟨l3,l4⟩
   ·rw[k3]at l3;simp at l3;exact l3
   ·have:=(e1 k (List.mem_of_getElem? l4)).1;have:=hpll k i true k3;omega
   ·have:=(e1 k (List.mem_of_getElem? k4)).1;have:=hpll k j true l3;omega
   ·have:=huniqE _ _ _ k4 l4;omega)
  h2.os h2.tape h2.output h2.old
  (fun b hb hno=>h2.same b hb fun⟨i,p,hp,hf⟩=>hno p ⟨i,hp⟩ (cV hk i p true hp) hf)
 exact⟨_,fps3,g,⟨hag,hmono⟩,hvia,hN⟩
end
end
end Go.Sx
namespace Go.Sx
open Go.RowKit (Below)
def la (r':List aw):Nat->List (Nat×Bool)->Bool
 |_,[]=>true
 |i,(_,o)::l=>(if o then iw (aj r' i)else true)&&la r' (i+1) l
theorem tA {r':List aw}:∀{l:List (Nat×Bool)} {i:Nat},la r' i l=true->∀k p:Nat,l[k]? =some (p,true)->iw (aj r' (i+k))=true
 | [],i,_,k,p,h=>by simp at h
 | (x,o)::l,i,ha,k,p,h=>by
   simp only[la,Th]at ha;cases k with
   |zero=>simp at h;obtain⟨_,rfl⟩:=h;simpa using ha.1
   |succ k=>
    have:=tA ha.2 k p (by simpa using h)
    rwa [show i+(k+1)=i+1+k by omega]
def m6 (r':List aw):List Nat->Bool
 | []=>true
 |j::l=>iw (aj r' j)&&m6 r' l
theorem rl {r':List aw}:∀{l:List Nat},m6 r' l=true->∀j∈l,iw (aj r' j)=true
 | [],_,j,h=>by simp at h
 |x::l,ha,j,h=>by
  simp only[m6,Th]at ha;rcases List.mem_cons.1 h with rfl|h
  ·exact ha.1
  ·exact rl ha.2 j h
def jn (κ:Nat->Option Nat) (v v3:V):Prop:=∀(ρ2 ρ3:Env) (N N':Nat->Prop),Env.via κ ρ2 ρ3->(∀j i,κ j=some i->N j->N' i)->ok N v->den ρ3 v3=den ρ2 v/\ok N' v3
theorem jn.jr {κ:Nat->Option Nat} {v x:V} (h:wh x v []) (hx:Sx.jr x=true):jn κ v x:=fun ρ2 ρ3 N N' _ _ hv=>by
 obtain⟨s1,s2,_⟩:=h ρ2 N;exact⟨by rw[s1];exact oW hx (s2 hv) ρ2 ρ3,mW x hx (s2 hv)⟩
def OO (pl:List (Nat×Bool)) (res:List aw) (v:V) (r':List aw) (K:V->List aw->Prop):Prop:=
 ∃(ext:List Nat) (v3:V),iq pl.length r'.length ext=true/\la r' 0 pl=true/\m6 r' ext=true/\jn (back pl ext res.length) v v3/\K v3 (merge pl ext r' res)
section
variable {P:Program}
theorem ai.frame {f:Nat} {args args0:List V} {res:List aw} {pl:List (Nat×Bool)} {K0 KP0 K KP:V->List aw->Prop} (hk:ej res pl=true) (hnd:iq 0 res.length (de pl)=true)
  (ha:ef (jO 0 (de pl)) args=some args0) (hc:ai P f args0 (ei (jO 0 (de pl)) res pl) K0 KP0)
  (hK:∀v r',K0 v r'->OO pl res v r' K) (hKP:∀v r',KP0 v r'->OO pl res v r' KP):ai P f args res K KP:=by
 intro J fps w0 F0 w hH hargs;have hnd:=(ng hnd).2;obtain⟨g1,g2,g3,g4⟩:=hH.ei hk hnd;obtain⟨a1,_,a3,_⟩:=fZ g3 g4 _ _ ha;rw[<-a1];refine(hc _ _ _ _ _ g1 (a3 hargs)).mono fun e w' ⟨x,ρ2,fps2,r',h1,h2,h3,h4⟩=>?_
 have fin:∀{K:V->List aw->Prop},OO pl res x r' K->∃x' ρ' fps' res',aT ρ' fps' res' (known res') w0 F0 w'/\Good J res ρ' res'/\ok (known res') x'/\den ρ' x'=den ρ2 x/\K x' res':=by
  rintro K ⟨ext,v3,b1,b2,b3,b4,b5⟩
  obtain⟨ρ3,fps3,m1,m2,m3,m4⟩:=hH.merge hk hnd h1 h2 b1 (fun i p hp=>by have:=tA b2 i p hp;rwa [Nat.zero_add]at this) (rl b3)
  obtain⟨c1,c2⟩:=b4 ρ2 ρ3 _ _ m3 m4 h3;exact⟨v3,ρ3,fps3,_,m1,m2,c2,c1,b5⟩
 rcases h4 with⟨rfl,h4⟩|⟨rfl,h4⟩
 ·obtain⟨x',ρ',fps',res',f1,f2,f3,f4,f5⟩:=fin (hK _ _ h4);exact⟨x',ρ',fps',res',f1,f2,f3,.inl ⟨by rw[f4],f5⟩⟩
 ·obtain⟨x',ρ',fps',res',f1,f2,f3,f4,f5⟩:=fin (hKP _ _ h4);exact⟨x',ρ',fps',res',f1,f2,f3,.inr ⟨by rw[f4],f5⟩⟩
def ph:aw->Bool
 | .store _ _ _=>true
 | .arr _ _ _=>true
 |_=>false
theorem qW {κ:Nat->Option Nat} {r:aw} (h:ph r=true):fI κ r=r:=by
 cases r<;>first|rfl|simp[ph]at h
def nA (res:List aw) (p:Nat) (r:aw):Prop:=known res p/\∀J fps K w0 F0 w,aT J fps res K w0 F0 w->
 ∃fp:Nat->Prop,r.holds K J p fp w0 F0 w/\∀b,fp b->(∃i,known res i/\fps i b)\/(b<w0.heap.size/\¬F0 b)
theorem nA.look {res:List aw} {p:Nat} {r:aw} (h:cN res p=r) (hne:r≠ .yet):nA res p r:=by
 have hk:=dY h hne;refine⟨hk,fun J fps K w0 F0 w hH=>?_⟩
 obtain⟨fp,g1,g2⟩:=hH.xy h hk;exact⟨fp,g1,fun b hb=>(g2 b hb).elim (fun h=> .inl ⟨p,hk,h⟩) .inr⟩
def r7:List (Nat×aw)->List aw
 | []=> []
 | (_,r)::l=> .ro r::r7 l
theorem uE:∀(l:List (Nat×aw)) (i:Nat),aj (r7 l) i=match l[i]? with|some p=> .ro p.2|none=> .yet
 | [],i=>by simp[r7,aj]
 | (p,r)::l,0=>by simp[r7,aj]
 | (p,r)::l,i+1=>by simp[r7,aj,uE l i]
theorem qj:∀l:List (Nat×aw),(r7 l).length=l.length
 | []=>rfl
 | (p,r)::l=>by simp[r7,qj l]
def pA:List (Nat×aw)->Nat->Nat
 | [],_=>0
 | (p,_)::_,0=>p
 |_::l,i+1=>pA l i
theorem ru:∀(l:List (Nat×aw)) (i:Nat) (p:Nat×aw),l[i]? =some p->pA l i=p.1
 | [],i,p,h=>by simp at h
 | (x,r)::l,0,p,h=>by simp at h;subst h;rfl
 | (x,r)::l,i+1,p,h=>by simp only[pA];exact ru l i p (by simpa using h)
theorem uj {f:Nat} {g:Ct} (h:∀res nid args q x new,g res nid args=some (q,x,new)->new= []/\jr x=true/\
  ∃(pls:List (Nat×aw)) (args0:List V),(∀p∈pls,nA res p.1 p.2/\ph p.2=true)/\(∀(J:Env) K,eE K args->ba (J.pull (pA pls)) args0=ba J args)/\(∀K,eE K args->eE (known (r7 pls)) args0)/\
   (cZ q->eE (known (r7 pls)) args0->ai P f args0 (r7 pls) (wh x) (fun _ _=>False))):cW P f g:=by
 intro J fps res K w0 F0 w nid args q x new hH hargs hg hq hfr;obtain⟨rfl,hid,pls,args0,hcl,hden,hok,hc⟩:=h res nid args q x new hg;refine⟨?_,fun k hk=>by simp at hk⟩
 have hfr:∀b,b<w0.heap.size->¬F0 b->w.heap[b]? =w0.heap[b]? /\¬(fun _:Nat=>False) b:=fun b hb hF=>⟨hH.same b hb hF,fun h=>h⟩
 have hrep:aT (J.pull (pA pls)) (fun _ _=>False) (r7 pls) (known (r7 pls)) w (fun _=>False) w:=by
  refine⟨fun i hi=>hi,Nat.le_refl _,rfl,rfl,rfl,fun i hi=>?_,fun i b hi h=>h.elim,fun i j b hi hj hne h=>h.elim,fun i b hi h=>h.elim,fun _ _ _=>rfl⟩
  have hlt:=aF hi;rw[qj]at hlt;have hp:pls[i]? =some pls[i]:=List.getElem?_eq_getElem hlt;generalize pls[i]=p at hp
  rw[uE,hp];simp only;obtain⟨hs,hcl⟩:=hcl p (List.mem_of_getElem? hp);obtain⟨fp,g1,g2⟩:=hs.2 J fps K w0 F0 w hH
  have hv:Env.via (fun x=>if x=p.1 then some i else none) J (J.pull (pA pls)):=rC fun x j hx=>by
   split at hx
   ·simp only[Tf]at hx;subst hx;rename_i e;subst e;exact ru pls i p hp
   ·simp at hx
  have:=gx (N':=known (r7 pls)) hv (fun x j hx _=>by
   split at hx
   ·simp only[Tf]at hx;subst hx;exact hi
   ·simp at hx) (p:=p.1) (i:=i) (by simp) _ _ _ (aw.sI hH.old hfr _ _ g1)
  rw[qW hcl]at this;refine⟨fp,this,fun b hb=>⟨?_,fun h=>h⟩⟩
  rcases g2 b hb with⟨j,hj,hf⟩|⟨hl,_⟩
  ·exact hH.lt j b hj hf
  ·exact Nat.lt_of_lt_of_le hl hH.old
 have hok0:=hok K hargs;rw[<-hden J K hargs];refine(hc hq hok0 _ _ _ _ _ hrep hok0).mono fun e w' ⟨y,ρ',fps',res',g1,g2,g3,g4⟩=>?_
 rcases g4 with⟨rfl,hK⟩|⟨_,hK⟩
 ·refine⟨_,rfl,J,?_,?_,?_⟩
  ·exact⟨⟨g1.os,g1.tape,g1.output,g1.old,fun b hb=>g1.same b hb (fun h=>h)⟩,Env.aW.refl _ _,fun _ _=>False,fun k hk=>by simp at hk,fun k l b hk=>by simp at hk⟩
  ·obtain⟨e1,e2,_⟩:=hK ρ' (known res');rw[e1];exact oW hid (e2 g3) J ρ'
  ·obtain⟨e1,e2,_⟩:=hK ρ' (known res');exact mW x hid (e2 g3)
 ·exact hK.elim
theorem ai.tE {f:Nat} {args:List V} {res res1:List aw} {K KP:V->List aw->Prop} (h:ai P f args res1 K KP)
  (ho:∀J fps w0 F0 w,aT J fps res (known res) w0 F0 w->∃ρ' fps',aT ρ' fps' res1 (known res1) w0 F0 w/\Good J res ρ' res1):ai P f args res K KP:=by
 intro J fps w0 F0 w hH hargs;obtain⟨ρ',fps',h1,h2⟩:=ho J fps w0 F0 w hH;rw[<-fc h2.1 args hargs];refine(h ρ' fps' w0 F0 w h1 (bT h2.2 _ hargs)).mono fun e w' ⟨x,ρ2,fps2,r',g1,g2,g3,g4⟩=>⟨x,ρ2,fps2,r',g1,h2.trans g2,g3,g4⟩
theorem ai.iF {f:Nat} {args:List V} {res:List aw} {k t e:Nat} {L:List Obj} {K KP:V->List aw->Prop} (hr:aj res k= .store t e L) (h:ai P f args (iF res k t e L) K KP):ai P f args res K KP:=
 h.tE fun _ _ _ _ _ hH=>xU hr hH
theorem ai.dZ {f:Nat} {args:List V} {res:List aw} {k t e:Nat} {L:List Obj} {K KP:V->List aw->Prop} (hr:aj res k= .ro (.store t e L)) (h:ai P f args (dZ res k t e L) K KP):ai P f args res K KP:=
 h.tE fun _ _ _ _ _ hH=>vY hr hH
theorem ai.shut {f:Nat} {args:List V} {res:List aw} {K0 KP K:V->List aw->Prop} (h:ai P f args res K0 KP) (hK:∀v r,K0 v r->K v r\/∃k r',qH r k=some r'/\K v r'):ai P f args res K KP:=by
 intro J fps w0 F0 w hH hargs;refine(h J fps w0 F0 w hH hargs).mono fun e w' ⟨x,ρ2,fps2,r',g1,g2,g3,g4⟩=>?_
 rcases g4 with⟨rfl,hk⟩|g4
 ·rcases hK _ _ hk with hk|⟨k,r2,s1,s2⟩
  ·exact⟨x,ρ2,fps2,r',g1,g2,g3,.inl ⟨rfl,hk⟩⟩
  ·obtain⟨fps3,m1,m2⟩:=xg s1 g1;exact⟨x,ρ2,fps3,r2,m1,⟨g2.1,fun i hi=>m2 i (g2.2 i hi)⟩,cE m2 _ g3,.inl ⟨rfl,s2⟩⟩
 ·exact⟨x,ρ2,fps2,r',g1,g2,g3,.inr g4⟩
end
end Go.Sx
namespace Go.Sx
open Go.RowKit (Below)
section
variable {P:Program}
theorem ai.fact {f:Nat} {args:List V} {res:List aw} {K KP:V->List aw->Prop} {k t e:Nat} {L:List Obj} (hr:cN res k= .store t e L)
  (h:(∀o∈L,o.wf)->L.length<=9223372036854775807->ai P f args res K KP):ai P f args res K KP:=by
 intro J fps w0 F0 w hH hargs;obtain⟨fp,hh,_⟩:=hH.look hr (by simp)
 obtain⟨_,h1,h2,_⟩:=hh;exact h h1 h2 J fps w0 F0 w hH hargs
theorem ai.Na {f:Nat} {args:List V} {res:List aw} {K KP:V->List aw->Prop} {k esz:Nat} {own:Option Nat} {L:List Obj} (hr:cN res k= .arr own esz (.ob L))
  (h:(∀o∈L,o.wf)->L.length<=9223372036854775807->ai P f args res K KP):ai P f args res K KP:=by
 intro J fps w0 F0 w hH hargs;obtain⟨fp,hh,_⟩:=hH.look hr (by simp)
 obtain⟨h1,_,h2,_⟩:=hh;refine h (fun o ho=>?_) h2 J fps w0 F0 w hH hargs
 obtain⟨i,hi,rfl⟩:=List.getElem_of_mem ho;have:=(h1 i hi).1;simpa[TL.get,aq,Tm,hi,ok]using this
theorem nA.open {res:List aw} {p j t e q:Nat} {L:List Obj} (hp:cN res p= .blk t (.ag [.sa j])) (hj:cN res j= .obs e q L) (hte:t≠e):nA res p (.store t e L):=by
 have hkp:=dY hp (by simp)
 have hkj:=dY hj (by simp)
 refine⟨hkp,fun J fps K w0 F0 w hH=>?_⟩
 obtain⟨fp1,⟨_,_,b3,b4⟩,g1⟩:=hH.xy hp hkp;obtain⟨fp2,⟨_,c1,c2,c3,c4,c5,c6,c7⟩,g2⟩:=hH.xy hj hkj
 have b4':w.heap[J.num p]? =some (.cells #[J.sl j] t (0,0)):=by
  rw[b4];have:den J (.sa j)=J.sl j:=rfl;simp[eu,aR,this,Env.sl,Value.cells]
 refine⟨fun b=>fp1 b\/fp2 b,⟨.inl b3,c1,c3,J.sl j,J.ob q,b4',c6,fun b hb=>?_,fun x hx=>?_⟩,fun b hb=>?_⟩
 ·have hb':=hb;cases ha:J.sa j with
  |none=>simp[Env.sl,ha,Value.ownBlock]at hb
  |some a=>
   simp only[Env.sl,ha,Value.ownBlock,Tf]at hb;subst hb;refine⟨.inr (c4 a ha).2,fun e'=>?_⟩
   rcases c6.2 with⟨hh,_⟩|⟨g,cap,cur,hh,_,h3,_⟩
   ·simp[Env.sl,ha]at hh
   ·rw[hh]at hb';simp only[Value.ownBlock,Tf]at hb';rw[hb',e',b4']at h3;simp only[Tf,Go.Obj.cells.injEq]at h3;exact hte h3.2.1
 ·obtain⟨d1,t',d2⟩:=c7 x hx;refine⟨.inr d1,fun e'=>?_,t',d2⟩
  rw[e',b4']at d2;simp only[Tf,Go.Obj.cells.injEq]at d2;have:=congrArg Array.size d2.1;simp[kK]at this
 ·rcases hb with hb|hb
  ·exact(g1 b hb).elim (fun h=> .inl ⟨p,hkp,h⟩) .inr
  ·exact(g2 b hb).elim (fun h=> .inl ⟨j,hkj,h⟩) .inr
theorem nA.zero {res:List aw} {p t e:Nat} (hp:cN res p= .blk t (.ag [.nl (.slice none 0 0)])):nA res p (.store t e []):=by
 have hkp:=dY hp (by simp)
 refine⟨hkp,fun J fps K w0 F0 w hH=>?_⟩
 obtain⟨fp1,⟨_,_,b3,b4⟩,g1⟩:=hH.xy hp hkp;refine⟨fp1,⟨b3,by simp,by simp,.slice none 0 0,fun _=>0,?_,World.ownsRow_nil w 0 e 1,fun b hb=>by simp[Value.ownBlock]at hb,fun x hx=>by simp at hx⟩,fun b hb=>(g1 b hb).elim (fun h=> .inl ⟨p,hkp,h⟩) .inr⟩
 rw[b4];simp[eu,aR,den,Value.cells]
def rS (t e:Nat) (res:List aw) (v:V):Option (Option Nat×List Obj):=
 match v with
 | .nl v=>match v with
   | .pointer p=>match p with
     |none=>some (none,[])
     |some _=>none
   |_=>none
 | .lp k off=>if off==0 then match cN res k with
   | .store t' e' L=>if t'==t&&e'==e then some (some k,L)else none
   | .blk t' c=>if t'==t&& !(t==e)then match c with
     | .ag l=>match l with
       | [x]=>match x with
         | .sa j=>match cN res j with
           | .obs e' _ L=>if e'==e then some (some k,L)else none
           |_=>none
         | .nl v=>match v with
           | .slice none 0 0=>some (some k,[])
           |_=>none
         |_=>none
       |_=>none
     |_=>none
     else none
   |_=>none
   else none
 |_=>none
theorem tX {t e:Nat} {res:List aw} {v:V} {o:Option Nat} {L:List Obj} (h:rS t e res v=some (o,L)):(o=none/\L= []/\v= .nl (.pointer none))\/∃k,o=some k/\v= .lp k 0/\nA res k (.store t e L):=by
 unfold rS at h;split at h
 ·split at h
  ·split at h
   ·simp only[Tf,Tg]at h;exact .inl ⟨h.1.symm,h.2.symm,rfl⟩
   ·simp at h
  ·simp at h
 ·rename_i k off;split at h
  ·rename_i ho;have ho:=Tj.1 ho;subst ho;split at h
   ·rename_i t' e' L' hl;split at h
    ·rename_i hc;simp only[Th,Tj]at hc;obtain⟨rfl,rfl⟩:=hc;simp only[Tf,Tg]at h;obtain⟨rfl,rfl⟩:=h;exact .inr ⟨k,rfl,rfl,nA.look hl (by simp)⟩
    ·simp at h
   ·rename_i t' c hl;split at h
    ·rename_i hc;simp only[Th,Tj,Bool.not_eq_true',beq_eq_false_iff_ne]at hc;obtain⟨rfl,hte⟩:=hc;split at h
     ·split at h
      ·split at h
       ·split at h
        ·rename_i hj;split at h
         ·rename_i hc;have hc:=Tj.1 hc;subst hc;simp only[Tf,Tg]at h;obtain⟨rfl,rfl⟩:=h;exact .inr ⟨k,rfl,rfl,nA.open hl hj hte⟩
         ·simp at h
        ·simp at h
       ·split at h
        ·simp only[Tf,Tg]at h;obtain⟨rfl,rfl⟩:=h;exact .inr ⟨k,rfl,rfl,nA.zero hl⟩
        ·simp at h
       ·simp at h
      ·simp at h
     ·simp at h
    ·simp at h
   ·simp at h
  ·simp at h
 ·simp at h
def kS:V:= .nl (.pointer none)
def N5 (t e:Nat) (F:List Obj->V):Ct:=fun res _ xs=>match xs with
 | [a]=>match rS t e res a with
   |some (_,L)=>some (none,F L,[])
   |none=>none
 |_=>none
def EG {α:Type} (t e:Nat) (r:V->Option α) (F:List Obj->α->V):Ct:=fun res _ xs=>match xs with
 | [a,b]=>match rS t e res a with
   |some (_,L)=>match r b with
    |some x=>some (none,F L x,[])
    |none=>none
   |none=>none
 |_=>none
theorem GM {f t e:Nat} {F:List Obj->V} (hF:∀L,jr (F L)=true) (h0:ai P f [kS] [] (rm (F [])) (fun _ _=>False))
  (h1:∀L,(∀o∈L,o.wf)->L.length<=9223372036854775807->ai P f [.lp 0 0] [.ro (.blk t (.ag [.sa 1])),.ro (.obs e 2 L),.gen 1] (rm (F L)) (fun _ _=>False)):cW P f (N5 t e F):=by
 refine uj fun res nid args q x new hg=>?_
 unfold N5 at hg;split at hg<;>(try split at hg)<;>simp only[Tf,Tg,reduceCtorEq]at hg
 rename_i a o L hr;obtain⟨rfl,rfl,rfl⟩:=hg;rcases tX hr with⟨rfl,rfl,rfl⟩|⟨k,rfl,rfl,hs⟩
 ·exact⟨rfl,hF [],[],[kS],by simp,fun J _ _=>rfl,fun K hK=>⟨hK.1,trivial⟩,fun _ _=>h0.mono (fun _ _=>dB) fun _ _ h=>h⟩
 ·refine⟨rfl,hF L,[(k,.store t e L)],[.lp 0 0],by simpa using⟨hs,rfl⟩,fun J _ _=>rfl,fun K hK=>⟨by simp[ok,known,r7,aj],trivial⟩,fun _ _=>?_⟩
  exact ai.fact (k:=0) rfl fun w1 w2=>(ai.dZ (res:=r7 [(k,.store t e L)]) (k:=0) rfl (h1 L w1 w2)).mono (fun _ _=>dB) fun _ _ h=>h
theorem tQ {f t e:Nat} {α:Type} {r:V->Option α} {m:α->V} {F:List Obj->α->V} (hr:p7 r m) (hF:∀L x,jr (F L x)=true)
  (h0:∀x,ok (fun _=>False) (m x)->ai P f [kS,m x] [] (rm (F [] x)) (fun _ _=>False))
  (h1:∀L x,(∀o∈L,o.wf)->L.length<=9223372036854775807->ok (fun _=>False) (m x)->ai P f [.lp 0 0,m x] [.ro (.blk t (.ag [.sa 1])),.ro (.obs e 2 L),.gen 1] (rm (F L x)) (fun _ _=>False))
  (hid:∀x,jr (m x)=true):cW P f (EG t e r F):=by
 refine uj fun res nid args q x new hg=>?_
 unfold EG at hg;split at hg<;>(try split at hg)<;>(try split at hg)<;>simp only[Tf,Tg,reduceCtorEq]at hg
 rename_i a b _ o L hs _ x hb;obtain⟨rfl,rfl,rfl⟩:=hg;obtain⟨b1,b2⟩:=hr _ x hb;have hde:∀J ρ':Env,∀K,ok K b->den ρ' (m x)=den J b:=fun J ρ' K hk=>by rw[b1 J];exact oW (hid x) (b2 K hk) J ρ'
 rcases tX hs with⟨rfl,rfl,rfl⟩|⟨k,rfl,rfl,hse⟩
 ·refine⟨rfl,hF [] x,[],[kS,m x],by simp,fun J K hK=>?_,fun K hK=>⟨hK.1,eJ (b2 K hK.2.1),trivial⟩,fun _ hok=>?_⟩
  ·simp only[ba,hde J (J.pull (pA [])) K hK.2.1];rfl
  ·exact(h0 x (mW _ (hid x) hok.2.1)).mono (fun _ _=>dB) fun _ _ h=>h
 ·refine⟨rfl,hF L x,[(k,.store t e L)],[.lp 0 0,m x],by simpa using⟨hse,rfl⟩,fun J K hK=>?_,fun K hK=>⟨by simp[ok,known,r7,aj],eJ (b2 K hK.2.1),trivial⟩,fun _ hok=>?_⟩
  ·simp only[ba,hde J (J.pull (pA [(k,.store t e L)])) K hK.2.1];rfl
  ·exact ai.fact (k:=0) rfl fun w1 w2=>(ai.dZ (res:=r7 [(k,.store t e L)]) (k:=0) rfl (h1 L x w1 w2 (mW _ (hid x) hok.2.1))).mono (fun _ _=>dB) fun _ _ h=>h
theorem nA.arr {res:List aw} {p esz:Nat} {own:Option Nat} {l:TL} (h:cN res p= .arr own esz l):nA res p (.arr none esz l):=by
 have hk:=dY h (by simp)
 refine⟨hk,fun J fps K w0 F0 w hH=>?_⟩
 obtain⟨fp,⟨h1,h2,h3,h4,h5,h6,h7⟩,g2⟩:=hH.xy h hk;refine⟨fp,⟨h1,h2,h3,h4,h5,h6,?_⟩,fun b hb=>(g2 b hb).elim (fun h=> .inl ⟨p,hk,h⟩) .inr⟩
 rcases h7 with⟨e,h7⟩|⟨e,e1,e2⟩
 ·exact .inl ⟨rfl,h7⟩
 ·exact .inr ⟨e,by simp,e2⟩
def rA (res:List aw) (v:V):Option (Nat×List Obj):=
 match v with
 | .sa k=>match cN res k with
   | .arr _ e l=>if e==163 then match l with
     | .ob l=>some (k,l)
     |_=>none
     else none
   |_=>none
 |_=>none
theorem Dy {res:List aw} {v:V} {k:Nat} {l:List Obj} (h:rA res v=some (k,l)):v= .sa k/\nA res k (.arr none 163 (.ob l))/\∃own,cN res k= .arr own 163 (.ob l):=by
 unfold rA at h;split at h
 ·split at h
  ·rename_i own e l' hl;split at h
   ·rename_i he;have he:=Tj.1 he;subst he;split at h
    ·simp only[Tf,Tg]at h;obtain⟨rfl,rfl⟩:=h;exact⟨rfl,nA.arr hl,_,hl⟩
    ·simp at h
   ·simp at h
  ·simp at h
 ·simp at h
def R6 (F:List Obj->V):Ct:=fun res _ xs=>match xs with
 | [a]=>match rA res a with
   |some (_,L)=>some (none,F L,[])
   |none=>none
 |_=>none
theorem MD {J:Env} {i k:Nat} {pls:List (Nat×aw)} (h:pA pls i=k):den (J.pull (pA pls)) (.sa i)=den J (.sa k):=by
 simp only[den,Env.pull,h]
theorem Py {f:Nat} {F:List Obj->V} (hF:∀L,jr (F L)=true)
  (h1:∀L,(∀o∈L,o.wf)->L.length<=9223372036854775807->ai P f [.sa 0] [.ro (.arr none 163 (.ob L))] (rm (F L)) (fun _ _=>False)):cW P f (R6 F):=by
 refine uj fun res nid args q x new hg=>?_
 unfold R6 at hg;split at hg<;>(try split at hg)<;>simp only[Tf,Tg,reduceCtorEq]at hg
 rename_i a k L hr;obtain⟨rfl,rfl,rfl⟩:=hg;obtain⟨rfl,hs,_⟩:=Dy hr
 exact⟨rfl,hF L,[(k,.arr none 163 (.ob L))],[.sa 0],by simpa using⟨hs,rfl⟩,fun J _ _=>by simp only[ba,MD (pls:= [(k,.arr none 163 (.ob L))]) (i:=0) (k:=k) rfl],fun K hK=>⟨by simp[ok,known,r7,aj],trivial⟩,
  fun _ _=>ai.Na (k:=0) rfl fun w1 w2=>(h1 L w1 w2).mono (fun _ _=>dB) fun _ _ h=>h⟩
end
end Go.Sx
namespace Go.Sx
open Go.RowKit (Below)
abbrev nD:=List V->List aw->(V->List aw->Prop)->Prop
def ql (P:Program) (f:Nat) (h:nD):Prop:=∀args res K KP,h args res K->ai P f args res K KP
def zN:List (Nat×nD)->Handler
 | [],_,_,_,_,_=>False
 | (g,h)::l,f,args,res,K,KP=>if f==g then h args res K else zN l f args res K KP
theorem uH {P:Program}:∀{l:List (Nat×nD)},(∀p∈l,ql P p.1 p.2)->Handler.OK P (zN l)
 | [],_,f,args,res,K,KP,h=>h.elim
 | (g,x)::l,hl,f,args,res,K,KP,h=>by
   simp only[zN]at h;split at h
   ·rename_i e;have e:=Tj.1 e;subst e;exact hl (f,x) (by simp) args res K KP h
   ·exact uH (fun p hp=>hl p (by simp[hp])) f args res K KP h
theorem aA {P:Program}:∀p∈([]:List (Nat×nD)),ql P p.1 p.2:=by simp
theorem aG {P:Program} {f:Nat} {g:nD} {l:List (Nat×nD)} (h:ql P f g) (t:∀p∈l,ql P p.1 p.2):∀p∈(f,g)::l,ql P p.1 p.2:=by
 intro p hp;rcases List.mem_cons.1 hp with rfl|hp
 ·exact h
 ·exact t p hp
theorem rn {κ:Nat->Option Nat}:∀v,jr v=true->fh κ v=some v:=by
 intro v
 exact V.rec (motive_1:=fun v=>jr v=true->fh κ v=some v) (motive_2:=fun l=>km l=true->ef κ l=some l)
  (fun b _=>rfl) (fun b _=>rfl) (fun k n _=>rfl) (fun k n _=>rfl) (fun b _=>rfl) (fun s _=>rfl) (fun v _=>rfl) (fun _ _ h=>by simp[jr]at h) (fun _ _ _ _ _ _ h=>by simp[jr]at h)
  (fun _ _ _ h=>by simp[jr]at h) (fun _ _ h=>by simp[jr]at h) (fun _ _ _ _ h=>by simp[jr]at h) (fun _ h=>by simp[jr]at h) (fun _ _ h=>by simp[jr]at h) (fun _ h=>by simp[jr]at h)
  (fun f l ih h=>by simp only[fh];rw[ih h]) (fun t x ih h=>by simp only[fh];rw[ih h]) (fun l ih h=>by simp only[fh];rw[ih h]) (fun l ih h=>by simp only[fh];rw[ih h])
  (fun _ _=>rfl) (fun _ _=>rfl) (fun _ _=>rfl) (fun _ _=>rfl) (fun _ h=>by simp[jr]at h) (fun _ _ _ _ _ _ h=>by simp[jr]at h) (fun _ _ _ _ _ _ _ _ h=>by simp[jr]at h) (fun _ _ _ _ h=>by simp[jr]at h) (fun _ _ _ _ _ _ h=>by simp[jr]at h) (fun _=>rfl)
  (fun x l ih1 ih2 h=>by simp only[km,Th]at h;simp only[ef];rw[ih1 h.1];simp only;rw[ih2 h.2]) v
theorem jE {κ:Nat->Option Nat}:∀l,km l=true->ef κ l=some l
 | [],_=>rfl
 |x::l,h=>by
  simp only[km,Th]at h;simp only[ef];rw[rn x h.1];simp only;rw[jE l h.2]
def eh (l m:List V):Prop:=∀(J:Env) K,eE K l->ba J l=ba J m/\eE K m
theorem eh.nil:eh [] []:=fun _ _ _=>⟨rfl,trivial⟩
theorem eh.k7 {x:V} {l m:List V} (h:eh l m):eh (x::l) (x::m):=fun J K hk=>⟨by simp only[ba,(h J K hk.2).1],hk.1,(h J K hk.2).2⟩
theorem eh.rd {α:Type} {r:V->Option α} {f:α->V} (hr:p7 r f) {a:V} {x:α} (hx:r a=some x) {l m:List V} (h:eh l m):eh (a::l) (f x::m):=fun J K hk=>by
 obtain⟨a1,a2⟩:=hr a x hx;exact⟨by simp only[ba,(h J K hk.2).1,a1],eJ (a2 K hk.1),(h J K hk.2).2⟩
section
variable {P:Program}
theorem ai.args {f:Nat} {args args':List V} {res:List aw} {K KP:V->List aw->Prop} (h:eh args args') (hc:ai P f args' res K KP):ai P f args res K KP:=by
 intro J fps w0 F0 w hH hargs;obtain⟨h1,h2⟩:=h J _ hargs;rw[h1];exact hc J fps w0 F0 w hH h2
theorem ai.zo {f:Nat} {rest:List V} {res:List aw} {K KP:V->List aw->Prop} {k t e:Nat} {L M:List Obj} {x:V} (hr:aj res k= .store t e L) (hid:km rest=true) (hx:jr x=true)
  (h:ai P f (.lp 0 0::rest) [.store t e L] (fun v r=>wh x v r/\aj r 0= .store t e M) (fun _ _=>False)) (hK:K x (bG res k (.store t e M))):ai P f (.lp k 0::rest) res K KP:=by
 have hk:known res k:=by unfold known;rw[hr];simp
 have hlt:=aF hk;refine ai.frame (pl:= [(k,true)]) (args0:= .lp 0 0::rest) (K0:=fun v r=>wh x v r/\aj r 0= .store t e M) (KP0:=fun _ _=>False) (by simp[ej,cS.2 hk]) (by simpa[iq,de,nF]using hlt) ?_ ?_ (fun v r hv=>?_) (fun _ _ h=>h.elim)
 ·simp only[ef,fh,jO,idxOf,de];rw[jE rest hid];simp
 ·have:ei (jO 0 (de [(k,true)])) res [(k,true)]= [.store t e L]:=by simp[ei,hr,fI]
  rw[this];exact h
 ·obtain⟨h1,h2⟩:=hv;have hm:merge [(k,true)] [] r res=bG res k (.store t e M):=by simp[merge,eM,h2,fI,fL]
  exact⟨[],x,rfl,by simp[la,h2,iw],rfl,jn.jr h1 hx,by rw[hm];exact hK⟩
theorem ai.pure {f:Nat} {args:List V} {res:List aw} {K KP:V->List aw->Prop} {x:V} (hid:km args=true) (hx:jr x=true)
  (h:ai P f args [] (fun v _=>wh x v []) (fun _ _=>False)) (hK:K x res):ai P f args res K KP:=by
 refine ai.frame (pl:= []) (args0:=args) (K0:=fun v _=>wh x v []) (KP0:=fun _ _=>False) rfl rfl (jE args hid) h (fun v r hv=>?_) (fun _ _ h=>h.elim)
 have hm:merge [] [] r res=res:=by simp[merge,eM,fL]
 exact⟨[],x,rfl,rfl,rfl,jn.jr hv hx,by rw[hm];exact hK⟩
theorem ai.Fz {f:Nat} {rest:List V} {res:List aw} {K KP:V->List aw->Prop} {k:Nat} {r0:aw} {x:V} (hr:cN res k=r0) (hne:r0≠ .yet) (hren:∀κ,fI κ r0=r0) (hid:km rest=true) (hx:jr x=true)
  (h:ai P f (.lp 0 0::rest) [.ro r0] (fun v _=>wh x v []) (fun _ _=>False)) (hK:K x res):ai P f (.lp k 0::rest) res K KP:=by
 have hk:=dY hr hne;have hlt:=aF hk;refine ai.frame (pl:= [(k,false)]) (args0:= .lp 0 0::rest) (K0:=fun v _=>wh x v []) (KP0:=fun _ _=>False) (by simp[ej,cS.2 hk]) (by simpa[iq,de,nF]using hlt) ?_ ?_ (fun v r hv=>?_) (fun _ _ h=>h.elim)
 ·simp only[ef,fh,jO,idxOf,de];rw[jE rest hid];simp
 ·have:ei (jO 0 (de [(k,false)])) res [(k,false)]= [.ro r0]:=by simp[ei,hr,hren]
  rw[this];exact h
 ·have hm:merge [(k,false)] [] r res=res:=by simp[merge,eM,fL]
  exact⟨[],x,rfl,by simp[la],rfl,jn.jr hv hx,by rw[hm];exact hK⟩
theorem aT.weaken {J:Env} {fps:Nat->Nat->Prop} {res res':List aw} {w0 w:World} {F0:Nat->Prop} (h:aT J fps res (known res) w0 F0 w)
  (hk:∀i,known res' i->known res i/\∀fp,(aj res i).holds (known res) J i fp w0 F0 w->(aj res' i).holds (known res') J i fp w0 F0 w):aT J fps res' (known res') w0 F0 w:=
 ⟨fun i hi=>hi,h.old,h.os,h.tape,h.output,fun i hi=>(hk i hi).2 _ (h.holds i (hk i hi).1),fun i b hi=>h.lt i b (hk i hi).1,fun i j b hi hj=>h.disj i j b (hk i hi).1 (hk j hj).1,fun i b hi=>h.inF i b (hk i hi).1,h.same⟩
theorem Gj {K K':Nat->Prop} {J:Env} {i:Nat} {fp:Nat->Prop} {w0 w:World} {F0:Nat->Prop} {own:Option Nat} {e:Nat} {l:TL} (h:(aw.arr own e l).holds K J i fp w0 F0 w):(aw.arr none e l).holds K' J i fp w0 F0 w:=by
 obtain⟨h1,h2,h3,h4,h5,h6,h7⟩:=h;refine⟨h1,h2,h3,h4,h5,h6,?_⟩;rcases h7 with⟨e,h7⟩|⟨e,e1,e2⟩
 ·exact .inl ⟨rfl,h7⟩
 ·exact .inr ⟨e,by simp,e2⟩
theorem ai.QS {f:Nat} {args:List V} {K KP:V->List aw->Prop} {own:Option Nat} {e:Nat} {l:TL} (h:ai P f args [.ro (.arr none e l)] K KP):ai P f args [.ro (.arr own e l)] K KP:=by
 have hk:∀i (own:Option Nat),known [.ro (.arr own e l)] i↔i=0:=fun i own=>by
  unfold known;cases i with
  |zero=>simp[aj]
  |succ i=>simp[aj]
 refine h.tE fun J fps w0 F0 w hH=>⟨J,fps,hH.weaken fun i hi=>?_,Env.aW.refl _ _,fun i hi=>(hk i _).2 ((hk i _).1 hi)⟩
 have:=(hk i _).1 hi;subst this;refine⟨(hk 0 _).2 rfl,fun fp hh=>?_⟩
 obtain⟨fp',g1,g2⟩:=hh;exact⟨fp',Gj g1,g2⟩
theorem ai.FJ {f:Nat} {rest:List V} {res:List aw} {K KP:V->List aw->Prop} {t e k esz:Nat} {own:Option Nat} {l:TL} {M:List Obj} {F:Nat->V} (hr:cN res k= .arr own esz l) (hid:km rest=true)
  (h:ai P f (.sa 0::rest) [.ro (.arr own esz l)] (fun v r=>∃j,1<=j/\aj r j= .store t e M/\(∀(κ:Nat->Option Nat) (i:Nat),κ j=some i->jn κ v (F i))) (fun _ _=>False)) (hK:K (F res.length) (res++ [.store t e M])):ai P f (.sa k::rest) res K KP:=by
 have hk:=dY hr (by simp)
 have hlt:=aF hk;refine ai.frame (pl:= [(k,false)]) (args0:= .sa 0::rest) (K0:=fun v r=>∃j,1<=j/\aj r j= .store t e M/\(∀(κ:Nat->Option Nat) (i:Nat),κ j=some i->jn κ v (F i))) (KP0:=fun _ _=>False) (by simp[ej,cS.2 hk]) (by simpa[iq,de,nF]using hlt) ?_ ?_ (fun v r hv=>?_) (fun _ _ h=>h.elim)
 ·simp only[ef,fh,jO,idxOf,de];rw[jE rest hid];simp
 ·have:ei (jO 0 (de [(k,false)])) res [(k,false)]= [.ro (.arr own esz l)]:=by simp[ei,hr,fI]
  rw[this];exact h
 ·obtain⟨j,hj1,hj,hv⟩:=hv;have hjl:j<r.length:=aF (by rw[hj];simp)
  have hm:merge [(k,false)] [j] r res=res++ [.store t e M]:=by simp[merge,eM,fL,hj,fI]
  refine⟨[j],F res.length,by simpa[iq,nF]using⟨hj1,hjl⟩,by simp[la],by simp[m6,hj,iw],hv _ _ ?_,by rw[hm];exact hK⟩
  obtain⟨m,rfl⟩:∃m,j=m+1:=⟨j-1,by omega⟩
  simp[back,wx,idxOf]
theorem ai.QQ {f:Nat} {rest:List V} {res:List aw} {K KP:V->List aw->Prop} {k esz:Nat} {own:Option Nat} {l:TL} {x:V} (hr:cN res k= .arr own esz l) (hid:km rest=true) (hx:jr x=true)
  (h:ai P f (.sa 0::rest) [.ro (.arr own esz l)] (fun v _=>wh x v []) (fun _ _=>False)) (hK:K x res):ai P f (.sa k::rest) res K KP:=by
 have hk:=dY hr (by simp)
 have hlt:=aF hk;refine ai.frame (pl:= [(k,false)]) (args0:= .sa 0::rest) (K0:=fun v _=>wh x v []) (KP0:=fun _ _=>False) (by simp[ej,cS.2 hk]) (by simpa[iq,de,nF]using hlt) ?_ ?_ (fun v r hv=>?_) (fun _ _ h=>h.elim)
 ·simp only[ef,fh,jO,idxOf,de];rw[jE rest hid];simp
 ·have:ei (jO 0 (de [(k,false)])) res [(k,false)]= [.ro (.arr own esz l)]:=by simp[ei,hr,fI]
  rw[this];exact h
 ·have hm:merge [(k,false)] [] r res=res:=by simp[merge,eM,fL]
  exact⟨[],x,rfl,by simp[la],rfl,jn.jr hv hx,by rw[hm];exact hK⟩
theorem p8 (κ2:Nat->Option Nat) (r':List aw):∀(l:List (Nat×Bool)) (i:Nat) (res:List aw),(∀p∈l,p.2=false)->eM κ2 r' i l res=res
 | [],_,_,_=>rfl
 | (p,o)::l,i,res,h=>by
   have:=h (p,o) (by simp)
   simp only at this;subst this;simp only[eM,Bool.false_eq_true,if_false];exact p8 κ2 r' l _ _ fun p hp=>h p (by simp[hp])
theorem r9 (r':List aw):∀(l:List (Nat×Bool)) (i:Nat),(∀p∈l,p.2=false)->la r' i l=true
 | [],_,_=>rfl
 | (p,o)::l,i,h=>by
   have:=h (p,o) (by simp)
   simp only at this;subst this;simp only[la,Bool.false_eq_true,if_false,Bool.true_and];exact r9 r' l _ fun p hp=>h p (by simp[hp])
theorem xR:∀(l:List (Nat×Bool)) (j:Nat),l.length<=j->wx l j=none
 | [],_,_=>rfl
 | (p,o)::l,0,h=>by simp at h
 | (p,o)::l,j+1,h=>by simp only[wx];exact xR l j (by simpa using h)
theorem ai.QX {f:Nat} {args args0:List V} {res:List aw} {K KP:V->List aw->Prop} {pl:List (Nat×Bool)} {new:aw} {F:Nat->V} (hk:ej res pl=true) (hnd:iq 0 res.length (de pl)=true) (hro:∀p∈pl,p.2=false)
  (ha:ef (jO 0 (de pl)) args=some args0) (hnew:iw new=true) (hne:new≠ .yet) (hren:∀κ,fI κ new=new)
  (h:ai P f args0 (ei (jO 0 (de pl)) res pl) (fun v r=>∃j,pl.length<=j/\aj r j=new/\(∀(κ:Nat->Option Nat) (i:Nat),κ j=some i->jn κ v (F i))) (fun _ _=>False))
  (hK:K (F res.length) (res++ [new])):ai P f args res K KP:=by
 refine ai.frame hk hnd ha h (fun v r hv=>?_) (fun _ _ h=>h.elim)
 obtain⟨j,hj1,hj,hv⟩:=hv;have hjl:j<r.length:=aF (by rw[hj];exact hne)
 have hm:merge pl [j] r res=res++ [new]:=by simp[merge,p8 _ _ pl 0 res hro,fL,hj,hren]
 refine⟨[j],F res.length,by simpa[iq,nF]using⟨hj1,hjl⟩,r9 _ _ _ hro,by simp[m6,hj,hnew],hv _ _ ?_,by rw[hm];exact hK⟩
 simp[back,xR pl j hj1,idxOf]
theorem ai.NO {f:Nat} {args args0:List V} {res:List aw} {K KP:V->List aw->Prop} {pl:List (Nat×Bool)} {x:V} (hk:ej res pl=true) (hnd:iq 0 res.length (de pl)=true) (hro:∀p∈pl,p.2=false)
  (ha:ef (jO 0 (de pl)) args=some args0) (hx:jr x=true)
  (h:ai P f args0 (ei (jO 0 (de pl)) res pl) (fun v _=>wh x v []) (fun _ _=>False)) (hK:K x res):ai P f args res K KP:=by
 refine ai.frame hk hnd ha h (fun v r hv=>?_) (fun _ _ h=>h.elim)
 have hm:merge pl [] r res=res:=by simp[merge,p8 _ _ pl 0 res hro,fL]
 exact⟨[],x,rfl,r9 _ _ _ hro,rfl,jn.jr hv hx,by rw[hm];exact hK⟩
theorem xH {r:List aw} {k t e j:Nat} {L:List Obj} (h:A6 r k=some (t,e,j,L)):∃r',qH r k=some r'/\aj r' k= .store t e L:=by
 unfold qH;rw[h];refine⟨_,rfl,?_⟩
 have hk:k<r.length:=by
  unfold A6 at h;split at h
  ·rename_i hr;exact aF (by rw[hr];simp)
  ·simp at h
 rw[bB _ _ _ _ (by rw[bP];exact hk),To rfl]
def Aj (r:List aw) (k:Nat):Option (Nat×Nat×List Obj):=
 match aj r k with
 | .store t e L=>some (t,e,L)
 |_=>match A6 r k with
  |some (t,e,_,L)=>some (t,e,L)
  |none=>none
theorem Ad {r:List aw} {k t e:Nat} {L:List Obj} (h:Aj r k=some (t,e,L)):aj r k= .store t e L\/∃r',qH r k=some r'/\aj r' k= .store t e L:=by
 unfold Aj at h;split at h
 ·rename_i hr;simp only[Tf,Tg]at h;obtain⟨rfl,rfl,rfl⟩:=h;exact .inl hr
 ·split at h
  ·rename_i hst;simp only[Tf,Tg]at h;obtain⟨rfl,rfl,rfl⟩:=h;exact .inr (xH hst)
  ·simp at h
theorem ME {a b c:V} (h:wh c b []):wh (.tp [a,c]) (.tp [a,b]) []:=fun J K=>by
 obtain⟨s1,s2,_⟩:=h J K;exact⟨by simp only[den,ba,s1],fun hk=>⟨hk.1,s2 hk.2.1,trivial⟩,rfl⟩
theorem ai.LV {f:Nat} {args:List V} {res:List aw} {K KP:V->List aw->Prop} {t e:Nat} {M:List Obj} {F:Nat->V} (hid:km args=true)
  (h:ai P f args [] (fun v r=>∃j,aj r j= .store t e M/\(∀(κ:Nat->Option Nat) (i:Nat),κ j=some i->jn κ v (F i))) (fun _ _=>False)) (hK:K (F res.length) (res++ [.store t e M])):ai P f args res K KP:=by
 refine ai.frame (pl:= []) (args0:=args) (K0:=fun v r=>∃j,aj r j= .store t e M/\(∀(κ:Nat->Option Nat) (i:Nat),κ j=some i->jn κ v (F i))) (KP0:=fun _ _=>False) rfl rfl (jE args hid) h (fun v r hv=>?_) (fun _ _ h=>h.elim)
 obtain⟨j,hj,hv⟩:=hv;have hlt:j<r.length:=aF (by rw[hj];simp)
 have hm:merge [] [j] r res=res++ [.store t e M]:=by simp[merge,eM,fL,hj,fI]
 exact⟨[j],F res.length,by simpa[iq,nF]using hlt,rfl,by simp[m6,hj,iw],hv _ _ (by simp[back,wx,idxOf]),by rw[hm];exact hK⟩
end
def R1 (v:V):Option Nat:=
 match v with
 | .sa j=>some j
 | .ag l=>match l with
   | [x]=>match x with
     | .sa j=>some j
     |_=>none
   |_=>none
 |_=>none
def P6 (c:Nat) (U:St):Option (List Nat):=
 match aj U.res c with
 | .blk _ x=>match R1 x with
   |some j=>match aj U.res j with
    | .obs _ q _=>some [j,q]
    |_=>some [j]
   |none=>some []
 |_=>some []
def RJ (k7:List Nat) (set:Int->List (Nat×V)) (k:Nat) (R:Int->aw) (inv:Int->Prop) (m:Int):dL:=
 {γ:=Int,head:=fun U g=> {U with slots:=MY k7 (set g) 0 U.slots,res:=bG U.res k (R g)},inv:=inv,μ:=fun g=>nN (sJ m g)}
def M9:List (Nat×aw)->List aw->List aw
 | [],r=>r
 | (k,x)::l,r=>M9 l (bG r k x)
def S2 {γ:Type} (k7:List Nat) (set:γ->List (Nat×V)) (rs:γ->List (Nat×aw)) (inv:γ->Prop) (μ:γ->Nat):dL:=
 {γ:=γ,head:=fun U g=> {U with slots:=MY k7 (set g) 0 U.slots,res:=M9 (rs g) U.res},inv:=inv,μ:=μ}
def TL.emp:TL->TL
 | .ob _=> .ob []
 | .key _=> .key []
 | .it k _=> .it k []
 | .bo _=> .bo []
 | .st _=> .st []
 | .fn n g=> .fn n g
def QB (n:Nat):dL:= {γ:=Unit,head:=fun U _=>U,inv:=fun _=>True,μ:=fun _=>0,unr:=some n}
def S7 (k7:List Nat) (set:Int->List (Nat×V)) (c ty e esz:Nat) (L:Int->TL) (inv:Int->Prop) (m:Int):dL:=
 {γ:=Int,head:=fun U g=> {U with slots:=MY k7 (set g) 0 U.slots,res:=bG U.res c (.blk ty (.sa U.res.length))++ [.arr (some e) esz (L g)]},
  inv:=inv,μ:=fun g=>nN (sJ m g),pre:= [.bv c e esz (TL.emp (L 0))],ext:=P6 c}
def SK {γ:Type} (k7:List Nat) (set:γ->List (Nat×V)) (t:Nat) (R:γ->aw) (inv:γ->Prop) (μ:γ->Nat):dL:=
 {γ:=γ,head:=fun U g=>match bw U.slots t with
   | .v x=>match x with
     | .lp k _=> {U with slots:=MY k7 (set g) 0 U.slots,res:=bG U.res k (R g)}
     |_=>U
   |_=>U,inv:=inv,μ:=μ}
def SQ (k7:List Nat) (set:Int->List (Nat×V)) (c t e:Nat) (L:Int->List Obj) (inv:Int->Prop) (m:Int):dL:=
 {γ:=Int,head:=fun U g=> {U with slots:=MY k7 (set g) 0 U.slots,res:=bG U.res c (.blk t (.ag [.sa U.res.length]))++ [.obs e (U.res.length+1) (L g),.gen U.res.length]},
  inv:=inv,μ:=fun g=>nN (sJ m g),pre:= [.bl c e],ext:=P6 c}
end Go.Sx
namespace Go.Proofs.YtghpaegglbbocaaGreat
open Go.Sx
noncomputable def Nr (l:List (Nat×Ct)) (hl:List (Nat×nD)) (inl:Nat->Bool) (ann:Nat->Nat->Option dL):Kb:= {P:=Tryz.prog,Z:=zeroOf,Γ:=m8 l,H0:=zN hl,inl:=inl,ann:=ann,opn:=Iu inl}
theorem xb {l:List (Nat×Ct)} {hl:List (Nat×nD)} {inl:Nat->Bool} {ann:Nat->Nat->Option dL} (h:∀p∈l,cW Tryz.prog p.1 p.2):(Nr l hl inl ann).toCtx.Sound:=
 ⟨vD mC,Tryz.checked.mixed,fun f g hg=>ke h f g hg,fun f ts te h=>by simp[Nr]at h⟩
abbrev Tb (l:List (Nat×Ct)) (hl:List (Nat×nD)) (inl:Nat->Bool) (ann:Nat->Nat->Option dL) (f:Nat) (args:List V) (res:List aw) (K KP:V->List aw->Prop):Prop:=
 enter (Nr l hl inl ann).toCtx (exec (Nr l hl inl ann) 100 ⟨false,none⟩) (exec (Nr l hl inl ann) 100 ⟨false,none⟩ f) f args res K KP
set_option maxRecDepth 100000 in
theorem cg {l:List (Nat×Ct)} {hl:List (Nat×nD)} {inl:Nat->Bool} {ann:Nat->Nat->Option dL} (h:∀p∈l,cW Tryz.prog p.1 p.2) (hh:∀p∈hl,ql Tryz.prog p.1 p.2) {f:Nat} {args:List V} {res:List aw}
  {K KP:V->List aw->Prop} {G:Prop} (hG:G) (he:G=Tb l hl inl ann f args res K KP):ai Tryz.prog f args res K KP:=
 yO (C:=Nr l hl inl ann) (n:=100) (xb h) (uH hh) (Eq.mp he hG)
def Ap:List (Nat×Nat×Nat)->Nat->Option (Nat×Nat)
 | [],_=>none
 | (g,ts,te)::l,f=>if f==g then some (ts,te)else Ap l f
theorem A4 {P:Program}:∀{l:List (Nat×Nat×Nat)},(∀p∈l,sV P p.1 p.2.1 p.2.2)->∀f ts te,Ap l f=some (ts,te)->sV P f ts te
 | [],_,f,ts,te,h=>by simp[Ap]at h
 | (g,a,b)::l,hl,f,ts,te,h=>by
   simp only[Ap]at h;split at h
   ·rename_i e;have e:=Tj.1 e;simp only[Tf,Tg]at h;obtain⟨rfl,rfl⟩:=h;subst e;exact hl (f,a,b) (by simp)
   ·exact A4 (fun p hp=>hl p (by simp[hp])) f ts te h
noncomputable def PT (l:List (Nat×Ct)) (hl:List (Nat×nD)) (dl:List (Nat×Nat×Nat)) (inl:Nat->Bool) (ann:Nat->Nat->Option dL):Kb:= {P:=Tryz.prog,Z:=zeroOf,Γ:=m8 l,D:=Ap dl,H0:=zN hl,inl:=inl,ann:=ann,opn:=Iu inl}
abbrev S9 (l:List (Nat×Ct)) (hl:List (Nat×nD)) (dl:List (Nat×Nat×Nat)) (inl:Nat->Bool) (ann:Nat->Nat->Option dL) (f:Nat) (args:List V) (res:List aw) (K KP:V->List aw->Prop):Prop:=
 enter (PT l hl dl inl ann).toCtx (exec (PT l hl dl inl ann) 100 ⟨false,none⟩) (exec (PT l hl dl inl ann) 100 ⟨false,none⟩ f) f args res K KP
set_option maxRecDepth 100000 in
theorem aK {l:List (Nat×Ct)} {hl:List (Nat×nD)} {dl:List (Nat×Nat×Nat)} {inl:Nat->Bool} {ann:Nat->Nat->Option dL} (h:∀p∈l,cW Tryz.prog p.1 p.2) (hh:∀p∈hl,ql Tryz.prog p.1 p.2) (hd:∀p∈dl,sV Tryz.prog p.1 p.2.1 p.2.2) {f:Nat} {args:List V} {res:List aw}
  {K KP:V->List aw->Prop} {G:Prop} (hG:G) (he:G=S9 l hl dl inl ann f args res K KP):ai Tryz.prog f args res K KP:=
 yO (C:=PT l hl dl inl ann) (n:=100) ⟨vD mC,Tryz.checked.mixed,fun f g hg=>ke h f g hg,A4 hd⟩ (uH hh) (Eq.mp he hG)
end Go.Proofs.YtghpaegglbbocaaGreat
namespace Go.Sx
open Go.RowKit (Below)
def I6 (κ:Nat->Option Nat) (r:List aw):List Nat->Option (List aw)
 | []=>some []
 |p::l=>if iL r p&&iw (aj r p)then match I6 κ r l with
   |some m=>some (fI κ (aj r p)::m)
   |none=>none
  else none
def xE (π:List Nat) (x:Nat->V) (new:Nat->List aw) (v:V) (r:List aw):Prop:=
 ∀nid,fh (idxOf π nid) v=some (x nid)/\I6 (idxOf π nid) r π=some (new nid)
def A9 (x:Nat->V) (new:Nat->List aw):Ct:=fun _ nid args=>match args with
 | []=>some (none,x nid,new nid)
 |_=>none
def Ry:List aw->Bool
 | []=>true
 |r::l=>match r with
  | .yet=>false
  |_=>Ry l
theorem zQ:∀{l:List aw},Ry l=true->∀k,k<l.length->aj l k≠ .yet
 | [],_,k,hk=>by simp at hk
 |r::l,h,k,hk=>by
  simp only[Ry]at h;split at h
  ·simp at h
  ·rename_i hr;cases k with
   |zero=>exact hr
   |succ k=>exact zQ h k (by simpa using hk)
theorem sm {κ:Nat->Option Nat} {r:List aw}:∀{π:List Nat} {new:List aw},I6 κ r π=some new->new.length=π.length/\
  ∀(k p:Nat),π[k]? =some p->known r p/\iw (aj r p)=true/\aj new k=fI κ (aj r p)
 | [],new,h=>by simp only[I6,Tf]at h;subst h;exact⟨rfl,fun k p h=>by simp at h⟩
 |q::π,new,h=>by
  simp only[I6]at h;split at h
  ·rename_i hc;simp only[Th]at hc;split at h<;>simp only[Tf,reduceCtorEq]at h
   rename_i m hm;subst h;obtain⟨a,b⟩:=sm hm;refine⟨by simp[a],fun k p hk=>?_⟩
   cases k with
   |zero=>simp at hk;subst hk;exact⟨cS.1 hc.1,hc.2,rfl⟩
   |succ k=>exact b k p (by simpa using hk)
  ·simp at h
theorem u9 {P:Program} {f:Nat} {π:List Nat} {x:Nat->V} {new:Nat->List aw} (hnd:π.Nodup) (hy:∀nid,Ry (new nid)=true) (h:ai P f [] [] (xE π x new) (fun _ _=>False)):cW P f (A9 x new):=by
 intro J fps res K w0 F0 w nid args q y new' hH hargs hg hq hfr;unfold A9 at hg;split at hg<;>simp only[Tf,Tg,reduceCtorEq]at hg
 obtain⟨_,rfl,rfl⟩:=hg
 have hE:aT J (fun _ _=>False) [] (known []) w (fun _=>False) w:=
  ⟨fun i hi=>hi,Nat.le_refl _,rfl,rfl,rfl,fun i hi=>by simp[known,aj]at hi,fun i b hi=>by simp[known,aj]at hi,fun i j b hi=>by simp[known,aj]at hi,fun i b hi=>by simp[known,aj]at hi,fun _ _ _=>rfl⟩
 have hc:=h J _ w (fun _=>False) w hE trivial
 refine⟨?_,?_⟩
 ·refine hc.mono fun e w' ⟨v,ρ1,fps1,r,g1,g2,g3,g4⟩=>?_
  rcases g4 with⟨rfl,hN⟩|⟨_,hF⟩
  ·obtain⟨n1,n2⟩:=hN nid;obtain⟨l1,l2⟩:=sm n2;refine⟨_,rfl,?_⟩
   let ρ':Env:=⟨fun i=>if i<nid then J.num i else if i<nid+π.length then ρ1.num (π.getD (i-nid) 0)else J.num i,fun i=>if i<nid then J.cap i else if i<nid+π.length then ρ1.cap (π.getD (i-nid) 0)else J.cap i,
    fun i=>if i<nid then J.adr i else if i<nid+π.length then ρ1.adr (π.getD (i-nid) 0)else J.adr i,fun i=>if i<nid then J.sa i else if i<nid+π.length then ρ1.sa (π.getD (i-nid) 0)else J.sa i,
    fun i=>if i<nid then J.sn i else if i<nid+π.length then ρ1.sn (π.getD (i-nid) 0)else J.sn i,fun i=>if i<nid then J.ob i else if i<nid+π.length then ρ1.ob (π.getD (i-nid) 0)else J.ob i⟩
   have hvia:Env.via (idxOf π nid) ρ1 ρ':=by
    intro p i hp;obtain⟨a1,a2,a3⟩:=gh hp;have:π.getD (i-nid) 0=p:=by simp[Tm,a3]
    simp[ρ',Tn (show¬i<nid by omega),To a2,a3]
   have hat:∀k,k<(new nid).length->∃p,π[k]? =some p/\idxOf π nid p=some (nid+k):=fun k hk=>by
    have hk':k<π.length:=by omega
    exact⟨π[k],by simp[hk'],lj π nid k hnd (by simp[hk'])⟩
   have hNN:∀p i,idxOf π nid p=some i->known r p->K i\/fresh nid (new nid).length i:=fun p i hp _=>by
    obtain⟨a1,a2,a3⟩:=gh hp;exact .inr ⟨a1,by omega⟩
   refine⟨ρ',⟨⟨g1.os,g1.tape,g1.output,g1.old,fun b hb=>g1.same b hb (by simp)⟩,fun i hi=>?_,fun k=>fps1 (π.getD k 0),fun k hk=>?_,fun k l b hk hl hne=>?_⟩,?_,?_⟩
   ·have:¬(nid<=i/\i<nid+π.length):=fun⟨a,b⟩=>hi ⟨a,by omega⟩
    by_cases hlt:i<nid
    ·simp[ρ',To hlt]
    ·simp[ρ',Tn hlt,Tn (show¬i<nid+π.length by omega)]
   ·obtain⟨p,p1,p2⟩:=hat k hk;obtain⟨m1,m2,m3⟩:=l2 k p p1;have hgd:π.getD k 0=p:=by simp[Tm,p1]
    simp only[hgd];refine⟨?_,fun b hb=>⟨?_,g1.lt p b m1 hb⟩⟩
    ·rw[m3];exact gx hvia hNN p2 _ _ _ (jB m2 (g1.holds p m1))
    ·refine Nat.le_of_not_lt fun hlt=>?_
     exact g1.inF p b m1 hb hlt
   ·obtain⟨p,p1,p2⟩:=hat k hk;obtain⟨p',p1',p2'⟩:=hat l hl;have hgd:π.getD k 0=p:=by simp[Tm,p1]
    have hgd':π.getD l 0=p':=by simp[Tm,p1']
    simp only[hgd,hgd']
    have hpp:p≠p':=by
     rintro rfl
     rw[p2]at p2';simp at p2';omega
    exact g1.disj p p' b (l2 k p p1).1 (l2 l p' p1').1 hpp
   ·exact(iO hvia hNN _ _ n1).1.symm
   ·exact(iO hvia hNN _ _ n1).2.1 g3
  ·exact hF.elim
 ·intro k hk;exact zQ (hy nid) k hk
end Go.Sx
namespace Go.Sx
open Go.RowKit (Below)
structure Arg (α:Type) where
 rd:List aw->V->Option (List (Nat×aw)×α)
 cn:α->Nat->V
 pl:α->List aw
structure my (α:Type) where
 rd:List aw->List V->Option (List (Nat×aw)×α)
 cn:α->Nat->List V
 pl:α->List aw
def nL {α:Type} (A:Arg α):Prop:=∀res v pls a,A.rd res v=some (pls,a)->pls.map (·.2)=A.pl a/\(∀p∈pls,nA res p.1 p.2/\ph p.2=true)/\bH (A.cn a 0)=bH v/\(∀n,bH (A.cn a n)=bH (A.cn a 0))/\
 ∀(pre post:List (Nat×aw)),(∀J K,ok K v->den (J.pull (pA (pre++(pls++post)))) (A.cn a pre.length)=den J v)/\∀K,ok K v->ok (known (r7 (pre++(pls++post)))) (A.cn a pre.length)
def ji {α:Type} (A:my α):Prop:=∀res l pls a,A.rd res l=some (pls,a)->pls.map (·.2)=A.pl a/\(∀p∈pls,nA res p.1 p.2/\ph p.2=true)/\(pG l->∀n,pG (A.cn a n))/\
 ∀(pre post:List (Nat×aw)),(∀J K,eE K l->ba (J.pull (pA (pre++(pls++post)))) (A.cn a pre.length)=ba J l/\aR (J.pull (pA (pre++(pls++post)))) (A.cn a pre.length)=aR J l)/\∀K,eE K l->eE (known (r7 (pre++(pls++post)))) (A.cn a pre.length)
def na:my Unit:=⟨fun _ l=>match l with| []=>some ([],())|_=>none,fun _ _=> [],fun _=> []⟩
def cO {α β:Type} (A:Arg α) (B:my β):my (α×β):=
 ⟨fun res l=>match l with
  |v::l=>match A.rd res v with
   |some (p,a)=>match B.rd res l with
    |some (q,b)=>some (p++q,(a,b))
    |none=>none
   |none=>none
  | []=>none,fun x n=>A.cn x.1 n::B.cn x.2 (n+(A.pl x.1).length),fun x=>A.pl x.1++B.pl x.2⟩
def Co {α:Type} (r:V->Option α) (m:α->V):Arg α:=⟨fun _ v=>match r v with|some x=>some ([],x)|none=>none,fun x _=>m x,fun _=> []⟩
def RD (t e:Nat):Arg (Option (List Obj)):=
 ⟨fun res v=>match rS t e res v with
  |some (o,L)=>match o with
   |none=>some ([],none)
   |some k=>some ([(k,.store t e L)],some L)
  |none=>none,fun o n=>match o with|none=>kS|some _=> .lp n 0,fun o=>match o with|none=> []|some L=> [.store t e L]⟩
def RK:Arg (List Obj):=
 ⟨fun res v=>match rA res v with
  |some (k,L)=>some ([(k,.arr none 163 (.ob L))],L)
  |none=>none,fun _ n=> .sa n,fun L=> [.arr none 163 (.ob L)]⟩
def RV {α:Type} (B:my α):Arg α:=
 ⟨fun res v=>match v with
  | .ag l=>B.rd res l
  |_=>none,fun x n=> .ag (B.cn x n),B.pl⟩
theorem z0 {pre pls post:List (Nat×aw)} {k:Nat} {r:aw}:pA (pre++((k,r)::pls++post)) pre.length=k:=ru _ _ (k,r) (by simp)
theorem xJ {pre pls post:List (Nat×aw)} {k:Nat} {r:aw}:known (r7 (pre++((k,r)::pls++post))) pre.length:=by
 unfold known;rw[uE];simp
theorem fz:ji na:=by
 intro res l pls a h;simp only[na]at h;split at h<;>simp only[Tf,Tg,reduceCtorEq]at h
 obtain⟨rfl,_⟩:=h;exact⟨rfl,by simp,fun _ _=>trivial,fun pre post=>⟨fun _ _ _=>⟨rfl,rfl⟩,fun _ _=>trivial⟩⟩
theorem aY {α β:Type} {A:Arg α} {B:my β} (hA:nL A) (hB:ji B):ji (cO A B):=by
 intro res l pls x h;simp only[cO]at h;split at h
 case h_2=>simp at h
 rename_i v l;split at h
 case h_2=>simp at h
 rename_i p a ha;split at h
 case h_2=>simp at h
 rename_i q b hb;simp only[Tf,Tg]at h;obtain⟨rfl,rfl⟩:=h;obtain⟨a1,a2,a3,a3',a4⟩:=hA _ _ _ _ ha;obtain⟨b1,b2,b3,b4⟩:=hB _ _ _ _ hb;refine⟨by simp[cO,a1,b1],fun p' hp'=>?_,fun hc n=>?_,fun pre post=>?_⟩
 ·rcases List.mem_append.1 hp' with hp'|hp'
  ·exact a2 p' hp'
  ·exact b2 p' hp'
 ·rw[cD]at hc⊢;intro z hz;simp only[cO]at hz;rcases List.mem_cons.1 hz with rfl|hz
  ·rw[a3',a3];exact hc v (by simp)
  ·exact(cD _).1 (b3 ((cD _).2 fun y hy=>hc y (by simp[hy])) _) z hz
 ·have hlen:(A.pl a).length=p.length:=by rw[<-a1];simp
  obtain⟨c1,c2⟩:=a4 pre (q++post);obtain⟨d1,d2⟩:=b4 (pre++p) post;have e1:pre++(p++q++post)=pre++(p++(q++post)):=by simp
  have e2:(pre++p)++(q++post)=pre++(p++(q++post)):=by simp
  have e3:(pre++p).length=pre.length+(A.pl a).length:=by simp[hlen]
  rw[e2,e3]at d1 d2;rw[e1];refine⟨fun J K hK=>?_,fun K hK=>?_⟩
  ·obtain⟨f1,f2⟩:=d1 J K hK.2;have f3:=c1 J K hK.1;simp only[cO];exact⟨by simp only[ba];rw[f3,f1],by simp only[aR];rw[f3,f2]⟩
  ·exact⟨c2 K hK.1,d2 K hK.2⟩
theorem rF {α:Type} {r:V->Option α} {m:α->V} (hr:p7 r m) (hid:∀x,jr (m x)=true) (ht:∀v x,r v=some x->bH v=bH (m x)):nL (Co r m):=by
 intro res v pls a h;simp only[Co]at h;split at h<;>simp only[Tf,Tg,reduceCtorEq]at h
 rename_i x hx;obtain⟨rfl,rfl⟩:=h;obtain⟨b1,b2⟩:=hr _ x hx;refine⟨rfl,by simp,(ht v x hx).symm,fun _=>rfl,fun pre post=>⟨fun J K hK=>?_,fun K hK=>eJ (b2 K hK)⟩⟩
 show den _ (m x)=_
 rw[b1 J];exact oW (hid x) (b2 K hK) J _
theorem PA (t e:Nat):nL (RD t e):=by
 intro res v pls a h;simp only[RD]at h;split at h
 case h_2=>simp at h
 rename_i o L hs;rcases tX hs with⟨rfl,rfl,rfl⟩|⟨k,rfl,rfl,hse⟩<;>simp only[Tf,Tg]at h<;>obtain⟨rfl,rfl⟩:=h
 ·exact⟨rfl,by simp,rfl,fun _=>rfl,fun pre post=>⟨fun _ _ _=>rfl,fun _ _=>rfl⟩⟩
 ·refine⟨rfl,by simpa using⟨hse,rfl⟩,rfl,fun _=>rfl,fun pre post=>⟨fun J K hK=>?_,fun K hK=>xJ (pls:= [])⟩⟩
  simp only[RD,den,Env.pull];rw[z0 (pls:= [])]
theorem Pk:nL RK:=by
 intro res v pls a h;simp only[RK]at h;split at h<;>simp only[Tf,Tg,reduceCtorEq]at h
 rename_i k L hs;obtain⟨rfl,rfl⟩:=h;obtain⟨rfl,hse,_⟩:=Dy hs;refine⟨rfl,by simpa using⟨hse,rfl⟩,rfl,fun _=>rfl,fun pre post=>⟨fun J K hK=>?_,fun K hK=>xJ (pls:= [])⟩⟩
 simp only[RK,den,Env.pull];rw[z0 (pls:= [])]
theorem Pe {α:Type} {B:my α} (hB:ji B):nL (RV B):=by
 intro res v pls a h;simp only[RV]at h;split at h
 case h_2=>simp at h
 rename_i l;obtain⟨b1,b2,b3,b4⟩:=hB _ _ _ _ h;refine⟨b1,b2,rfl,fun _=>rfl,fun pre post=>?_⟩
 obtain⟨c1,c2⟩:=b4 pre post;refine⟨fun J K hK=>?_,fun K hK=>⟨c2 K hK.1,b3 hK.2 _⟩⟩
 simp only[RV,den];rw[(c1 J K hK.1).2]
def EY {α:Type} (B:my α) (Q:α->Option Prop) (F:α->V):Ct:=fun res _ xs=>match B.rd res xs with
 |some (_,a)=>some (Q a,F a,[])
 |none=>none
def nr (l:List aw):List aw:=l.map .ro
theorem Gl (pls:List (Nat×aw)):r7 pls=nr (pls.map (·.2)):=by
 induction pls with
 |nil=>rfl
 |cons p l ih=>obtain⟨p,r⟩:=p;simp[r7,nr,ih]
theorem kY {P:Program} {f:Nat} {α:Type} {B:my α} {Q:α->Option Prop} {F:α->V} (hB:ji B) (hF:∀a,jr (F a)=true)
  (h:∀a,cZ (Q a)->eE (known (nr (B.pl a))) (B.cn a 0)->ai P f (B.cn a 0) (nr (B.pl a)) (rm (F a)) (fun _ _=>False)):cW P f (EY B Q F):=by
 refine uj fun res nid args q x new hg=>?_
 unfold EY at hg;split at hg<;>simp only[Tf,Tg,reduceCtorEq]at hg
 rename_i pls a ha;obtain⟨rfl,rfl,rfl⟩:=hg;obtain⟨b1,b2,_,b4⟩:=hB _ _ _ _ ha;obtain⟨c1,c2⟩:=b4 [] [];simp only[List.nil_append,List.append_nil,List.length_nil]at c1 c2;refine⟨rfl,hF a,pls,B.cn a 0,b2,fun J K hK=>(c1 J K hK).1,c2,fun hq hok=>?_⟩
 rw[Gl,b1]at hok⊢;exact(h a hq hok).mono (fun _ _=>dB) fun _ _ h=>h
theorem KI {J:Env} {fps:Nat->Nat->Prop} {res:List aw} {K:Nat->Prop} {w0 w:World} {F0:Nat->Prop} (hH:aT J fps res K w0 F0 w) {pls:List (Nat×aw)} (hcl:∀p∈pls,nA res p.1 p.2/\ph p.2=true):
  aT (J.pull (pA pls)) (fun _ _=>False) (r7 pls) (known (r7 pls)) w (fun _=>False) w:=by
 have hfr:∀b,b<w0.heap.size->¬F0 b->w.heap[b]? =w0.heap[b]? /\¬(fun _:Nat=>False) b:=fun b hb hF=>⟨hH.same b hb hF,fun h=>h⟩
 refine⟨fun i hi=>hi,Nat.le_refl _,rfl,rfl,rfl,fun i hi=>?_,fun i b hi h=>h.elim,fun i j b hi hj hne h=>h.elim,fun i b hi h=>h.elim,fun _ _ _=>rfl⟩
 have hlt:=aF hi;rw[qj]at hlt;have hp:pls[i]? =some pls[i]:=List.getElem?_eq_getElem hlt;generalize pls[i]=p at hp
 rw[uE,hp];simp only;obtain⟨hs,hcl⟩:=hcl p (List.mem_of_getElem? hp);obtain⟨fp,g1,g2⟩:=hs.2 J fps K w0 F0 w hH
 have hv:Env.via (fun x=>if x=p.1 then some i else none) J (J.pull (pA pls)):=rC fun x j hx=>by
  split at hx
  ·simp only[Tf]at hx;subst hx;rename_i e;subst e;exact ru pls i p hp
  ·simp at hx
 have:=gx (N':=known (r7 pls)) hv (fun x j hx _=>by
  split at hx
  ·simp only[Tf]at hx;subst hx;exact hi
  ·simp at hx) (p:=p.1) (i:=i) (by simp) _ _ _ (aw.sI hH.old hfr _ _ g1)
 rw[qW hcl]at this;refine⟨fp,this,fun b hb=>⟨?_,fun h=>h⟩⟩
 rcases g2 b hb with⟨j,hj,hf⟩|⟨hl,_⟩
 ·exact hH.lt j b hj hf
 ·exact Nat.lt_of_lt_of_le hl hH.old
theorem BL {J ρ1:Env} {K:Nat->Prop} {fps1:Nat->Nat->Prop} {r:List aw} {w0 w w':World} {F0:Nat->Prop} {nid:Nat} {π:List Nat} {x:Nat->V} {new:Nat->List aw} {v:V} (hnd:π.Nodup)
  (g1:aT ρ1 fps1 r (known r) w (fun _=>False) w') (g3:ok (known r) v) (hN:xE π x new v r):nR K J nid (x nid) (new nid) w0 F0 w (den ρ1 v) w':=by
 obtain⟨n1,n2⟩:=hN nid;obtain⟨l1,l2⟩:=sm n2
 let ρ':Env:=⟨fun i=>if i<nid then J.num i else if i<nid+π.length then ρ1.num (π.getD (i-nid) 0)else J.num i,fun i=>if i<nid then J.cap i else if i<nid+π.length then ρ1.cap (π.getD (i-nid) 0)else J.cap i,
  fun i=>if i<nid then J.adr i else if i<nid+π.length then ρ1.adr (π.getD (i-nid) 0)else J.adr i,fun i=>if i<nid then J.sa i else if i<nid+π.length then ρ1.sa (π.getD (i-nid) 0)else J.sa i,
  fun i=>if i<nid then J.sn i else if i<nid+π.length then ρ1.sn (π.getD (i-nid) 0)else J.sn i,fun i=>if i<nid then J.ob i else if i<nid+π.length then ρ1.ob (π.getD (i-nid) 0)else J.ob i⟩
 have hvia:Env.via (idxOf π nid) ρ1 ρ':=by
  intro p i hp;obtain⟨a1,a2,a3⟩:=gh hp;simp[ρ',Tn (show¬i<nid by omega),To a2,a3]
 have hat:∀k,k<(new nid).length->∃p,π[k]? =some p/\idxOf π nid p=some (nid+k):=fun k hk=>by
  have hk':k<π.length:=by omega
  exact⟨π[k],by simp[hk'],lj π nid k hnd (by simp[hk'])⟩
 have hNN:∀p i,idxOf π nid p=some i->known r p->K i\/fresh nid (new nid).length i:=fun p i hp _=>by
  obtain⟨a1,a2,a3⟩:=gh hp;exact .inr ⟨a1,by omega⟩
 refine⟨ρ',⟨⟨g1.os,g1.tape,g1.output,g1.old,fun b hb=>g1.same b hb (by simp)⟩,fun i hi=>?_,fun k=>fps1 (π.getD k 0),fun k hk=>?_,fun k l b hk hl hne=>?_⟩,?_,?_⟩
 ·have:¬(nid<=i/\i<nid+π.length):=fun⟨a,b⟩=>hi ⟨a,by omega⟩
  by_cases hlt:i<nid
  ·simp[ρ',To hlt]
  ·simp[ρ',Tn hlt,Tn (show¬i<nid+π.length by omega)]
 ·obtain⟨p,p1,p2⟩:=hat k hk;obtain⟨m1,m2,m3⟩:=l2 k p p1;have hgd:π.getD k 0=p:=by simp[Tm,p1]
  simp only[hgd];refine⟨?_,fun b hb=>⟨?_,g1.lt p b m1 hb⟩⟩
  ·rw[m3];exact gx hvia hNN p2 _ _ _ (jB m2 (g1.holds p m1))
  ·refine Nat.le_of_not_lt fun hlt=>?_
   exact g1.inF p b m1 hb hlt
 ·obtain⟨p,p1,p2⟩:=hat k hk;obtain⟨p',p1',p2'⟩:=hat l hl;have hgd:π.getD k 0=p:=by simp[Tm,p1]
  have hgd':π.getD l 0=p':=by simp[Tm,p1']
  simp only[hgd,hgd']
  have hpp:p≠p':=by
   rintro rfl
   rw[p2]at p2';simp at p2';omega
  exact g1.disj p p' b (l2 k p p1).1 (l2 l p' p1').1 hpp
 ·exact(iO hvia hNN _ _ n1).1.symm
 ·exact(iO hvia hNN _ _ n1).2.1 g3
theorem ai.CG {P:Program} {f:Nat} {args:List V} {res:List aw} {x:V} {new:List aw} {K KP:V->List aw->Prop} (hy:∀k,k<new.length->aj new k≠ .yet)
  (h:∀J fps w0 F0 w,aT J fps res (known res) w0 F0 w->eE (known res) args->CallsIn (FF P none) 0 P f (ba J args).toArray w fun e w'=>∃v,e= .returned v/\nR (known res) J res.length x new w0 F0 w v w') (hK:K x (res++new)):ai P f args res K KP:=by
 intro J fps w0 F0 w hH hargs;refine(h J fps w0 F0 w hH hargs).mono fun e w' ⟨v,he,ρ',hg,hv,hx⟩=>?_
 have hfr':∀i,known res i->¬fresh res.length new.length i:=fun i hi hf=>by have:=aF hi;unfold fresh at hf;omega
 have hK':∀i,known res i\/fresh res.length new.length i->known (res++new) i:=by
  intro i hi;obtain⟨b1,b2,b3⟩:=iR res new;rcases hi with hi|⟨f1,f2⟩
  ·unfold known;rw[(b1 i hi).1];exact hi
  ·have:=b3 (i-res.length) (by omega)
   rw[show res.length+(i-res.length)=i by omega]at this
   unfold known;rw[this];exact hy _ (by omega)
 obtain⟨fps',g1,g2⟩:=hH.grow (res':=res++new) (iR _ _) hfr' hK' hg;exact⟨x,ρ',fps',res++new,g1,⟨g2,fun i hi=>hK' i (.inl hi)⟩,cE hK' _ hx,.inl ⟨by rw[he,hv],hK⟩⟩
def PV {α:Type} (B:my α) (Q:α->Prop) (c:α->Bool) (F0:α->V) (F1:α->Nat->V) (new:α->aw):nD:=fun args res K=>
 match B.rd res args with
 |some (_,a)=>Q a/\(c a=false->K (F0 a) res)/\(c a=true->K (F1 a res.length) (res++ [new a]))
 |none=>False
def N4 (c:Bool) (x0:V) (F1:Nat->V) (new:aw) (p:Option Nat) (v:V) (r:List aw):Prop:=
 match p with
 |some p=>c=true/\xE [p] F1 (fun _=> [new]) v r
 |none=>c=false/\rm x0 v r
def R0 (v:V):Option Nat:=
 match v with
 | .sa p=>some p
 | .lp p _=>some p
 | .tp l=>match l with
   |x::_=>match x with
    | .sa p=>some p
    | .lp p _=>some p
    |_=>none
   | []=>none
 |_=>none
def L1 (c:Bool) (x0:V) (F1:Nat->V) (new:aw) (v:V) (r:List aw):Prop:=N4 c x0 F1 new (R0 v) v r
theorem Pc {P:Program} {f:Nat} {α:Type} {B:my α} {Q:α->Prop} {c:α->Bool} {F0:α->V} {F1:α->Nat->V} {new:α->aw} (hB:ji B) (hF:∀a,jr (F0 a)=true) (hn:∀a,new a≠ .yet)
  (h:∀a,Q a->eE (known (nr (B.pl a))) (B.cn a 0)->ai P f (B.cn a 0) (nr (B.pl a)) (L1 (c a) (F0 a) (F1 a) (new a)) (fun _ _=>False)):ql P f (PV B Q c F0 F1 new):=by
 intro args res K KP hh;unfold PV at hh;split at hh
 case h_2=>exact hh.elim
 rename_i pls a ha;obtain⟨hQ,h0,h1⟩:=hh;obtain⟨b1,b2,_,b4⟩:=hB _ _ _ _ ha;obtain⟨c1,c2⟩:=b4 [] [];simp only[List.nil_append,List.append_nil,List.length_nil]at c1 c2;have hro:r7 pls=nr (B.pl a):=by rw[Gl,b1]
 have main:∀J fps w0 F0' w,aT J fps res (known res) w0 F0' w->eE (known res) args->CallsIn (FF P none) 0 P f (ba J args).toArray w fun e w'=>∃v ρ1 fps1 r,e= .returned (den ρ1 v)/\aT ρ1 fps1 r (known r) w (fun _=>False) w'/\ok (known r) v/\L1 (c a) (F0 a) (F1 a) (new a) v r:=by
  intro J fps w0 F0' w hH hargs;have hrep:=KI hH b2;have hok:=c2 _ hargs;rw[hro]at hrep hok;rw[<-(c1 J _ hargs).1];refine(h a hQ hok _ _ _ _ _ hrep hok).mono fun e w' ⟨v,ρ1,fps1,r,g1,g2,g3,g4⟩=>?_
  rcases g4 with⟨rfl,hN⟩|⟨_,hF⟩
  ·exact⟨v,ρ1,fps1,r,rfl,g1,g3,hN⟩
  ·exact hF.elim
 cases hc:c a with
 |true=>
  refine ai.CG (x:=F1 a res.length) (new:= [new a]) (fun k hk=>by simp at hk;subst hk;exact hn a) (fun J fps w0 F0' w hH hargs=>?_) (h1 hc)
  refine(main J fps w0 F0' w hH hargs).mono fun e w' ⟨v,ρ1,fps1,r,he,g1,g3,hv⟩=>?_
  unfold L1 N4 at hv;split at hv
  ·exact⟨_,he,BL (new:=fun _=> [new a]) (by simp) g1 g3 hv.2⟩
  ·rw[hc]at hv;simp at hv
 |false=>
  have h0':=h0 hc;rw[<-List.append_nil res]at h0';refine ai.CG (x:=F0 a) (new:= []) (fun k hk=>by simp at hk) (fun J fps w0 F0' w hH hargs=>?_) h0'
  refine(main J fps w0 F0' w hH hargs).mono fun e w' ⟨v,ρ1,fps1,r,he,g1,g3,hv⟩=>?_
  unfold L1 N4 at hv;split at hv
  ·rw[hc]at hv;simp at hv
  ·refine⟨_,he,J,⟨⟨g1.os,g1.tape,g1.output,g1.old,fun b hb=>g1.same b hb (fun h=>h)⟩,Env.aW.refl _ _,fun _ _=>False,fun k hk=>by simp at hk,fun k l b hk=>by simp at hk⟩,?_,?_⟩
   ·obtain⟨e1,e2,_⟩:=dB hv.2 ρ1 (known r);rw[e1];exact oW (hF a) (e2 g3) J ρ1
   ·obtain⟨e1,e2,_⟩:=dB hv.2 ρ1 (known r);exact mW _ (hF a) (e2 g3)
end Go.Sx
namespace Go.Sx
open Go.RowKit (Below)
end Go.Sx
