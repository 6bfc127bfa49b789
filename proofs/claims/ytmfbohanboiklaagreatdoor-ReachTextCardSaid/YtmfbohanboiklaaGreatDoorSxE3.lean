import Derived.Test.YtmfbohanboiklaaGreatDoorSxE2
set_option linter.unusedSimpArgs false
set_option linter.unusedVariables false
namespace Go.Sx
open Go.RowKit (Below)
def Env.kL(J:Env)(n:Nat)(sa:Option Addr)(sn cap:Nat)(ob:Nat->Nat):Env:=
 {num:=J.num,cap:=fun j=>if j=n then cap else J.cap j,adr:=fun j=>if j=n then sa.getD ⟨0,0,none⟩else J.adr j,sa:=fun j=>if j=n then sa else J.sa j,sn:=fun j=>if j=n then sn else J.sn j,
  ob:=fun j=>if j=n+1 then ob else J.ob j}
theorem pM{N:Nat->Prop}{J:Env}{i:Nat}{a:Option Addr}{n cap:Nat}{ob:Nat->Nat}(h:¬N i)(h':¬N (i+1)):Env.agree N J (J.kL i a n cap ob):=fun j hj=>by
 grind[Env.kL]
theorem sJ{w:World}{e size n:Nat}{v:Value}{xs:List Value}(h:w.ownsRow 0 e size v n xs):∃a cap,v= .slice a n cap:=by
 rcases h.2 with⟨rfl,rfl⟩|⟨g,cap,cur,rfl,_⟩
 ·exact⟨_,_,rfl⟩
 ·exact⟨_,_,rfl⟩
theorem rv{K:Nat->Prop}{J:Env}{k t e:Nat}{L:List Obj}{fp:Nat->Prop}{w0 w:World}{F0:Nat->Prop}(h:(aI.store t e L).holds K J k fp w0 F0 w):
  ∃(sa:Option Addr) (cap:Nat) (ob:Nat->Nat),∀(n:Nat) (K':Nat->Prop) (w1:World) (F1:Nat->Prop),K' n->K' (n+1)->
   (aI.blk t (.ag [.sa n])).holds K' (J.kL n sa L.length cap ob) k (fun b=>b=J.num k) w1 F1 w/\(aI.obs e (n+1) L).holds K' (J.kL n sa L.length cap ob) n (fun b=>fp b/\b≠J.num k) w1 F1 w:=by
 obtain⟨h0,h1,h2,sl,ob,h3,h5,h6,h7⟩:=h;obtain⟨a,cap,rfl⟩:=sJ h5;refine⟨a,cap,ob,fun n K' w1 F1 hn hn'=>⟨⟨⟨⟨hn,trivial⟩,trivial,trivial⟩,rfl,by simp[Env.kL],?_⟩,?_⟩⟩
 ·simp only[Env.kL,bI,aR,den,Value.cells,if_true];exact h3
 ·refine⟨hn',h1,by simp[Env.kL],h2,fun x hx=>?_,fun hl=>?_,?_,fun j hj=>?_⟩
  ·simp only[Env.kL,if_true]at hx⊢;subst hx;exact⟨rfl,h6 _ rfl⟩
  ·simp only[Env.kL,if_true];rcases h5.2 with⟨hh,h0⟩|⟨g,cap',cur,hh,_⟩
   ·omega
   ·simp only[Value.slice.injEq]at hh;rw[hh.1];rfl
  ·simp_all[Env.sl,Env.kL]
  ·simp_all[Env.kL]
def fa(res:List aI)(k t e:Nat)(L:List Obj):List aI:=bd res k (.blk t (.ag [.sa res.length]))++ [.obs e (res.length+1) L,.gen res.length]
def dt(res:List aI)(k t e:Nat)(L:List Obj):List aI:=bd res k (.ro (.blk t (.ag [.sa res.length])))++ [.ro (.obs e (res.length+1) L),.gen res.length]
theorem G0{A B C:aI}{res:List aI}{k:Nat}(hk:k<res.length)(i:Nat):aH (bd res k A++ [B,C]) i=if i<res.length then(if i=k then A else aH res i)else if i=res.length then B else if i=res.length+1 then C else .yet:=by
 rw[bc,a8];by_cases hi:i<res.length
 ·rw[au hi,au hi,aY _ _ _ _ hk]
 ·rw[ar hi,ar hi];by_cases e:i=res.length
  ·subst e;simp[aH]
  ·rw[ar e];by_cases e1:i=res.length+1
   ·simp_all[aH]
   ·rw[ar e1];obtain⟨m,hm⟩:∃m,i-res.length=m+2:=⟨i-res.length-2,by omega⟩
    rw[hm];simp[aH]
theorem uo{J:Env}{fps:Nat->Nat->Prop}{w0 w:World}{F0:Nat->Prop}{res:List aI}{k t e:Nat}{L:List Obj}(hr:aH res k= .store t e L)(hH:aQ J fps res (known res) w0 F0 w):
  ∃ρ' fps',aQ ρ' fps' (Sx.fa res k t e L) (known (Sx.fa res k t e L)) w0 F0 w/\Good J res ρ' (Sx.fa res k t e L):=by
 have hk:known res k:=by unfold known;rw[hr];simp
 have hlt:=aK hk;have hh:=hH.holds k hk;rw[hr]at hh;obtain⟨sa,cap,ob,hop⟩:=rv hh;have hnk:¬known res res.length:=fun hk=>by have:=aK hk;omega
 have hnk':¬known res (res.length+1):=fun hk=>by have:=aK hk;omega
 have hget:=G0 (A:= .blk t (.ag [.sa res.length])) (B:= .obs e (res.length+1) L) (C:= .gen res.length) hlt;have k1:known (Sx.fa res k t e L) res.length:=by unfold known Sx.fa;rw[hget,ar (by omega),au rfl];simp
 have k2:known (Sx.fa res k t e L) (res.length+1):=by unfold known Sx.fa;rw[hget,ar (by omega),ar (by omega),au rfl];simp
 have hmono:∀i,known res i->known (Sx.fa res k t e L) i:=fun i hi=>by
  unfold known Sx.fa;rw[hget,au (aK hi)];split
  ·simp
  ·exact hi
 obtain⟨o1,o2⟩:=hop res.length (known (Sx.fa res k t e L)) w0 F0 k1 k2;have hag:=pM (J:=J) (a:=sa) (n:=L.length) (cap:=cap) (ob:=ob) hnk hnk'
 obtain⟨fps',g⟩:=hH.turn (res':=Sx.fa res k t e L) (K':=known (Sx.fa res k t e L)) (fun i=>i=k) (fun i=>i=k\/res.length<=i) (fun i b=>(i=k/\b=J.num k)\/(i=res.length/\fps k b/\b≠J.num k))
  (fun i hi=>hi) hmono hag
  (fun i hi hb=>by
   have h1:i≠k:=fun e=>hb (.inl e)
   have h2:i<res.length:=by
    rcases Nat.lt_or_ge i res.length with h|h
    ·exact h
    ·exact absurd (.inr h) hb
   have e:aH (Sx.fa res k t e L) i=aH res i:=by unfold Sx.fa;rw[hget,au h2,ar h1]
   exact⟨by unfold known at hi⊢;rw[e]at hi;exact hi,h1,e⟩)
  (fun i hi hb=>by
   by_cases e1:i=k
   ·subst e1
    have:(fun b=>(i=i/\b=J.num i)\/(i=res.length/\fps i b/\b≠J.num i))=fun b=>b=J.num i:=by
     grind
    refine⟨?_,fun b hf=> .inl ⟨i,rfl,hk,?_⟩⟩
    ·rw[this];unfold Sx.fa;rw[hget,au hlt,au rfl];exact o1
    ·rcases hf with⟨_,rfl⟩|⟨e,_⟩
     ·exact hh.1
     ·omega
   ·by_cases e2:i=res.length
    ·subst e2
     have:(fun b=>(res.length=k/\b=J.num k)\/(res.length=res.length/\fps k b/\b≠J.num k))=fun b=>fps k b/\b≠J.num k:=by
      simp_all
     refine⟨?_,fun b hf=> .inl ⟨k,rfl,hk,?_⟩⟩
     ·rw[this];unfold Sx.fa;rw[hget,ar (by omega),au rfl];exact o2
     ·simp_all
    ·refine⟨?_,fun b hf=>by rcases hf with⟨e,_⟩|⟨e,_⟩<;>contradiction⟩
     unfold Sx.fa;rw[hget,ar (by have:=hb.resolve_left e1;omega),ar e2]
     split<;>trivial)
  (fun i j b _ _ hne hf hf'=>by
   rcases hf with⟨rfl,rfl⟩|⟨rfl,h1,h2⟩<;>rcases hf' with⟨rfl,h3⟩|⟨rfl,h3,h4⟩
   ·exact hne rfl
   ·exact h4 rfl
   ·exact h2 h3
   ·exact hne rfl)
  rfl rfl rfl (Nat.le_refl _) (fun _ _ _=>rfl)
 exact⟨_,fps',g,hag,hmono⟩
theorem sd{J:Env}{fps:Nat->Nat->Prop}{w0 w:World}{F0:Nat->Prop}{res:List aI}{k t e:Nat}{L:List Obj}(hr:aH res k= .ro (.store t e L))(hH:aQ J fps res (known res) w0 F0 w):
  ∃ρ' fps',aQ ρ' fps' (Sx.dt res k t e L) (known (Sx.dt res k t e L)) w0 F0 w/\Good J res ρ' (Sx.dt res k t e L):=by
 have hk:known res k:=by unfold known;rw[hr];simp
 have hlt:=aK hk;have hh:=hH.holds k hk;rw[hr]at hh;obtain⟨fp,hh,hfp⟩:=hh;obtain⟨sa,cap,ob,hop⟩:=rv hh;have hnk:¬known res res.length:=fun hk=>by have:=aK hk;omega
 have hnk':¬known res (res.length+1):=fun hk=>by have:=aK hk;omega
 have hget:=G0 (A:= .ro (.blk t (.ag [.sa res.length]))) (B:= .ro (.obs e (res.length+1) L)) (C:= .gen res.length) hlt;have k1:known (Sx.dt res k t e L) res.length:=by unfold known Sx.dt;rw[hget,ar (by omega),au rfl];simp
 have k2:known (Sx.dt res k t e L) (res.length+1):=by unfold known Sx.dt;rw[hget,ar (by omega),ar (by omega),au rfl];simp
 have hmono:∀i,known res i->known (Sx.dt res k t e L) i:=fun i hi=>by
  unfold known Sx.dt;rw[hget,au (aK hi)];split
  ·simp
  ·exact hi
 obtain⟨o1,o2⟩:=hop res.length (known (Sx.dt res k t e L)) w0 F0 k1 k2;have hag:=pM (J:=J) (a:=sa) (n:=L.length) (cap:=cap) (ob:=ob) hnk hnk'
 obtain⟨fps',g⟩:=hH.turn (res':=Sx.dt res k t e L) (K':=known (Sx.dt res k t e L)) (fun i=>i=k) (fun i=>i=k\/res.length<=i) (fun i b=>False)
  (fun i hi=>hi) hmono hag
  (fun i hi hb=>by
   have h1:i≠k:=fun e=>hb (.inl e)
   have h2:i<res.length:=by
    rcases Nat.lt_or_ge i res.length with h|h
    ·exact h
    ·exact absurd (.inr h) hb
   have e:aH (Sx.dt res k t e L) i=aH res i:=by unfold Sx.dt;rw[hget,au h2,ar h1]
   exact⟨by unfold known at hi⊢;rw[e]at hi;exact hi,h1,e⟩)
  (fun i hi hb=>by
   refine⟨?_,fun b hf=>hf.elim⟩
   by_cases e1:i=k
   ·subst e1;unfold Sx.dt;rw[hget,au hlt,au rfl];exact⟨fun b=>b=J.num i,by obtain⟨p,_⟩:=hop res.length (known (Sx.dt res i t e L)) w0 F0 k1 k2;exact p,fun b hb=>by subst hb;exact hfp _ hh.1⟩
   ·unfold Sx.dt;by_cases e2:i=res.length
    ·subst e2;rw[hget,ar (by omega),au rfl]
     exact⟨_,o2,fun b hb=>hfp b hb.1⟩
    ·rw[hget,ar (by have:=hb.resolve_left e1;omega),ar e2]
     split<;>trivial)
  (fun i j b _ _ _ hf _=>hf.elim)
  rfl rfl rfl (Nat.le_refl _) (fun _ _ _=>rfl)
 exact⟨_,fps',g,hag,hmono⟩
def wC(r:List aI)(k:Nat):Option (Nat×Nat×Nat×List Obj):=
 match aH r k with
 | .blk t c=>match c with
   | .ag l=>match l with
     | [x]=>match x with
       | .sa j=>match aH r j with
         | .obs e _ L=>some (t,e,j,L)
         |_=>none
       |_=>none
     |_=>none
   |_=>none
 |_=>none
def pt(r:List aI)(k:Nat):Option (List aI):=
 match wC r k with
 |some (t,e,j,L)=>some (bd (bd r j .gone) k (.store t e L))
 |none=>none
theorem ug{J:Env}{fps:Nat->Nat->Prop}{r r':List aI}{w0 w:World}{F0:Nat->Prop}{k:Nat}(hs:pt r k=some r')(h:aQ J fps r (known r) w0 F0 w):
  ∃fps',aQ J fps' r' (known r') w0 F0 w/\∀i,known r i->known r' i:=by
 unfold pt at hs;split at hs
 ·rename_i t e j L hst;simp only[aa]at hs;unfold wC at hst;split at hst
  ·rename_i t' c hrk;split at hst
   ·split at hst
    ·split at hst
     ·rename_i j';split at hst
      ·rename_i e' q L' hrj;simp only[aa,ae]at hst;obtain⟨rfl,rfl,rfl,rfl⟩:=hst;have hkk:known r k:=by unfold known;rw[hrk];simp
       have hkj:known r j':=by unfold known;rw[hrj];simp
       have hne:j'≠k:=fun e=>by rw[e,hrk]at hrj;simp at hrj
       have hlk:=aK hkk;have hlj:=aK hkj
       have hget:∀i,aH r' i=if i=k then .store t' e' L' else if i=j' then .gone else aH r i:=fun i=>by
        subst hs;rw[aY _ _ _ _ (by rw[a8];exact hlk)]
        by_cases e:i=k
        ·rw[au e,au e]
        ·rw[ar e,ar e,aY _ _ _ _ hlj]
       have hmono:∀i,known r i->known r' i:=fun i hi=>by
        grind[known]
       have hk1:=h.holds k hkk;rw[hrk]at hk1;obtain⟨_,_,b3,b4⟩:=hk1;have hj1:=h.holds j' hkj;rw[hrj]at hj1;obtain⟨_,c1,c2,c3,c4,c5,c6,c7⟩:=hj1
       obtain⟨fps',g⟩:=h.turn (res':=r') (K':=known r') (fun i=>i=k\/i=j') (fun i=>i=k\/i=j') (fun i b=>i=k/\(fps k b\/fps j' b)) (fun i hi=>hi) hmono (Env.agree.refl _ _)
        (fun i hi hb=>by
         have h1:i≠k:=fun e=>hb (.inl e)
         have h2:i≠j':=fun e=>hb (.inr e)
         have e:aH r' i=aH r i:=by rw[hget,ar h1,ar h2]
         exact⟨by unfold known at hi⊢;rw[e]at hi;exact hi,hb,e⟩)
        (fun i hi hb=>by
         rcases hb with rfl|rfl
         ·refine⟨?_,fun b hf=>hf.2.elim (fun hf=> .inl ⟨i,.inl rfl,hkk,hf⟩) fun hf=> .inl ⟨j',.inr rfl,hkj,hf⟩⟩
          rw[hget,au rfl];refine⟨⟨rfl,.inl b3⟩,c1,c3,J.sl j',J.ob q,?_,c6,fun b hb=>?_,fun x hx=>?_⟩
          ·rw[b4];have:den J (.sa j')=J.sl j':=rfl;simp[bI,aR,this,Env.sl,Value.cells]
          ·cases ha:J.sa j' with
           |none=>simp[Env.sl,ha,Value.ownBlock]at hb
           |some a=>
            simp only[Env.sl,ha,Value.ownBlock,aa]at hb;subst hb;have:=(c4 a ha).2;exact⟨⟨rfl,.inr this⟩,fun e=>h.disj j' i a.block hkj hkk hne this (e▸b3)⟩
          ·obtain⟨d1,d2⟩:=c7 x hx;exact⟨⟨rfl,.inr d1⟩,fun e=>h.disj j' i _ hkj hkk hne d1 (e▸b3),d2⟩
         ·refine⟨?_,fun b hf=>absurd hf.1 hne⟩
          rw[hget,ar hne,au rfl];trivial)
        (fun i j b _ _ hne' hf hf'=>hne' (hf.1.trans hf'.1.symm))
        rfl rfl rfl (Nat.le_refl _) (fun _ _ _=>rfl)
       exact⟨fps',g,hmono⟩
      ·simp at hst
     ·simp at hst
    ·simp at hst
   ·simp at hst
  ·simp at hst
 ·simp at hs
def nb:Nat->List aI->List aI
 |0,res=>res
 |k+1,res=>match aH res k with
  | .store t e L=>nb k (fa res k t e L)
  | .ro r=>match r with
    | .store t e L=>nb k (dt res k t e L)
    |_=>nb k res
  |_=>nb k res
theorem jh{w0 w:World}{F0:Nat->Prop}:∀(k:Nat) (res:List aI) (J:Env) (fps:Nat->Nat->Prop),aQ J fps res (known res) w0 F0 w->∃ρ' fps',aQ ρ' fps' (nb k res) (known (nb k res)) w0 F0 w/\Good J res ρ' (nb k res)
 |0,res,J,fps,h=>⟨J,fps,h,Good.refl _ _⟩
 |k+1,res,J,fps,h=>by
  simp only[nb];split
  ·rename_i hr;obtain⟨ρ1,fps1,g1,g2⟩:=uo hr h;obtain⟨ρ2,fps2,g3,g4⟩:=jh k _ ρ1 fps1 g1;exact⟨ρ2,fps2,g3,g2.trans g4⟩
  ·rename_i hr;split
   ·obtain⟨ρ1,fps1,g1,g2⟩:=sd hr h;obtain⟨ρ2,fps2,g3,g4⟩:=jh k _ ρ1 fps1 g1;exact⟨ρ2,fps2,g3,g2.trans g4⟩
   ·exact jh k res J fps h
  ·exact jh k res J fps h
def iI(old:List aI):Nat->List aI->List aI
 |0,res=>res
 |k+1,res=>match aH old k with
  | .store _ _ _=>match pt res k with
    |some r=>iI old k r
    |none=>iI old k res
  |_=>iI old k res
theorem js{J:Env}{w0 w:World}{F0:Nat->Prop}{old:List aI}:∀(k:Nat) (res:List aI) (fps:Nat->Nat->Prop),aQ J fps res (known res) w0 F0 w->∃fps',aQ J fps' (iI old k res) (known (iI old k res)) w0 F0 w/\∀i,known res i->known (iI old k res) i
 |0,res,fps,h=>⟨fps,h,fun i hi=>hi⟩
 |k+1,res,fps,h=>by
  simp only[iI];split
  ·split
   ·rename_i hs;obtain⟨fps1,g1,g2⟩:=ug hs h;obtain⟨fps2,g3,g4⟩:=js k _ fps1 g1;exact⟨fps2,g3,fun i hi=>g4 i (g2 i hi)⟩
   ·exact js k res fps h
  ·exact js k res fps h
end Go.Sx
namespace Go.Sx
open Go.RowKit (Below)
structure cj where
 γ:Type
 head:St->γ->St
 inv:γ->Prop
 μ:γ->Nat
 pre:List Gh:= []
 ext:St->Option (List Nat):=fun _=>none
 unr:Option Nat:=none
 m2:Bool:=false
 head2:St->γ->St:=head
 inv2:γ->Prop:=fun _=>False
 ext2:St->Option (List Nat):=ext
 pin:Option (St->γ->Prop):=none
 prs:St->List Gh:=fun _=>pre
def cj.Kr(A:cj)(U:St):cj:=match A.pin with
 |none=>A
 |some p=> {A with inv:=p U,pre:=A.prs U}
def Ig(ex:St->(Out->St->Prop)->Prop)(K:Out->St->Prop):Nat->St->Prop
 |0,_=>False
 |m+1,U=>ex U fun out σ'=>match out with
  | .norm=>Ig ex K m σ'
  |o=>K o σ'
def Bj(l:List Gh)(U τ:St):Prop:=
 match kG l U with
 |some σ'=>Sub σ' τ
 |none=>False
def sH(n:Nat)(e:St->Option (List Nat))(U τ:St):Prop:=
 match we n (U.defs.length-τ.defs.length) U with
 |none=>False
 |some s=>match e s with
  |none=>Sub s τ
  |some l=>match Hb n l s with
   |some σ'=>Sub σ' τ
   |none=>False
def JQ(l:List Gh)(n:Nat)(e:St->Option (List Nat))(U τ:St):Prop:=
 match kG l U with
 |some σ'=>sH n e σ' τ
 |none=>False
structure Bv extends Ctx where
 H0:Handler
 inl:Nat->Bool
 ann:Nat->Nat->Option cj
 opn:Nat->Bool:=fun _=>true
 nr:Bool:=false
def GW(inl:Nat->Bool)(g:Nat):Bool:= !inl (1000000+g)
def ke(b:Bool)(res:List aI):List aI:=if b then nb res.length res else res
def ej:Code->Option Nat
 | .region i _ _=>some i
 | .seq a b=>match ej a with
   |some i=>some i
   |none=>ej b
 | .cond _ a b=>match ej a with
   |some i=>some i
   |none=>ej b
 | .block _ b=>ej b
 | .loop b=>ej b
 | .scope b=>ej b
 |_=>none
def qv(C:Ctx)(H:Handler)(Y:bJ)(ops:List Oper):List Oper->St->(Out->St->Prop)->Prop
 | [],U,K=>gr U.slots fun sl=>K .norm {U with slots:=sl}
 |o::l,U,K=>ri C H Y ops o U (fun σ'=>qv C H Y ops l σ' K) (fun v σ'=>K (.pan v) σ')
def rB:List aI->List aI->Bool
 | [],_=>true
 |x::l,m=>(match x with| .yet=>true|_=>match m with| []=>false|y::_=>match y with| .yet=>false|_=>true)&&rB l m.tail
def eh(C:Ctx)(U:St):List ResultVar->Option (List (Option Prop×V))
 | []=>some []
 | .tmp t::l=>match bh U.slots t,eh C U l with
   | .v x,some xs=>some ((none,x)::xs)
   |_,_=>none
 | .cell a t::l=>match bh U.slots a,eh C U l with
   | .v p,some xs=>match p with
     | .lp _ _=>match rA C U.res t p with
       |some r=>some (r::xs)
       |none=>none
     |_=>none
   |_,_=>none
def oneOf:List (Option Prop×V)->V
 | [x]=>x.2
 |l=> .tp (l.map (·.2))
def lu(n:Nat)(args:List V):List S:=args.map .v++List.replicate (n-args.length) .und
def Cd(K:List aI->Prop)(out:Out)(U:St):Prop:=
 match U.defs with
 | []=>match out with
   | .norm=>K U.res
   | .ret=>K U.res
   |_=>False
 |_=>False
def iu(C:Ctx)(exD:Nat->Code->St->(Out->St->Prop)->Prop):List (Nat×List V×List V)->Option V->List aI->(Option V->List aI->Prop)->Prop
 | [],m,res,K=>K m res
 |d::l,m,res,K=>match tt d.2.1 with
  |some k=>match aH res k with
   | .dfr=>iu C exD l m (bd res k .gone) K
   |_=>False
  |none=>if eo C.P d.1 then match C.D d.1 with
   |some (ts,te)=>match d.2.1++d.2.2 with
      | [p]=>match m with
        |none=>iu C exD l none res K
        |some v=>match v with
         | .ic t y=>if t==ts then match y with
           | .ag yl=>match yl with
             | [x]=>match toInt x with
               |some (k,n)=>if te<1000000||k== .i64 then match jW C.P res (JY te) p (yN te k n)with
                |some res'=>iu C exD l none res' K
                |none=>False
                else False
               |none=>False
             |_=>False
           |_=>False
           else False
         |_=>False
      |_=>False
   |none=>match C.P.funcs[d.1]? with
    |none=>False
    |some fn=>match fn.body with
     |none=>False
     |some c=>match fn.results.toList with
      | []=>exD d.1 c {slots:=lu fn.ntmps (d.2.1++d.2.2),res:=res,defs:= []} (Cd fun res'=>iu C exD l m res' K)
      |_=>False
   else False
def D4(C:Ctx)(fn:Func)(K KP:V->List aI->Prop)(U:St)(m:Option V)(res:List aI):Prop:=
 match m with
 |none=>match eh C {U with res:=res} fn.results.toList with
  |some l=>K (oneOf l) res
  |none=>False
 |some v=>KP v res
def finish(C:Ctx)(exD:Nat->Code->St->(Out->St->Prop)->Prop)(fn:Func)(K KP:V->List aI->Prop):Out->St->Prop
 | .norm,U=>iu C exD U.defs none U.res (D4 C fn K KP U)
 | .ret,U=>iu C exD U.defs none U.res (D4 C fn K KP U)
 | .pan v,U=>iu C exD U.defs (some v) U.res (D4 C fn K KP U)
 |_,_=>False
def enter(C:Ctx)(exD:Nat->Code->St->(Out->St->Prop)->Prop)(ex:Code->St->(Out->St->Prop)->Prop)(f:Nat)(args:List V)(res:List aI)(K KP:V->List aI->Prop):Prop:=
 match C.P.funcs[f]? with
 |none=>False
 |some fn=>match fn.body with
  |none=>False
  |some c=>ex c {slots:=lu fn.ntmps args,res:=res,defs:= []} (finish C exD fn K KP)
structure u5 where
 k:Nat
 r0:Loop
 slots:List S
 ps:List Nat
 assign:Code
 body:Code
 fid:Nat
 nr:Bool
structure YC where
 rd:Bool
 y:Option u5
def su:List Nat->List V->List S->Option (List S)
 | [],[],sl=>some sl
 |p::ps,x::xs,sl=>su ps xs (sset sl p (.v x))
 |_,_,_=>none
def GD(o:Oper):Bool:=
 match o.op with
 | .defer _=>true
 |_=>false
def sk(ex:Nat->Code->St->(Out->St->Prop)->Prop)(y:u5)(k:Nat)(args:List V)(res:List aI)(K KP:V->List aI->Prop):Prop:=
 if k==y.k then match aH res k with
  | .lop r s j=>if vj s .ready&&j.isNone then r=y.r0/\match su y.ps args y.slots with
    |some sl=>ex y.fid y.assign {slots:=sl,res:=res,defs:= []} fun out σ1=>match out with
     | .norm=>match aH σ1.res k with
       | .lop r1 s1 j1=>if vj s1 .ready&&j1.isNone then r1=y.r0/\ex y.fid y.body {σ1 with res:=bd σ1.res k (.lop y.r0 .busy none)} fun out σ2=>match aH σ2.res k with
         | .lop r2 s2 j2=>if vj s2 .busy&&j2.isNone then r2=y.r0/\match out with
           | .norm=>K (.cb true) (bd σ2.res k (.lop y.r0 .ready none))
           | .ret=>K (.cb false) (bd σ2.res k (.lop y.r0 .done (some .ret)))
           | .exit i=>K (.cb false) (bd σ2.res k (.lop y.r0 .done (some (.exit i))))
           | .goto l=>K (.cb false) (bd σ2.res k (.lop y.r0 .done (some (.goto l))))
           | .pan v=>if y.nr then match σ2.defs with
             | []=>KP v σ2.res
             |_=>False
             else False
           else False
         |_=>False
         else False
       |_=>False
     |_=>False
    |none=>False
    else False
  |_=>False
 else False
def C0(U:St)(kd kl:Nat)(K:Out->St->Prop)(res:List aI):Prop:=
 match aH res kl with
 | .lop _ s j=>if vj s .busy then False else match j with
   |none=>K .norm {slots:=clean U.slots,res:=iI U.res U.res.length (bd res kl .gone),defs:=(0,[.yl kd],[])::U.defs}
   |some c=>match c with
    | .ret=>K .ret {slots:=clean U.slots,res:=iI U.res U.res.length (bd res kl .gone),defs:=(0,[.yl kd],[])::U.defs}
    | .exit i=>K (.exit i) {slots:=clean U.slots,res:=iI U.res U.res.length (bd res kl .gone),defs:=(0,[.yl kd],[])::U.defs}
    | .goto l=>K (.goto l) {slots:=clean U.slots,res:=iI U.res U.res.length (bd res kl .gone),defs:=(0,[.yl kd],[])::U.defs}
    |_=>False
 |_=>False
def Ks(g:Nat)(assign body:Code):Nat:=
 match ej (.seq assign body)with
 |some r=>1000*(r+1)+g
 |none=>g
def Kh(C:Bv)(fid:Nat)(b:Code):Option cj:=
 match ej b with
 |some r=>C.ann fid (2000000+r)
 |none=>none
def uZ(C:Bv)(fid:Nat)(b:Code)(U:St):Option St:=
 match ej b with
 |some r=>match C.ann fid (3000000+r)with
  |some A=>kG A.pre U
  |none=>some U
 |none=>some U
def lL(C:Bv)(fid:Nat)(b:Code)(U:St):Option St:=
 match ej b with
 |some r=>match C.ann fid (4000000+r)with
  |some A=>kG A.pre U
  |none=>some U
 |none=>some U
def vN(C:Bv)(fid:Nat)(b:Code)(U:St)(ex:St->(Out->St->Prop)->Prop)(K:Out->St->Prop):Prop:=
 match lL C fid b U with
 |some τ=>ex τ K
 |none=>False
theorem mQ{C:Bv}{fid:Nat}{b:Code}{U:St}{ex:St->(Out->St->Prop)->Prop}{K:Out->St->Prop}(h:vN C fid b U ex K):∃τ,lL C fid b U=some τ/\ex τ K:=by
 unfold vN at h;split at h
 ·exact⟨_,by assumption,h⟩
 ·exact h.elim
def exec(C:Bv):Nat->YC->Nat->Code->St->(Out->St->Prop)->Prop
 |0,_,_,_,_,_=>False
 |n+1,yc,fid,c,U,K=>match c with
  | .skip=>K .norm U
  | .label _=>K .norm U
  | .region _ ops draw=>if yc.rd&&ops.toList.any GD then False
    else if draw then GX C.toCtx (fun f args res K KP=>if C.inl f then enter C.toCtx (exec C n ⟨false,none⟩) (exec C n ⟨false,none⟩ f) f args res K KP else C.H0 f args res K KP)
     (fun k args res K KP=>match yc.y with|some y=>sk (exec C n ⟨true,none⟩) y k args res K KP|none=>False) ops.toList U K
    else qv C.toCtx (fun f args res K KP=>if C.inl f then enter C.toCtx (exec C n ⟨false,none⟩) (exec C n ⟨false,none⟩ f) f args res K KP else C.H0 f args res K KP)
     (fun k args res K KP=>match yc.y with|some y=>sk (exec C n ⟨true,none⟩) y k args res K KP|none=>False) ops.toList ops.toList U K
  | .seq a b=>match Kh C fid b with
    |none=>exec C n yc fid a U fun out σ'=>match out with
     | .norm=>match uZ C fid b σ' with
       |some τ=>exec C n yc fid b τ K
       |none=>False
     |o=>K o σ'
    |some A=>(exec C n yc fid a U fun out σ'=>match out with
     | .norm=>∃g,A.inv g/\JQ A.pre U.res.length A.ext σ' (A.head U g)
     |o=>K o σ')/\∀g,A.inv g->if rB U.res (A.head U g).res then exec C n yc fid b (A.head U g) K else False
  | .cond x a b=>match bS U.slots [] x with
    |some (.cb true)=>exec C n yc fid a U K
    |some (.cb false)=>exec C n yc fid b U K
    |some (.bo t)=>(t=true->exec C n yc fid a U K)/\(t=false->exec C n yc fid b U K)
    |_=>False
  | .block id b=>exec C n yc fid b U fun out σ'=>match out with
    | .exit i=>if i==id then K .norm σ' else K (.exit i) σ'
    |o=>K o σ'
  | .loop b=>match ej b with
    |none=>False
    |some r=>match Option.map (fun A=>cj.Kr A U) (C.ann fid r)with
     |none=>False
     |some A=>match A.unr with
      |some m=>Ig (exec C n yc fid b) K m U
      |none=>if A.m2 then(∃g,A.inv g/\Bj A.pre U (A.head U g))/\(∀g,A.inv g->if rB U.res (A.head U g).res then
       vN C fid b (A.head U g) (exec C n yc fid b) fun out σ'=>match out with
        | .norm=>(∃g',A.inv g'/\AX (A.μ g') (A.μ g)/\sH U.res.length A.ext σ' (A.head U g'))\/(∃g',A.inv2 g'/\AX (A.μ g') (A.μ g)/\sH U.res.length A.ext2 σ' (A.head2 U g'))
        |o=>K o σ'
       else False)/\(∀g,A.inv2 g->if rB U.res (A.head2 U g).res then
       vN C fid b (A.head2 U g) (exec C n yc fid b) fun out σ'=>match out with
        | .norm=>∃g',A.inv2 g'/\AX (A.μ g') (A.μ g)/\sH U.res.length A.ext2 σ' (A.head2 U g')
        |o=>K o σ'
       else False)
       else(∃g,A.inv g/\Bj A.pre U (A.head U g))/\∀g,A.inv g->if rB U.res (A.head U g).res then
        vN C fid b (A.head U g) (exec C n yc fid b) fun out σ'=>match out with
         | .norm=>∃g',A.inv g'/\AX (A.μ g') (A.μ g)/\sH U.res.length A.ext σ' (A.head U g')
         |o=>K o σ'
        else False
  | .rangeFunc f ps assign body=>if yc.rd then False else match bS U.slots [] f with
    |some (.fn g caps)=>(eo C.P g&&Nat.blt g 2000)=true/\∀r0:Loop,
     enter C.toCtx (exec C n ⟨false,none⟩) (exec C n ⟨false,some ⟨(ke (C.opn g) U.res).length+1,r0,clean U.slots,ps.toList,assign,body,fid,C.nr⟩⟩ (Ks g assign body)) g (.yl ((ke (C.opn g) U.res).length+1)::caps) (ke (C.opn g) U.res++ [.dfr,.lop r0 .ready none])
      (fun _ res=>C0 U (ke (C.opn g) U.res).length ((ke (C.opn g) U.res).length+1) K res)
      (fun v res=>K (.pan v) {slots:=clean U.slots,res:=iI U.res U.res.length (bd res ((ke (C.opn g) U.res).length+1) .gone),defs:=(0,[.yl (ke (C.opn g) U.res).length],[])::U.defs})
    |_=>False
  | .scope b=>exec C n yc fid b U fun out σ1=>match out with
    | .goto l=>match findLabel b l with
      |some rest=>exec C n yc fid rest σ1 fun out2 σ2=>match out2 with
       | .goto l2=>match findLabel b l2 with
         |some _=>False
         |none=>K (.goto l2) σ2
       |o=>K o σ2
      |none=>K (.goto l) σ1
    |o=>K o σ1
  | .exit i=>K (.exit i) U
  | .goto l=>K (.goto l) U
  | .ret=>K .ret U
  |_=>False
section
variable {J ρ0:Env} {res0:List aI} {fps:Nat->Nat->Prop} {w0 w:World} {F0:Nat->Prop} {a:Act}
theorem oA[Fen]{C:Ctx}{H:Handler}{Y:bJ}{ops:Array Oper}{K:Out->St->Prop}{ro:Option Nat}(hC:C.Sound)(hH:H.OK C.P)(hY:vn C.P Y ρ0 res0)(hnd:ro≠none->∀o∈ops.toList,bZ o):∀(l:List Oper),(∀o∈l,o∈ops.toList)->∀(U:St) (J:Env) (fps:Nat->Nat->Prop) (a:Act) (w:World),
  qv C H Y ops.toList l U K->fq J fps U w0 F0 a w->Good ρ0 res0 J U.res->wpListIn (FF C.P ro) 0 C.P ops (dr ρ0 res0 w0 F0 K) l a w
 | [],_,U,J,fps,a,w,h,hr,hg=>⟨.norm,{U with slots:=clean U.slots},J,fps,trivial,by simpa only[qv,fl]using h,⟨hr.1.clean,hr.2.1,hr.2.2.1,hr.2.2.2⟩,hg⟩
 |o::l,hl,U,J,fps,a,w,h,hr,hg=>by
  have key:=fP (ro:=ro) (next:=wpListIn (FF C.P ro) 0 C.P ops (dr ρ0 res0 w0 F0 K) l) (Q:=dr ρ0 res0 w0 F0 K) hC hH (hY.later hg) (fun hr=>hnd hr o (hl o (by simp))) h hr
   (fun σ' ρ' fps' a' w' hK hr' hg'=>oA hC hH hY hnd l (fun o ho=>hl o (by simp[ho])) σ' ρ' fps' a' w' hK hr' (hg.trans hg'))
   (fun v σ' ρ' fps' w' hK hv hr' hg'=>⟨.pan v,σ',ρ',fps',⟨rfl,hv⟩,hK,hr',hg.trans hg'⟩)
  unfold wpListIn;split
  ·rename_i hw;rw[au hw]at key;exact key.2
  ·rename_i hw;rw[ar hw]at key;exact key
theorem Bj.rep{l:List Gh}{U τ:St}(h:Bj l U τ)(hr:fq J fps U w0 F0 a w):∃ρ' fps',fq ρ' fps' τ w0 F0 a w/\Env.agree (known U.res) J ρ':=by
 unfold Bj at h;split at h
 ·rename_i σ' hg;obtain⟨ρ',fps',g1,g2⟩:=gT hg hr;exact⟨ρ',fps',(h.rep g1).1,g2.1⟩
 ·exact h.elim
theorem sH.rep{n:Nat}{e:St->Option (List Nat)}{U τ:St}(h:sH n e U τ)(hr:fq J fps U w0 F0 a w):∃ρ' fps',fq ρ' fps' τ w0 F0 a w/\Env.agree (fun i=>i<n) J ρ':=by
 unfold sH at h;split at h
 ·exact h.elim
 ·rename_i s hs;obtain⟨ρ1,fps1,f1,f2⟩:=tB hs hr;split at h
  ·exact⟨ρ1,fps1,(h.rep f1).1,f2⟩
  ·split at h
   ·rename_i l σ' hg;obtain⟨ρ',fps',g1,g2⟩:=Cb hg f1;exact⟨ρ',fps',(h.rep g1).1,f2.trans g2 fun i hi=>hi⟩
   ·exact h.elim
theorem ir:∀(l m:List aI),rB l m=true->∀i,known l i->known m i
 | [],m,_,i,hi=>by simp[known,aH]at hi
 |x::l,m,h,i,hi=>by
  simp only[rB,ah]at h;cases i with
  |zero=>
   obtain⟨h1,_⟩:=h;cases m with
   |nil=>cases x<;>simp_all[known,aH]
   |cons y m=>cases x<;>cases y<;>simp_all[known,aH]
  |succ i=>
   have:=ir l m.tail h.2 i hi;cases m with
   |nil=>simp[known,aH]at this
   |cons y m=>exact this
theorem jc{C:Ctx}{U:St}(hr:fq J fps U w0 F0 a w):∀(rs:List ResultVar) (l:List (Option Prop×V)),eh C U rs=some l->
  (rs.mapM fun(r:ResultVar)=>(match r with| .tmp t=>pure (a.tmps.getD t undef)| .cell b t=>do loadVar t (<-asAddr (a.tmps.getD b undef)):Sem Value)).run C.P w= .ok (l.map fun x=>den J x.2) w/\cm (known U.res) (l.map (·.2))
 | [],l,h=>by simp only[eh,aa]at h;subst h;exact⟨by simp,trivial⟩
 | .tmp t::rs,l,h=>by
   simp only[eh]at h;split at h
   ·rename_i x xs hx hxs;simp only[aa]at h;subst h;obtain⟨e1,e2⟩:=jc hr rs xs hxs;have:=hr.1.2 t;rw[hx]at this;refine⟨?_,this.2,e2⟩;rw[List.mapM_cons];simp only[Sem.run_bind,Sem.run_pure,Result.andThen_ok,e1,this.1,List.map_cons]
   ·simp at h
 | .cell b t::rs,l,h=>by
   simp only[eh]at h;split at h
   ·rename_i p xs hp hxs;split at h
    ·rename_i id off;split at h
     ·rename_i r hl;simp only[aa]at h;subst h;obtain⟨e1,e2⟩:=jc hr rs xs hxs;have hb:=hr.1.2 b;rw[hp]at hb
      have hq:bq r.1:=by
       unfold rA at hl;split at hl
       ·simp only at hl;split at hl
        ·rename_i hu _ c _;generalize cS 8 _ _ _ _=z at hl
         cases z with
         |none=>simp at hl
         |some z=>simp only[Option.map_some,aa]at hl;subst hl;trivial
        ·generalize cS 8 _ _ _ _=z at hl
         cases z with
         |none=>simp at hl
         |some z=>simp only[Option.map_some,aa]at hl;subst hl;trivial
        ·simp at hl
       ·simp at hl
      obtain⟨f1,f2,_⟩:=mJ hr.2.1 (q:=r.1) (r:=r.2) hl hq hb.2;refine⟨?_,f2,e2⟩
      have hh:(do loadVar t (<-asAddr (a.tmps.getD b undef)):Sem Value).run C.P w= .ok (den J r.2) w:=by
       rw[hb.1];simpa[den,asAddr,Instr.loadAt,Instr.sureAddr]using f1
      rw[List.mapM_cons,Sem.run_bind];refine Eq.trans (congrArg (fun r=>Result.andThen r _) hh) ?_
      simp only[Result.andThen_ok,Sem.run_bind,e1,Sem.run_pure,List.map_cons]
     ·simp at h
    ·simp at h
   ·simp at h
theorem pG{C:Ctx}{U:St}{fn:Func}{l:List (Option Prop×V)}(hr:fq J fps U w0 F0 a w)(h:eh C U fn.results.toList=some l):
  (results fn a.tmps).run C.P w= .ok (den J (oneOf l)) w/\ok (known U.res) (oneOf l):=by
 obtain⟨e1,e2⟩:=jc hr _ _ h
 have hm:(fn.results.mapM fun(r:ResultVar)=>(match r with| .tmp t=>pure (a.tmps.getD t undef)| .cell b t=>do loadVar t (<-asAddr (a.tmps.getD b undef)):Sem Value)).run C.P w= .ok (l.map fun x=>den J x.2).toArray w:=by
  rw[Array.mapM_eq_mapM_toList];simp only[Sem.run_map,e1,Result.andThen_ok]
 unfold results;rw[Sem.run_bind];refine⟨?_,?_⟩
 ·refine Eq.trans (congrArg (fun r=>Result.andThen r _) hm) ?_
  simp only[Result.andThen_ok,Sem.run_pure];match l with
  | []=>simp[oneOf,den,aV]
  | [x]=>simp[oneOf]
  |x::y::l=>simp[oneOf,den,dY]
 ·match l,e2 with
  | [],e2=>exact e2
  | [x],e2=>exact e2.1
  |x::y::l,e2=>exact e2
theorem aQ.xW{res:List aI}{k:Nat}{r:aI}(h:aQ J fps res (known res) w0 F0 w)(hk:known res k)(o:Go.Obj)(hf:fps k (J.num k))(hlt:J.num k<w.heap.size)(hr:r≠ .yet)
  (hh:r.holds (known (bd res k r)) J k (fps k) w0 F0 (w.putObj (J.num k) o)):
  ∃fps',aQ J fps' (bd res k r) (known (bd res k r)) w0 F0 (w.putObj (J.num k) o)/\∀i,known res i->known (bd res k r) i:=by
 have hl:=aK hk;have hget:∀i,aH (bd res k r) i=if i=k then r else aH res i:=fun i=>aY _ _ _ _ hl
 have hmono:∀i,known res i->known (bd res k r) i:=fun i hi=>by
  grind[known]
 obtain⟨fps',g⟩:=h.turn (w':=w.putObj (J.num k) o) (res':=bd res k r) (K':=known (bd res k r)) (fun i=>i=k) (fun i=>i=k) (fun i b=>i=k/\fps k b) (fun i hi=>hi) hmono (Env.agree.refl _ _)
  (fun i hi hb=>by
   have e:=hget i;rw[ar hb]at e;exact⟨by unfold known at hi⊢;rw[e]at hi;exact hi,hb,e⟩)
  (fun i hi hb=>by
   subst hb;refine⟨?_,fun b hb=> .inl ⟨i,rfl,hk,hb.2⟩⟩
   rw[hget,au rfl];have:(fun b=>i=i/\fps i b)=fps i:=by funext b;simp
   rw[this];exact hh)
  (fun i j b hi hj hne _ _=>hne (hi.trans hj.symm)) rfl rfl rfl (by simp) (fun b hb hno=>World.putObj_heap_other fun e=>hno k rfl hk (by rw[e];exact hf))
 exact⟨fps',g,hmono⟩
def fT(J:Env):Option V->FrameMode
 |none=> .returning
 |some v=> .panicking [{v:=den J v,recovered:=false}]
theorem wL{n:Nat}{args:List V}{res:List aI}(hH:aQ J fps res (known res) w0 F0 w)(hargs:cm (known res) args):
  fq J fps {slots:=lu n args,res:=res,defs:= []} w0 F0 {tmps:=(aV J args).toArray++Array.replicate (n-(aV J args).toArray.size) undef,defers:= []} w:=by
 refine⟨⟨by simp[lu,dY],fun t=>?_⟩,hH,rfl,by simp⟩
 simp only[lu];rw[fV,aq];by_cases ht:t<args.length
 ·rw[List.getElem?_append_left (by simpa using ht)]
  simp only[List.getElem?_map,List.getElem?_eq_getElem ht,Option.map_some,Option.getD_some,du];refine⟨?_,(dZ _).1 hargs _ (List.getElem_mem ht)⟩;rw[Array.getD_eq_getD_getElem?,Array.getElem?_append_left (by simpa[dY]using ht)]
  simp[dY,List.getElem?_eq_getElem ht]
 ·rw[List.getElem?_append_right (by simpa using ht)]
  simp only[List.length_map,List.getElem?_replicate];split<;>trivial
theorem pF{P:Program}{g:Nat}(h:eo P g=true):∃fn,P.funcs[g]? =some fn/\(fn.name== "runtime.NumGoroutine")=false/\fn.body.isNone=false:=by
 unfold eo at h;split at h
 ·simp_all
 ·simp at h
theorem wV(J:Env)(m:Option V):settle (fT J m)=fT J m:=by cases m<;>rfl
theorem mU{res:List aI}{k:Nat}(hk:known res k)(i:Nat)(hi:known res i):known (bd res k .gone) i:=by
 grind[known,aY,aK]
theorem aQ.gone{res:List aI}{k:Nat}(h:aQ J fps res (known res) w0 F0 w)(hk:known res k):aQ J fps (bd res k .gone) (known (bd res k .gone)) w0 F0 w:=by
 have hkn:∀i,known (bd res k .gone) i->known res i:=fun i hi=>by
  grind[known,aY,aK]
 refine⟨fun i hi=>hi,h.old,h.os,h.tape,h.output,fun i hi=>?_,fun i b hi=>h.lt i b (hkn i hi),fun i j b hi hj=>h.disj i j b (hkn i hi) (hkn j hj),fun i b hi=>h.inF i b (hkn i hi),h.same⟩
 rw[aY _ _ _ _ (aK hk)];split
 ·trivial
 ·exact aI.iE _ (h.holds i (hkn i hi)) fun j hj=>mU hk j hj
theorem yJ{f:Nat->Nat}{n:Nat}(h:∀j k,j<n->k<n->f j=f k->j=k):((List.range n).map f).Nodup:=by
 unfold List.Nodup;rw[List.pairwise_map];exact List.Pairwise.imp_of_mem (fun ha hb hne e=>hne (h _ _ (List.mem_range.1 ha) (List.mem_range.1 hb) e)) List.nodup_range
theorem pR[Fen]{P:Program}{res:List aI}{k:Nat}{fn:Func}{tmps:Array Value}{R:Ending->World->Prop}{ds:List Deferred}{u:FrameMode}(hu:u≠ .run)(hk:known res k)(hr:aH res k= .gone):
  ∀(bs:List Nat) (w:World),bs.Nodup->(∀b∈bs,fps k b/\w.heap[b]? =some (.deferred (some [])))->aQ J fps res (known res) w0 F0 w->(∀w',aQ J fps res (known res) w0 F0 w'->LeavesInM (FF P none) 0 P fn tmps R ds u w')->
   LeavesInM (FF P none) 0 P fn tmps R (bs.map (fun b=> {target:= .collected b,args:= #[]})++ds) u w
 | [],w,_,_,hH,hn=>hn w hH
 |b::bs,w,hnd,hb,hH,hn=>by
  obtain⟨b1,b2⟩:=hb b (by simp)
  obtain⟨n1,n2⟩:=List.nodup_cons.1 hnd;have hlt:b<w.heap.size:=(Array.getElem?_eq_some_iff.1 b2).1;refine⟨hu,.inl ⟨b,_,rfl,run_takeDeferred b2,?_⟩⟩;refine pR hu hk hr bs _ n2 (fun c hc=>?_) ?_ hn
  ·obtain⟨c1,c2⟩:=hb c (by simp[hc])
   exact⟨c1,by rw[World.putObj_heap_other fun e=>n1 (by rw[<-e];exact hc)];exact c2⟩
  ·refine⟨hH.sub,by simpa using hH.old,hH.os,hH.tape,hH.output,fun i hi=>?_,fun i c hi hc=>by simpa using hH.lt i c hi hc,hH.disj,hH.inF,fun c h1 h2=>?_⟩
   ·by_cases e:i=k
    ·subst e;rw[hr];trivial
    ·exact aI.cy _ (hH.holds i hi) fun c hc=>World.putObj_heap_other fun e'=>hH.disj i k c hi hk e hc (by rw[e'];exact b1)
   ·rw[World.putObj_heap_other fun e=>h2 (hH.inF k c hk (by rw[e];exact b1) h1)]
    exact hH.same c h1 h2
theorem Ic{K:Nat->Prop}{n:Int}(h:bU .i64 n):ok K (KF n):=by
 have hv:void.wf:=by simp[Key.wf,void,bU]
 simp[KF,ok,cm,oE,h,hv]
theorem Gn{K:Nat->Prop}{te:Nat}{k:IntKind}{n:Int}(hc:te<1000000\/k= .i64)(h:bU k n):ok K (yN te k n):=by
 unfold yN;split
 ·exact h
 ·simp_all[Ic]
theorem DE(J:Env)(te:Nat)(k:IntKind)(n:Int):den J (yN te k n)=den Env.zero (yN te k n):=by
 unfold yN;split
 ·rfl
 ·simp[KF,den,aR]
theorem iw[Fen]{C:Ctx}(hC:C.Sound){exD:Nat->Code->St->(Out->St->Prop)->Prop}{fn:Func}{tmps:Array Value}{R:Ending->World->Prop}{Kf:Option V->List aI->Prop}
  (hex:∀f c U K J fps a w,exD f c U K->fq J fps U w0 F0 a w->c.wpIn (FF C.P none) 0 C.P (dr J U.res w0 F0 K) a w):∀(l:List (Nat×List V×List V)) (m:Option V) (res:List aI) (J:Env) (fps:Nat->Nat->Prop) (w:World),iu C exD l m res Kf->aQ J fps res (known res) w0 F0 w->
  (∀d∈l,cm (known res) d.2.1/\cm (known res) d.2.2)->(∀v,m=some v->ok (known res) v)->
  (∀m' res' ρ' fps' w',Kf m' res'->aQ ρ' fps' res' (known res') w0 F0 w'->Good J res ρ' res'->(∀v,m'=some v->ok (known res') v)->LeavesInM (FF C.P none) 0 C.P fn tmps R [] (fT ρ' m') w')->LeavesInM (FF C.P none) 0 C.P fn tmps R (l.flatMap (fD J)) (fT J m) w
 | [],m,res,J,fps,w,h,hH,hd,hm,hk=>hk m res J fps w h hH (Good.refl _ _) hm
 |d::l,m,res,J,fps,w,h,hH,hd,hm,hk=>by
  have hu:fT J m≠ .run:=by cases m<;>simp[fT]
  have hdl:∀e∈l,cm (known res) e.2.1/\cm (known res) e.2.2:=fun e he=>hd e (by simp[he])
  simp only[iu]at h;split at h
  ·rename_i k hmk;split at h
   ·rename_i hr;have hkk:known res k:=by unfold known;rw[hr];simp
    have hh:=hH.holds k hkk;rw[hr]at hh;obtain⟨h1,h2⟩:=hh;have hg:=hH.gone hkk;have g2:∀i,known res i->known (bd res k .gone) i:=mU hkk;have hkg:aH (bd res k .gone) k= .gone:=by rw[aY _ _ _ _ (aK hkk),au rfl]
    have hfm:(d::l).flatMap (fD J)=((List.range (J.sn k)).map (J.ob k)).map (fun b=> {target:= .collected b,args:= #[]})++l.flatMap (fD J):=by
     simp_all[fD]
    rw[hfm];refine pR hu (g2 k hkk) hkg _ w ?_ (fun b hb=>?_) hg fun w' hH'=>?_
    ·exact yJ h2
    ·obtain⟨j,hj,rfl⟩:=List.mem_map.1 hb;exact h1 j (List.mem_range.1 hj)
    ·exact iw hC hex l m _ J fps _ h hH' (fun d hd'=>⟨br g2 _ (hdl d hd').1,br g2 _ (hdl d hd').2⟩) (fun v hv=>bE g2 _ (hm v hv)) fun m' res' ρ' fps' w' hK' hH' hg' hm'=>hk m' res' ρ' fps' w' hK' hH' ⟨hg'.1.mono g2,fun i hi=>hg'.2 i (g2 i hi)⟩ hm'
   ·exact h.elim
  ·rename_i hmk;split at h
   case isFalse=>exact h.elim
   rename_i hcall;obtain⟨fn',f1,f2,f3⟩:=pF hcall;have hFd:(FF C.P none).fn d.1:=fun _=>by rw[f1];rfl
   obtain⟨D,hD0⟩:∃D:Deferred,D= {target:= .fn (.func d.1) (aV J d.2.2).toArray,args:=(aV J d.2.1).toArray}:=⟨_,rfl⟩
   have hfm:(d::l).flatMap (fD J)=D::l.flatMap (fD J):=by
    simp_all[fD]
   rw[hfm];have htar:D.target= .fn (.func d.1) (aV J d.2.2).toArray:=by rw[hD0]
   have hda:D.args=(aV J d.2.1).toArray:=by rw[hD0]
   have hcat:(aV J d.2.1).toArray++(aV J d.2.2).toArray=(aV J (d.2.1++d.2.2)).toArray:=by simp[dY]
   have hokd:cm (known res) (d.2.1++d.2.2):=by
    have:=hd d (by simp)
    rw[dZ]at this⊢;rw[dZ]at this;intro z hz;rcases List.mem_append.1 hz with hz|hz
    ·exact this.1 z hz
    ·exact this.2 z hz
   have hinv:(invoke D.target D.args).run C.P w= .ok (.enter d.1 (aV J (d.2.1++d.2.2)).toArray) w:=by
    rw[htar,hda];simp only[invoke,Sem.run_bind,run_program,callFunc,f1,f2,f3,Bool.false_eq_true,if_false,Result.andThen_ok,hcat];rfl
   have hlead:∀g,D.target.leads C.P w D.args=some g->(FF C.P none).fn g:=fun g hg=>by
    rw[htar]at hg;simp only[Target.leads,aa]at hg;subst hg;exact hFd
   split at h
   ·rename_i ts te hD;obtain⟨c1,c2⟩:=hC.dk _ ts te hD;split at h
    ·rename_i p hargs;have hp:ok (known res) p:=by rw[hargs]at hokd;exact hokd.1
     have hden1:(aV J (d.2.1++d.2.2)).toArray= #[den J p]:=by rw[hargs];simp[aV]
     rw[hden1]at hinv;split at h
     ·refine⟨hu,.inr ⟨fun hh=>by simp[FF]at hh,.func d.1,_,d.1, #[den J p],htar,hinv,hlead,?_⟩⟩
      refine CallsDIn.mono (c1 (den J p) w) ?_;rintro e u' w' ⟨⟨v,rfl⟩,rfl,rfl⟩
      exact iw hC hex l none _ J fps _ h hH hdl (fun v hv=>by simp at hv) hk
     ·rename_i v;split at h
      ·rename_i t y;split at h
       ·rename_i htt;have htt:=aj.1 htt;subst htt;split at h
        ·rename_i yl;split at h
         ·rename_i x;split at h
          ·rename_i k n hx
           have hxk:bU k n:=by
            have:=(hm _ rfl);have hxo:ok (known res) x:=this.1.1;cases x<;>simp only[toInt,aa,ae,reduceCtorEq]at hx<;>obtain⟨rfl,rfl⟩:=hx
            ·exact hxo
            ·exact hxo
            ·rename_i b;have:=b.toNat_lt;simp only[bU,Ku];omega
           split at h
           case isFalse=>exact h.elim
           rename_i hte
           have hte:te<1000000\/k= .i64:=by
            simp only[Bool.or_eq_true,ai,aj]at hte;exact hte
           split at h
           ·rename_i res' hs;obtain⟨b,off,bty,cs,cs',e0,e4,e1,e2,e3⟩:=rL hH hs hp (Gn hte hxk)
            have hden:den J (.ic t (.ag [x]))= .iface t (.agg #[.int k n]):=by
             simp only[den,aR];simp[tw hx,Value.cells]
            refine⟨hu,.inr ⟨fun hh=>by simp[FF]at hh,.func d.1,_,d.1, #[den J p],htar,hinv,hlead,?_⟩⟩
            show CallsDIn (FF C.P none) 0 C.P d.1 #[den J p] (.panicking [{v:=den J (.ic t (.ag [x])),recovered:=false}]) w _
            rw[hden];rw[e0]at e1⊢;refine CallsDIn.mono (c2 b off bty cs cs' k n w hte hxk e4 (fun w1 hw1=>by rw[<-DE J];exact e1 w1 hw1)) ?_
            rintro e u' w'' ⟨⟨v,rfl⟩,rfl,hbw⟩
            have hsz:(w.setRow b cs').heap.size=w.heap.size:=by simp[World.setRow]
            obtain⟨fps2,e2,_⟩:=e2.grow (res':=res') (ρ':=J) (nid:=0) (new:= []) (K':=known res) ⟨fun i hi=>⟨rfl,fun hf=>by unfold fresh at hf;simp only[List.length_nil]at hf;omega⟩,fun i hi=> .inl hi,fun k hk=>by simp at hk⟩
             (fun i _ hf=>by unfold fresh at hf;simp only[List.length_nil]at hf;omega) (fun i hi=>by
              rcases hi with hi|hf
              ·exact hi
              ·unfold fresh at hf;simp only[List.length_nil]at hf;omega)
             (w':=w'') ⟨by rw[hsz];exact hbw,Env.agree.refl _ _,fun _ _=>False,fun k hk=>by simp at hk,fun k l b hk=>by simp at hk⟩
            have hkn:∀i,known res i->known res' i:=fun i hi=>(e3 i).2 hi
            exact iw hC hex l none _ J fps2 _ h (e2.ki hkn) (fun e he=>⟨br hkn _ (hdl e he).1,br hkn _ (hdl e he).2⟩) (fun v hv=>by simp at hv)
             fun m' res'' ρ' fps' w' hK' hH' hg' hm'=>hk m' res'' ρ' fps' w' hK' hH' ⟨hg'.1.mono hkn,fun i hi=>hg'.2 i (hkn i hi)⟩ hm'
           ·exact h.elim
          ·exact h.elim
         ·exact h.elim
        ·exact h.elim
       ·exact h.elim
      ·exact h.elim
    ·exact h.elim
   ·split at h
    case h_1=>exact h.elim
    rename_i Gp hfd;split at h
    case h_1=>exact h.elim
    rename_i cd hcd;split at h
    case h_2=>exact h.elim
    rename_i hres0;refine⟨hu,.inr ⟨fun hh=>by simp[FF]at hh,.func d.1,_,d.1,_,htar,hinv,hlead,?_⟩⟩
    have hcl:CallsDIn (FF C.P none) 0 C.P d.1 (aV J (d.2.1++d.2.2)).toArray (fT J m) w fun e u' w'=>u'=fT J m/\∃v σ' ρ' fps',e= .returned v/\aQ ρ' fps' σ' (known σ') w0 F0 w'/\Good J res ρ' σ'/\iu C exD l m σ' Kf:=by
     refine callsDIn_of_wp hfd hcd hFd (wpIn_mono (hex _ _ _ _ J fps _ w h (wL hH hokd)) fun e a' w' hp=>?_)
     obtain⟨out,σ',ρ',fps',p1,p2,p3,p4⟩:=hp;unfold Cd at p2;split at p2
     case h_2=>exact p2.elim
     rename_i hdn;have hres:∃v,(results Gp a'.tmps).run C.P w'= .ok v w':=⟨_,(pG p3 (l:= []) (by rw[hres0];rfl)).1⟩
     obtain⟨v,hv⟩:=hres;have hdf:a'.defers= []:=by rw[p3.2.2.1,hdn];rfl
     cases out<;>cases e<;>simp only[wo]at p1 p2
     ·exact⟨hdf,v,hv,v,σ'.res,ρ',fps',rfl,p3.2.1,p4,p2⟩
     ·exact⟨hdf,v,hv,v,σ'.res,ρ',fps',rfl,p3.2.1,p4,p2⟩
    refine CallsDIn.mono hcl ?_;rintro e u' w' ⟨rfl,v,σ',ρ',fps',rfl,q1,q2,q3⟩
    obtain⟨d1,d2⟩:=bY hdl q2.1 q2.2
    have hmo:fT ρ' m=fT J m:=by
     cases m with
     |none=>rfl
     |some v=>simp only[fT,cJ q2.1 v (hm v rfl)]
    show LeavesInM (FF C.P none) 0 C.P fn tmps R (l.flatMap (fD J)) (settle (fT J m)) w'
    rw[wV,<-hmo,<-d1];exact iw hC hex l m _ ρ' fps' _ q3 q1 d2 (fun v hv=>bE q2.2 _ (hm v hv)) fun m' res'' ρ'' fps'' w'' hK' hH' hg' hm'=>hk m' res'' ρ'' fps'' w'' hK' hH' (q2.trans hg') hm'
abbrev nh(ρ0:Env)(res0:List aI)(w0:World)(F0:Nat->Prop)(K KP:V->List aI->Prop)(e:Ending)(w':World):Prop:=
 ∃x ρ' fps' res',aQ ρ' fps' res' (known res') w0 F0 w'/\Good ρ0 res0 ρ' res'/\ok (known res') x/\
    ((e= .returned (den ρ' x)/\K x res')\/(e= .panicked [{v:=den ρ' x,recovered:=false}]/\KP x res'))
theorem jd{C:Ctx}(U:St)(d:List (Nat×List V×List V)):∀rs,eh C {U with defs:=d} rs=eh C U rs
 | []=>rfl
 | .tmp t::l=>by simp only[eh,jd U d l]
 | .cell a t::l=>by simp only[eh,jd U d l]
theorem wY[Fen]{C:Ctx}(hC:C.Sound){exD:Nat->Code->St->(Out->St->Prop)->Prop}{fn:Func}{K KP:V->List aI->Prop}{e:Exit}
  (hex:∀f c U K J fps a w,exD f c U K->fq J fps U w0 F0 a w->c.wpIn (FF C.P none) 0 C.P (dr J U.res w0 F0 K) a w)
  (h:dr ρ0 res0 w0 F0 (finish C exD fn K KP) e a w):bodyPostM (FF C.P none) 0 C.P fn (nh ρ0 res0 w0 F0 K KP) e a w:=by
 obtain⟨out,U,J,fps,h1,h2,h3,h4⟩:=h;obtain⟨r1,r2,r3,r4⟩:=h3
 have key:∀m,iu C exD U.defs m U.res (D4 C fn K KP U)->(∀v,m=some v->ok (known U.res) v)->LeavesInM (FF C.P none) 0 C.P fn a.tmps (nh ρ0 res0 w0 F0 K KP) a.defers (fT J m) w:=by
  intro m hh hm;rw[r3];refine iw hC hex _ m _ J fps w hh r2 r4 hm fun m' res ρ' fps' w' hK hH' hk' hm'=>?_
  unfold D4 at hK;split at hK
  ·split at hK
   ·rename_i l hl;have hrep:fq ρ' fps' {slots:=U.slots,res:=res,defs:= []} w0 F0 {a with defers:= []} w':=⟨r1.env hk'.2 hk'.1,hH',rfl,by simp⟩
    obtain⟨e1,e2⟩:=pG hrep (l:=l) (by rw[<-hl];exact jd {U with res:=res} [] _)
    exact⟨_,e1,_,ρ',fps',res,hH',h4.trans hk',e2,.inl ⟨rfl,hK⟩⟩
   ·exact hK.elim
  ·rename_i v;exact⟨v,ρ',fps',res,hH',h4.trans hk',hm' _ rfl,.inr ⟨rfl,hK⟩⟩
 cases out<;>cases e<;>simp only[wo,finish]at h1 h2
 ·exact key none h2 (by simp)
 ·exact key none h2 (by simp)
 ·rename_i v chain;obtain⟨rfl,hv⟩:=h1;exact key (some v) h2 fun v' hv'=>by simp only[aa]at hv';subst hv';exact hv
theorem mH[Fen]{C:Ctx}(hC:C.Sound){exD:Nat->Code->St->(Out->St->Prop)->Prop}{ex:Code->St->(Out->St->Prop)->Prop}{f:Nat}{args:List V}{res:List aI}{K KP:V->List aI->Prop}
  (hexD:∀f c U K J fps a w,exD f c U K->fq J fps U w0 F0 a w->c.wpIn (FF C.P none) 0 C.P (dr J U.res w0 F0 K) a w)
  (hex:∀c U K a,U.res=res->ex c U K->fq J fps U w0 F0 a w->c.wpIn (FF C.P none) 0 C.P (dr J U.res w0 F0 K) a w) (h:enter C exD ex f args res K KP)
  (hH:aQ J fps res (known res) w0 F0 w) (hargs:cm (known res) args):CallsIn (FF C.P none) 0 C.P f (aV J args).toArray w (nh J res w0 F0 K KP):=by
 unfold enter at h;split at h
 ·exact h.elim
 ·rename_i fn hf;split at h
  ·exact h.elim
  ·rename_i c hc;refine callsIn_of_wp_marks hf hc (fun _=>by rw[hf];rfl) ?_
   exact wpIn_mono (hex _ _ _ _ rfl h (wL hH hargs)) fun e a w hp=>wY hC hexD hp
def zy[Fen](P:Program)(y:u5)(J:Env)(res:List aI):Prop:=
 (Fen.nar->(P.funcs[y.r0.fn]?).isSome=true)/\(y.nr=true->Fen.nar)/\y.r0.params.toList=y.ps/\y.r0.assign=y.assign/\y.r0.body=y.body/\er J (known res) y.slots {tmps:=y.r0.tmps,defers:= []}/\∀t,(∃x,bh y.slots t= .v x)\/bh y.slots t= .und
theorem sj{K:Nat->Prop}:∀(ps:List Nat) (args:List V) (sl sl':List S) (tmps:Array Value),su ps args sl=some sl'->er J K sl {tmps:=tmps,defers:= []}->(∀t,(∃x,bh sl t= .v x)\/bh sl t= .und)->cm K args->
  ps.length=args.length/\er J K sl' {tmps:=(ps.zip (aV J args)).foldl (fun t (p:Nat×Value)=>t.setIfInBounds p.1 p.2) tmps,defers:= []}
 | [],[],sl,sl',tmps,h,hF,_,_=>by simp only[su,aa]at h;subst h;exact⟨rfl,hF⟩
 | [],_::_,_,_,_,h,_,_,_=>by simp[su]at h
 |_::_,[],_,_,_,h,_,_,_=>by simp[su]at h
 |p::ps,x::xs,sl,sl',tmps,h,hF,hp,hk=>by
  simp only[su]at h
  have hfree:rX p sl=true:=by
   unfold rX;rw[List.all_eq_true];intro s hs;obtain⟨i,hi,rfl⟩:=List.getElem_of_mem hs;have:=hp i;rw[fV,aq,List.getElem?_eq_getElem hi]at this;simp only[Option.getD_some]at this;rcases this with⟨y,h⟩|h<;>rw[h]
  have h1:=hF.put (d:=p) (s:= .v x) (x:=den J x) hfree ⟨rfl,hk.1⟩
  obtain⟨e1,e2⟩:=sj ps xs _ _ (tmps.setIfInBounds p (den J x)) h h1 (fun t=>by
   rw[dc];split
   ·exact .inl ⟨x,rfl⟩
   ·exact hp t) hk.2
  exact⟨by simp[e1],by simpa[aV]using e2⟩
theorem uO{s t:LoopState}(h:vj s t=true):s=t:=sR h
def x6[Fen](P:Program)(l:Nat)(R:Ending->World->Prop):Exit->Act->World->Prop
 | .normal,_,w=>∃v w',(Instr.endRound l none).run P w= .ok v w'/\R (.returned v) w'
 | .ret,_,w=>∃v w',(Instr.endRound l (some .ret)).run P w= .ok v w'/\R (.returned v) w'
 | .exit id,_,w=>∃v w',(Instr.endRound l (some (.exit id))).run P w= .ok v w'/\R (.returned v) w'
 | .goto t,_,w=>∃v w',(Instr.endRound l (some (.goto t))).run P w= .ok v w'/\R (.returned v) w'
 | .panic chain,a,w=>Fen.nar/\a.defers= []/\R (.panicked chain) w
 | .outgrown,_,_=>False
theorem o0[Fen]{F:Fence}{n:Nat}{P:Program}{l:Nat}{f:FuncId}{tmps:Array Value}{assign body:Code}{w:World}{R:Ending->World->Prop}(hF:F.fn f)(hfn:Fen.nar->(P.funcs[f]?).isSome=true)
  (h:assign.wpIn (F.inRound l) n P (Exit.then (fun a₁ w₁=>∃w₂,(Instr.beginRound l).run P w₁= .ok () w₂/\body.wpIn (F.inRound l) n P (x6 P l R) a₁ w₂) (fun _ _ _=>False))
   {tmps:=tmps,defers:= []} w):
  RoundIn F n P l f tmps assign body w R:=by
 refine⟨hF,fun c cs hr=>?_⟩
 let b:Frame:= {(default:Frame)with fn:=f,kind:= .normal,roundOf:=some l}
 have hb0:Frame.round l f tmps assign body .normal=b.atR {tmps:=tmps,defers:= []} [.code assign,.beginRound,.code body]:=by
  simp[Frame.round,Frame.atR,b]
 have hr':(F.inRound l).room ((c::cs).length+1+n):=hr;have hF':(F.inRound l).fn b.fn:=hF;obtain⟨e,a₁,w₁,hq,harr⟩:=h b [.beginRound,.code body] (c::cs) rfl hF' hr';rw[<-hb0]at harr;cases e with
 |normal=>
  obtain⟨w₂,hbr,hbody⟩:=hq
  have s1:StepsIn (Machine.fenced P (F.inRound l)) P (lone (b.atR a₁ [.beginRound,.code body]) (c::cs) w₁) (lone (b.atR a₁ [.code body]) (c::cs) w₂):=
   .one (fenced_calm (fr:=b.atR a₁ [.beginRound,.code body]) hF' hr' rfl) (stepR_beginRound rfl hbr)
  obtain⟨e₂,a₂,w₃,hq₂,harr₂⟩:=hbody b [] (c::cs) rfl hF' hr';cases e₂ with
  |normal=>
   obtain⟨v,w₄,hend,hR⟩:=hq₂;exact⟨.returned v,w₄,hR,(StepsIn.trans harr s1).trans (StepsIn.trans harr₂ (.one (fenced_calm (fr:=b.atR a₂ []) hF' hr' rfl) (stepR_round_end rfl rfl hend)))⟩
  |ret=>
   obtain⟨v,w₄,hend,hR⟩:=hq₂;obtain⟨k₁,hs⟩:=harr₂.2 rfl;exact⟨.returned v,w₄,hR,(StepsIn.trans harr s1).trans (StepsIn.trans hs (.one (fenced_calm (fr:=b.atR a₂ (.code .ret::k₁)) hF' hr' rfl) (stepR_round_ret rfl rfl hend)))⟩
  |exit id=>
   obtain⟨v,w₄,hend,hR⟩:=hq₂;obtain⟨k₁,hk,hs⟩:=harr₂.2 rfl rfl;exact⟨.returned v,w₄,hR,(StepsIn.trans harr s1).trans (StepsIn.trans hs (.one (fenced_calm (fr:=b.atR a₂ (.code (.exit id)::k₁)) hF' hr' rfl) (stepR_round_exit rfl rfl hk hend)))⟩
  |goto t=>
   obtain⟨v,w₄,hend,hR⟩:=hq₂;obtain⟨k₁,hk,hs⟩:=harr₂.2 rfl rfl;exact⟨.returned v,w₄,hR,(StepsIn.trans harr s1).trans (StepsIn.trans hs (.one (fenced_calm (fr:=b.atR a₂ (.code (.goto t)::k₁)) hF' hr' rfl) (stepR_round_goto rfl rfl hk hend)))⟩
  |panic chain=>
   obtain⟨hn,hd,hR⟩:=hq₂;obtain⟨todo,hs⟩:=harr₂;obtain⟨fn,hf⟩:=Option.isSome_iff_exists.1 (hfn hn);have hl:({b.atR a₂ todo with mode:= .panicking chain}:Frame).leaving P w₃ (.panicked chain):=⟨rfl,hd,fn,hf⟩
   exact⟨.panicked chain,w₃,hR,(StepsIn.trans harr s1).trans (StepsIn.trans hs (.one (fenced_leaving (F:=F.inRound l) hF' hr' hl) (step_leave_panicked hl)))⟩
  |outgrown=>exact hq₂.elim
 |exit id=>exact hq.elim
 |goto t=>exact hq.elim
 |ret=>exact hq.elim
 |panic chain=>exact hq.elim
 |outgrown=>exact hq.elim
theorem Bz[Fen]{C:Ctx}{ex:Nat->Code->St->(Out->St->Prop)->Prop}{y:u5}(hex:∀ro fid c U K J fps w0 F0 a w,ex fid c U K->fq J fps U w0 F0 a w->c.wpIn (FF C.P ro) 0 C.P (dr J U.res w0 F0 K) a w)(hy:zy C.P y ρ0 res0):
  vn C.P (fun k args res K KP=>sk ex y k args res K KP) ρ0 res0:=by
 intro k args res K KP h J fps w0 F0 w hg hH hk hargs;unfold sk at h;split at h
 ·rename_i hky;have hky:=aj.1 hky;subst hky;split at h
  ·rename_i r s j hr;split at h
   ·rename_i hs;simp only[ah,Option.isNone_iff_eq_none]at hs;obtain⟨hs,rfl⟩:=hs;have hs:=uO hs;subst hs;obtain⟨rfl,h⟩:=h;split at h
    ·rename_i sl hsl;obtain⟨y0,yn,y1,y2,y3,y4,y5⟩:=hy;have hh:=hH.holds y.k hk;rw[hr]at hh;obtain⟨l1,l2⟩:=hh;obtain⟨e1,e2⟩:=sj (J:=J) (K:=known res) _ _ _ _ y.r0.tmps hsl (y4.env hg.2 hg.1) y5 hargs
     refine⟨J.num y.k,_,_,_,_,run_yield l2 (by
      have hps:y.r0.params.size=y.ps.length:=by rw[<-y1];simp
      show _=y.r0.params.size
      rw[hps,e1];simp[dY]),fun ro=>?_⟩
     refine o0 (F:=FF C.P ro) y0 y0 ?_
     have hrep:fq J fps {slots:=sl,res:=res,defs:= []} w0 F0 {tmps:=(y.r0.params.zip (aV J args).toArray).foldl (fun tmps (t,a)=>tmps.setIfInBounds t a) y.r0.tmps,defers:= []} w:=by
      refine⟨?_,hH,rfl,by simp⟩
      have:(y.r0.params.zip (aV J args).toArray).foldl (fun tmps (t,a)=>tmps.setIfInBounds t a) y.r0.tmps=(y.ps.zip (aV J args)).foldl (fun t (p:Nat×Value)=>t.setIfInBounds p.1 p.2) y.r0.tmps:=by
       rw[<-Array.foldl_toList,Array.toList_zip,y1]
      rw[this];exact e2
     show Code.wpIn (FF C.P (some (J.num y.k))) 0 C.P y.r0.assign _ _ w
     rw[y2];refine wpIn_mono (hex (some (J.num y.k)) y.fid y.assign _ _ J fps w0 F0 _ w h hrep) fun e a1 w1 hp=>?_
     obtain⟨o,σ1,ρ1,fps1,p1,p2,p3,p4⟩:=hp;cases o<;>simp only at p2<;>(try exact p2.elim)
     cases e<;>(try exact(show False from p1).elim)
     have hk1:known σ1.res y.k:=p4.2 _ hk;have hn1:ρ1.num y.k=J.num y.k:=(p4.1 _ hk).1;split at p2
     ·rename_i r1 s1 j1 hr1;split at p2
      ·rename_i hs1;simp only[ah,Option.isNone_iff_eq_none]at hs1;obtain⟨hs1,rfl⟩:=hs1;have hs1:=uO hs1;subst hs1;obtain⟨rfl,p2⟩:=p2;have hh1:=p3.2.1.holds y.k hk1;rw[hr1]at hh1;obtain⟨m1,m2⟩:=hh1;have hlt1:ρ1.num y.k<w1.heap.size:=(Array.getElem?_eq_some_iff.1 m2).1
       obtain⟨fps2,g1,g2⟩:=p3.2.1.xW (r:= .lop y.r0 .busy none) hk1 (.loop {y.r0 with state:= .busy,pending:=none}) m1 hlt1 (by simp) ⟨m1,World.putObj_heap_same hlt1⟩
       refine⟨_,run_beginRound (by rw[<-hn1];exact m2) rfl,?_⟩
       obtain⟨d1,d2⟩:=bY p3.2.2.2 (Env.agree.refl _ ρ1) g2;have hbody:=hex (some (ρ1.num y.k)) y.fid y.body _ _ ρ1 fps2 w0 F0 a1 _ p2 ⟨⟨p3.1.1,fun t=>(p3.1.2 t).env g2 (Env.agree.refl _ _)⟩,g1,p3.2.2.1,d2⟩
       rw[<-y3]at hbody;rw[<-hn1];refine wpIn_mono hbody fun e a2 w2 hq=>?_
       obtain⟨o,σ2,ρ2,fps3,q1,q2,q3,q4⟩:=hq;have hk2:known σ2.res y.k:=q4.2 _ (g2 _ hk1);have hn2:ρ2.num y.k=ρ1.num y.k:=(q4.1 _ (g2 _ hk1)).1;split at q2
       ·rename_i r2 s2 j2 hr2;split at q2
        ·rename_i hs2;simp only[ah,Option.isNone_iff_eq_none]at hs2;obtain⟨hs2,rfl⟩:=hs2;have hs2:=uO hs2;subst hs2;obtain⟨rfl,q2⟩:=q2;have hh2:=q3.2.1.holds y.k hk2;rw[hr2]at hh2;obtain⟨n1,n2⟩:=hh2;have hlt2:ρ2.num y.k<w2.heap.size:=(Array.getElem?_eq_some_iff.1 n2).1
         have fin:∀(jump:Option Code) (b:Bool),b=jump.isNone->K (.cb b) (bd σ2.res y.k (.lop y.r0 (if jump.isNone then .ready else .done) jump))->
           ∃v w',(Instr.endRound (ρ1.num y.k) jump).run C.P w2= .ok v w'/\nh J res w0 F0 K KP (.returned v) w':=fun jump b hb hK=>by
          obtain⟨fps4,g3,g4⟩:=q3.2.1.xW (r:= .lop y.r0 (if jump.isNone then .ready else .done) jump) hk2 (.loop {y.r0 with state:=if jump.isNone then .ready else .done,pending:=jump}) n1 hlt2 (by simp) ⟨n1,World.putObj_heap_same hlt2⟩
          have hn2':w2.heap[ρ1.num y.k]? =some (.loop {y.r0 with state:= .busy,pending:=none}):=by rw[<-hn2];exact n2
          refine⟨_,_,run_endRound jump hn2',.cb b,ρ2,fps4,_,by rw[<-hn2];exact g3,?_,trivial,.inl ⟨by rw[hb];rfl,hK⟩⟩
          exact⟨p4.1.trans (q4.1.mono g2) p4.2,fun i hi=>g4 i (q4.2 i (g2 i (p4.2 i hi)))⟩
         rw[hn1];rw[hn1]at fin;cases o<;>cases e<;>simp only[wo]at q1<;>(try exact(show False from q1).elim)<;>simp only at q2
         ·exact fin none true rfl q2
         ·subst q1;exact fin (some (.exit _)) false rfl q2
         ·subst q1;exact fin (some (.goto _)) false rfl q2
         ·exact fin (some .ret) false rfl q2
         ·split at q2
          case isFalse=>exact q2.elim
          rename_i hyn;split at q2
          case h_2=>exact q2.elim
          rename_i hdn;obtain⟨rfl,q1'⟩:=q1;refine⟨yn hyn,by rw[q3.2.2.1,hdn];rfl,_,ρ2,fps3,σ2.res,q3.2.1,⟨p4.1.trans (q4.1.mono g2) p4.2,fun i hi=>q4.2 i (g2 i (p4.2 i hi))⟩,q1',.inr ⟨rfl,q2⟩⟩
        ·exact q2.elim
       ·exact q2.elim
      ·exact p2.elim
     ·exact p2.elim
    ·exact h.elim
   ·exact h.elim
  ·exact h.elim
 ·exact h.elim
def Env.jR(J:Env)(i b:Nat):Env:= {J with sn:=fun j=>if j=i then 1 else J.sn j,ob:=fun j=>if j=i then fun _=>b else J.ob j}
theorem Bq{K:Nat->Prop}{nid:Nat}{r0:Loop}(hn:¬K nid)(hn':¬K (nid+1))(rec:Loop)(hr:rec= {r0 with state:= .ready,pending:=none}):
  fJ K J ((J.jR nid w.heap.size).aZ (nid+1) (w.heap.size+1)) nid [.dfr,.lop r0 .ready none] w0 F0 w ((w.alloc (.deferred (some []))).alloc (.loop rec)):=by
 have e1:((J.jR nid w.heap.size).aZ (nid+1) (w.heap.size+1)).sn nid=1/\∀j,((J.jR nid w.heap.size).aZ (nid+1) (w.heap.size+1)).ob nid j=w.heap.size:=by simp[Env.aZ,Env.jR]
 have e2:((J.jR nid w.heap.size).aZ (nid+1) (w.heap.size+1)).num (nid+1)=w.heap.size+1:=by simp[Env.aZ]
 refine⟨((Below.refl _ w).alloc (Nat.le_refl _) _).trans (((Below.refl _ _).alloc (Nat.le_refl _) _).mono (by simp)),fun i hi=>?_,fun k b=>b=w.heap.size+k,fun k hk=>?_,fun k l b hk hl hne h1 h2=>hne (by omega)⟩
 ·have h1:i≠nid:=fun e=>hi ⟨by omega,by simp;omega⟩
  have h2:i≠nid+1:=fun e=>hi ⟨by omega,by simp;omega⟩
  simp[Env.aZ,Env.jR,h1,h2]
 ·have:k=0\/k=1:=by simp at hk;omega
  rcases this with rfl|rfl
  ·refine⟨⟨fun j hj=>?_,fun j k hj hk _=>?_⟩,fun b hb=>by subst hb;simp only[World.size_alloc];omega⟩
   ·show _/\(_:World).heap[((J.jR nid w.heap.size).aZ (nid+1) (w.heap.size+1)).ob nid j]? =_
    rw[e1.2 j];exact⟨e1.2 j,(Below.heap_alloc _ _ _ (by simp)).trans (World.alloc_heap_new w _)⟩
   ·simp_all
  ·refine⟨⟨e2,?_⟩,fun b hb=>by subst hb;simp only[World.size_alloc];omega⟩
   rw[e2];have:=World.alloc_heap_new (w.alloc (.deferred (some []))) (.loop rec);rw[World.size_alloc]at this;rw[this,hr]
def Exit.one(P:Program)(F:Fence)(c:Code)(Q2 Q:Exit->Act->World->Prop):Exit->Act->World->Prop
 | .goto l,a,w=>match findLabel c l with
   |some rest=>rest.wpIn F 0 P Q2 a w
   |none=>Q (.goto l) a w
 |e,a,w=>Q e a w
def Exit.two(c:Code)(Q:Exit->Act->World->Prop):Exit->Act->World->Prop
 | .goto l,a,w=>findLabel c l=none/\Q (.goto l) a w
 |e,a,w=>Q e a w
theorem oC{c:Code}{l:Nat}{k:List Item}(h:findLabel c l=none):gotoIn l (.inScope c::k)=gotoIn l k:=by simp[gotoIn,h]
theorem vm{P:Program}{b:Frame}{a:Act}{k:List Item}{cs:List Frame}{w:World}{c:Code}:step P (lone (b.atR a (.code (.scope c)::k)) cs w)= .next (lone (b.atR a (.code c:: .inScope c::k)) cs w):=
 step_lone_go (by simp[stepG,stepG.exec,Frame.atR])
theorem ru{P:Program}{b:Frame}{a:Act}{k:List Item}{cs:List Frame}{w:World}{c:Code}:step P (lone (b.atR a (.inScope c::k)) cs w)= .next (lone (b.atR a k) cs w):=
 step_lone_go (by simp[stepG,stepG.exec,Frame.atR])
theorem pY{P:Program}{F:Fence}{c:Code}{Q:Exit->Act->World->Prop}{a:Act}{w:World}(h:c.wpIn F 0 P (Exit.one P F c (Exit.two c Q) Q) a w):(Code.scope c).wpIn F 0 P Q a w:=by
 intro b k cs hro hb hr;have h0:∀a w,(lone (b.atR a (.code (.scope c)::k)) cs w).fenced P F:=fun a w=>fenced_calm hb hr rfl
 have hin:∀a w,StepsIn (Machine.fenced P F) P (lone (b.atR a (.inScope c::k)) cs w) (lone (b.atR a k) cs w):=fun a w=> .one (fenced_calm hb hr rfl) ru
 have hex:∀id,exitTo id (.inScope c::k)=exitTo id k:=fun id=>by simp[exitTo]
 have second:∀m e a₁ w₁,Exit.two c Q e a₁ w₁->ArrivesIn (Machine.fenced P F) P m b (.inScope c::k) cs e a₁ w₁->∃e a' w',Q e a' w'/\ArrivesIn (Machine.fenced P F) P m b k cs e a' w':=by
  intro m e a₁ w₁ hq harr;cases e with
  |normal=>exact⟨.normal,a₁,w₁,hq,StepsIn.trans harr (hin a₁ w₁)⟩
  |exit id=>exact⟨.exit id,a₁,w₁,hq,fun k' hk=>harr.1 k' (by rw[hex];exact hk),fun hr' hk=>harr.2 hr' (by rw[hex];exact hk)⟩
  |goto l=>exact⟨.goto l,a₁,w₁,hq.2,fun k' hk=>harr.1 k' (by rw[oC hq.1];exact hk),fun hr' hk=>harr.2 hr' (by rw[oC hq.1];exact hk)⟩
  |ret=>exact⟨_,a₁,w₁,hq,harr⟩
  |panic ch=>exact⟨_,a₁,w₁,hq,harr⟩
  |outgrown=>exact⟨_,a₁,w₁,hq,harr⟩
 obtain⟨e,a₁,w₁,hq,harr⟩:=h b (.inScope c::k) cs hro hb hr
 have back:∀{e a' w'},ArrivesIn (Machine.fenced P F) P (lone (b.atR a (.code c:: .inScope c::k)) cs w) b k cs e a' w'->ArrivesIn (Machine.fenced P F) P (lone (b.atR a (.code (.scope c)::k)) cs w) b k cs e a' w':=
  fun h=> .of_steps (.one (h0 a w) vm) h
 by_cases hj:∃l rest,e= .goto l/\findLabel c l=some rest
 ·obtain⟨l,rest,rfl,hf⟩:=hj;simp only[Exit.one,hf]at hq;obtain⟨e₂,a₂,w₂,hq₂,harr₂⟩:=hq b (.inScope c::k) cs hro hb hr;have hg:gotoIn l (.inScope c::k)=some (.code rest:: .inScope c::k):=by simp[gotoIn,hf]
  obtain⟨e',a',w',q',r'⟩:=second _ e₂ a₂ w₂ hq₂ (.of_steps (harr.1 _ hg) harr₂);exact⟨e',a',w',q',back r'⟩
 ·have hq':Exit.two c Q e a₁ w₁:=by
   cases e with
   |goto l=>
    have hn:findLabel c l=none:=by
     cases hf:findLabel c l with
     |none=>rfl
     |some rest=>exact absurd ⟨l,rest,rfl,hf⟩ hj
    simp only[Exit.one,hn]at hq;exact⟨hn,hq⟩
   |_=>exact hq
  obtain⟨e',a',w',q',r'⟩:=second _ e a₁ w₁ hq' harr;exact⟨e',a',w',q',back r'⟩
theorem Az(b:Bool){res:List aI}(h:aQ J fps res (known res) w0 F0 w):∃ρ' fps',aQ ρ' fps' (ke b res) (known (ke b res)) w0 F0 w/\Good J res ρ' (ke b res):=by
 unfold ke;split
 ·exact jh _ res J fps h
 ·exact⟨J,fps,h,Good.refl _ _⟩
theorem wA{C:Bv}{fid:Nat}{b:Code}{U τ:St}(h:lL C fid b U=some τ)(hr:fq J fps U w0 F0 a w):∃ρ' fps',fq ρ' fps' τ w0 F0 a w/\Good J U.res ρ' τ.res:=by
 grind[lL,gT,Good.refl]
theorem xi{C:Bv}{fid:Nat}{b:Code}{U τ:St}(h:uZ C fid b U=some τ)(hr:fq J fps U w0 F0 a w):∃ρ' fps',fq ρ' fps' τ w0 F0 a w/\Good J U.res ρ' τ.res:=by
 grind[uZ,gT,Good.refl]
theorem pf[Fen]{C:Bv}(hC:C.toCtx.Sound)(hH0:C.H0.OK C.P)(hnr:C.nr=true->Fen.nar):∀(n:Nat) (yc:YC) (fid:Nat) (c:Code) (U:St) (K:Out->St->Prop) (J:Env) (fps:Nat->Nat->Prop) (w0:World) (F0:Nat->Prop) (a:Act) (w:World) (ro:Option Nat),
  (yc.rd=false->ro=none)->(∀y,yc.y=some y->zy C.P y J U.res)->exec C n yc fid c U K->fq J fps U w0 F0 a w->c.wpIn (FF C.P ro) 0 C.P (dr J U.res w0 F0 K) a w
 |0,_,_,_,_,_,_,_,_,_,_,_,_,_,_,h,_=>h.elim
 |n+1,yc,fid,c,U,K,J,fps,w0,F0,a,w,ro,hro,hyc,h,hr=>by
  have ih:=pf hC hH0 hnr n
  have lift:∀{ρ1:Env} {res1:List aI} {K':Out->St->Prop} {e:Exit} {a':Act} {w':World},Good J U.res ρ1 res1->dr ρ1 res1 w0 F0 K' e a' w'->dr J U.res w0 F0 K' e a' w':=
   fun hg ⟨o,s,r,f,h1,h2,h3,h4⟩=>⟨o,s,r,f,h1,h2,h3,hg.trans h4⟩
  have here:∀{o:Out} {e:Exit},wo J U.res e o->K o U->dr J U.res w0 F0 K e a w:=fun ho hk=>⟨_,U,J,fps,ho,hk,hr,Good.refl _ _⟩
  have ycl:∀{ρ1:Env} {res1:List aI},Good J U.res ρ1 res1->∀y,yc.y=some y->zy C.P y ρ1 res1:=fun hg y hy=>by
   obtain⟨y0,yn,y1,y2,y3,y4,y5⟩:=hyc y hy;exact⟨y0,yn,y1,y2,y3,y4.env hg.2 hg.1,y5⟩
  have ihD:∀{w0:World} {F0:Nat->Prop},∀f c U K J fps a w,exec C n ⟨false,none⟩ f c U K->fq J fps U w0 F0 a w->c.wpIn (FF C.P none) 0 C.P (dr J U.res w0 F0 K) a w:=
   fun f c U K J fps a w h hr=>ih ⟨false,none⟩ f c U K J fps _ _ a w none (fun _=>rfl) (fun y hy=>by simp at hy) h hr
  cases c<;>simp only[exec]at h
  case skip=>exact wpIn_skip (here (o:= .norm) trivial h)
  case label=>exact wpIn_label (here (o:= .norm) trivial h)
  case region id ops draw=>
   have hH:Handler.OK C.P (fun f args res K KP=>if C.inl f then enter C.toCtx (exec C n ⟨false,none⟩) (exec C n ⟨false,none⟩ f) f args res K KP else C.H0 f args res K KP):=by
    intro f args res K KP hh;split at hh
    ·intro J fps w0 F0 w hH hargs;exact mH hC ihD (fun c U K a hσ h hr=>ih ⟨false,none⟩ f c U K J fps w0 F0 a w none (fun _=>rfl) (fun y hy=>by simp at hy) h hr) hh hH hargs
    ·exact hH0 _ _ _ _ _ hh
   have hY:vn C.P (fun k args res K KP=>match yc.y with|some y=>sk (exec C n ⟨true,none⟩) y k args res K KP|none=>False) J U.res:=by
    cases hy:yc.y with
    |none=>exact fun _ _ _ _ _ h=>h.elim
    |some y=>exact Bz (C:=C.toCtx) (fun ro fid c U K J fps w0 F0 a w h hr=>ih ⟨true,none⟩ fid c U K J fps w0 F0 a w ro (fun h=>by simp at h) (fun y hy=>by simp at hy) h hr) (hyc y hy)
   split at h
   ·exact h.elim
   ·rename_i hdef
    have hnd:ro≠none->∀o∈ops.toList,bZ o:=fun hne o ho c hc=>by
     grind[GD]
    split at h
    ·grind[xM]
    ·rename_i hd;have hd:draw=false:=by simpa using hd
     subst hd;exact wpIn_region_list (oA hC hH hY hnd _ (fun o ho=>ho) U J fps a w h hr (Good.refl _ _))
  case seq x y=>
   split at h
   ·refine wpIn_seq (wpIn_mono (ih yc fid x U _ J fps w0 F0 a w ro hro hyc h hr) fun e a' w' hp=>?_)
    obtain⟨o,s,r,f,h1,h2,h3,h4⟩:=hp;cases e<;>cases o<;>(first|exact(show False from h1).elim|skip)<;>(try simp only[Exit.then]at h2⊢)
    ·split at h2
     case h_2=>exact h2.elim
     rename_i τ hτ;obtain⟨r2,f2,k1,k2⟩:=xi hτ h3;exact wpIn_mono (ih yc fid y τ K r2 f2 w0 F0 a' w' ro hro (ycl (h4.trans k2)) h2 k1) fun e a w hp=>lift (h4.trans k2) hp
    ·exact⟨_,s,r,f,h1,h2,h3,h4⟩
    ·exact⟨_,s,r,f,h1,h2,h3,h4⟩
    ·exact⟨_,s,r,f,h1,h2,h3,h4⟩
    ·exact⟨_,s,r,f,h1,h2,h3,h4⟩
   ·rename_i A hA;obtain⟨h,hcut⟩:=h;refine wpIn_seq (wpIn_mono (ih yc fid x U _ J fps w0 F0 a w ro hro hyc h hr) fun e a' w' hp=>?_)
    obtain⟨o,s,r,f,h1,h2,h3,h4⟩:=hp;cases e<;>cases o<;>(first|exact(show False from h1).elim|skip)<;>(try simp only[Exit.then]at h2⊢)
    ·obtain⟨g,hi,hs⟩:=h2;have hb:=hcut g hi;split at hb
     case isFalse=>exact hb.elim
     rename_i hkb;unfold JQ at hs;split at hs
     case h_2=>exact hs.elim
     rename_i s1 hgs;obtain⟨r1,f1,q1,q2⟩:=gT hgs h3;obtain⟨r2,f2,hr2,ha2⟩:=hs.rep q1;have hg:Good J U.res r2 (A.head U g).res:=⟨(h4.trans q2).1.trans ha2 (fun i hi=>aK hi),ir _ _ hkb⟩
     exact wpIn_mono (ih yc fid y _ K r2 f2 w0 F0 a' w' ro hro (ycl hg) hb hr2) fun e a w hp=>lift hg hp
    ·exact⟨_,s,r,f,h1,h2,h3,h4⟩
    ·exact⟨_,s,r,f,h1,h2,h3,h4⟩
    ·exact⟨_,s,r,f,h1,h2,h3,h4⟩
    ·exact⟨_,s,r,f,h1,h2,h3,h4⟩
  case cond x y z=>
   split at h
   ·rename_i hx;have:=(dv hr.1 rfl hx).1;exact wpIn_cond_true this (ih yc fid y U K J fps w0 F0 a w ro hro hyc h hr)
   ·rename_i hx;have:=(dv hr.1 rfl hx).1;exact wpIn_cond_false this (ih yc fid z U K J fps w0 F0 a w ro hro hyc h hr)
   ·rename_i t hx;have:=(dv hr.1 rfl hx).1;exact wpIn_cond_split (t:=t) this (fun ht=>ih yc fid y U K J fps w0 F0 a w ro hro hyc (h.1 ht) hr) (fun ht=>ih yc fid z U K J fps w0 F0 a w ro hro hyc (h.2 ht) hr)
   ·exact h.elim
  case block id b=>
   refine wpIn_block (wpIn_mono (ih yc fid b U _ J fps w0 F0 a w ro hro hyc h hr) fun e a' w' hp=>?_)
   obtain⟨o,s,r,f,h1,h2,h3,h4⟩:=hp;cases e<;>cases o<;>(first|exact(show False from h1).elim|skip)<;>(try simp only[Exit.inBlock]at h2⊢)
   ·exact⟨_,s,r,f,h1,h2,h3,h4⟩
   ·have h1:_=_:=h1;subst h1;split at h2
    ·rename_i he;rw[au (aj.1 he)];exact⟨.norm,s,r,f,trivial,h2,h3,h4⟩
    ·rename_i he;rw[ar (by simpa using he)]
     exact⟨.exit _,s,r,f,rfl,h2,h3,h4⟩
   ·exact⟨_,s,r,f,h1,h2,h3,h4⟩
   ·exact⟨_,s,r,f,h1,h2,h3,h4⟩
   ·exact⟨_,s,r,f,h1,h2,h3,h4⟩
  case loop b=>
   split at h
   ·exact h.elim
   ·split at h
    ·exact h.elim
    ·rename_i A hA
     have key:∀(Hd:Nat->St->Prop) (hround:∀m τ,Hd m τ->(∀i,known U.res i->known τ.res i)/\∃(K1:Out->St->Prop) (τ1:St),lL C fid b τ=some τ1/\exec C n yc fid b τ1 K1/\
       ∀o s,K1 o s->match o with| .norm=>∃m' τ' e,Hd m' τ'/\m'<m/\sH U.res.length e s τ'|o=>K o s)
       (b':Frame) (k:List Item) (cs:List Frame),b'.roundOf=(FF C.P ro).round->(FF C.P ro).fn b'.fn->∀m τ ρ1 fps1 a1 w1,Hd m τ->fq ρ1 fps1 τ w0 F0 a1 w1->Env.agree (known U.res) J ρ1->
       ∃e a' w',dr J U.res w0 F0 K e a' w'/\ArrivesIn (Machine.fenced C.P (FF C.P ro)) C.P (lone (b'.atR a1 (.code b:: .inLoop b::k)) cs w1) b' k cs e a' w':=by
      intro Hd hround b' k cs hb' hbf m;induction m using Nat.strongRecOn with
      |_ m ihm=>
       intro τ ρ1 fps1 a1 w1 hi hr1 ha1;obtain⟨hkn,K1,τ1,hτ,hb,hK1⟩:=hround m τ hi;obtain⟨ρ2,fps2,hr2',hg2⟩:=wA hτ hr1;have hr1:=hr2';have hg1:Good J U.res ρ2 τ1.res:=Good.trans ⟨ha1,hkn⟩ hg2;obtain⟨e,a2,w2,hp,harr⟩:=ih yc fid b τ1 _ ρ2 fps2 w0 F0 a1 w1 ro hro (ycl hg1) hb hr1 b' (.inLoop b::k) cs hb' hbf (iL _ _ _);obtain⟨o,s,r,f,h1,h2,h3,h4⟩:=hp;have h2:=hK1 o s h2
       cases e<;>cases o<;>(first|exact(show False from h1).elim|skip)<;>(try simp only at h2)
       ·obtain⟨m',τ',e,i',hlt,hs⟩:=h2;obtain⟨r2,f2,hr2,ha2⟩:=hs.rep h3;obtain⟨e',a',w',hp',harr'⟩:=ihm m' hlt τ' r2 f2 a2 w2 i' hr2 ((hg1.trans h4).1.trans ha2 (fun i hi=>aK hi))
        exact⟨e',a',w',hp',.of_steps (StepsIn.trans harr (.one (fenced_calm (n:=0) hbf (iL _ _ _) rfl) stepR_inLoop)) harr'⟩
       ·exact⟨_,a2,w2,⟨_,s,r,f,h1,h2,h3,hg1.trans h4⟩,.pass (x:= .inLoop b) rfl (fun _ _=> .inl (by simp)) harr⟩
       ·exact⟨_,a2,w2,⟨_,s,r,f,h1,h2,h3,hg1.trans h4⟩,.pass (x:= .inLoop b) rfl (fun _ _=> .inl (by simp)) harr⟩
       ·exact⟨_,a2,w2,⟨_,s,r,f,h1,h2,h3,hg1.trans h4⟩,.pass (x:= .inLoop b) rfl (fun _ _=> .inl (by simp)) harr⟩
       ·exact⟨_,a2,w2,⟨_,s,r,f,h1,h2,h3,hg1.trans h4⟩,.pass (x:= .inLoop b) rfl (fun _ _=> .inl (by simp)) harr⟩
     split at h
     ·rename_i mu hmu
      have unr:∀(b':Frame) (k:List Item) (cs:List Frame),b'.roundOf=(FF C.P ro).round->(FF C.P ro).fn b'.fn->∀m τ ρ1 fps1 a1 w1,Ig (exec C n yc fid b) K m τ->fq ρ1 fps1 τ w0 F0 a1 w1->Good J U.res ρ1 τ.res->
        ∃e a' w',dr J U.res w0 F0 K e a' w'/\ArrivesIn (Machine.fenced C.P (FF C.P ro)) C.P (lone (b'.atR a1 (.code b:: .inLoop b::k)) cs w1) b' k cs e a' w':=by
       intro b' k cs hb' hbf m;induction m with
       |zero=>intro _ _ _ _ _ h;exact h.elim
       |succ m ihm=>
        intro τ ρ1 fps1 a1 w1 hh hr1 hg1;obtain⟨e,a2,w2,hp,harr⟩:=ih yc fid b τ _ ρ1 fps1 w0 F0 a1 w1 ro hro (ycl hg1) hh hr1 b' (.inLoop b::k) cs hb' hbf (iL _ _ _);obtain⟨o,s,r,f,h1,h2,h3,h4⟩:=hp;cases e<;>cases o<;>(first|exact(show False from h1).elim|skip)<;>(try simp only at h2)
        ·obtain⟨e',a',w',hp',harr'⟩:=ihm s r f a2 w2 h2 h3 (hg1.trans h4);exact⟨e',a',w',hp',.of_steps (StepsIn.trans harr (.one (fenced_calm (n:=0) hbf (iL _ _ _) rfl) stepR_inLoop)) harr'⟩
        ·exact⟨_,a2,w2,⟨_,s,r,f,h1,h2,h3,hg1.trans h4⟩,.pass (x:= .inLoop b) rfl (fun _ _=> .inl (by simp)) harr⟩
        ·exact⟨_,a2,w2,⟨_,s,r,f,h1,h2,h3,hg1.trans h4⟩,.pass (x:= .inLoop b) rfl (fun _ _=> .inl (by simp)) harr⟩
        ·exact⟨_,a2,w2,⟨_,s,r,f,h1,h2,h3,hg1.trans h4⟩,.pass (x:= .inLoop b) rfl (fun _ _=> .inl (by simp)) harr⟩
        ·exact⟨_,a2,w2,⟨_,s,r,f,h1,h2,h3,hg1.trans h4⟩,.pass (x:= .inLoop b) rfl (fun _ _=> .inl (by simp)) harr⟩
      intro b' k cs hb' hbf _;obtain⟨e,a',w',hp,harr⟩:=unr b' k cs hb' hbf mu U J fps a w h hr (Good.refl _ _);exact⟨e,a',w',hp,.of_steps (.one (fenced_calm (n:=0) hbf (iL _ _ _) rfl) stepR_loop) harr⟩
     ·
      have go:∀(Hd:Nat->St->Prop) (hround:∀m τ,Hd m τ->(∀i,known U.res i->known τ.res i)/\∃(K1:Out->St->Prop) (τ1:St),lL C fid b τ=some τ1/\exec C n yc fid b τ1 K1/\
        ∀o s,K1 o s->match o with| .norm=>∃m' τ' e,Hd m' τ'/\m'<m/\sH U.res.length e s τ'|o=>K o s) (m0:Nat) (τ0:St),Hd m0 τ0->Bj A.pre U τ0->
        (Code.loop b).wpIn (FF C.P ro) 0 C.P (dr J U.res w0 F0 K) a w:=by
       intro Hd hround m0 τ0 h0 s0;obtain⟨r0,f0,hr0,ha0⟩:=s0.rep hr;intro b' k cs hb' hbf _;obtain⟨e,a',w',hp,harr⟩:=key Hd hround b' k cs hb' hbf m0 τ0 r0 f0 a w h0 hr0 ha0;exact⟨e,a',w',hp,.of_steps (.one (fenced_calm (n:=0) hbf (iL _ _ _) rfl) stepR_loop) harr⟩
      split at h
      ·obtain⟨⟨g0,i0,s0⟩,hr1,hr2⟩:=h;refine go (fun m τ=>(∃g,A.inv g/\A.μ g=m/\τ=A.head U g)\/(∃g,A.inv2 g/\A.μ g=m/\τ=A.head2 U g)) ?_ _ _ (.inl ⟨g0,i0,rfl,rfl⟩) s0
       rintro m τ (⟨g,ig,rfl,rfl⟩|⟨g,ig,rfl,rfl⟩)
       ·have hb:=hr1 g ig;split at hb
        case isFalse=>exact hb.elim
        rename_i hkb;obtain⟨τ1,hτ,hb⟩:=mQ hb;refine⟨ir _ _ hkb,_,τ1,hτ,hb,fun o s hk=>?_⟩
        cases o<;>simp only at hk⊢
        ·rcases hk with⟨g',i',hlt,hs⟩|⟨g',i',hlt,hs⟩
         ·exact⟨A.μ g',_,_,.inl ⟨g',i',rfl,rfl⟩,hlt,hs⟩
         ·exact⟨A.μ g',_,_,.inr ⟨g',i',rfl,rfl⟩,hlt,hs⟩
        all_goals exact hk
       ·have hb:=hr2 g ig;split at hb
        case isFalse=>exact hb.elim
        rename_i hkb;obtain⟨τ1,hτ,hb⟩:=mQ hb;refine⟨ir _ _ hkb,_,τ1,hτ,hb,fun o s hk=>?_⟩
        cases o<;>simp only at hk⊢
        ·obtain⟨g',i',hlt,hs⟩:=hk;exact⟨A.μ g',_,_,.inr ⟨g',i',rfl,rfl⟩,hlt,hs⟩
        all_goals exact hk
      ·obtain⟨⟨g0,i0,s0⟩,hr1⟩:=h;refine go (fun m τ=>∃g,A.inv g/\A.μ g=m/\τ=A.head U g) ?_ _ _ ⟨g0,i0,rfl,rfl⟩ s0
       rintro m τ ⟨g,ig,rfl,rfl⟩
       have hb:=hr1 g ig;split at hb
       case isFalse=>exact hb.elim
       rename_i hkb;obtain⟨τ1,hτ,hb⟩:=mQ hb;refine⟨ir _ _ hkb,_,τ1,hτ,hb,fun o s hk=>?_⟩
       cases o<;>simp only at hk⊢
       ·obtain⟨g',i',hlt,hs⟩:=hk;exact⟨A.μ g',_,_,⟨g',i',rfl,rfl⟩,hlt,hs⟩
       all_goals exact hk
  case rangeFunc f ps assign body=>
   split at h
   ·exact h.elim
   ·rename_i hrd;have hrn:=hro (by simpa using hrd)
    subst hrn;split at h
    ·rename_i g caps hf;obtain⟨hcall,h⟩:=h;rw[ah]at hcall;obtain⟨hcall,hlo⟩:=hcall;obtain⟨v1,v2⟩:=dv hr.1 rfl hf;have v1:=v1.trans (r9 hlo);refine wpIn_rangeFunc fun fn hfnx=>?_
     obtain⟨ρa,fpsa,ho,hga⟩:=Az (C.opn g) hr.2.1;generalize ke (C.opn g) U.res=res1 at h ho hga
     have hnk:¬known res1 res1.length:=fun hk=>by have:=aK hk;omega
     have hnk':¬known res1 (res1.length+1):=fun hk=>by have:=aK hk;omega
     generalize hrec:({state:= .ready,pending:=none,fn:=fn,tmps:=a.tmps,params:=ps,assign:=assign,body:=body,defers:=w.heap.size}:Loop)=rec
     have hg0:=Bq (J:=ρa) (w:=w) (w0:=w0) (F0:=F0) (K:=known res1) (nid:=res1.length) (r0:=rec) hnk hnk' rec (by rw[<-hrec])
     have hadd:=fj res1 [.dfr,.lop rec .ready none]
     have hK':∀i,known res1 i\/fresh res1.length 2 i->known (res1++ [.dfr,.lop rec .ready none]) i:=fun i hi=>by
      obtain⟨b1,_,b3⟩:=hadd;rcases hi with hi|⟨f1,f2⟩
      ·unfold known;rw[(b1 i hi).1];exact hi
      ·have:i-res1.length=0\/i-res1.length=1:=by omega
       have h3:=b3 (i-res1.length) (by simp;omega)
       rw[show res1.length+(i-res1.length)=i by omega]at h3
       unfold known;rw[h3];rcases this with h|h<;>rw[h]<;>simp[aH]
     obtain⟨fps1,g1,g2⟩:=ho.grow hadd (fun i hi hf=>by have:=aK hi;unfold fresh at hf;omega) hK' hg0
     generalize hρ1:((ρa.jR res1.length w.heap.size).aZ (res1.length+1) (w.heap.size+1))=ρ1 at g1 g2
     have en1:ρ1.sn res1.length=1/\∀j,ρ1.ob res1.length j=w.heap.size:=by subst hρ1;simp[Env.aZ,Env.jR]
     have en2:ρ1.num (res1.length+1)=w.heap.size+1:=by subst hρ1;simp[Env.aZ]
     have hgood:Good J U.res ρ1 (res1++ [.dfr,.lop rec .ready none]):=hga.trans ⟨g2,fun i hi=>hK' i (.inl hi)⟩
     have hkl:known (res1++ [.dfr,.lop rec .ready none]) (res1.length+1):=hK' _ (.inr ⟨by omega,by omega⟩)
     have hkd:known (res1++ [.dfr,.lop rec .ready none]) res1.length:=hK' _ (.inr ⟨by omega,by omega⟩)
     have hcaps:cm (known (res1++ [.dfr,.lop rec .ready none])) caps:=br hgood.2 _ v2
     have hyg:zy C.P ⟨res1.length+1,rec,clean U.slots,ps.toList,assign,body,fid,C.nr⟩ ρ1 (res1++ [.dfr,.lop rec .ready none]):=by
      subst hrec;exact⟨hfnx,hnr,rfl,rfl,rfl,hr.1.clean.env hgood.2 hgood.1,gk U.slots⟩
     have hcs:=mH hC ihD (J:=ρ1) (fps:=fps1) (w0:=w0) (F0:=F0) (fun c σ' K a hσ h hr=>ih ⟨false,some ⟨res1.length+1,rec,clean U.slots,ps.toList,assign,body,fid,C.nr⟩⟩ (Ks g assign body) c σ' K ρ1 fps1 w0 F0 a _ none (fun _=>rfl)
      (fun y hy=>by simp only[aa]at hy;subst hy;rw[hσ];exact hyg) h hr) (h rec) g1 ⟨hkl,hcaps⟩
     have hcd:aV ρ1 caps=aV J caps:=cx hgood.1 caps v2;have hfn:=pF hcall;obtain⟨fn',f1,f2,f3⟩:=hfn;have henter:=run_enterLoop_outer (P:=C.P) (w:=w) fn a.tmps ps assign body;rw[hrec]at henter
     refine⟨w.heap.size+1,[{target:= .collected w.heap.size,args:= #[]}],(w.alloc (.deferred (some []))).alloc (.loop rec),{target:= .fn (.func g) (aV J caps).toArray,args:= #[.func (.yield (w.heap.size+1)) #[] #[]]},(w.alloc (.deferred (some []))).alloc (.loop rec),g,(aV ρ1 (.yl (res1.length+1)::caps)).toArray,(w.alloc (.deferred (some []))).alloc (.loop rec),
      henter,?_,fun f' hf'=>by
       simp only[Target.leads,aa]at hf';subst hf';exact fun _=>by rw[f1];rfl,?_,fun h=>by simp[FF]at h,CallsIn.mono (qR hcs) ?_⟩
     ·simp only[resolve,v1];simp[go_sem]
     ·simp only[invoke,Sem.run_bind,run_program,callFunc,f1,f2,f3,Bool.false_eq_true,if_false,Result.andThen_ok,aV,den,en2,hcd];simp
     ·rintro e w' ⟨x,ρ2,fps2,res2,p1,p2,p3,p4⟩
      rcases p4 with⟨rfl,p4⟩|⟨rfl,p4⟩
      ·unfold C0 at p4;split at p4
       ·rename_i r s j hr2;split at p4
        ·exact p4.elim
        ·rename_i hs;have hk2:known res2 (res1.length+1):=p2.2 _ hkl;have hh:=p1.holds _ hk2;rw[hr2]at hh;obtain⟨l1,l2⟩:=hh;have hlt:ρ2.num (res1.length+1)<w'.heap.size:=(Array.getElem?_eq_some_iff.1 l2).1;have en3:ρ2.num (res1.length+1)=w.heap.size+1:=(p2.1 _ hkl).1.trans en2
         have en4:ρ2.sn res1.length=1/\∀j,ρ2.ob res1.length j=w.heap.size:=⟨(p2.1 _ hkd).2.2.2.2.1.trans en1.1,fun j=>by rw[(p2.1 _ hkd).2.2.2.2.2];exact en1.2 j⟩
         obtain⟨fps3,q1,q2⟩:=p1.xW (r:= .gone) hk2 (.loop {r with state:= .exhausted,pending:=j}) l1 hlt (by simp) trivial
         have hend:=run_endLoop (P:=C.P) l2 (by intro e;simp only at e;subst e;simp[vj]at hs)
         rw[en3]at hend q1;obtain⟨fps4,q3,q4⟩:=js (old:=U.res) U.res.length _ _ q1;generalize iI U.res U.res.length (bd res2 (res1.length+1) .gone)=res3 at q3 q4 p4
         have hg3:Good J U.res ρ2 res3:=⟨hgood.1.trans p2.1 hgood.2,fun i hi=>q4 i (q2 i (p2.2 i (hgood.2 i hi)))⟩
         obtain⟨d1,d2⟩:=bY hr.2.2.2 hg3.1 hg3.2
         have hrep:fq ρ2 fps4 {slots:=clean U.slots,res:=res3,defs:=(0,[.yl res1.length],[])::U.defs} w0 F0 {a with defers:= [{target:= .collected w.heap.size,args:= #[]}]++a.defers} (w'.putObj (w.heap.size+1) (.loop {r with state:= .exhausted,pending:=j})):=by
          refine⟨hr.1.clean.env hg3.2 hg3.1,q3,?_,fun d hd=>?_⟩
          ·show[{target:= .collected w.heap.size,args:= #[]}]++a.defers=_
           rw[List.flatMap_cons,d1,<-hr.2.2.1];simp[fD,tt,en4.1,en4.2]
          ·rcases List.mem_cons.1 hd with rfl|hd
           ·exact⟨⟨q4 _ (q2 _ (p2.2 _ hkd)),trivial⟩,trivial⟩
           ·exact d2 d hd
         refine⟨j,_,hend,?_⟩;split at p4
         ·exact⟨.norm,_,ρ2,fps4,trivial,p4,hrep,hg3⟩
         ·split at p4
          ·exact wpIn_ret ⟨.ret,_,ρ2,fps4,trivial,p4,hrep,hg3⟩
          ·exact wpIn_exit ⟨.exit _,_,ρ2,fps4,rfl,p4,hrep,hg3⟩
          ·exact wpIn_goto ⟨.goto _,_,ρ2,fps4,rfl,p4,hrep,hg3⟩
          ·exact p4.elim
       ·exact p4.elim
      ·have hk2:known res2 (res1.length+1):=p2.2 _ hkl;have en4:ρ2.sn res1.length=1/\∀j,ρ2.ob res1.length j=w.heap.size:=⟨(p2.1 _ hkd).2.2.2.2.1.trans en1.1,fun j=>by rw[(p2.1 _ hkd).2.2.2.2.2];exact en1.2 j⟩
       have q1:=p1.gone hk2;have q2:∀i,known res2 i->known (bd res2 (res1.length+1) .gone) i:=mU hk2;obtain⟨fps4,q3,q4⟩:=js (old:=U.res) U.res.length _ _ q1;generalize iI U.res U.res.length (bd res2 (res1.length+1) .gone)=res3 at q3 q4 p4
       have hg3:Good J U.res ρ2 res3:=⟨hgood.1.trans p2.1 hgood.2,fun i hi=>q4 i (q2 i (p2.2 i (hgood.2 i hi)))⟩
       obtain⟨d1,d2⟩:=bY hr.2.2.2 hg3.1 hg3.2
       have hrep:fq ρ2 fps4 {slots:=clean U.slots,res:=res3,defs:=(0,[.yl res1.length],[])::U.defs} w0 F0 {a with defers:= [{target:= .collected w.heap.size,args:= #[]}]++a.defers} w':=by
        refine⟨hr.1.clean.env hg3.2 hg3.1,q3,?_,fun d hd=>?_⟩
        ·show[{target:= .collected w.heap.size,args:= #[]}]++a.defers=_
         rw[List.flatMap_cons,d1,<-hr.2.2.1];simp[fD,tt,en4.1,en4.2]
        ·rcases List.mem_cons.1 hd with rfl|hd
         ·exact⟨⟨q4 _ (q2 _ (p2.2 _ hkd)),trivial⟩,trivial⟩
         ·exact d2 d hd
       exact⟨.pan x,_,ρ2,fps4,⟨rfl,bE (fun i hi=>q4 i (q2 i hi)) _ p3⟩,p4,hrep,hg3⟩
    ·exact h.elim
  case scope b=>
   refine pY (wpIn_mono (ih yc fid b U _ J fps w0 F0 a w ro hro hyc h hr) fun e a' w' hp=>?_)
   obtain⟨o,s,r,f,h1,h2,h3,h4⟩:=hp;cases e<;>cases o<;>(first|exact(show False from h1).elim|skip)<;>(try simp only[Exit.one]at h2⊢)
   ·exact⟨_,s,r,f,h1,h2,h3,h4⟩
   ·exact⟨_,s,r,f,h1,h2,h3,h4⟩
   ·rename_i l l';have h1:l=l':=h1;subst h1;split at h2
    ·rename_i rest hf;refine wpIn_mono (ih yc fid rest s _ r f w0 F0 a' w' ro hro (ycl h4) h2 h3) fun e2 a2 w2 hp2=>?_
     obtain⟨o2,s2,r2,f2,g1,g2,g3,g4⟩:=hp2;cases e2<;>cases o2<;>(first|exact(show False from g1).elim|skip)<;>(try simp only[Exit.two]at g2⊢)
     ·exact⟨_,s2,r2,f2,g1,g2,g3,h4.trans g4⟩
     ·exact⟨_,s2,r2,f2,g1,g2,g3,h4.trans g4⟩
     ·rename_i l2 l2';have g1:l2=l2':=g1;subst g1;split at g2
      ·exact g2.elim
      ·rename_i hn;exact⟨hn,.goto l2,s2,r2,f2,rfl,g2,g3,h4.trans g4⟩
     ·exact⟨_,s2,r2,f2,g1,g2,g3,h4.trans g4⟩
     ·exact⟨_,s2,r2,f2,g1,g2,g3,h4.trans g4⟩
    ·rename_i hn;exact⟨.goto l,s,r,f,rfl,h2,h3,h4⟩
   ·exact⟨_,s,r,f,h1,h2,h3,h4⟩
   ·exact⟨_,s,r,f,h1,h2,h3,h4⟩
  case exit i=>exact wpIn_exit (here (o:= .exit i) rfl h)
  case goto l=>exact wpIn_goto (here (o:= .goto l) rfl h)
  case ret=>exact wpIn_ret (here (o:= .ret) trivial h)
theorem zF[Fen]{C:Bv}(hC:C.toCtx.Sound)(hH0:C.H0.OK C.P)(hnr:C.nr=true->Fen.nar){n f:Nat}{args:List V}{res:List aI}{K KP:V->List aI->Prop}(h:enter C.toCtx (exec C n ⟨false,none⟩) (exec C n ⟨false,none⟩ f) f args res K KP):aJ C.P f args res K KP:=by
 intro J fps w0 F0 w hH hargs;exact mH hC (fun f c U K J fps a w h hr=>pf hC hH0 hnr n ⟨false,none⟩ f c U K J fps w0 F0 a w none (fun _=>rfl) (fun y hy=>by simp at hy) h hr) (fun c U K a hσ h hr=>pf hC hH0 hnr n ⟨false,none⟩ f c U K J fps w0 F0 a w none (fun _=>rfl) (fun y hy=>by simp at hy) h hr) h hH hargs
end
end Go.Sx
namespace Go.Sx
theorem r6(i:Nat):iH.at i=void:=by
 unfold cM.at iH;simp[Array.getD_eq_getD_getElem?,Array.getElem?_replicate];split<;>rfl
end Go.Sx
namespace Go.Sx
def Jo(k:Key):Bool:=decide (bU .i64 k.kind)&&decide (bU .i64 k.oid)&&decide (bU .i64 k.count)&&decide (bU .i64 k.call)&&decide (bU .i64 k.rights)&&decide (bU .i64 k.value)
theorem qF{k:Key}(h:Jo k=true):k.wf:=by
 simp only[Jo,ah,ai]at h;obtain⟨⟨⟨⟨⟨a,b⟩,c⟩,d⟩,e⟩,f⟩:=h;exact⟨a,b,c,d,e,f⟩
mutual
def Em:V->Bool
 | .cb _=>true
 | .ci k n=>decide (bU k n)
 | .st _=>true
 | .nl v=>v.oneCell'
 | .key k=>Jo k
 | .sl s=>(List.range 16).all fun i=>Jo (s.at i)
 | .by _=>true
 | .ob o=>decide (bU .i64 o.kind)&&decide (bU .i64 o.count)&&decide (bU .i64 o.calls)&&(List.range 16).all fun i=>Jo (o.slots.at i)
 | .ag l=>Fc l
 |_=>false
def Fc:List V->Bool
 | []=>true
 |x::l=>Em x&&Fc l
end
mutual
theorem wS{K:Nat->Prop}:∀v,Em v=true->ok K v/\bp v=false
 | .cb _,_| .st _,_| .by _,_=>⟨trivial,rfl⟩
 | .ci k n,h=>⟨show bU k n by simpa[Em]using h,rfl⟩
 | .nl v,h=>⟨show v.oneCell'=true by simpa[Em]using h,rfl⟩
 | .key k,h=>⟨qF (by simpa[Em]using h),rfl⟩
 | .sl s,h=>by
   simp only[Em,List.all_eq_true,List.mem_range]at h;exact⟨fun i hi=>qF (h i hi),rfl⟩
 | .ob o,h=>by
   simp only[Em,ah,ai,List.all_eq_true,List.mem_range]at h;obtain⟨⟨⟨a,b⟩,c⟩,d⟩:=h;exact⟨⟨a,b,c,fun i hi=>qF (d i hi)⟩,rfl⟩
 | .ag l,h=>by
   have:=tG (K:=K) l (by simpa[Em]using h)
   exact⟨this,rfl⟩
theorem tG{K:Nat->Prop}:∀l,Fc l=true->cm K l/\oE l
 | [],_=>⟨trivial,trivial⟩
 |x::l,h=>by
  simp only[Fc,ah]at h;have h1:=wS (K:=K) x h.1;have h2:=tG (K:=K) l h.2;refine⟨⟨h1.1,h2.1⟩,(bX _).2 fun z hz=>?_⟩
  rcases List.mem_cons.1 hz with rfl|hz
  ·exact h1.2
  ·exact(bX _).1 h2.2 z hz
end
def ZP(P:Program)(t:Nat)(v:V):Prop:=∃i,P.info? t=some i/\(∀J,i.zero=some (den J v))/\Em v=true/\i.size=bP v
def zf:List (Nat×V)->Nat->Option V
 | [],_=>none
 | (u,v)::l,t=>if u==t then some v else zf l t
def HR(P:Program):List (Nat×V)->Prop
 | []=>True
 |p::l=>ZP P p.1 p.2/\HR P l
theorem tj{P:Program}:∀{l:List (Nat×V)},HR P l->∀t v,zf l t=some v->ZP P t v
 | [],_,t,v,h=>by simp[zf]at h
 | (u,x)::l,hz,t,v,h=>by
   simp only[zf]at h;split at h
   ·rename_i e;have e:=aj.1 e;subst e;simp only[aa]at h;subst h;exact hz.1
   ·exact tj hz.2 t v h
theorem Dz{C:Ctx}(h:∀t v,C.Z t=some v->ZP C.P t v):C.vo:=fun t v hv=>by
 obtain⟨i,h1,h2,h3,h4⟩:=h t v hv;obtain⟨h5,h6⟩:=wS (K:=fun _=>False) v h3
 exact⟨i,h1,h2,h5,h6,h4⟩
end Go.Sx
