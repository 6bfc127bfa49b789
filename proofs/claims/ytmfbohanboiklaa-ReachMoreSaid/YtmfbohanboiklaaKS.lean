import Derived.Test.YtmfbohanboiklaaKO
import Derived.Test.YtmfbohanboiklaaSxF
set_option linter.unusedSimpArgs false
set_option linter.unusedVariables false
namespace Go.Sx
def bH (L:List Obj):Bool:=decide (aa L=0)
def az (L:List Obj) (oid:Int):Int:=if aa L=0 then 1 else if oid<0\/(aa L:Int)<=oid then 4 else 0
def bS (L:List Obj) (oid:Int):Obj:=if az L oid=0 then aq L oid.toNat free else free
def dg (L:List Obj):Int:=(aa L:Int)
def dU (L:List Obj) (k:Key):Bool:=aX k&&decide (az L k.oid=0)&&bL k (aq L k.oid.toNat free)
def fO (L:List Obj) (k:Key):Obj:=if dU L k then aq L k.oid.toNat free else free
def aT (L:List Obj) (k:Key):Key:=if bH L|| !aw k||(aX k&& !dU L k)then void else k
def e9 (n:Int):Bool:=decide (1<=n)&&decide (n<=64)
def gC (n:Int):List Obj:=List.replicate n.toNat free
def dv (L:List Obj) (i:Int) (o:Obj):List Obj:=if az L i=0/\bk o (aa L:Int)=0 then eN L i.toNat o else L
def cq (L:List Obj) (i:Int) (o:Obj):Int:=if az L i=0 then bk o (aa L:Int)else az L i
def bX (l:List Obj):Bool:=decide (1<=aa l)&&decide (aa l<=64)&&(List.range (aa l)).all fun i=>dR (aq l i free) (aa l:Int)
def eK (l:List Obj) (g:Int):List Obj:=l.take g.toNat++List.replicate (l.length-g.toNat) free
def k7 (l:List Obj) (g:Int):Prop:=0<=g/\g<=(aa l:Int)/\∀j:Nat,(j:Int)<g->dR (aq l j free) (aa l:Int)=true
def vn (n i:Int):Prop:=0<=i/\i<=n
abbrev tS:Nat:=65
abbrev eS:Nat:=66
def It (c:Bool) (M:List Obj) (v:V) (r:List ah):Prop:=
 match v with
 | .tp l=>match l with
   | [a,b]=>match a with
     | .nl p=>match p with
       | .pointer none=>c=false/\nc (.ci .i64 2) b r
       |_=>False
     | .lp j off=>match ze r j with
       |some (t,e,L)=>if off==0&&t==tS&&e==eS then c=true/\nc (.ci .i64 0) b r/\L=M else False
       |none=>False
     |_=>False
   |_=>False
 |_=>False
def MJ (n:Int):V->List ah->Prop:=It (e9 n) (gC n)
def L8 (l:List Obj) (v:V) (r:List ah):Prop:=
 match ae r 0 with
 | .ro _=>It (bX l) l v r
 |_=>False
theorem zT {l:List Obj} {v:V} {r:List ah} (h:L8 l v r):It (bX l) l v r/\ze r 0=none:=by
 unfold L8 at h;split at h
 ·rename_i hr;refine⟨h,?_⟩;unfold ze w9;rw[hr]
 ·exact h.elim
def Me (x:V) (M:List Obj) (v:V) (r:List ah):Prop:=
 match w9 r 0 with
 |some (t,e,_,L)=>if t==tS&&e==eS then nc x v r/\L=M else False
 |none=>False
def Iu:qp:=fun args res K=>
 match args with
 | [a]=>match rI .i64 a with
   |some n=>(e9 n=false->K (.tp [pK,.ci .i64 2]) res)/\(e9 n=true->K (.tp [.lp res.length 0,.ci .i64 0]) (res++ [.store tS eS (gC n)]))
   |none=>False
 |_=>False
def Mk (c:V):Bool:=
 match c with
 | .ag l=>match l with
   | [x]=>match x with
     | .nl v=>match v with
       | .slice none 0 0=>true
       |_=>false
     |_=>false
   |_=>false
 |_=>false
theorem EK {c:V} (h:Mk c=true):c= .ag [.nl (.slice none 0 0)]:=by
 unfold Mk at h;split at h
 ·split at h
  ·split at h
   ·split at h
    ·rfl
    ·simp at h
   ·simp at h
  ·simp at h
 ·simp at h
def Ik:qp:=fun args res K=>
 match args with
 | [a,b,c]=>match rI .i64 b with
   |some i=>match rO c with
    |some o=>match a with
     | .nl v=>match v with
       | .pointer none=>K (.it .i64 (cq [] i o)) res
       |_=>False
     | .lp k off=>if off==0 then match ae res k with
       | .store t e L=>if t==tS&&e==eS then K (.it .i64 (cq L i o)) (aL res k (.store tS eS (dv L i o)))else False
       | .blk t c=>if t==tS&&Mk c then K (.it .i64 (cq [] i o)) res else False
       |_=>False
       else False
     |_=>False
    |none=>False
   |none=>False
 |_=>False
structure Nd where
 puts:Bool
 oid:Int
 ob:Obj
def Nd.wf (x:Nd):Prop:=bE .i64 x.oid/\x.ob.wf
def GD:Ct:=Kz (.bo true)
def hJ (L M:List Obj):Bool:=decide (L=M)
def kc (L M:List Obj) (g:Int):Prop:=0<=g/\g<=(aa L:Int)/\g<=(aa M:Int)/\∀j:Nat,(j:Int)<g->aq L j free=aq M j free
def Km:Ct:=JT tS eS fun L M=> .bo (hJ L M)
abbrev Nz:V:= .nl (.slice none 0 0)
theorem fB {α:Type} (l:List α):aJ (aa l)=(l.length:Int):=rfl
theorem kL {α:Type} (l:List α):((aa l:Nat):Int)=(l.length:Int):=rfl
def Jh:qp:=fun args res K=>
 match args with
 | [a]=>match a with
   | .sa k=>match bp res k with
     | .arr _ e l=>if e==163 then match l with
       | .ob l=>(bX l=false->K (.tp [pK,.ci .i64 2]) res)/\(bX l=true->K (.tp [.lp res.length 0,.ci .i64 0]) (res++ [.store tS eS l]))
       |_=>False
       else False
     |_=>False
   |_=>False
 |_=>False
def G9:Ct:=Mn fun l=> .bo (bX l)
def BK:Ct:=HG rK fun l k=> .bo (dU l k)
def Gt:Ct:=HG rK fun l k=> .key (aT l k)
def JZ:Ct:=L9 tS eS fun L=> .bo (bH L)
def KO:Ct:=A9 tS eS (rI .i64) fun L i=> .it .i64 (az L i)
def KF:Ct:=A9 tS eS (rI .i64) fun L i=> .tp [.ob (bS L i),.it .i64 (az L i)]
def J3:Ct:=L9 tS eS fun L=> .it .i64 (dg L)
def HI:Ct:=A9 tS eS rK fun L k=> .tp [.ob (fO L k),.bo (dU L k)]
def I8:Ct:=A9 tS eS rK fun L k=> .key (aT L k)
theorem pV:bH []=true:=rfl
theorem tN {L:List Obj}:bH L=true↔L= []:=by
 unfold bH aa;simp[List.length_eq_zero_iff]
theorem jX (i:Int):az [] i=1:=rfl
theorem xI {L:List Obj} (h:bH L=false) (i:Int):az L i=if i<0\/(L.length:Int)<=i then 4 else 0:=by
 have:L≠ []:=fun e=>by rw[e]at h;simp[pV]at h
 unfold az aa;rw[NW (by simpa[List.length_eq_zero_iff]using this)]
theorem de {L:List Obj} {i:Int}:az L i=0↔0<=i/\i<(L.length:Int):=by
 unfold az aa;split
 ·omega
 ·split<;>omega
theorem tU (L:List Obj) (k:Key):((!aX k)=true->free=fO L k/\false=dU L k)/\
  ((!aX k)=false->
    ((!decide (az L (ea k)=0)|| !bL k (bS L (ea k)))=true->
      free=fO L k/\false=dU L k)/\
      ((!decide (az L (ea k)=0)|| !bL k (bS L (ea k)))=false->
        bS L (ea k)=fO L k/\true=dU L k)):=by
 have fin:∀b,dU L k=b->(b=false->free=fO L k)/\b=dU L k:=fun b h=>⟨fun hb=>by unfold fO;rw[h,hb];rfl,h.symm⟩
 refine⟨fun h=>?_,fun h=>?_⟩
 ·have h:aX k=false:=by simpa using h
  have:=fin false (by unfold dU;rw[h];rfl)
  exact⟨this.1 rfl,this.2⟩
 ·have h:aX k=true:=by simpa using h
  have ho:ea k=k.oid:=by unfold ea;rw[NX h]
  rw[ho];by_cases hh:az L k.oid=0
  ·have hg:bS L k.oid=aq L k.oid.toNat free:=by unfold bS;rw[NX hh]
   rw[hg];have e:dU L k=bL k (aq L k.oid.toNat free):=by unfold dU;simp[h,hh]
   refine⟨fun hc=>?_,fun hc=>?_⟩
   ·have hc:bL k (aq L k.oid.toNat free)=false:=by simpa[hh]using hc
    have:=fin false (by rw[e,hc])
    exact⟨this.1 rfl,this.2⟩
   ·have hc:bL k (aq L k.oid.toNat free)=true:=by simpa[hh]using hc
    have:=fin true (by rw[e,hc])
    refine⟨?_,this.2⟩;unfold fO;rw[e,hc];rfl
  ·have:=fin false (by unfold dU;simp[hh])
   exact⟨fun _=>⟨this.1 rfl,this.2⟩,fun hc=>by simp[hh]at hc⟩
theorem xg (L:List Obj) (k:Key):((bH L|| !decide (ba k=0))=true->void=aT L k)/\
  ((bH L|| !decide (ba k=0))=false->
    ((aX k&& !dU L k)=true->void=aT L k)/\((aX k&& !dU L k)=false->k=aT L k)):=by
 have hc:(!decide (ba k=0))= !aw k:=by unfold ba;cases aw k<;>simp
 rw[hc];unfold aT;refine⟨fun h=>?_,fun h=>⟨fun h2=>?_,fun h2=>?_⟩⟩
 ·rw[NX];simp only[h,Bool.true_or]
 ·rw[NX];simp only[h2,Bool.or_true]
 ·rw[NW];simp only[h,h2];simp
theorem mw {n:Int}:e9 n=true↔1<=n/\n<=64:=by simp[e9]
theorem Ge {g:Int} (h:0<=g):bg (gC g) free=gC (g+1):=by
 unfold bg gC;rw[show(g+1).toNat=g.toNat+1 by omega,List.replicate_succ']
theorem zP {i:Int} {o:Obj}:cq [] i o=1:=by unfold cq;rw[jX];rfl
theorem zN {L:List Obj} {i:Int} {o:Obj} (h:az L i≠0):cq L i o=az L i/\dv L i o=L:=by
 unfold cq dv;rw[NW h,NW (fun hh=>h hh.1)];exact⟨rfl,rfl⟩
theorem CK {L:List Obj} {i:Int} {o:Obj} (h:az L i=0) (h2:bk o (aa L:Int)≠0):cq L i o=bk o (aa L:Int)/\dv L i o=L:=by
 unfold cq dv;rw[NX h,NW (fun hh=>h2 hh.2)];exact⟨rfl,rfl⟩
theorem AY {L:List Obj} {i:Int} {o:Obj} (h:az L i=0) (h2:bk o (aa L:Int)=0):cq L i o=0/\dv L i o=eN L i.toNat o:=by
 unfold cq dv;rw[NX h,NX ⟨h,h2⟩];exact⟨h2,rfl⟩
theorem C0 {c:Bool} {M:List Obj} (hn:c=false) {v:V} {r:List ah} (h:It c M v r):tY (.tp [pK,.ci .i64 2]) v []:=by
 unfold It at h;split at h
 ·split at h
  ·split at h
   ·split at h
    ·exact HM (cj h.2)
    ·exact h.elim
   ·split at h
    ·split at h
     ·rw[hn]at h;simp at h
     ·exact h.elim
    ·exact h.elim
   ·exact h.elim
  ·exact h.elim
 ·exact h.elim
theorem FY {c:Bool} {M:List Obj} (hn:c=true) {v:V} {r:List ah} (h:It c M v r):∃j b,v= .tp [.lp j 0,b]/\tY (.ci .i64 0) b []/\ze r j=some (tS,eS,M):=by
 unfold It at h;split at h
 ·split at h
  ·split at h
   ·split at h
    ·rw[hn]at h;simp at h
    ·exact h.elim
   ·split at h
    ·rename_i hst;split at h
     ·rename_i hc;simp only[NP,NR]at hc;obtain⟨⟨rfl,rfl⟩,rfl⟩:=hc;obtain⟨_,h2,rfl⟩:=h;exact⟨_,_,rfl,cj h2,hst⟩
     ·exact h.elim
    ·exact h.elim
   ·exact h.elim
  ·exact h.elim
 ·exact h.elim
theorem AP {c:Bool} {M:List Obj} (hn:c=true) {v:V} {r:List ah} (h:It c M v r):∃j r',ze r j=some (tS,eS,M)/\(r'=r\/qv r j=some r')/\ae r' j= .store tS eS M/\∀(κ:Nat->Option Nat) (i:Nat),κ j=some i->iJ κ v (.tp [.lp i 0,.ci .i64 0]):=by
 obtain⟨j,b,rfl,hb,hst⟩:=FY hn h
 have ht:∀(κ:Nat->Option Nat) (i:Nat),κ j=some i->iJ κ (.tp [.lp j 0,b]) (.tp [.lp i 0,.ci .i64 0]):=fun κ i hi ρ2 ρ3 N N' hv hN hk=>by
  obtain⟨s1,s2,_⟩:=hb ρ2 N;refine⟨?_,hN j i hi hk.1,by simp[ok,bE],trivial⟩
  simp only[den,aC,(hv j i hi).1,s1]
 rcases CJ hst with h1|⟨r',h1,h2⟩
 ·exact⟨j,r,hst,.inl rfl,h1,ht⟩
 ·exact⟨j,r',hst,.inr h1,h2,ht⟩
theorem Ha {x:V} {M:List Obj} {v:V} {r:List ah} (h:Me x M v r):∃t,w9 r 0=some (tS,eS,t,M)/\tY x v r:=by
 unfold Me at h;split at h
 ·rename_i hst;split at h
  ·rename_i hc;simp only[NP,NR]at hc;obtain⟨rfl,rfl⟩:=hc;obtain⟨h1,rfl⟩:=h;exact⟨_,hst,cj h1⟩
  ·exact h.elim
 ·exact h.elim
theorem MP {P:Program} {f:Nat} {rest:List V} {res:List ah} {K KP:V->List ah->Prop} {k:Nat} {L M:List Obj} {x:V} (hr:ae res k= .store tS eS L) (hid:jJ rest=true) (hx:gx x=true)
  (h:(∀o∈L,o.wf)->L.length<=9223372036854775807->ai P f (.lp 0 0::rest) [.blk tS (.ag [.sa 1]),.obs eS 2 L,.gen 1] (Me x M) (fun _ _=>False)) (hK:K x (aL res k (.store tS eS M))):ai P f (.lp k 0::rest) res K KP:=by
 refine ai.Gd hr hid hx ?_ hK;refine ai.fact (k:=0) rfl fun w1 w2=>?_
 refine ai.eY (k:=0) rfl ?_;refine ai.shut (h w1 w2) fun v r hv=>?_
 obtain⟨t,h1,h2⟩:=Ha hv;obtain⟨r',g1,g2⟩:=uP h1;exact .inr ⟨0,r',g1,fun J K=>h2 J K,g2⟩
theorem gR {l:List Obj}:bX l=true↔1<=l.length/\l.length<=64/\∀i,i<l.length->dR (aq l i free) (l.length:Int)=true:=by
 unfold bX aa;simp only[NP,NQ,List.all_eq_true,List.mem_range,and_assoc]
theorem oF {l:List Obj} (h:¬(1<=l.length/\l.length<=64/\∀i,i<l.length->dR (aq l i free) (l.length:Int)=true)):bX l=false:=by
 cases hr:bX l with
 |false=>rfl
 |true=>exact absurd (gR.1 hr) h
theorem rh {l:List Obj} {g:Int} (h1:g<=(l.length:Int)):(eK l g).length=l.length:=by
 unfold eK;simp only[List.length_append,List.length_take,List.length_replicate];omega
theorem EH {l:List Obj}:gC (l.length:Int)=eK l 0:=by unfold gC eK;simp
theorem HA {l:List Obj} {g:Int} (h:(l.length:Int)<=g):eK l g=l:=by
 unfold eK;rw[List.take_of_length_le (by omega),show l.length-g.toNat=0 by omega];simp
theorem Ht {l:List Obj} {g:Int} (h0:0<=g) (h1:g<(l.length:Int)):eN (eK l g) g.toNat (aq l g.toNat free)=eK l (g+1):=by
 unfold eN eK aq;obtain⟨n,rfl⟩:=Int.eq_ofNat_of_zero_le h0;have hn:n<l.length:=by omega
 have e1:((n:Int)+1).toNat=n+1:=by omega
 have e2:((n:Int)).toNat=n:=by omega
 rw[e1,e2];apply List.ext_getElem?
 intro i;rw[List.getElem?_set];have hlt:(List.take n l++List.replicate (l.length-n) free).length=l.length:=by simp;omega
 have htl:(List.take n l).length=n:=by simp;omega
 have htl1:(List.take (n+1) l).length=n+1:=by simp;omega
 by_cases hi:n=i
 ·subst hi;rw[NX rfl,NX (by rw[hlt];exact hn),List.getElem?_append_left (by rw[htl1];omega),List.getElem?_take,NX (by omega),NV,List.getElem?_eq_getElem hn];rfl
 ·rw[NW hi];by_cases hl:i<n
  ·rw[List.getElem?_append_left (by rw[htl];exact hl),List.getElem?_append_left (by rw[htl1];omega),List.getElem?_take,List.getElem?_take,NX hl,NX (by omega)]
  ·rw[List.getElem?_append_right (by rw[htl];omega),List.getElem?_append_right (by rw[htl1];omega),htl,htl1,List.getElem?_replicate,List.getElem?_replicate]
   by_cases hb:i<l.length
   ·rw[NX (by omega),NX (by omega)]
   ·rw[NW (by omega),NW (by omega)]
theorem Jj {l:List Obj} {g:Int} (h0:0<=g) (h1:g<(l.length:Int)) (x:Obj):cq (eK l g) g x=bk x (l.length:Int):=by
 have hh:az (eK l g) g=0:=de.2 (by rw[rh (by omega)];exact⟨h0,h1⟩)
 unfold cq aa;rw[NX hh,rh (by omega)]
theorem G8 {l:List Obj} {g:Int} (h0:0<=g) (h1:g<(l.length:Int)) (hx:bk (aq l g.toNat free) (l.length:Int)=0):dv (eK l g) g (aq l g.toNat free)=eK l (g+1):=by
 have hh:az (eK l g) g=0:=de.2 (by rw[rh (by omega)];exact⟨h0,h1⟩)
 unfold dv aa;rw[NX ⟨hh,by rw[rh (by omega)];exact hx⟩]
 exact Ht h0 h1
theorem nE (o:Obj) (n:Int):(bk o n=0/\dR o n=true)\/(bk o n=2/\dR o n=false):=by
 unfold bk;cases dR o n<;>simp
theorem p6 (k:Key):(aX k=true/\aD k=k.oid/\0<=k.oid)\/(aX k=false/\aD k= -1):=by
 have h:aD k=if aX k then k.oid else -1:=rfl
 cases hn:aX k
 ·exact .inr ⟨rfl,by rw[h,hn];rfl⟩
 ·refine .inl ⟨rfl,by rw[h,hn];rfl,?_⟩
  unfold aX at hn;simp only[NP]at hn;have:=hn.1;simp only[aw,cF,hn.2,if_true,NP,NQ]at this;omega
theorem wU (l:List Obj) (k:Key) (hl:l.length<=9223372036854775807):((decide (0<=aD k)&&decide (aD k<aJ (aa l)))=true->aO IntKind.i64 (aJ (aa l)-1))/\
  ((decide (0<=aD k)&&decide (aD k<aJ (aa l)))=true->
    0<=nu (aD k) (aJ (aa l)-1)/\nu (aD k) (aJ (aa l)-1)< ↑(aa l))/\
    ((decide (0<=aD k)&&decide (aD k<aJ (aa l)))=true->
      (nu (aD k) (aJ (aa l)-1)).toNat<aa l)/\
      (decide (0<=aD k)&&decide (aD k<aJ (aa l))&&
        bL k (aq l (nu (aD k) (aJ (aa l)-1)).toNat free))=
       dU l k:=by
 unfold aJ aa
 have hm:0<=aD k->aD k<(l.length:Int)->nu (aD k) ((l.length:Int)-1)=aD k:=fun h1 h2=>by
  unfold nu;rw[NW (by omega)]
 simp only[NP,NQ];refine⟨fun h=>by simp only[aO,bE];omega,fun h=>by rw[hm h.1 h.2];exact h,fun h=>by rw[hm h.1 h.2];omega,?_⟩
 rcases p6 k with⟨h1,h2,h3⟩|⟨h1,h2⟩
 ·by_cases hh:k.oid<(l.length:Int)
  ·rw[hm (by omega) (by omega),h2]
   have h0:az l k.oid=0:=de.2 ⟨h3,hh⟩;unfold dU;simp[h1,h0,h3,hh]
  ·have h0:¬az l k.oid=0:=fun h=>hh (de.1 h).2
   unfold dU;rw[h2];simp[h0,hh]
 ·unfold dU;simp[h1,h2]
theorem BH (l:List Obj) (k:Key):((decide (aJ (aa l)=0)|| !decide (ba k=0)||decide (0<=aD k)&& !dU l k)=true->void=aT l k)/\
  ((decide (aJ (aa l)=0)|| !decide (ba k=0)||decide (0<=aD k)&& !dU l k)=false->k=aT l k):=by
 have hc:(!decide (ba k=0))= !aw k:=by unfold ba;cases aw k<;>simp
 have hd:decide (0<=aD k)=aX k:=by
  rcases p6 k with⟨h1,h2,h3⟩|⟨h1,h2⟩
  ·rw[h1,h2];simpa using h3
  ·rw[h1,h2];simp
 have he:decide (aJ (aa l)=0)=bH l:=by
  unfold bH aJ;rw[decide_eq_decide];omega
 rw[hc,hd,he];unfold aT;exact⟨fun h=>by rw[h];rfl,fun h=>by rw[h];rfl⟩
theorem E9 {L M:List Obj} (h:L.length=M.length) (h2:∀j:Nat,j<L.length->aq L j free=aq M j free):L=M:=by
 apply List.ext_getElem h
 intro i h3 h4;have:=h2 i h3;unfold aq at this;simpa[NV,h3,h4]using this
theorem EZ {L M:List Obj} {g:Int} (hg:kc L M g) (hge:(aa L:Int)<=g):(decide (g=aJ (aa M))&&decide (dg L=g))=hJ L M:=by
 obtain⟨g0,g1,g2,g3⟩:=hg;have e:g=(L.length:Int):=by unfold aa at *;omega
 subst e;unfold hJ dg aJ aa;cases hd:decide (L=M)with
 |true=>
  have:=NU hd;subst this;simp
 |false=>
  have hne:=NT hd;simp only[decide_true,Bool.and_true,decide_eq_false_iff_not];intro hl;exact hne (E9 (by omega) fun j hj=>g3 j (by omega))
end Go.Sx
namespace Go.Proofs.Ytmfbohanboiklaa
open Go.Sx
set_option maxRecDepth 100000
theorem EN:
 true=bH []:=by
 rfl
theorem Eo (L:List Sx.Obj):
 decide (aJ (aa L)=0)=bH L:=by
 unfold bH aJ aa;rw[decide_eq_decide];omega
theorem mL:bW Try.prog 45 JZ:=
 CQ (fun _=>rfl) (aM (inl:=bu) (ann:=bZ) aA EN (by kernel_rfl)) (fun L _ _=>aM (inl:=bu) (ann:=bZ) aA (Eo L) (by kernel_rfl))
theorem GI (i:Int):
 (bH []=true->1=az [] i)/\
  (bH []=false->((!decide (i<0))=true->False)/\((!decide (i<0))=false->4=az [] i)):=by
 exact⟨fun _=>rfl,fun h=>by simp[pV]at h⟩
theorem Ga (L:List Sx.Obj) (i:Int):
 (bH L=true->1=az L i)/\
  (bH L=false->
   ((decide (i<0)||decide (aJ (aa L)<=i))=true->4=az L i)/\
     ((decide (i<0)||decide (aJ (aa L)<=i))=false->0=az L i)):=by
 refine⟨fun h=>?_,fun h=>?_⟩
 ·rw[tN.1 h];rfl
 ·rw[xI h];unfold aJ aa;refine⟨fun h1=>?_,fun h1=>?_⟩
  ·simp only[Bool.or_eq_true,NQ]at h1;rw[NX h1]
  ·simp only[Bool.or_eq_false_iff,decide_eq_false_iff_not]at h1;rw[NW (by omega)]
theorem rN:bW Try.prog 24 KO:=
 rp (fI .i64) (fun _ _=>rfl) (fun x _=>aM (inl:=bu) (ann:=bZ) (ak mL aA) (GI x) (by kernel_rfl)) (fun L x _ _ _=>aM (inl:=bu) (ann:=bZ) (ak mL aA) (Ga L x) (by kernel_rfl)) fun _=>rfl
theorem Ex:
 (bH []=true->0=dg [])/\(bH []=false->False):=by
 exact⟨fun _=>rfl,fun h=>by simp[pV]at h⟩
theorem C5 (L:List Sx.Obj):
 (bH L=true->0=dg L)/\(bH L=false->aJ (aa L)=dg L):=by
 exact⟨fun h=>by rw[tN.1 h];rfl,fun _=>rfl⟩
theorem Ab:bW Try.prog 38 J3:=
 CQ (fun _=>rfl) (aM (inl:=bu) (ann:=bZ) (ak mL aA) Ex (by kernel_rfl)) (fun L _ _=>aM (inl:=bu) (ann:=bZ) (ak mL aA) (C5 L) (by kernel_rfl))
theorem FV (i:Int):
 ((!decide (az [] i=0))=true->free=bS [] i/\az [] i=az [] i)/\
   ((!decide (az [] i=0))=false->False):=by
 exact⟨fun _=>⟨rfl,rfl⟩,fun h=>by simp[jX]at h⟩
theorem G4 (L:List Sx.Obj) (i:Int):
 ((!decide (az L i=0))=true->free=bS L i/\az L i=az L i)/\
   ((!decide (az L i=0))=false->
     (0<=i/\i< ↑(aa L))/\i.toNat<aa L/\i.toNat<aa L/\aq L i.toNat free=bS L i/\0=az L i):=by
 refine⟨fun h=>⟨?_,rfl⟩,fun h=>?_⟩
 ·unfold bS;rw[NW (by simpa using h)]
 ·have h:az L i=0:=by simpa using h
  have hb:=de.1 h;unfold bS aa;rw[NX h,h];exact⟨hb,by omega,by omega,rfl,rfl⟩
theorem sb:bW Try.prog 26 KF:=
 rp (fI .i64) (fun _ _=>rfl) (fun x _=>aM (inl:=bu) (ann:=bZ) (ak rN aA) (FV x) (by kernel_rfl)) (fun L x _ _ _=>aM (inl:=bu) (ann:=bZ) (ak rN aA) (G4 L x) (by kernel_rfl)) fun _=>rfl
theorem Cf (k:Key):
 ((!aX k)=true->free=fO [] k/\false=dU [] k)/\
   ((!aX k)=false->
     ((!decide (az [] (ea k)=0)|| !bL k (bS [] (ea k)))=true->
       free=fO [] k/\false=dU [] k)/\
       ((!decide (az [] (ea k)=0)|| !bL k (bS [] (ea k)))=false->
         bS [] (ea k)=fO [] k/\true=dU [] k)):=by
 exact tU [] k
theorem A6 (L:List Sx.Obj) (k:Key):
 ((!aX k)=true->free=fO L k/\false=dU L k)/\
   ((!aX k)=false->
     ((!decide (az L (ea k)=0)|| !bL k (bS L (ea k)))=true->
       free=fO L k/\false=dU L k)/\
       ((!decide (az L (ea k)=0)|| !bL k (bS L (ea k)))=false->
         bS L (ea k)=fO L k/\true=dU L k)):=by
 exact tU L k
theorem xm:bW Try.prog 75 HI:=
 rp gf (fun _ _=>rfl) (fun x _=>aM (inl:=bu) (ann:=bZ) (ak jA (ak sb (ak sS aA))) (Cf x) (by kernel_rfl)) (fun L x _ _ _=>aM (inl:=bu) (ann:=bZ) (ak jA (ak sb (ak sS aA))) (A6 L x) (by kernel_rfl)) fun _=>rfl
end Go.Proofs.Ytmfbohanboiklaa
namespace Go.Proofs.Ytmfbohanboiklaa
open Go.Sx
set_option maxRecDepth 100000
theorem J7 (n:Int):
 ((decide (n<1)||decide (64<n))=true->e9 n=false/\True)/\
   ((decide (n<1)||decide (64<n))=false->
     (∃g,vn n g/\Value.pointer none=Value.pointer none/\n=n/\0=g/\ []=gC g)/\
      ∀(g:Int),
       vn n g->
        (decide (g<n)=true->
          ep (aa (gC g)) 8/\
           aO IntKind.i64 (g+1)/\
            ∃g',
             vn n g'/\
              (n-g').toNat<(n-g).toNat/\
               Value.pointer none=Value.pointer none/\
                n=n/\g+1=g'/\bg (gC g) free=gC g')/\
         (decide (g<n)=false->e9 n=true/\True/\gC g=gC n)):=by
 refine⟨fun h=>⟨?_,trivial⟩,fun h=>⟨⟨0,?_,rfl,rfl,rfl,rfl⟩,fun g hg=>⟨fun hlt=>?_,fun hge=>?_⟩⟩⟩
 ·simp only[Bool.or_eq_true,NQ]at h;unfold e9;rw[Bool.and_eq_false_iff,decide_eq_false_iff_not,decide_eq_false_iff_not];omega
 ·simp only[Bool.or_eq_false_iff,decide_eq_false_iff_not]at h;exact⟨by omega,by omega⟩
 ·simp only[Bool.or_eq_false_iff,decide_eq_false_iff_not]at h;obtain⟨g0,g1⟩:=hg;have hlt:=NU hlt;refine⟨?_,?_,g+1,⟨by omega,by omega⟩,by omega,rfl,rfl,rfl,Ge g0⟩
  ·unfold ep aa gC;simp only[List.length_replicate,maxLen];omega
  ·simp only[aO,bE];omega
 ·simp only[Bool.or_eq_false_iff,decide_eq_false_iff_not]at h;obtain⟨g0,g1⟩:=hg;have hge:=NT hge;exact⟨mw.2 (by omega),trivial,by rw[show g=n by omega]⟩
theorem C8 (n:Int):ai Try.prog 44 [.it .i64 n] [] (MJ n) (fun _ _=>False):=aM (inl:=bu) (ann:=(jb [(44,5,Nv [2,3,4,13] (fun g=> [(14,.it .i64 g)]) 0 tS eS gC (vn n) n)])) aA (J7 n) (by kernel_rfl)
theorem JM:tr Try.prog 44 Iu:=by
 intro args res K KP h;unfold Iu at h;split at h
 ·split at h
  ·rename_i n hn;refine ai.args (gm.rd (fI .i64) hn gm.nil) ?_;cases hb:e9 n with
   |false=>exact ai.pure rfl rfl ((C8 n).mono (fun v r hv=>C0 hb hv) fun _ _ h=>h) (h.1 hb)
   |true=>
    refine ai.Hl (F:=fun j=> .tp [.lp j 0,.ci .i64 0]) rfl ?_ (h.2 hb)
    refine ai.shut (C8 n) fun v r hv=>?_
    obtain⟨j,r',_,h1,h2,h3⟩:=AP hb hv;rcases h1 with rfl|h1
    ·exact .inl ⟨j,h2,h3⟩
    ·exact .inr ⟨j,r',h1,j,h2,h3⟩
  ·exact h.elim
 ·exact h.elim
theorem F6 (i:Int) (o:Sx.Obj):
 ((!decide (az [] i=0))=true->az [] i=cq [] i o)/\((!decide (az [] i=0))=false->False):=by
 refine⟨fun _=>?_,fun h=>by simp[jX]at h⟩
 rw[zP,jX]
theorem F9 (i:Int) (o:Sx.Obj):ai Try.prog 12 [pK,.it .i64 i,.ob o] [] (nc (.it .i64 (cq [] i o))) (fun _ _=>False):=aM (inl:=bu) (ann:=bZ) (ak rN (ak vO aA)) (F6 i o) (by kernel_rfl)
theorem GK (L:List Sx.Obj) (i:Int) (o:Sx.Obj):
 ((!decide (az L i=0))=true->az L i=cq L i o/\L=dv L i o)/\
   ((!decide (az L i=0))=false->
     ((!decide (bk o (aJ (aa L))=0))=true->bk o (aJ (aa L))=cq L i o/\L=dv L i o)/\
       ((!decide (bk o (aJ (aa L))=0))=false->
         (0<=i/\i< ↑(aa L))/\i.toNat<aa L/\0=cq L i o/\eN L i.toNat o=dv L i o)):=by
 refine⟨fun h=>?_,fun h=>⟨fun h2=>?_,fun h2=>?_⟩⟩
 ·obtain⟨a,b⟩:=zN (o:=o) (show az L i≠0 by simpa using h)
  rw[a,b];exact⟨rfl,rfl⟩
 ·obtain⟨a,b⟩:=CK (o:=o) (show az L i=0 by simpa using h) (show bk o (aa L:Int)≠0 by unfold aJ at h2;simpa using h2)
  rw[a,b];exact⟨rfl,rfl⟩
 ·have h:=(show az L i=0 by simpa using h)
  have hb:=de.1 h;obtain⟨a,b⟩:=AY (o:=o) h (show bk o (aa L:Int)=0 by unfold aJ at h2;simpa using h2)
  rw[a,b];exact⟨hb,by unfold aa;omega,rfl,rfl⟩
theorem He (L:List Sx.Obj) (i:Int) (o:Sx.Obj):ai Try.prog 12 [.lp 0 0,.it .i64 i,.ob o] [.blk tS (.ag [.sa 1]),.obs eS 2 L,.gen 1] (Me (.it .i64 (cq L i o)) (dv L i o)) (fun _ _=>False):=aM (inl:=bu) (ann:=bZ) (ak rN (ak vO aA)) (GK L i o) (by kernel_rfl)
theorem GS (i:Int) (o:Sx.Obj):
 ((!decide (az [] i=0))=true->az [] i=cq [] i o)/\
   ((!decide (az [] i=0))=false->
     ((!decide (bk o 0=0))=true->bk o 0=cq [] i o)/\((!decide (bk o 0=0))=false->False)):=by
 refine⟨fun _=>?_,fun h=>by simp[jX]at h⟩
 rw[zP,jX]
theorem GV (i:Int) (o:Sx.Obj):ai Try.prog 12 [.lp 0 0,.it .i64 i,.ob o] [.ro (.blk tS (.ag [.nl (.slice none 0 0)]))] (nc (.it .i64 (cq [] i o))) (fun _ _=>False):=aM (inl:=bu) (ann:=bZ) (ak rN (ak vO aA)) (GS i o) (by kernel_rfl)
theorem zq:tr Try.prog 12 Ik:=by
 intro args res K KP h;unfold Ik at h;split at h
 ·split at h
  ·rename_i i hi;split at h
   ·rename_i o ho;refine ai.args (gm.fF (gm.rd (fI .i64) hi (gm.rd u7 ho gm.nil))) ?_;split at h
    ·split at h
     ·exact ai.pure rfl rfl ((F9 i o).mono (fun _ _ h=>cj h) fun _ _ h=>h) h
     ·exact h.elim
    ·split at h
     ·rename_i hoff;have hoff:=NR.1 hoff;subst hoff;split at h
      ·rename_i hr;split at h
       ·rename_i hc;simp only[NP,NR]at hc;obtain⟨rfl,rfl⟩:=hc;exact MP hr rfl rfl (fun _ _=>He _ i o) h
       ·exact h.elim
      ·rename_i hr;split at h
       ·rename_i hc;simp only[NP,NR]at hc;obtain⟨rfl,hz⟩:=hc;have:=EK hz;subst this;refine ai.Lb (r0:= .blk tS (.ag [.nl (.slice none 0 0)])) (by unfold bp;rw[hr]) (by simp) (fun κ=>rfl) rfl rfl ((GV i o).mono (fun _ _ h=>cj h) fun _ _ h=>h) h
       ·exact h.elim
      ·exact h.elim
     ·exact h.elim
    ·exact h.elim
   ·exact h.elim
  ·exact h.elim
 ·exact h.elim
theorem Ds (l:List Sx.Obj) (hl:l.length<=9223372036854775807):
 ((decide (aJ (aa l)<1)||decide (64<aJ (aa l)))=true->false=bX l)/\
   ((decide (aJ (aa l)<1)||decide (64<aJ (aa l)))=false->
     (∃g,k7 l g/\false=false/\0=g/\l=l)/\
      ∀(g:Int),
       k7 l g->
        (decide (g<aJ (aa l))=true->
          (0<=g/\g< ↑(aa l))/\
           g.toNat<aa l/\
            ((!decide (bk (aq l g.toNat free) (aJ (aa l))=0))=true->false=bX l)/\
              ((!decide (bk (aq l g.toNat free) (aJ (aa l))=0))=false->
                aO IntKind.i64 (g+1)/\
                 ∃g',
                  k7 l g'/\
                   (aJ (aa l)-g').toNat<(aJ (aa l)-g).toNat/\
                    false=false/\g+1=g'/\l=l))/\
         (decide (g<aJ (aa l))=false->true=bX l)):=by
 refine⟨fun h=>?_,fun h=>⟨⟨0,⟨by omega,by omega,fun j hj=>by omega⟩,rfl,rfl,rfl⟩,fun g hg=>⟨fun hlt=>?_,fun hge=>?_⟩⟩⟩
 ·simp only[Bool.or_eq_true,NQ]at h;simp only[fB]at h;exact(oF fun hh=>by have h1:=hh.1;have h2:=hh.2.1;omega).symm
 ·obtain⟨g0,g1,g2⟩:=hg;have hlt:=NU hlt;unfold aJ at *;refine⟨⟨g0,hlt⟩,by omega,fun hb=>(oF fun hh=>?_).symm,fun hb=>⟨?_,g+1,⟨by omega,by omega,fun j hj=>?_⟩,by omega,rfl,rfl,rfl⟩⟩
  ·have:=hh.2.2 g.toNat (by unfold aa at hlt;omega)
   unfold bk aa at hb;rw[this]at hb;simp at hb
  ·simp only[aO,bE];unfold aa at *;omega
  ·by_cases e:(j:Int)<g
   ·exact g2 j e
   ·have:j=g.toNat:=by omega
    subst this;rcases nE (aq l g.toNat free) (aa l:Int)with⟨h1,h2⟩|⟨h1,h2⟩
    ·exact h2
    ·rw[h1]at hb;simp at hb
 ·obtain⟨g0,g1,g2⟩:=hg;have hge:=NT hge;have hle:=kL l;simp only[Bool.or_eq_false_iff,decide_eq_false_iff_not]at h;simp only[fB]at h hge;exact(gR.2 ⟨by omega,by omega,fun i hi=>g2 i (by omega)⟩).symm
theorem Fv:bW Try.prog 20 G9:=Kg (fun _=>rfl) fun l _ hl=>aM (inl:=bu) (ann:=(jb [(20,4,FL [0,2] (fun g=> [(3,.it .i64 g)]) (k7 l) (aJ (aa l)))])) (ak Es aA) (Ds l hl) (by kernel_rfl)
theorem zb (l:List Sx.Obj) (k:Key) (hl:l.length<=9223372036854775807):
 ((decide (0<=aD k)&&decide (aD k<aJ (aa l)))=true->aO IntKind.i64 (aJ (aa l)-1))/\
   ((decide (0<=aD k)&&decide (aD k<aJ (aa l)))=true->
     0<=nu (aD k) (aJ (aa l)-1)/\nu (aD k) (aJ (aa l)-1)< ↑(aa l))/\
     ((decide (0<=aD k)&&decide (aD k<aJ (aa l)))=true->
       (nu (aD k) (aJ (aa l)-1)).toNat<aa l)/\
       (decide (0<=aD k)&&decide (aD k<aJ (aa l))&&
         bL k (aq l (nu (aD k) (aJ (aa l)-1)).toNat free))=
        dU l k:=by
 exact wU l k hl
theorem yR:bW Try.prog 57 BK:=Ap gf (fun _ _=>rfl) (fun l k _ hl _=>aM (inl:=bu) (ann:=bZ) (ak jq (ak zF aA)) (zb l k hl) (by kernel_rfl)) fun _=>rfl
theorem KK (l:List Sx.Obj) (hl:l.length<=9223372036854775807):
 true=true/\
  (e9 (aJ (aa l))=false->bX l=false/\True)/\
   (e9 (aJ (aa l))=true->
    (∃g,
      k7 l g/\
       Value.pointer none=Value.pointer none/\
        aJ (aa l)=aJ (aa l)/\0=g/\l=l/\gC (aJ (aa l))=eK l g)/\
     ∀(g:Int),
      k7 l g->
       (decide (g<aJ (aa l))=true->
         (0<=g/\g< ↑(aa l))/\
          g.toNat<aa l/\
           true=true/\
            ((!decide (cq (eK l g) g (aq l g.toNat free)=0))=true->
              bX l=false/\cq (eK l g) g (aq l g.toNat free)=2)/\
              ((!decide (cq (eK l g) g (aq l g.toNat free)=0))=false->
                aO IntKind.i64 (g+1)/\
                 ∃g',
                  k7 l g'/\
                   (aJ (aa l)-g').toNat<(aJ (aa l)-g).toNat/\
                    Value.pointer none=Value.pointer none/\
                     aJ (aa l)=aJ (aa l)/\
                      g+1=g'/\l=l/\dv (eK l g) g (aq l g.toNat free)=eK l g'))/\
        (decide (g<aJ (aa l))=false->bX l=true/\True/\eK l g=l)):=by
 refine⟨rfl,fun h=>⟨oF fun hh=>?_,trivial⟩,fun h=>⟨⟨0,⟨by omega,by omega,fun j hj=>by omega⟩,rfl,rfl,rfl,rfl,EH⟩,fun g hg=>⟨fun hlt=>?_,fun hge=>?_⟩⟩⟩
 ·have:e9 (aJ (aa l))=true:=mw.2 (by unfold aJ aa;omega)
  rw[this]at h;simp at h
 ·obtain⟨g0,g1,g2⟩:=hg;have hlt:=NU hlt;have h:=mw.1 h;have hle:=kL l;simp only[fB]at *;rw[Jj g0 hlt];refine⟨⟨g0,hlt⟩,by omega,trivial,fun hb=>⟨oF fun hh=>?_,?_⟩,fun hb=>⟨?_,g+1,⟨by omega,by omega,fun j hj=>?_⟩,by omega,trivial,trivial,rfl,trivial,G8 g0 hlt (by simpa using hb)⟩⟩
  ·have:=hh.2.2 g.toNat (by omega)
   unfold bk at hb;rw[this]at hb;simp at hb
  ·rcases nE (aq l g.toNat free) (l.length:Int)with⟨h1,h2⟩|⟨h1,h2⟩
   ·rw[h1]at hb;simp at hb
   ·exact h1
  ·simp only[aO,bE];omega
  ·by_cases e:(j:Int)<g
   ·exact g2 j e
   ·have:j=g.toNat:=by omega
    subst this;rcases nE (aq l g.toNat free) (l.length:Int)with⟨h1,h2⟩|⟨h1,h2⟩
    ·exact h2
    ·rw[h1]at hb;simp at hb
 ·obtain⟨g0,g1,g2⟩:=hg;have hge:=NT hge;have h:=mw.1 h;have hle:=kL l;simp only[fB]at *;exact⟨gR.2 ⟨by omega,by omega,fun i hi=>g2 i (by omega)⟩,trivial,HA (by omega)⟩
theorem Ie (l:List Sx.Obj) (own:Option Nat):ai Try.prog 21 [.sa 0] [.ro (.arr own 163 (.ob l))] (L8 l) (fun _ _=>False):=
 ai.K5 (ai.xR (k:=0) rfl fun _ hl=>(cE (inl:=bu) (ann:=(jb [(21,5,Mh [0,2,3,4,5,18,19] (fun g=> [(20,.it .i64 g)]) 1 (fun g=> .store tS eS (eK l g)) (k7 l) (aJ (aa l)))])) aA (bz JM (bz zq cH)) (KK l hl) (by kernel_rfl):ai Try.prog 21 [.sa 0] [.ro (.arr none 163 (.ob l))] (L8 l) (fun _ _=>False)))
theorem Is:tr Try.prog 21 Jh:=by
 intro args res K KP h;unfold Jh at h;split at h
 ·split at h
  ·split at h
   ·rename_i hr;split at h
    ·rename_i he;have he:=NR.1 he;subst he;split at h
     ·rename_i l;cases hb:bX l with
      |false=>exact ai.Lp hr rfl rfl ((Ie l _).mono (fun v r hv=>C0 hb (zT hv).1) fun _ _ h=>h) (h.1 hb)
      |true=>
       refine ai.Fu (F:=fun j=> .tp [.lp j 0,.ci .i64 0]) hr rfl ?_ (h.2 hb)
       refine ai.shut (Ie l _) fun v r hv=>?_
       obtain⟨hv,h0⟩:=zT hv;obtain⟨j,r',hs,h1,h2,h3⟩:=AP hb hv
       have hj:1<=j:=by
        rcases Nat.eq_zero_or_pos j with rfl|hj
        ·rw[h0]at hs;simp at hs
        ·exact hj
       rcases h1 with rfl|h1
       ·exact .inl ⟨j,hj,h2,h3⟩
       ·exact .inr ⟨j,r',h1,j,hj,h2,h3⟩
     ·exact h.elim
    ·exact h.elim
   ·exact h.elim
  ·exact h.elim
 ·exact h.elim
end Go.Proofs.Ytmfbohanboiklaa
namespace Go.Sx
def eJ (r b:Int):Bool:=decide ((r.tdiv b).tmod 2=1)
def cA (r m g:Int):Int:=(if 2<=g/\(eJ r 1||eJ m 1)=true then 1 else 0)+(if 4<=g/\(eJ r 2||eJ m 2)=true then 2 else 0)+(if 8<=g/\(eJ r 4||eJ m 4)=true then 4 else 0)
def gw (r m:Int):Int:=cA r m 8
def pI (g:Int):Prop:=g=1\/g=2\/g=4\/g=8
def ua (k:Key) (r:Int):Key:= {k with rights:=r}
def cI (k:Key):Key:=if k.kind=2 then ua k (gw k.rights 3)else if k.kind=3 then ua k 1 else if k.kind=1\/k.kind=8 then k else void
def cD (k:Key):Key:=if aw k then cI k else void
def G3:Ct:=Iy (rI .i64) (rI .i64) fun r m=> .it .i64 (gw r m)
def Gr:Ct:=FG rK fun k=> .key (cI k)
def Et:Ct:=FG rK fun k=> .tp [.key (cD k),.it .i64 (ba k)]
def br (k:Key):Bool:=decide ((k.rights.tdiv 2).tmod 2=1)
def vY (L:List Obj) (o:Obj) (k:Key) (i:Int):Key:=if br k then cI (aT L (o.slots.at i.toNat))else aT L (o.slots.at i.toNat)
def dc (L:List Obj) (k:Key) (i:Int):Key:=vY L (aq L k.oid.toNat free) k i
def vt (L:List Obj) (k:Key) (i:Int):Prop:=0<=i/\i<16/\0<=k.oid/\k.oid<(aa L:Int)
def dW (L:List Obj):Prop:=bX L=true
def bR (g:Int):Prop:=0<=g/\g<=16
def kA:Arg Key:=Dz rK V.key
def iA:Arg Int:=Dz (rI .i64) (V.it .i64)
def bA:Arg Bool:=Dz toBool V.bo
def L1 (o:Option (List Obj)):List Obj:=match o with
 |none=> []
 |some L=>L
def Kl:Ct:=FT (cy Jn (cy kA (cy iA j8))) (fun x=>some (vt x.1 x.2.1 x.2.2.1)) fun x=> .key (dc x.1 x.2.1 x.2.2.1)
def tO:Nat:=33
theorem vo {r g:Int} (hr:bE .i64 r) (hg:g=1\/g=2\/g=4\/g=8):bE .i64 (r.tdiv g):=by
 simp only[bE]at *;rcases Int.le_total 0 r with h|h
 ·rw[Int.tdiv_eq_ediv_of_nonneg h];rcases hg with rfl|rfl|rfl|rfl<;>omega
 ·obtain⟨s,rfl⟩:∃s,r= -s:=⟨-r,by omega⟩
  rw[Int.neg_tdiv,Int.tdiv_eq_ediv_of_nonneg (by omega)]
  rcases hg with rfl|rfl|rfl|rfl<;>omega
theorem rZ (x:Int):bE .i64 (x.tmod 2):=by
 have h1:=Int.tmod_lt_of_pos x (show(0:Int)<2 by omega)
 have h2:=Int.lt_tmod_of_pos x (show(0:Int)<2 by omega)
 simp only[bE];omega
theorem D1 {r m g:Int}:0<=cA r m g/\cA r m g<=7:=by
 unfold cA;repeat' split
 all_goals omega
theorem Fm {r:Int} (h0:0<=r) (h1:r<=7):b7 .or .i64 r 3=gw r 3:=by
 have:r=0\/r=1\/r=2\/r=3\/r=4\/r=5\/r=6\/r=7:=by omega
 rcases this with rfl|rfl|rfl|rfl|rfl|rfl|rfl|rfl<;>decide
theorem EX {r:Int} (h0:0<=r) (h1:r<=1):b7 .or .i64 r 1=1:=by
 have:r=0\/r=1:=by omega
 rcases this with rfl|rfl<;>decide
theorem oW {k:Key} (h:aw k=true):0<=k.rights/\k.rights<=fU k.kind:=by
 simp only[aw,NP,NQ]at h;omega
theorem zc:aw void=true:=by decide
theorem kh (L:List Obj) (k:Key):aw (aT L k)=true:=by
 unfold aT;split
 ·exact zc
 ·rename_i h;simp only[Bool.or_eq_true,not_or,Bool.not_eq_true,Bool.not_eq_false']at h;exact h.1.2
theorem kM (L:List Obj) (k:Key):cD (aT L k)=cI (aT L k):=by unfold cD;rw[kh,NX rfl]
theorem MX {r:Int} (h0:0<=r) (h1:r<=7):decide (b7 .and .i64 r 2=0)= !decide ((r.tdiv 2).tmod 2=1):=by
 have:r=0\/r=1\/r=2\/r=3\/r=4\/r=5\/r=6\/r=7:=by omega
 rcases this with rfl|rfl|rfl|rfl|rfl|rfl|rfl|rfl<;>decide
theorem Ac:ll kA:=vW gf (fun _=>rfl) fun v x h=>KG h
theorem LF:ll bA:=vW E7 (fun _=>rfl) fun v x h=>by cases v<;>simp[toBool]at h<;>rfl
theorem mX:ll iA:=vW (fI .i64) (fun _=>rfl) fun v x h=>by cases v<;>simp[rI,toInt]at h<;>rfl
theorem uk {L M:List Obj} {g:Int} (hg:kc L M g) (hge:(aa L:Int)<=g):decide (g=aJ (aa M))=hJ L M:=by
 have:=EZ hg hge
 have e:dg L=g:=by
  have:=hg.2.1;unfold dg;omega
 rw[decide_eq_true e,Bool.and_true]at this;exact this
structure Ni where
 kind:Int
 slot:Int
 key:Key
 other:Key
def eO (l:List Obj):Bool:=decide ((aa l:Int)<=20)&&bX l
def Kc:qp:=L7 (cy Jn j8) (fun _=>True) (fun x=>eO x.1) (fun _=>pK) (fun _ n=> .lp n 0) (fun x=> .store tS eS x.1)
theorem Fp (k:Key):tX k k=true:=by simp[tX]
def Ni.wf (x:Ni):Prop:=bE .i64 x.kind/\bE .i64 x.slot/\x.key.wf/\x.other.wf
section
variable {L:List Obj} {k:Key} {s:b6} (h0:0<=k.oid) (h1:k.oid<(L.length:Int))
include h0 h1
end
theorem mI {L:List Obj} {i:Nat} {x:Obj} (hi:i<L.length) (j:Nat):aq (eN L i x) j free=if j=i then x else aq L j free:=by
 by_cases e:j=i
 ·subst e;rw[NX rfl];simp[aq,eN,NV,hi]
 ·rw[NW e];simp[aq,eN,NV,List.getElem?_set,Ne.symm e]
end Go.Sx
set_option maxRecDepth 100000
namespace Go.Sx
end Go.Sx
set_option maxRecDepth 100000
namespace Go.Sx
def Mv {α:Type} (B:lG α) (l:List V):Option α:=match B.rd [] l with
 |some p=>match p.1 with
  | []=>some p.2
  |_=>none
 |none=>none
theorem Ji {α:Type} {B:lG α} (hB:jZ B) (hid:∀a,jJ (B.cn a 0)=true):∀l x,Mv B l=some x->gm l (B.cn x 0):=fun l x h=>by
 unfold Mv at h;split at h
 case h_2=>simp at h
 rename_i p hp;obtain⟨pls,a⟩:=p;split at h
 case h_2=>simp at h
 rename_i h1;simp only at h1;subst h1;simp only[NN]at h;subst h;obtain⟨_,_,_,b4⟩:=hB _ _ _ _ hp;obtain⟨c1,c2⟩:=b4 [] [];intro J K hk;have e1:=(c1 J K hk).1;have e2:=c2 K hk;have e3:cg (fun _=>False) (B.cn a 0):=ke _ (hid a) e2
 refine⟨?_,ke _ (hid a) e2⟩;rw[<-e1];exact cN (N:=fun _=>False) (fun _ h=>h.elim) _ e3
theorem iM {L:List Obj} (h:dW L):1<=L.length/\L.length<=64:=⟨(gR.1 h).1,(gR.1 h).2.1⟩
end Go.Sx
