import Derived.Test.YtmfbohanboiklaaKO
import Derived.Test.YtmfbohanboiklaaSxF
set_option linter.unusedSimpArgs false
set_option linter.unusedVariables false
namespace Go.Sx
def bQ (L:List Obj):Bool:=decide (aa L=0)
def aC (L:List Obj) (oid:Int):Int:=if aa L=0 then 1 else if oid<0\/(aa L:Int)<=oid then 4 else 0
def bS (L:List Obj) (oid:Int):Obj:=if aC L oid=0 then au L oid.toNat free else free
def c9 (L:List Obj):Int:=(aa L:Int)
def ep (L:List Obj) (k:Key):Bool:=aW k&&decide (aC L k.oid=0)&&bP k (au L k.oid.toNat free)
def fG (L:List Obj) (k:Key):Obj:=if ep L k then au L k.oid.toNat free else free
def bc (L:List Obj) (k:Key):Key:=if bQ L|| !aB k||(aW k&& !ep L k)then void else k
def eW (n:Int):Bool:=decide (1<=n)&&decide (n<=64)
def gx (n:Int):List Obj:=List.replicate n.toNat free
def dO (L:List Obj) (i:Int) (o:Obj):List Obj:=if aC L i=0/\bh o (aa L:Int)=0 then eI L i.toNat o else L
def cY (L:List Obj) (i:Int) (o:Obj):Int:=if aC L i=0 then bh o (aa L:Int)else aC L i
def bV (l:List Obj):Bool:=decide (1<=aa l)&&decide (aa l<=64)&&(List.range (aa l)).all fun i=>dI (au l i free) (aa l:Int)
def eG (l:List Obj) (g:Int):List Obj:=l.take g.toNat++List.replicate (l.length-g.toNat) free
def kG (l:List Obj) (g:Int):Prop:=0<=g/\g<=(aa l:Int)/\∀j:Nat,(j:Int)<g->dI (au l j free) (aa l:Int)=true
def vg (n i:Int):Prop:=0<=i/\i<=n
abbrev tS:Nat:=65
abbrev eS:Nat:=66
def HV (c:Bool) (M:List Obj) (v:V) (r:List ah):Prop:=
 match v with
 | .tp l=>match l with
   | [a,b]=>match a with
     | .nl p=>match p with
       | .pointer none=>c=false/\nz (.ci .i64 2) b r
       |_=>False
     | .lp j off=>match zi r j with
       |some (t,e,L)=>if off==0&&t==tS&&e==eS then c=true/\nz (.ci .i64 0) b r/\L=M else False
       |none=>False
     |_=>False
   |_=>False
 |_=>False
def LZ (n:Int):V->List ah->Prop:=HV (eW n) (gx n)
def Lt (l:List Obj) (v:V) (r:List ah):Prop:=
 match ae r 0 with
 | .ro _=>HV (bV l) l v r
 |_=>False
theorem Au {l:List Obj} {v:V} {r:List ah} (h:Lt l v r):HV (bV l) l v r/\zi r 0=none:=by
 unfold Lt at h;split at h
 ·rename_i hr;refine⟨h,?_⟩;unfold zi wR;rw[hr]
 ·exact h.elim
def Ly (x:V) (M:List Obj) (v:V) (r:List ah):Prop:=
 match wR r 0 with
 |some (t,e,_,L)=>if t==tS&&e==eS then nz x v r/\L=M else False
 |none=>False
def HF:pU:=fun args res K=>
 match args with
 | [a]=>match rI .i64 a with
   |some n=>(eW n=false->K (.tp [o9,.ci .i64 2]) res)/\(eW n=true->K (.tp [.lp res.length 0,.ci .i64 0]) (res++ [.store tS eS (gx n)]))
   |none=>False
 |_=>False
def LN (c:V):Bool:=
 match c with
 | .ag l=>match l with
   | [x]=>match x with
     | .nl v=>match v with
       | .slice none 0 0=>true
       |_=>false
     |_=>false
   |_=>false
 |_=>false
theorem CY {c:V} (h:LN c=true):c= .ag [.nl (.slice none 0 0)]:=by
 unfold LN at h;split at h
 ·split at h
  ·split at h
   ·split at h
    ·rfl
    ·simp at h
   ·simp at h
  ·simp at h
 ·simp at h
def HT:pU:=fun args res K=>
 match args with
 | [a,b,c]=>match rI .i64 b with
   |some i=>match rO c with
    |some o=>match a with
     | .nl v=>match v with
       | .pointer none=>K (.it .i64 (cY [] i o)) res
       |_=>False
     | .lp k off=>if off==0 then match ae res k with
       | .store t e L=>if t==tS&&e==eS then K (.it .i64 (cY L i o)) (aI res k (.store tS eS (dO L i o)))else False
       | .blk t c=>if t==tS&&LN c then K (.it .i64 (cY [] i o)) res else False
       |_=>False
       else False
     |_=>False
    |none=>False
   |none=>False
 |_=>False
structure MI where
 puts:Bool
 oid:Int
 ob:Obj
def MI.wf (x:MI):Prop:=bC .i64 x.oid/\x.ob.wf
def Hs:Ct:=JV (.bo true)
def hJ (L M:List Obj):Bool:=decide (L=M)
def j5 (L M:List Obj) (g:Int):Prop:=0<=g/\g<=(aa L:Int)/\g<=(aa M:Int)/\∀j:Nat,(j:Int)<g->au L j free=au M j free
def Jf:Ct:=ID tS eS fun L M=> .bo (hJ L M)
abbrev MY:V:= .nl (.slice none 0 0)
theorem fw {α:Type} (l:List α):aK (aa l)=(l.length:Int):=rfl
theorem lr {α:Type} (l:List α):((aa l:Nat):Int)=(l.length:Int):=rfl
def Jc:pU:=fun args res K=>
 match args with
 | [a]=>match a with
   | .sa k=>match bn res k with
     | .arr _ e l=>if e==163 then match l with
       | .ob l=>(bV l=false->K (.tp [o9,.ci .i64 2]) res)/\(bV l=true->K (.tp [.lp res.length 0,.ci .i64 0]) (res++ [.store tS eS l]))
       |_=>False
       else False
     |_=>False
   |_=>False
 |_=>False
def FE:Ct:=Mg fun l=> .bo (bV l)
def A2:Ct:=GD rK fun l k=> .bo (ep l k)
def GK:Ct:=GD rK fun l k=> .key (bc l k)
def Ir:Ct:=LB tS eS fun L=> .bo (bQ L)
def Kc:Ct:=A6 tS eS (rI .i64) fun L i=> .it .i64 (aC L i)
def K6:Ct:=A6 tS eS (rI .i64) fun L i=> .tp [.ob (bS L i),.it .i64 (aC L i)]
def Ib:Ct:=LB tS eS fun L=> .it .i64 (c9 L)
def F7:Ct:=A6 tS eS rK fun L k=> .tp [.ob (fG L k),.bo (ep L k)]
def IY:Ct:=A6 tS eS rK fun L k=> .key (bc L k)
theorem pk:bQ []=true:=rfl
theorem uw {L:List Obj}:bQ L=true↔L= []:=by
 unfold bQ aa;simp[List.length_eq_zero_iff]
theorem jI (i:Int):aC [] i=1:=rfl
theorem wB {L:List Obj} (h:bQ L=false) (i:Int):aC L i=if i<0\/(L.length:Int)<=i then 4 else 0:=by
 have:L≠ []:=fun e=>by rw[e]at h;simp[pk]at h
 unfold aC aa;rw[Nf (by simpa[List.length_eq_zero_iff]using this)]
theorem ec {L:List Obj} {i:Int}:aC L i=0↔0<=i/\i<(L.length:Int):=by
 unfold aC aa;split
 ·omega
 ·split<;>omega
theorem tx (L:List Obj) (k:Key):((!aW k)=true->free=fG L k/\false=ep L k)/\
  ((!aW k)=false->
    ((!decide (aC L (dV k)=0)|| !bP k (bS L (dV k)))=true->
      free=fG L k/\false=ep L k)/\
      ((!decide (aC L (dV k)=0)|| !bP k (bS L (dV k)))=false->
        bS L (dV k)=fG L k/\true=ep L k)):=by
 have fin:∀b,ep L k=b->(b=false->free=fG L k)/\b=ep L k:=fun b h=>⟨fun hb=>by unfold fG;rw[h,hb];rfl,h.symm⟩
 refine⟨fun h=>?_,fun h=>?_⟩
 ·have h:aW k=false:=by simpa using h
  have:=fin false (by unfold ep;rw[h];rfl)
  exact⟨this.1 rfl,this.2⟩
 ·have h:aW k=true:=by simpa using h
  have ho:dV k=k.oid:=by unfold dV;rw[Ng h]
  rw[ho];by_cases hh:aC L k.oid=0
  ·have hg:bS L k.oid=au L k.oid.toNat free:=by unfold bS;rw[Ng hh]
   rw[hg];have e:ep L k=bP k (au L k.oid.toNat free):=by unfold ep;simp[h,hh]
   refine⟨fun hc=>?_,fun hc=>?_⟩
   ·have hc:bP k (au L k.oid.toNat free)=false:=by simpa[hh]using hc
    have:=fin false (by rw[e,hc])
    exact⟨this.1 rfl,this.2⟩
   ·have hc:bP k (au L k.oid.toNat free)=true:=by simpa[hh]using hc
    have:=fin true (by rw[e,hc])
    refine⟨?_,this.2⟩;unfold fG;rw[e,hc];rfl
  ·have:=fin false (by unfold ep;simp[hh])
   exact⟨fun _=>⟨this.1 rfl,this.2⟩,fun hc=>by simp[hh]at hc⟩
theorem wo (L:List Obj) (k:Key):((bQ L|| !decide (aY k=0))=true->void=bc L k)/\
  ((bQ L|| !decide (aY k=0))=false->
    ((aW k&& !ep L k)=true->void=bc L k)/\((aW k&& !ep L k)=false->k=bc L k)):=by
 have hc:(!decide (aY k=0))= !aB k:=by unfold aY;cases aB k<;>simp
 rw[hc];unfold bc;refine⟨fun h=>?_,fun h=>⟨fun h2=>?_,fun h2=>?_⟩⟩
 ·rw[Ng];simp only[h,Bool.true_or]
 ·rw[Ng];simp only[h2,Bool.or_true]
 ·rw[Nf];simp only[h,h2];simp
theorem mn {n:Int}:eW n=true↔1<=n/\n<=64:=by simp[eW]
theorem FX {g:Int} (h:0<=g):ba (gx g) free=gx (g+1):=by
 unfold ba gx;rw[show(g+1).toNat=g.toNat+1 by omega,List.replicate_succ']
theorem zL {i:Int} {o:Obj}:cY [] i o=1:=by unfold cY;rw[jI];rfl
theorem zW {L:List Obj} {i:Int} {o:Obj} (h:aC L i≠0):cY L i o=aC L i/\dO L i o=L:=by
 unfold cY dO;rw[Nf h,Nf (fun hh=>h hh.1)];exact⟨rfl,rfl⟩
theorem EE {L:List Obj} {i:Int} {o:Obj} (h:aC L i=0) (h2:bh o (aa L:Int)≠0):cY L i o=bh o (aa L:Int)/\dO L i o=L:=by
 unfold cY dO;rw[Ng h,Nf (fun hh=>h2 hh.2)];exact⟨rfl,rfl⟩
theorem z1 {L:List Obj} {i:Int} {o:Obj} (h:aC L i=0) (h2:bh o (aa L:Int)=0):cY L i o=0/\dO L i o=eI L i.toNat o:=by
 unfold cY dO;rw[Ng h,Ng ⟨h,h2⟩];exact⟨h2,rfl⟩
theorem DF {c:Bool} {M:List Obj} (hn:c=false) {v:V} {r:List ah} (h:HV c M v r):uk (.tp [o9,.ci .i64 2]) v []:=by
 unfold HV at h;split at h
 ·split at h
  ·split at h
   ·split at h
    ·exact GL (cc h.2)
    ·exact h.elim
   ·split at h
    ·split at h
     ·rw[hn]at h;simp at h
     ·exact h.elim
    ·exact h.elim
   ·exact h.elim
  ·exact h.elim
 ·exact h.elim
theorem FI {c:Bool} {M:List Obj} (hn:c=true) {v:V} {r:List ah} (h:HV c M v r):∃j b,v= .tp [.lp j 0,b]/\uk (.ci .i64 0) b []/\zi r j=some (tS,eS,M):=by
 unfold HV at h;split at h
 ·split at h
  ·split at h
   ·split at h
    ·rw[hn]at h;simp at h
    ·exact h.elim
   ·split at h
    ·rename_i hst;split at h
     ·rename_i hc;simp only[M8,Na]at hc;obtain⟨⟨rfl,rfl⟩,rfl⟩:=hc;obtain⟨_,h2,rfl⟩:=h;exact⟨_,_,rfl,cc h2,hst⟩
     ·exact h.elim
    ·exact h.elim
   ·exact h.elim
  ·exact h.elim
 ·exact h.elim
theorem zI {c:Bool} {M:List Obj} (hn:c=true) {v:V} {r:List ah} (h:HV c M v r):∃j r',zi r j=some (tS,eS,M)/\(r'=r\/pY r j=some r')/\ae r' j= .store tS eS M/\∀(κ:Nat->Option Nat) (i:Nat),κ j=some i->iN κ v (.tp [.lp i 0,.ci .i64 0]):=by
 obtain⟨j,b,rfl,hb,hst⟩:=FI hn h
 have ht:∀(κ:Nat->Option Nat) (i:Nat),κ j=some i->iN κ (.tp [.lp j 0,b]) (.tp [.lp i 0,.ci .i64 0]):=fun κ i hi ρ2 ρ3 N N' hv hN hk=>by
  obtain⟨s1,s2,_⟩:=hb ρ2 N;refine⟨?_,hN j i hi hk.1,by simp[ok,bC],trivial⟩
  simp only[den,aA,(hv j i hi).1,s1]
 rcases DW hst with h1|⟨r',h1,h2⟩
 ·exact⟨j,r,hst,.inl rfl,h1,ht⟩
 ·exact⟨j,r',hst,.inr h1,h2,ht⟩
theorem FW {x:V} {M:List Obj} {v:V} {r:List ah} (h:Ly x M v r):∃t,wR r 0=some (tS,eS,t,M)/\uk x v r:=by
 unfold Ly at h;split at h
 ·rename_i hst;split at h
  ·rename_i hc;simp only[M8,Na]at hc;obtain⟨rfl,rfl⟩:=hc;obtain⟨h1,rfl⟩:=h;exact⟨_,hst,cc h1⟩
  ·exact h.elim
 ·exact h.elim
theorem Mw {P:Program} {f:Nat} {rest:List V} {res:List ah} {K KP:V->List ah->Prop} {k:Nat} {L M:List Obj} {x:V} (hr:ae res k= .store tS eS L) (hid:js rest=true) (hx:gl x=true)
  (h:(∀o∈L,o.wf)->L.length<=9223372036854775807->ai P f (.lp 0 0::rest) [.blk tS (.ag [.sa 1]),.obs eS 2 L,.gen 1] (Ly x M) (fun _ _=>False)) (hK:K x (aI res k (.store tS eS M))):ai P f (.lp k 0::rest) res K KP:=by
 refine ai.GI hr hid hx ?_ hK;refine ai.fact (k:=0) rfl fun w1 w2=>?_
 refine ai.eT (k:=0) rfl ?_;refine ai.shut (h w1 w2) fun v r hv=>?_
 obtain⟨t,h1,h2⟩:=FW hv;obtain⟨r',g1,g2⟩:=tQ h1;exact .inr ⟨0,r',g1,fun J K=>h2 J K,g2⟩
theorem gQ {l:List Obj}:bV l=true↔1<=l.length/\l.length<=64/\∀i,i<l.length->dI (au l i free) (l.length:Int)=true:=by
 unfold bV aa;simp only[M8,M9,List.all_eq_true,List.mem_range,and_assoc]
theorem np {l:List Obj} (h:¬(1<=l.length/\l.length<=64/\∀i,i<l.length->dI (au l i free) (l.length:Int)=true)):bV l=false:=by
 cases hr:bV l with
 |false=>rfl
 |true=>exact absurd (gQ.1 hr) h
theorem qt {l:List Obj} {g:Int} (h1:g<=(l.length:Int)):(eG l g).length=l.length:=by
 unfold eG;simp only[List.length_append,List.length_take,List.length_replicate];omega
theorem CJ {l:List Obj}:gx (l.length:Int)=eG l 0:=by unfold gx eG;simp
theorem Gt {l:List Obj} {g:Int} (h:(l.length:Int)<=g):eG l g=l:=by
 unfold eG;rw[List.take_of_length_le (by omega),show l.length-g.toNat=0 by omega];simp
theorem Gw {l:List Obj} {g:Int} (h0:0<=g) (h1:g<(l.length:Int)):eI (eG l g) g.toNat (au l g.toNat free)=eG l (g+1):=by
 unfold eI eG au;obtain⟨n,rfl⟩:=Int.eq_ofNat_of_zero_le h0;have hn:n<l.length:=by omega
 have e1:((n:Int)+1).toNat=n+1:=by omega
 have e2:((n:Int)).toNat=n:=by omega
 rw[e1,e2];apply List.ext_getElem?
 intro i;rw[List.getElem?_set];have hlt:(List.take n l++List.replicate (l.length-n) free).length=l.length:=by simp;omega
 have htl:(List.take n l).length=n:=by simp;omega
 have htl1:(List.take (n+1) l).length=n+1:=by simp;omega
 by_cases hi:n=i
 ·subst hi;rw[Ng rfl,Ng (by rw[hlt];exact hn),List.getElem?_append_left (by rw[htl1];omega),List.getElem?_take,Ng (by omega),Nd,List.getElem?_eq_getElem hn];rfl
 ·rw[Nf hi];by_cases hl:i<n
  ·rw[List.getElem?_append_left (by rw[htl];exact hl),List.getElem?_append_left (by rw[htl1];omega),List.getElem?_take,List.getElem?_take,Ng hl,Ng (by omega)]
  ·rw[List.getElem?_append_right (by rw[htl];omega),List.getElem?_append_right (by rw[htl1];omega),htl,htl1,List.getElem?_replicate,List.getElem?_replicate]
   by_cases hb:i<l.length
   ·rw[Ng (by omega),Ng (by omega)]
   ·rw[Nf (by omega),Nf (by omega)]
theorem Jl {l:List Obj} {g:Int} (h0:0<=g) (h1:g<(l.length:Int)) (x:Obj):cY (eG l g) g x=bh x (l.length:Int):=by
 have hh:aC (eG l g) g=0:=ec.2 (by rw[qt (by omega)];exact⟨h0,h1⟩)
 unfold cY aa;rw[Ng hh,qt (by omega)]
theorem F8 {l:List Obj} {g:Int} (h0:0<=g) (h1:g<(l.length:Int)) (hx:bh (au l g.toNat free) (l.length:Int)=0):dO (eG l g) g (au l g.toNat free)=eG l (g+1):=by
 have hh:aC (eG l g) g=0:=ec.2 (by rw[qt (by omega)];exact⟨h0,h1⟩)
 unfold dO aa;rw[Ng ⟨hh,by rw[qt (by omega)];exact hx⟩]
 exact Gw h0 h1
theorem mS (o:Obj) (n:Int):(bh o n=0/\dI o n=true)\/(bh o n=2/\dI o n=false):=by
 unfold bh;cases dI o n<;>simp
theorem p7 (k:Key):(aW k=true/\aD k=k.oid/\0<=k.oid)\/(aW k=false/\aD k= -1):=by
 have h:aD k=if aW k then k.oid else -1:=rfl
 cases hn:aW k
 ·exact .inr ⟨rfl,by rw[h,hn];rfl⟩
 ·refine .inl ⟨rfl,by rw[h,hn];rfl,?_⟩
  unfold aW at hn;simp only[M8]at hn;have:=hn.1;simp only[aB,cC,hn.2,if_true,M8,M9]at this;omega
theorem wK (l:List Obj) (k:Key) (hl:l.length<=9223372036854775807):((decide (0<=aD k)&&decide (aD k<aK (aa l)))=true->aP IntKind.i64 (aK (aa l)-1))/\
  ((decide (0<=aD k)&&decide (aD k<aK (aa l)))=true->
    0<=mY (aD k) (aK (aa l)-1)/\mY (aD k) (aK (aa l)-1)< ↑(aa l))/\
    ((decide (0<=aD k)&&decide (aD k<aK (aa l)))=true->
      (mY (aD k) (aK (aa l)-1)).toNat<aa l)/\
      (decide (0<=aD k)&&decide (aD k<aK (aa l))&&
        bP k (au l (mY (aD k) (aK (aa l)-1)).toNat free))=
       ep l k:=by
 unfold aK aa
 have hm:0<=aD k->aD k<(l.length:Int)->mY (aD k) ((l.length:Int)-1)=aD k:=fun h1 h2=>by
  unfold mY;rw[Nf (by omega)]
 simp only[M8,M9];refine⟨fun h=>by simp only[aP,bC];omega,fun h=>by rw[hm h.1 h.2];exact h,fun h=>by rw[hm h.1 h.2];omega,?_⟩
 rcases p7 k with⟨h1,h2,h3⟩|⟨h1,h2⟩
 ·by_cases hh:k.oid<(l.length:Int)
  ·rw[hm (by omega) (by omega),h2]
   have h0:aC l k.oid=0:=ec.2 ⟨h3,hh⟩;unfold ep;simp[h1,h0,h3,hh]
  ·have h0:¬aC l k.oid=0:=fun h=>hh (ec.1 h).2
   unfold ep;rw[h2];simp[h0,hh]
 ·unfold ep;simp[h1,h2]
theorem BX (l:List Obj) (k:Key):((decide (aK (aa l)=0)|| !decide (aY k=0)||decide (0<=aD k)&& !ep l k)=true->void=bc l k)/\
  ((decide (aK (aa l)=0)|| !decide (aY k=0)||decide (0<=aD k)&& !ep l k)=false->k=bc l k):=by
 have hc:(!decide (aY k=0))= !aB k:=by unfold aY;cases aB k<;>simp
 have hd:decide (0<=aD k)=aW k:=by
  rcases p7 k with⟨h1,h2,h3⟩|⟨h1,h2⟩
  ·rw[h1,h2];simpa using h3
  ·rw[h1,h2];simp
 have he:decide (aK (aa l)=0)=bQ l:=by
  unfold bQ aK;rw[decide_eq_decide];omega
 rw[hc,hd,he];unfold bc;exact⟨fun h=>by rw[h];rfl,fun h=>by rw[h];rfl⟩
theorem CC {L M:List Obj} (h:L.length=M.length) (h2:∀j:Nat,j<L.length->au L j free=au M j free):L=M:=by
 apply List.ext_getElem h
 intro i h3 h4;have:=h2 i h3;unfold au at this;simpa[Nd,h3,h4]using this
theorem EK {L M:List Obj} {g:Int} (hg:j5 L M g) (hge:(aa L:Int)<=g):(decide (g=aK (aa M))&&decide (c9 L=g))=hJ L M:=by
 obtain⟨g0,g1,g2,g3⟩:=hg;have e:g=(L.length:Int):=by unfold aa at *;omega
 subst e;unfold hJ c9 aK aa;cases hd:decide (L=M)with
 |true=>
  have:=Nc hd;subst this;simp
 |false=>
  have hne:=Nb hd;simp only[decide_true,Bool.and_true,decide_eq_false_iff_not];intro hl;exact hne (CC (by omega) fun j hj=>g3 j (by omega))
end Go.Sx
namespace Go.Proofs.Ytmfbohanboiklaa
open Go.Sx
set_option maxRecDepth 100000
theorem Cg:
 true=bQ []:=by
 rfl
theorem Cm (L:List Sx.Obj):
 decide (aK (aa L)=0)=bQ L:=by
 unfold bQ aK aa;rw[decide_eq_decide];omega
theorem mb:bW Try.prog 45 Ir:=
 Eh (fun _=>rfl) (aL (inl:=bw) (ann:=bY) az Cg (by kernel_rfl)) (fun L _ _=>aL (inl:=bw) (ann:=bY) az (Cm L) (by kernel_rfl))
theorem FC (i:Int):
 (bQ []=true->1=aC [] i)/\
  (bQ []=false->((!decide (i<0))=true->False)/\((!decide (i<0))=false->4=aC [] i)):=by
 exact⟨fun _=>rfl,fun h=>by simp[pk]at h⟩
theorem Hq (L:List Sx.Obj) (i:Int):
 (bQ L=true->1=aC L i)/\
  (bQ L=false->
   ((decide (i<0)||decide (aK (aa L)<=i))=true->4=aC L i)/\
     ((decide (i<0)||decide (aK (aa L)<=i))=false->0=aC L i)):=by
 refine⟨fun h=>?_,fun h=>?_⟩
 ·rw[uw.1 h];rfl
 ·rw[wB h];unfold aK aa;refine⟨fun h1=>?_,fun h1=>?_⟩
  ·simp only[Bool.or_eq_true,M9]at h1;rw[Ng h1]
  ·simp only[Bool.or_eq_false_iff,decide_eq_false_iff_not]at h1;rw[Nf (by omega)]
theorem si:bW Try.prog 24 Kc:=
 qx (fD .i64) (fun _ _=>rfl) (fun x _=>aL (inl:=bw) (ann:=bY) (an mb az) (FC x) (by kernel_rfl)) (fun L x _ _ _=>aL (inl:=bw) (ann:=bY) (an mb az) (Hq L x) (by kernel_rfl)) fun _=>rfl
theorem CA:
 (bQ []=true->0=c9 [])/\(bQ []=false->False):=by
 exact⟨fun _=>rfl,fun h=>by simp[pk]at h⟩
theorem Dt (L:List Sx.Obj):
 (bQ L=true->0=c9 L)/\(bQ L=false->aK (aa L)=c9 L):=by
 exact⟨fun h=>by rw[uw.1 h];rfl,fun _=>rfl⟩
theorem z7:bW Try.prog 38 Ib:=
 Eh (fun _=>rfl) (aL (inl:=bw) (ann:=bY) (an mb az) CA (by kernel_rfl)) (fun L _ _=>aL (inl:=bw) (ann:=bY) (an mb az) (Dt L) (by kernel_rfl))
theorem Fp (i:Int):
 ((!decide (aC [] i=0))=true->free=bS [] i/\aC [] i=aC [] i)/\
   ((!decide (aC [] i=0))=false->False):=by
 exact⟨fun _=>⟨rfl,rfl⟩,fun h=>by simp[jI]at h⟩
theorem G5 (L:List Sx.Obj) (i:Int):
 ((!decide (aC L i=0))=true->free=bS L i/\aC L i=aC L i)/\
   ((!decide (aC L i=0))=false->
     (0<=i/\i< ↑(aa L))/\i.toNat<aa L/\i.toNat<aa L/\au L i.toNat free=bS L i/\0=aC L i):=by
 refine⟨fun h=>⟨?_,rfl⟩,fun h=>?_⟩
 ·unfold bS;rw[Nf (by simpa using h)]
 ·have h:aC L i=0:=by simpa using h
  have hb:=ec.1 h;unfold bS aa;rw[Ng h,h];exact⟨hb,by omega,by omega,rfl,rfl⟩
theorem rW:bW Try.prog 26 K6:=
 qx (fD .i64) (fun _ _=>rfl) (fun x _=>aL (inl:=bw) (ann:=bY) (an si az) (Fp x) (by kernel_rfl)) (fun L x _ _ _=>aL (inl:=bw) (ann:=bY) (an si az) (G5 L x) (by kernel_rfl)) fun _=>rfl
theorem Bg (k:Key):
 ((!aW k)=true->free=fG [] k/\false=ep [] k)/\
   ((!aW k)=false->
     ((!decide (aC [] (dV k)=0)|| !bP k (bS [] (dV k)))=true->
       free=fG [] k/\false=ep [] k)/\
       ((!decide (aC [] (dV k)=0)|| !bP k (bS [] (dV k)))=false->
         bS [] (dV k)=fG [] k/\true=ep [] k)):=by
 exact tx [] k
theorem AU (L:List Sx.Obj) (k:Key):
 ((!aW k)=true->free=fG L k/\false=ep L k)/\
   ((!aW k)=false->
     ((!decide (aC L (dV k)=0)|| !bP k (bS L (dV k)))=true->
       free=fG L k/\false=ep L k)/\
       ((!decide (aC L (dV k)=0)|| !bP k (bS L (dV k)))=false->
         bS L (dV k)=fG L k/\true=ep L k)):=by
 exact tx L k
theorem xP:bW Try.prog 75 F7:=
 qx ia (fun _ _=>rfl) (fun x _=>aL (inl:=bw) (ann:=bY) (an jz (an rW (an sj az))) (Bg x) (by kernel_rfl)) (fun L x _ _ _=>aL (inl:=bw) (ann:=bY) (an jz (an rW (an sj az))) (AU L x) (by kernel_rfl)) fun _=>rfl
end Go.Proofs.Ytmfbohanboiklaa
namespace Go.Proofs.Ytmfbohanboiklaa
open Go.Sx
set_option maxRecDepth 100000
theorem IH (n:Int):
 ((decide (n<1)||decide (64<n))=true->eW n=false/\True)/\
   ((decide (n<1)||decide (64<n))=false->
     (∃g,vg n g/\Value.pointer none=Value.pointer none/\n=n/\0=g/\ []=gx g)/\
      ∀(g:Int),
       vg n g->
        (decide (g<n)=true->
          eh (aa (gx g)) 8/\
           aP IntKind.i64 (g+1)/\
            ∃g',
             vg n g'/\
              (n-g').toNat<(n-g).toNat/\
               Value.pointer none=Value.pointer none/\
                n=n/\g+1=g'/\ba (gx g) free=gx g')/\
         (decide (g<n)=false->eW n=true/\True/\gx g=gx n)):=by
 refine⟨fun h=>⟨?_,trivial⟩,fun h=>⟨⟨0,?_,rfl,rfl,rfl,rfl⟩,fun g hg=>⟨fun hlt=>?_,fun hge=>?_⟩⟩⟩
 ·simp only[Bool.or_eq_true,M9]at h;unfold eW;rw[Bool.and_eq_false_iff,decide_eq_false_iff_not,decide_eq_false_iff_not];omega
 ·simp only[Bool.or_eq_false_iff,decide_eq_false_iff_not]at h;exact⟨by omega,by omega⟩
 ·simp only[Bool.or_eq_false_iff,decide_eq_false_iff_not]at h;obtain⟨g0,g1⟩:=hg;have hlt:=Nc hlt;refine⟨?_,?_,g+1,⟨by omega,by omega⟩,by omega,rfl,rfl,rfl,FX g0⟩
  ·unfold eh aa gx;simp only[List.length_replicate,maxLen];omega
  ·simp only[aP,bC];omega
 ·simp only[Bool.or_eq_false_iff,decide_eq_false_iff_not]at h;obtain⟨g0,g1⟩:=hg;have hge:=Nb hge;exact⟨mn.2 (by omega),trivial,by rw[show g=n by omega]⟩
theorem Ey (n:Int):ai Try.prog 44 [.it .i64 n] [] (LZ n) (fun _ _=>False):=aL (inl:=bw) (ann:=(kg [(44,5,MU [2,3,4,13] (fun g=> [(14,.it .i64 g)]) 0 tS eS gx (vg n) n)])) az (IH n) (by kernel_rfl)
theorem JR:sY Try.prog 44 HF:=by
 intro args res K KP h;unfold HF at h;split at h
 ·split at h
  ·rename_i n hn;refine ai.args (gg.rd (fD .i64) hn gg.nil) ?_;cases hb:eW n with
   |false=>exact ai.pure rfl rfl ((Ey n).mono (fun v r hv=>DF hb hv) fun _ _ h=>h) (h.1 hb)
   |true=>
    refine ai.Fz (F:=fun j=> .tp [.lp j 0,.ci .i64 0]) rfl ?_ (h.2 hb)
    refine ai.shut (Ey n) fun v r hv=>?_
    obtain⟨j,r',_,h1,h2,h3⟩:=zI hb hv;rcases h1 with rfl|h1
    ·exact .inl ⟨j,h2,h3⟩
    ·exact .inr ⟨j,r',h1,j,h2,h3⟩
  ·exact h.elim
 ·exact h.elim
theorem F9 (i:Int) (o:Sx.Obj):
 ((!decide (aC [] i=0))=true->aC [] i=cY [] i o)/\((!decide (aC [] i=0))=false->False):=by
 refine⟨fun _=>?_,fun h=>by simp[jI]at h⟩
 rw[zL,jI]
theorem He (i:Int) (o:Sx.Obj):ai Try.prog 12 [o9,.it .i64 i,.ob o] [] (nz (.it .i64 (cY [] i o))) (fun _ _=>False):=aL (inl:=bw) (ann:=bY) (an si (an vI az)) (F9 i o) (by kernel_rfl)
theorem FG (L:List Sx.Obj) (i:Int) (o:Sx.Obj):
 ((!decide (aC L i=0))=true->aC L i=cY L i o/\L=dO L i o)/\
   ((!decide (aC L i=0))=false->
     ((!decide (bh o (aK (aa L))=0))=true->bh o (aK (aa L))=cY L i o/\L=dO L i o)/\
       ((!decide (bh o (aK (aa L))=0))=false->
         (0<=i/\i< ↑(aa L))/\i.toNat<aa L/\0=cY L i o/\eI L i.toNat o=dO L i o)):=by
 refine⟨fun h=>?_,fun h=>⟨fun h2=>?_,fun h2=>?_⟩⟩
 ·obtain⟨a,b⟩:=zW (o:=o) (show aC L i≠0 by simpa using h)
  rw[a,b];exact⟨rfl,rfl⟩
 ·obtain⟨a,b⟩:=EE (o:=o) (show aC L i=0 by simpa using h) (show bh o (aa L:Int)≠0 by unfold aK at h2;simpa using h2)
  rw[a,b];exact⟨rfl,rfl⟩
 ·have h:=(show aC L i=0 by simpa using h)
  have hb:=ec.1 h;obtain⟨a,b⟩:=z1 (o:=o) h (show bh o (aa L:Int)=0 by unfold aK at h2;simpa using h2)
  rw[a,b];exact⟨hb,by unfold aa;omega,rfl,rfl⟩
theorem F5 (L:List Sx.Obj) (i:Int) (o:Sx.Obj):ai Try.prog 12 [.lp 0 0,.it .i64 i,.ob o] [.blk tS (.ag [.sa 1]),.obs eS 2 L,.gen 1] (Ly (.it .i64 (cY L i o)) (dO L i o)) (fun _ _=>False):=aL (inl:=bw) (ann:=bY) (an si (an vI az)) (FG L i o) (by kernel_rfl)
theorem GP (i:Int) (o:Sx.Obj):
 ((!decide (aC [] i=0))=true->aC [] i=cY [] i o)/\
   ((!decide (aC [] i=0))=false->
     ((!decide (bh o 0=0))=true->bh o 0=cY [] i o)/\((!decide (bh o 0=0))=false->False)):=by
 refine⟨fun _=>?_,fun h=>by simp[jI]at h⟩
 rw[zL,jI]
theorem Ft (i:Int) (o:Sx.Obj):ai Try.prog 12 [.lp 0 0,.it .i64 i,.ob o] [.ro (.blk tS (.ag [.nl (.slice none 0 0)]))] (nz (.it .i64 (cY [] i o))) (fun _ _=>False):=aL (inl:=bw) (ann:=bY) (an si (an vI az)) (GP i o) (by kernel_rfl)
theorem Ei:sY Try.prog 12 HT:=by
 intro args res K KP h;unfold HT at h;split at h
 ·split at h
  ·rename_i i hi;split at h
   ·rename_i o ho;refine ai.args (gg.gd (gg.rd (fD .i64) hi (gg.rd tf ho gg.nil))) ?_;split at h
    ·split at h
     ·exact ai.pure rfl rfl ((He i o).mono (fun _ _ h=>cc h) fun _ _ h=>h) h
     ·exact h.elim
    ·split at h
     ·rename_i hoff;have hoff:=Na.1 hoff;subst hoff;split at h
      ·rename_i hr;split at h
       ·rename_i hc;simp only[M8,Na]at hc;obtain⟨rfl,rfl⟩:=hc;exact Mw hr rfl rfl (fun _ _=>F5 _ i o) h
       ·exact h.elim
      ·rename_i hr;split at h
       ·rename_i hc;simp only[M8,Na]at hc;obtain⟨rfl,hz⟩:=hc;have:=CY hz;subst this;refine ai.KQ (r0:= .blk tS (.ag [.nl (.slice none 0 0)])) (by unfold bn;rw[hr]) (by simp) (fun κ=>rfl) rfl rfl ((Ft i o).mono (fun _ _ h=>cc h) fun _ _ h=>h) h
       ·exact h.elim
      ·exact h.elim
     ·exact h.elim
    ·exact h.elim
   ·exact h.elim
  ·exact h.elim
 ·exact h.elim
theorem Ce (l:List Sx.Obj) (hl:l.length<=9223372036854775807):
 ((decide (aK (aa l)<1)||decide (64<aK (aa l)))=true->false=bV l)/\
   ((decide (aK (aa l)<1)||decide (64<aK (aa l)))=false->
     (∃g,kG l g/\false=false/\0=g/\l=l)/\
      ∀(g:Int),
       kG l g->
        (decide (g<aK (aa l))=true->
          (0<=g/\g< ↑(aa l))/\
           g.toNat<aa l/\
            ((!decide (bh (au l g.toNat free) (aK (aa l))=0))=true->false=bV l)/\
              ((!decide (bh (au l g.toNat free) (aK (aa l))=0))=false->
                aP IntKind.i64 (g+1)/\
                 ∃g',
                  kG l g'/\
                   (aK (aa l)-g').toNat<(aK (aa l)-g).toNat/\
                    false=false/\g+1=g'/\l=l))/\
         (decide (g<aK (aa l))=false->true=bV l)):=by
 refine⟨fun h=>?_,fun h=>⟨⟨0,⟨by omega,by omega,fun j hj=>by omega⟩,rfl,rfl,rfl⟩,fun g hg=>⟨fun hlt=>?_,fun hge=>?_⟩⟩⟩
 ·simp only[Bool.or_eq_true,M9]at h;simp only[fw]at h;exact(np fun hh=>by have h1:=hh.1;have h2:=hh.2.1;omega).symm
 ·obtain⟨g0,g1,g2⟩:=hg;have hlt:=Nc hlt;unfold aK at *;refine⟨⟨g0,hlt⟩,by omega,fun hb=>(np fun hh=>?_).symm,fun hb=>⟨?_,g+1,⟨by omega,by omega,fun j hj=>?_⟩,by omega,rfl,rfl,rfl⟩⟩
  ·have:=hh.2.2 g.toNat (by unfold aa at hlt;omega)
   unfold bh aa at hb;rw[this]at hb;simp at hb
  ·simp only[aP,bC];unfold aa at *;omega
  ·by_cases e:(j:Int)<g
   ·exact g2 j e
   ·have:j=g.toNat:=by omega
    subst this;rcases mS (au l g.toNat free) (aa l:Int)with⟨h1,h2⟩|⟨h1,h2⟩
    ·exact h2
    ·rw[h1]at hb;simp at hb
 ·obtain⟨g0,g1,g2⟩:=hg;have hge:=Nb hge;have hle:=lr l;simp only[Bool.or_eq_false_iff,decide_eq_false_iff_not]at h;simp only[fw]at h hge;exact(gQ.2 ⟨by omega,by omega,fun i hi=>g2 i (by omega)⟩).symm
theorem EY:bW Try.prog 20 FE:=JP (fun _=>rfl) fun l _ hl=>aL (inl:=bw) (ann:=(kg [(20,4,Jw [0,2] (fun g=> [(3,.it .i64 g)]) (kG l) (aK (aa l)))])) (an Et az) (Ce l hl) (by kernel_rfl)
theorem yz (l:List Sx.Obj) (k:Key) (hl:l.length<=9223372036854775807):
 ((decide (0<=aD k)&&decide (aD k<aK (aa l)))=true->aP IntKind.i64 (aK (aa l)-1))/\
   ((decide (0<=aD k)&&decide (aD k<aK (aa l)))=true->
     0<=mY (aD k) (aK (aa l)-1)/\mY (aD k) (aK (aa l)-1)< ↑(aa l))/\
     ((decide (0<=aD k)&&decide (aD k<aK (aa l)))=true->
       (mY (aD k) (aK (aa l)-1)).toNat<aa l)/\
       (decide (0<=aD k)&&decide (aD k<aK (aa l))&&
         bP k (au l (mY (aD k) (aK (aa l)-1)).toNat free))=
        ep l k:=by
 exact wK l k hl
theorem za:bW Try.prog 57 A2:=zC ia (fun _ _=>rfl) (fun l k _ hl _=>aL (inl:=bw) (ann:=bY) (an jf (an yy az)) (yz l k hl) (by kernel_rfl)) fun _=>rfl
theorem Ki (l:List Sx.Obj) (hl:l.length<=9223372036854775807):
 true=true/\
  (eW (aK (aa l))=false->bV l=false/\True)/\
   (eW (aK (aa l))=true->
    (∃g,
      kG l g/\
       Value.pointer none=Value.pointer none/\
        aK (aa l)=aK (aa l)/\0=g/\l=l/\gx (aK (aa l))=eG l g)/\
     ∀(g:Int),
      kG l g->
       (decide (g<aK (aa l))=true->
         (0<=g/\g< ↑(aa l))/\
          g.toNat<aa l/\
           true=true/\
            ((!decide (cY (eG l g) g (au l g.toNat free)=0))=true->
              bV l=false/\cY (eG l g) g (au l g.toNat free)=2)/\
              ((!decide (cY (eG l g) g (au l g.toNat free)=0))=false->
                aP IntKind.i64 (g+1)/\
                 ∃g',
                  kG l g'/\
                   (aK (aa l)-g').toNat<(aK (aa l)-g).toNat/\
                    Value.pointer none=Value.pointer none/\
                     aK (aa l)=aK (aa l)/\
                      g+1=g'/\l=l/\dO (eG l g) g (au l g.toNat free)=eG l g'))/\
        (decide (g<aK (aa l))=false->bV l=true/\True/\eG l g=l)):=by
 refine⟨rfl,fun h=>⟨np fun hh=>?_,trivial⟩,fun h=>⟨⟨0,⟨by omega,by omega,fun j hj=>by omega⟩,rfl,rfl,rfl,rfl,CJ⟩,fun g hg=>⟨fun hlt=>?_,fun hge=>?_⟩⟩⟩
 ·have:eW (aK (aa l))=true:=mn.2 (by unfold aK aa;omega)
  rw[this]at h;simp at h
 ·obtain⟨g0,g1,g2⟩:=hg;have hlt:=Nc hlt;have h:=mn.1 h;have hle:=lr l;simp only[fw]at *;rw[Jl g0 hlt];refine⟨⟨g0,hlt⟩,by omega,trivial,fun hb=>⟨np fun hh=>?_,?_⟩,fun hb=>⟨?_,g+1,⟨by omega,by omega,fun j hj=>?_⟩,by omega,trivial,trivial,rfl,trivial,F8 g0 hlt (by simpa using hb)⟩⟩
  ·have:=hh.2.2 g.toNat (by omega)
   unfold bh at hb;rw[this]at hb;simp at hb
  ·rcases mS (au l g.toNat free) (l.length:Int)with⟨h1,h2⟩|⟨h1,h2⟩
   ·rw[h1]at hb;simp at hb
   ·exact h1
  ·simp only[aP,bC];omega
  ·by_cases e:(j:Int)<g
   ·exact g2 j e
   ·have:j=g.toNat:=by omega
    subst this;rcases mS (au l g.toNat free) (l.length:Int)with⟨h1,h2⟩|⟨h1,h2⟩
    ·exact h2
    ·rw[h1]at hb;simp at hb
 ·obtain⟨g0,g1,g2⟩:=hg;have hge:=Nb hge;have h:=mn.1 h;have hle:=lr l;simp only[fw]at *;exact⟨gQ.2 ⟨by omega,by omega,fun i hi=>g2 i (by omega)⟩,trivial,Gt (by omega)⟩
theorem HE (l:List Sx.Obj) (own:Option Nat):ai Try.prog 21 [.sa 0] [.ro (.arr own 163 (.ob l))] (Lt l) (fun _ _=>False):=
 ai.Lg (ai.wT (k:=0) rfl fun _ hl=>(cK (inl:=bw) (ann:=(kg [(21,5,Lz [0,2,3,4,5,18,19] (fun g=> [(20,.it .i64 g)]) 1 (fun g=> .store tS eS (eG l g)) (kG l) (aK (aa l)))])) az (bL JR (bL Ei cM)) (Ki l hl) (by kernel_rfl):ai Try.prog 21 [.sa 0] [.ro (.arr none 163 (.ob l))] (Lt l) (fun _ _=>False)))
theorem HM:sY Try.prog 21 Jc:=by
 intro args res K KP h;unfold Jc at h;split at h
 ·split at h
  ·split at h
   ·rename_i hr;split at h
    ·rename_i he;have he:=Na.1 he;subst he;split at h
     ·rename_i l;cases hb:bV l with
      |false=>exact ai.K3 hr rfl rfl ((HE l _).mono (fun v r hv=>DF hb (Au hv).1) fun _ _ h=>h) (h.1 hb)
      |true=>
       refine ai.CM (F:=fun j=> .tp [.lp j 0,.ci .i64 0]) hr rfl ?_ (h.2 hb)
       refine ai.shut (HE l _) fun v r hv=>?_
       obtain⟨hv,h0⟩:=Au hv;obtain⟨j,r',hs,h1,h2,h3⟩:=zI hb hv
       have hj:1<=j:=by
        rcases Nat.eq_zero_or_pos j with rfl|hj
        ·rw[h0]at hs;simp at hs
        ·exact hj
       rcases h1 with rfl|h1
       ·exact .inl ⟨j,hj,h2,h3⟩
       ·exact .inr ⟨j,r',h1,j,hj,h2,h3⟩
     ·exact h.elim
    ·exact h.elim
   ·exact h.elim
  ·exact h.elim
 ·exact h.elim
end Go.Proofs.Ytmfbohanboiklaa
namespace Go.Sx
def ey (r b:Int):Bool:=decide ((r.tdiv b).tmod 2=1)
def cr (r m g:Int):Int:=(if 2<=g/\(ey r 1||ey m 1)=true then 1 else 0)+(if 4<=g/\(ey r 2||ey m 2)=true then 2 else 0)+(if 8<=g/\(ey r 4||ey m 4)=true then 4 else 0)
def gr (r m:Int):Int:=cr r m 8
def pE (g:Int):Prop:=g=1\/g=2\/g=4\/g=8
def uM (k:Key) (r:Int):Key:= {k with rights:=r}
def cA (k:Key):Key:=if k.kind=2 then uM k (gr k.rights 3)else if k.kind=3 then uM k 1 else if k.kind=1\/k.kind=8 then k else void
def cz (k:Key):Key:=if aB k then cA k else void
def GS:Ct:=J1 (rI .i64) (rI .i64) fun r m=> .it .i64 (gr r m)
def Hc:Ct:=Fg rK fun k=> .key (cA k)
def En:Ct:=Fg rK fun k=> .tp [.key (cz k),.it .i64 (aY k)]
def bq (k:Key):Bool:=decide ((k.rights.tdiv 2).tmod 2=1)
def u4 (L:List Obj) (o:Obj) (k:Key) (i:Int):Key:=if bq k then cA (bc L (o.slots.at i.toNat))else bc L (o.slots.at i.toNat)
def cZ (L:List Obj) (k:Key) (i:Int):Key:=u4 L (au L k.oid.toNat free) k i
def u6 (L:List Obj) (k:Key) (i:Int):Prop:=0<=i/\i<16/\0<=k.oid/\k.oid<(aa L:Int)
def fC (L:List Obj):Prop:=bV L=true
def bK (g:Int):Prop:=0<=g/\g<=16
def kA:Arg Key:=C5 rK V.key
def iA:Arg Int:=C5 (rI .i64) (V.it .i64)
def bA:Arg Bool:=C5 toBool V.bo
def Lu (o:Option (List Obj)):List Obj:=match o with
 |none=> []
 |some L=>L
def Ip:Ct:=HK (cD H7 (cD kA (cD iA ku))) (fun x=>some (u6 x.1 x.2.1 x.2.2.1)) fun x=> .key (cZ x.1 x.2.1 x.2.2.1)
def tO:Nat:=33
theorem uT {r g:Int} (hr:bC .i64 r) (hg:g=1\/g=2\/g=4\/g=8):bC .i64 (r.tdiv g):=by
 simp only[bC]at *;rcases Int.le_total 0 r with h|h
 ·rw[Int.tdiv_eq_ediv_of_nonneg h];rcases hg with rfl|rfl|rfl|rfl<;>omega
 ·obtain⟨s,rfl⟩:∃s,r= -s:=⟨-r,by omega⟩
  rw[Int.neg_tdiv,Int.tdiv_eq_ediv_of_nonneg (by omega)]
  rcases hg with rfl|rfl|rfl|rfl<;>omega
theorem rv (x:Int):bC .i64 (x.tmod 2):=by
 have h1:=Int.tmod_lt_of_pos x (show(0:Int)<2 by omega)
 have h2:=Int.lt_tmod_of_pos x (show(0:Int)<2 by omega)
 simp only[bC];omega
theorem Dc {r m g:Int}:0<=cr r m g/\cr r m g<=7:=by
 unfold cr;repeat' split
 all_goals omega
theorem DN {r:Int} (h0:0<=r) (h1:r<=7):b6 .or .i64 r 3=gr r 3:=by
 have:r=0\/r=1\/r=2\/r=3\/r=4\/r=5\/r=6\/r=7:=by omega
 rcases this with rfl|rfl|rfl|rfl|rfl|rfl|rfl|rfl<;>decide
theorem Eg {r:Int} (h0:0<=r) (h1:r<=1):b6 .or .i64 r 1=1:=by
 have:r=0\/r=1:=by omega
 rcases this with rfl|rfl<;>decide
theorem nM {k:Key} (h:aB k=true):0<=k.rights/\k.rights<=fK k.kind:=by
 simp only[aB,M8,M9]at h;omega
theorem yk:aB void=true:=by decide
theorem jX (L:List Obj) (k:Key):aB (bc L k)=true:=by
 unfold bc;split
 ·exact yk
 ·rename_i h;simp only[Bool.or_eq_true,not_or,Bool.not_eq_true,Bool.not_eq_false']at h;exact h.1.2
theorem kE (L:List Obj) (k:Key):cz (bc L k)=cA (bc L k):=by unfold cz;rw[jX,Ng rfl]
theorem LV {r:Int} (h0:0<=r) (h1:r<=7):decide (b6 .and .i64 r 2=0)= !decide ((r.tdiv 2).tmod 2=1):=by
 have:r=0\/r=1\/r=2\/r=3\/r=4\/r=5\/r=6\/r=7:=by omega
 rcases this with rfl|rfl|rfl|rfl|rfl|rfl|rfl|rfl<;>decide
theorem Aj:kK kA:=vt ia (fun _=>rfl) fun v x h=>KK h
theorem KV:kK bA:=vt C4 (fun _=>rfl) fun v x h=>by cases v<;>simp[toBool]at h<;>rfl
theorem mJ:kK iA:=vt (fD .i64) (fun _=>rfl) fun v x h=>by cases v<;>simp[rI,toInt]at h<;>rfl
theorem tG {L M:List Obj} {g:Int} (hg:j5 L M g) (hge:(aa L:Int)<=g):decide (g=aK (aa M))=hJ L M:=by
 have:=EK hg hge
 have e:c9 L=g:=by
  have:=hg.2.1;unfold c9;omega
 rw[decide_eq_true e,Bool.and_true]at this;exact this
structure ME where
 kind:Int
 slot:Int
 key:Key
 other:Key
def fN (l:List Obj):Bool:=decide ((aa l:Int)<=20)&&bV l
def Jb:pU:=LF (cD H7 ku) (fun _=>True) (fun x=>fN x.1) (fun _=>o9) (fun _ n=> .lp n 0) (fun x=> .store tS eS x.1)
def ME.wf (x:ME):Prop:=bC .i64 x.kind/\bC .i64 x.slot/\x.key.wf/\x.other.wf
section
variable {L:List Obj} {k:Key} {s:bZ} (h0:0<=k.oid) (h1:k.oid<(L.length:Int))
include h0 h1
end
theorem tI {L:List Obj} {i:Nat} {x:Obj} (hi:i<L.length) (j:Nat):au (eI L i x) j free=if j=i then x else au L j free:=by
 by_cases e:j=i
 ·subst e;rw[Ng rfl];simp[au,eI,Nd,hi]
 ·rw[Nf e];simp[au,eI,Nd,List.getElem?_set,Ne.symm e]
end Go.Sx
set_option maxRecDepth 100000
namespace Go.Sx
end Go.Sx
set_option maxRecDepth 100000
namespace Go.Sx
def Me {α:Type} (B:lk α) (l:List V):Option α:=match B.rd [] l with
 |some p=>match p.1 with
  | []=>some p.2
  |_=>none
 |none=>none
theorem Jh {α:Type} {B:lk α} (hB:jD B) (hid:∀a,js (B.cn a 0)=true):∀l x,Me B l=some x->gg l (B.cn x 0):=fun l x h=>by
 unfold Me at h;split at h
 case h_2=>simp at h
 rename_i p hp;obtain⟨pls,a⟩:=p;split at h
 case h_2=>simp at h
 rename_i h1;simp only at h1;subst h1;simp only[M6]at h;subst h;obtain⟨_,_,_,b4⟩:=hB _ _ _ _ hp;obtain⟨c1,c2⟩:=b4 [] [];intro J K hk;have e1:=(c1 J K hk).1;have e2:=c2 K hk;have e3:ca (fun _=>False) (B.cn a 0):=jQ _ (hid a) e2
 refine⟨?_,jQ _ (hid a) e2⟩;rw[<-e1];exact cH (N:=fun _=>False) (fun _ h=>h.elim) _ e3
theorem mr {L:List Obj} (h:fC L):1<=L.length/\L.length<=64:=⟨(gQ.1 h).1,(gQ.1 h).2.1⟩
end Go.Sx
