import Derived.Test.YtmfbohanboiklaaKO
import Derived.Test.YtmfbohanboiklaaSxF
set_option linter.unusedSimpArgs false
set_option linter.unusedVariables false
namespace Go.Sx
def bQ (L:List Obj):Bool:=decide (ae L=0)
def aE (L:List Obj) (oid:Int):Int:=if ae L=0 then 1 else if oid<0\/(ae L:Int)<=oid then 4 else 0
def bR (L:List Obj) (oid:Int):Obj:=if aE L oid=0 then ay L oid.toNat free else free
def cW (L:List Obj):Int:=(ae L:Int)
def ej (L:List Obj) (k:Key):Bool:=aS k&&decide (aE L k.oid=0)&&bN k (ay L k.oid.toNat free)
def fC (L:List Obj) (k:Key):Obj:=if ej L k then ay L k.oid.toNat free else free
def bd (L:List Obj) (k:Key):Key:=if bQ L|| !aA k||(aS k&& !ej L k)then void else k
def eQ (n:Int):Bool:=decide (1<=n)&&decide (n<=64)
def gp (n:Int):List Obj:=List.replicate n.toNat free
def fu (L:List Obj) (i:Int) (o:Obj):List Obj:=if aE L i=0/\bf o (ae L:Int)=0 then fM L i.toNat o else L
def dP (L:List Obj) (i:Int) (o:Obj):Int:=if aE L i=0 then bf o (ae L:Int)else aE L i
def bT (l:List Obj):Bool:=decide (1<=ae l)&&decide (ae l<=64)&&(List.range (ae l)).all fun i=>dZ (ay l i free) (ae l:Int)
def eC (l:List Obj) (g:Int):List Obj:=l.take g.toNat++List.replicate (l.length-g.toNat) free
def lC (l:List Obj) (g:Int):Prop:=0<=g/\g<=(ae l:Int)/\∀j:Nat,(j:Int)<g->dZ (ay l j free) (ae l:Int)=true
def vd (n i:Int):Prop:=0<=i/\i<=n
abbrev tS:Nat:=65
abbrev eS:Nat:=66
def G8 (c:Bool) (M:List Obj) (v:V) (r:List ah):Prop:=
 match v with
 | .tp l=>match l with
   | [a,b]=>match a with
     | .nl p=>match p with
       | .pointer none=>c=false/\oB (.ci .i64 2) b r
       |_=>False
     | .lp j off=>match yq r j with
       |some (t,e,L)=>if off==0&&t==tS&&e==eS then c=true/\oB (.ci .i64 0) b r/\L=M else False
       |none=>False
     |_=>False
   |_=>False
 |_=>False
def Lu (n:Int):V->List ah->Prop:=G8 (eQ n) (gp n)
def K3 (l:List Obj) (v:V) (r:List ah):Prop:=
 match aa r 0 with
 | .ro _=>G8 (bT l) l v r
 |_=>False
theorem zO {l:List Obj} {v:V} {r:List ah} (h:K3 l v r):G8 (bT l) l v r/\yq r 0=none:=by
 unfold K3 at h;split at h
 ·rename_i hr;refine⟨h,?_⟩;unfold yq wo;rw[hr]
 ·exact h.elim
def KW (x:V) (M:List Obj) (v:V) (r:List ah):Prop:=
 match wo r 0 with
 |some (t,e,_,L)=>if t==tS&&e==eS then oB x v r/\L=M else False
 |none=>False
def Hc:pn:=fun args res K=>
 match args with
 | [a]=>match rI .i64 a with
   |some n=>(eQ n=false->K (.tp [oH,.ci .i64 2]) res)/\(eQ n=true->K (.tp [.lp res.length 0,.ci .i64 0]) (res++ [.store tS eS (gp n)]))
   |none=>False
 |_=>False
def LJ (c:V):Bool:=
 match c with
 | .ag l=>match l with
   | [x]=>match x with
     | .nl v=>match v with
       | .slice none 0 0=>true
       |_=>false
     |_=>false
   |_=>false
 |_=>false
theorem C8 {c:V} (h:LJ c=true):c= .ag [.nl (.slice none 0 0)]:=by
 unfold LJ at h;split at h
 ·split at h
  ·split at h
   ·split at h
    ·rfl
    ·simp at h
   ·simp at h
  ·simp at h
 ·simp at h
def G1:pn:=fun args res K=>
 match args with
 | [a,b,c]=>match rI .i64 b with
   |some i=>match rO c with
    |some o=>match a with
     | .nl v=>match v with
       | .pointer none=>K (.it .i64 (dP [] i o)) res
       |_=>False
     | .lp k off=>if off==0 then match aa res k with
       | .store t e L=>if t==tS&&e==eS then K (.it .i64 (dP L i o)) (aI res k (.store tS eS (fu L i o)))else False
       | .blk t c=>if t==tS&&LJ c then K (.it .i64 (dP [] i o)) res else False
       |_=>False
       else False
     |_=>False
    |none=>False
   |none=>False
 |_=>False
structure Ma where
 puts:Bool
 oid:Int
 ob:Obj
def Ma.wf (x:Ma):Prop:=bJ .i64 x.oid/\x.ob.wf
def Gj:Ct:=Ju (.bo true)
def gO (L M:List Obj):Bool:=decide (L=M)
def jB (L M:List Obj) (g:Int):Prop:=0<=g/\g<=(ae L:Int)/\g<=(ae M:Int)/\∀j:Nat,(j:Int)<g->ay L j free=ay M j free
def Io:Ct:=Jd tS eS fun L M=> .bo (gO L M)
abbrev Ml:V:= .nl (.slice none 0 0)
theorem fo {α:Type} (l:List α):aZ (ae l)=(l.length:Int):=rfl
theorem lr {α:Type} (l:List α):((ae l:Nat):Int)=(l.length:Int):=rfl
def I3:pn:=fun args res K=>
 match args with
 | [a]=>match a with
   | .sa k=>match bk res k with
     | .arr _ e l=>if e==163 then match l with
       | .ob l=>(bT l=false->K (.tp [oH,.ci .i64 2]) res)/\(bT l=true->K (.tp [.lp res.length 0,.ci .i64 0]) (res++ [.store tS eS l]))
       |_=>False
       else False
     |_=>False
   |_=>False
 |_=>False
def Fm:Ct:=LQ fun l=> .bo (bT l)
def Ax:Ct:=GM rK fun l k=> .bo (ej l k)
def Fx:Ct:=GM rK fun l k=> .key (bd l k)
def Ho:Ct:=KN tS eS fun L=> .bo (bQ L)
def Ku:Ct:=zV tS eS (rI .i64) fun L i=> .it .i64 (aE L i)
def JK:Ct:=zV tS eS (rI .i64) fun L i=> .tp [.ob (bR L i),.it .i64 (aE L i)]
def Hv:Ct:=KN tS eS fun L=> .it .i64 (cW L)
def FV:Ct:=zV tS eS rK fun L k=> .tp [.ob (fC L k),.bo (ej L k)]
def I7:Ct:=zV tS eS rK fun L k=> .key (bd L k)
theorem oF:bQ []=true:=rfl
theorem tG {L:List Obj}:bQ L=true↔L= []:=by
 unfold bQ ae;simp[List.length_eq_zero_iff]
theorem jD (i:Int):aE [] i=1:=rfl
theorem xp {L:List Obj} (h:bQ L=false) (i:Int):aE L i=if i<0\/(L.length:Int)<=i then 4 else 0:=by
 have:L≠ []:=fun e=>by rw[e]at h;simp[oF]at h
 unfold aE ae;rw[MA (by simpa[List.length_eq_zero_iff]using this)]
theorem ff {L:List Obj} {i:Int}:aE L i=0↔0<=i/\i<(L.length:Int):=by
 unfold aE ae;split
 ·omega
 ·split<;>omega
theorem tg (L:List Obj) (k:Key):((!aS k)=true->free=fC L k/\false=ej L k)/\
  ((!aS k)=false->
    ((!decide (aE L (dQ k)=0)|| !bN k (bR L (dQ k)))=true->
      free=fC L k/\false=ej L k)/\
      ((!decide (aE L (dQ k)=0)|| !bN k (bR L (dQ k)))=false->
        bR L (dQ k)=fC L k/\true=ej L k)):=by
 have fin:∀b,ej L k=b->(b=false->free=fC L k)/\b=ej L k:=fun b h=>⟨fun hb=>by unfold fC;rw[h,hb];rfl,h.symm⟩
 refine⟨fun h=>?_,fun h=>?_⟩
 ·have h:aS k=false:=by simpa using h
  have:=fin false (by unfold ej;rw[h];rfl)
  exact⟨this.1 rfl,this.2⟩
 ·have h:aS k=true:=by simpa using h
  have ho:dQ k=k.oid:=by unfold dQ;rw[MB h]
  rw[ho];by_cases hh:aE L k.oid=0
  ·have hg:bR L k.oid=ay L k.oid.toNat free:=by unfold bR;rw[MB hh]
   rw[hg];have e:ej L k=bN k (ay L k.oid.toNat free):=by unfold ej;simp[h,hh]
   refine⟨fun hc=>?_,fun hc=>?_⟩
   ·have hc:bN k (ay L k.oid.toNat free)=false:=by simpa[hh]using hc
    have:=fin false (by rw[e,hc])
    exact⟨this.1 rfl,this.2⟩
   ·have hc:bN k (ay L k.oid.toNat free)=true:=by simpa[hh]using hc
    have:=fin true (by rw[e,hc])
    refine⟨?_,this.2⟩;unfold fC;rw[e,hc];rfl
  ·have:=fin false (by unfold ej;simp[hh])
   exact⟨fun _=>⟨this.1 rfl,this.2⟩,fun hc=>by simp[hh]at hc⟩
theorem xg (L:List Obj) (k:Key):((bQ L|| !decide (aW k=0))=true->void=bd L k)/\
  ((bQ L|| !decide (aW k=0))=false->
    ((aS k&& !ej L k)=true->void=bd L k)/\((aS k&& !ej L k)=false->k=bd L k)):=by
 have hc:(!decide (aW k=0))= !aA k:=by unfold aW;cases aA k<;>simp
 rw[hc];unfold bd;refine⟨fun h=>?_,fun h=>⟨fun h2=>?_,fun h2=>?_⟩⟩
 ·rw[MB];simp only[h,Bool.true_or]
 ·rw[MB];simp only[h2,Bool.or_true]
 ·rw[MA];simp only[h,h2];simp
theorem ma {n:Int}:eQ n=true↔1<=n/\n<=64:=by simp[eQ]
theorem Gg {g:Int} (h:0<=g):bj (gp g) free=gp (g+1):=by
 unfold bj gp;rw[show(g+1).toNat=g.toNat+1 by omega,List.replicate_succ']
theorem zK {i:Int} {o:Obj}:dP [] i o=1:=by unfold dP;rw[jD];rfl
theorem GA {L:List Obj} {i:Int} {o:Obj} (h:aE L i≠0):dP L i o=aE L i/\fu L i o=L:=by
 unfold dP fu;rw[MA h,MA (fun hh=>h hh.1)];exact⟨rfl,rfl⟩
theorem I5 {L:List Obj} {i:Int} {o:Obj} (h:aE L i=0) (h2:bf o (ae L:Int)≠0):dP L i o=bf o (ae L:Int)/\fu L i o=L:=by
 unfold dP fu;rw[MB h,MA (fun hh=>h2 hh.2)];exact⟨rfl,rfl⟩
theorem Gc {L:List Obj} {i:Int} {o:Obj} (h:aE L i=0) (h2:bf o (ae L:Int)=0):dP L i o=0/\fu L i o=fM L i.toNat o:=by
 unfold dP fu;rw[MB h,MB ⟨h,h2⟩];exact⟨h2,rfl⟩
theorem Bz {c:Bool} {M:List Obj} (hn:c=false) {v:V} {r:List ah} (h:G8 c M v r):sU (.tp [oH,.ci .i64 2]) v []:=by
 unfold G8 at h;split at h
 ·split at h
  ·split at h
   ·split at h
    ·exact GL (b9 h.2)
    ·exact h.elim
   ·split at h
    ·split at h
     ·rw[hn]at h;simp at h
     ·exact h.elim
    ·exact h.elim
   ·exact h.elim
  ·exact h.elim
 ·exact h.elim
theorem Gt {c:Bool} {M:List Obj} (hn:c=true) {v:V} {r:List ah} (h:G8 c M v r):∃j b,v= .tp [.lp j 0,b]/\sU (.ci .i64 0) b []/\yq r j=some (tS,eS,M):=by
 unfold G8 at h;split at h
 ·split at h
  ·split at h
   ·split at h
    ·rw[hn]at h;simp at h
    ·exact h.elim
   ·split at h
    ·rename_i hst;split at h
     ·rename_i hc;simp only[Mu,Mw]at hc;obtain⟨⟨rfl,rfl⟩,rfl⟩:=hc;obtain⟨_,h2,rfl⟩:=h;exact⟨_,_,rfl,b9 h2,hst⟩
     ·exact h.elim
    ·exact h.elim
   ·exact h.elim
  ·exact h.elim
 ·exact h.elim
theorem yJ {c:Bool} {M:List Obj} (hn:c=true) {v:V} {r:List ah} (h:G8 c M v r):∃j r',yq r j=some (tS,eS,M)/\(r'=r\/pJ r j=some r')/\aa r' j= .store tS eS M/\∀(κ:Nat->Option Nat) (i:Nat),κ j=some i->iy κ v (.tp [.lp i 0,.ci .i64 0]):=by
 obtain⟨j,b,rfl,hb,hst⟩:=Gt hn h
 have ht:∀(κ:Nat->Option Nat) (i:Nat),κ j=some i->iy κ (.tp [.lp j 0,b]) (.tp [.lp i 0,.ci .i64 0]):=fun κ i hi ρ2 ρ3 N N' hv hN hk=>by
  obtain⟨s1,s2,_⟩:=hb ρ2 N;refine⟨?_,hN j i hi hk.1,by simp[ok,bJ],trivial⟩
  simp only[den,aB,(hv j i hi).1,s1]
 rcases DS hst with h1|⟨r',h1,h2⟩
 ·exact⟨j,r,hst,.inl rfl,h1,ht⟩
 ·exact⟨j,r',hst,.inr h1,h2,ht⟩
theorem FX {x:V} {M:List Obj} {v:V} {r:List ah} (h:KW x M v r):∃t,wo r 0=some (tS,eS,t,M)/\sU x v r:=by
 unfold KW at h;split at h
 ·rename_i hst;split at h
  ·rename_i hc;simp only[Mu,Mw]at hc;obtain⟨rfl,rfl⟩:=hc;obtain⟨h1,rfl⟩:=h;exact⟨_,hst,b9 h1⟩
  ·exact h.elim
 ·exact h.elim
theorem Lc {P:Program} {f:Nat} {rest:List V} {res:List ah} {K KP:V->List ah->Prop} {k:Nat} {L M:List Obj} {x:V} (hr:aa res k= .store tS eS L) (hid:jg rest=true) (hx:gj x=true)
  (h:(∀o∈L,o.wf)->L.length<=9223372036854775807->ai P f (.lp 0 0::rest) [.blk tS (.ag [.sa 1]),.obs eS 2 L,.gen 1] (KW x M) (fun _ _=>False)) (hK:K x (aI res k (.store tS eS M))):ai P f (.lp k 0::rest) res K KP:=by
 refine ai.Fp hr hid hx ?_ hK;refine ai.fact (k:=0) rfl fun w1 w2=>?_
 refine ai.eG (k:=0) rfl ?_;refine ai.shut (h w1 w2) fun v r hv=>?_
 obtain⟨t,h1,h2⟩:=FX hv;obtain⟨r',g1,g2⟩:=th h1;exact .inr ⟨0,r',g1,fun J K=>h2 J K,g2⟩
theorem je {l:List Obj}:bT l=true↔1<=l.length/\l.length<=64/\∀i,i<l.length->dZ (ay l i free) (l.length:Int)=true:=by
 unfold bT ae;simp only[Mu,Mv,List.all_eq_true,List.mem_range,and_assoc]
theorem ny {l:List Obj} (h:¬(1<=l.length/\l.length<=64/\∀i,i<l.length->dZ (ay l i free) (l.length:Int)=true)):bT l=false:=by
 cases hr:bT l with
 |false=>rfl
 |true=>exact absurd (je.1 hr) h
theorem p6 {l:List Obj} {g:Int} (h1:g<=(l.length:Int)):(eC l g).length=l.length:=by
 unfold eC;simp only[List.length_append,List.length_take,List.length_replicate];omega
theorem BS {l:List Obj}:gp (l.length:Int)=eC l 0:=by unfold gp eC;simp
theorem EP {l:List Obj} {g:Int} (h:(l.length:Int)<=g):eC l g=l:=by
 unfold eC;rw[List.take_of_length_le (by omega),show l.length-g.toNat=0 by omega];simp
theorem E1 {l:List Obj} {g:Int} (h0:0<=g) (h1:g<(l.length:Int)):fM (eC l g) g.toNat (ay l g.toNat free)=eC l (g+1):=by
 unfold fM eC ay;obtain⟨n,rfl⟩:=Int.eq_ofNat_of_zero_le h0;have hn:n<l.length:=by omega
 have e1:((n:Int)+1).toNat=n+1:=by omega
 have e2:((n:Int)).toNat=n:=by omega
 rw[e1,e2];apply List.ext_getElem?
 intro i;rw[List.getElem?_set];have hlt:(List.take n l++List.replicate (l.length-n) free).length=l.length:=by simp;omega
 have htl:(List.take n l).length=n:=by simp;omega
 have htl1:(List.take (n+1) l).length=n+1:=by simp;omega
 by_cases hi:n=i
 ·subst hi;rw[MB rfl,MB (by rw[hlt];exact hn),List.getElem?_append_left (by rw[htl1];omega),List.getElem?_take,MB (by omega),Mz,List.getElem?_eq_getElem hn];rfl
 ·rw[MA hi];by_cases hl:i<n
  ·rw[List.getElem?_append_left (by rw[htl];exact hl),List.getElem?_append_left (by rw[htl1];omega),List.getElem?_take,List.getElem?_take,MB hl,MB (by omega)]
  ·rw[List.getElem?_append_right (by rw[htl];omega),List.getElem?_append_right (by rw[htl1];omega),htl,htl1,List.getElem?_replicate,List.getElem?_replicate]
   by_cases hb:i<l.length
   ·rw[MB (by omega),MB (by omega)]
   ·rw[MA (by omega),MA (by omega)]
theorem IA {l:List Obj} {g:Int} (h0:0<=g) (h1:g<(l.length:Int)) (x:Obj):dP (eC l g) g x=bf x (l.length:Int):=by
 have hh:aE (eC l g) g=0:=ff.2 (by rw[p6 (by omega)];exact⟨h0,h1⟩)
 unfold dP ae;rw[MB hh,p6 (by omega)]
theorem GN {l:List Obj} {g:Int} (h0:0<=g) (h1:g<(l.length:Int)) (hx:bf (ay l g.toNat free) (l.length:Int)=0):fu (eC l g) g (ay l g.toNat free)=eC l (g+1):=by
 have hh:aE (eC l g) g=0:=ff.2 (by rw[p6 (by omega)];exact⟨h0,h1⟩)
 unfold fu ae;rw[MB ⟨hh,by rw[p6 (by omega)];exact hx⟩]
 exact E1 h0 h1
theorem mL (o:Obj) (n:Int):(bf o n=0/\dZ o n=true)\/(bf o n=2/\dZ o n=false):=by
 unfold bf;cases dZ o n<;>simp
theorem pH (k:Key):(aS k=true/\aC k=k.oid/\0<=k.oid)\/(aS k=false/\aC k= -1):=by
 have h:aC k=if aS k then k.oid else -1:=rfl
 cases hn:aS k
 ·exact .inr ⟨rfl,by rw[h,hn];rfl⟩
 ·refine .inl ⟨rfl,by rw[h,hn];rfl,?_⟩
  unfold aS at hn;simp only[Mu]at hn;have:=hn.1;simp only[aA,cy,hn.2,if_true,Mu,Mv]at this;omega
theorem vF (l:List Obj) (k:Key) (hl:l.length<=9223372036854775807):((decide (0<=aC k)&&decide (aC k<aZ (ae l)))=true->br IntKind.i64 (aZ (ae l)-1))/\
  ((decide (0<=aC k)&&decide (aC k<aZ (ae l)))=true->
    0<=mH (aC k) (aZ (ae l)-1)/\mH (aC k) (aZ (ae l)-1)< ↑(ae l))/\
    ((decide (0<=aC k)&&decide (aC k<aZ (ae l)))=true->
      (mH (aC k) (aZ (ae l)-1)).toNat<ae l)/\
      (decide (0<=aC k)&&decide (aC k<aZ (ae l))&&
        bN k (ay l (mH (aC k) (aZ (ae l)-1)).toNat free))=
       ej l k:=by
 unfold aZ ae
 have hm:0<=aC k->aC k<(l.length:Int)->mH (aC k) ((l.length:Int)-1)=aC k:=fun h1 h2=>by
  unfold mH;rw[MA (by omega)]
 simp only[Mu,Mv];refine⟨fun h=>by simp only[br,bJ];omega,fun h=>by rw[hm h.1 h.2];exact h,fun h=>by rw[hm h.1 h.2];omega,?_⟩
 rcases pH k with⟨h1,h2,h3⟩|⟨h1,h2⟩
 ·by_cases hh:k.oid<(l.length:Int)
  ·rw[hm (by omega) (by omega),h2]
   have h0:aE l k.oid=0:=ff.2 ⟨h3,hh⟩;unfold ej;simp[h1,h0,h3,hh]
  ·have h0:¬aE l k.oid=0:=fun h=>hh (ff.1 h).2
   unfold ej;rw[h2];simp[h0,hh]
 ·unfold ej;simp[h1,h2]
theorem AH (l:List Obj) (k:Key):((decide (aZ (ae l)=0)|| !decide (aW k=0)||decide (0<=aC k)&& !ej l k)=true->void=bd l k)/\
  ((decide (aZ (ae l)=0)|| !decide (aW k=0)||decide (0<=aC k)&& !ej l k)=false->k=bd l k):=by
 have hc:(!decide (aW k=0))= !aA k:=by unfold aW;cases aA k<;>simp
 have hd:decide (0<=aC k)=aS k:=by
  rcases pH k with⟨h1,h2,h3⟩|⟨h1,h2⟩
  ·rw[h1,h2];simpa using h3
  ·rw[h1,h2];simp
 have he:decide (aZ (ae l)=0)=bQ l:=by
  unfold bQ aZ;rw[decide_eq_decide];omega
 rw[hc,hd,he];unfold bd;exact⟨fun h=>by rw[h];rfl,fun h=>by rw[h];rfl⟩
theorem Cm {L M:List Obj} (h:L.length=M.length) (h2:∀j:Nat,j<L.length->ay L j free=ay M j free):L=M:=by
 apply List.ext_getElem h
 intro i h3 h4;have:=h2 i h3;unfold ay at this;simpa[Mz,h3,h4]using this
theorem BP {L M:List Obj} {g:Int} (hg:jB L M g) (hge:(ae L:Int)<=g):(decide (g=aZ (ae M))&&decide (cW L=g))=gO L M:=by
 obtain⟨g0,g1,g2,g3⟩:=hg;have e:g=(L.length:Int):=by unfold ae at *;omega
 subst e;unfold gO cW aZ ae;cases hd:decide (L=M)with
 |true=>
  have:=My hd;subst this;simp
 |false=>
  have hne:=Mx hd;simp only[decide_true,Bool.and_true,decide_eq_false_iff_not];intro hl;exact hne (Cm (by omega) fun j hj=>g3 j (by omega))
end Go.Sx
namespace Go.Proofs.Ytmfbohanboiklaa
open Go.Sx
set_option maxRecDepth 100000
theorem CX:
 true=bQ []:=by
 rfl
theorem B4 (L:List Sx.Obj):
 decide (aZ (ae L)=0)=bQ L:=by
 unfold bQ aZ ae;rw[decide_eq_decide];omega
theorem lZ:bW Try.prog 45 Ho:=
 CF (fun _=>rfl) (aK (inl:=bx) (ann:=bV) az CX (by kernel_rfl)) (fun L _ _=>aK (inl:=bx) (ann:=bV) az (B4 L) (by kernel_rfl))
theorem F2 (i:Int):
 (bQ []=true->1=aE [] i)/\
  (bQ []=false->((!decide (i<0))=true->False)/\((!decide (i<0))=false->4=aE [] i)):=by
 exact⟨fun _=>rfl,fun h=>by simp[oF]at h⟩
theorem GQ (L:List Sx.Obj) (i:Int):
 (bQ L=true->1=aE L i)/\
  (bQ L=false->
   ((decide (i<0)||decide (aZ (ae L)<=i))=true->4=aE L i)/\
     ((decide (i<0)||decide (aZ (ae L)<=i))=false->0=aE L i)):=by
 refine⟨fun h=>?_,fun h=>?_⟩
 ·rw[tG.1 h];rfl
 ·rw[xp h];unfold aZ ae;refine⟨fun h1=>?_,fun h1=>?_⟩
  ·simp only[Bool.or_eq_true,Mv]at h1;rw[MB h1]
  ·simp only[Bool.or_eq_false_iff,decide_eq_false_iff_not]at h1;rw[MA (by omega)]
theorem su:bW Try.prog 24 Ku:=
 ql (fy .i64) (fun _ _=>rfl) (fun x _=>aK (inl:=bx) (ann:=bV) (an lZ az) (F2 x) (by kernel_rfl)) (fun L x _ _ _=>aK (inl:=bx) (ann:=bV) (an lZ az) (GQ L x) (by kernel_rfl)) fun _=>rfl
theorem CC:
 (bQ []=true->0=cW [])/\(bQ []=false->False):=by
 exact⟨fun _=>rfl,fun h=>by simp[oF]at h⟩
theorem D8 (L:List Sx.Obj):
 (bQ L=true->0=cW L)/\(bQ L=false->aZ (ae L)=cW L):=by
 exact⟨fun h=>by rw[tG.1 h];rfl,fun _=>rfl⟩
theorem yY:bW Try.prog 38 Hv:=
 CF (fun _=>rfl) (aK (inl:=bx) (ann:=bV) (an lZ az) CC (by kernel_rfl)) (fun L _ _=>aK (inl:=bx) (ann:=bV) (an lZ az) (D8 L) (by kernel_rfl))
theorem EI (i:Int):
 ((!decide (aE [] i=0))=true->free=bR [] i/\aE [] i=aE [] i)/\
   ((!decide (aE [] i=0))=false->False):=by
 exact⟨fun _=>⟨rfl,rfl⟩,fun h=>by simp[jD]at h⟩
theorem E0 (L:List Sx.Obj) (i:Int):
 ((!decide (aE L i=0))=true->free=bR L i/\aE L i=aE L i)/\
   ((!decide (aE L i=0))=false->
     (0<=i/\i< ↑(ae L))/\i.toNat<ae L/\i.toNat<ae L/\ay L i.toNat free=bR L i/\0=aE L i):=by
 refine⟨fun h=>⟨?_,rfl⟩,fun h=>?_⟩
 ·unfold bR;rw[MA (by simpa using h)]
 ·have h:aE L i=0:=by simpa using h
  have hb:=ff.1 h;unfold bR ae;rw[MB h,h];exact⟨hb,by omega,by omega,rfl,rfl⟩
theorem sr:bW Try.prog 26 JK:=
 ql (fy .i64) (fun _ _=>rfl) (fun x _=>aK (inl:=bx) (ann:=bV) (an su az) (EI x) (by kernel_rfl)) (fun L x _ _ _=>aK (inl:=bx) (ann:=bV) (an su az) (E0 L x) (by kernel_rfl)) fun _=>rfl
theorem zY (k:Key):
 ((!aS k)=true->free=fC [] k/\false=ej [] k)/\
   ((!aS k)=false->
     ((!decide (aE [] (dQ k)=0)|| !bN k (bR [] (dQ k)))=true->
       free=fC [] k/\false=ej [] k)/\
       ((!decide (aE [] (dQ k)=0)|| !bN k (bR [] (dQ k)))=false->
         bR [] (dQ k)=fC [] k/\true=ej [] k)):=by
 exact tg [] k
theorem AS (L:List Sx.Obj) (k:Key):
 ((!aS k)=true->free=fC L k/\false=ej L k)/\
   ((!aS k)=false->
     ((!decide (aE L (dQ k)=0)|| !bN k (bR L (dQ k)))=true->
       free=fC L k/\false=ej L k)/\
       ((!decide (aE L (dQ k)=0)|| !bN k (bR L (dQ k)))=false->
         bR L (dQ k)=fC L k/\true=ej L k)):=by
 exact tg L k
theorem vR:bW Try.prog 75 FV:=
 ql hJ (fun _ _=>rfl) (fun x _=>aK (inl:=bx) (ann:=bV) (an jm (an sr (an qQ az))) (zY x) (by kernel_rfl)) (fun L x _ _ _=>aK (inl:=bx) (ann:=bV) (an jm (an sr (an qQ az))) (AS L x) (by kernel_rfl)) fun _=>rfl
end Go.Proofs.Ytmfbohanboiklaa
namespace Go.Proofs.Ytmfbohanboiklaa
open Go.Sx
set_option maxRecDepth 100000
theorem Hx (n:Int):
 ((decide (n<1)||decide (64<n))=true->eQ n=false/\True)/\
   ((decide (n<1)||decide (64<n))=false->
     (∃g,vd n g/\Value.pointer none=Value.pointer none/\n=n/\0=g/\ []=gp g)/\
      ∀(g:Int),
       vd n g->
        (decide (g<n)=true->
          e9 (ae (gp g)) 8/\
           br IntKind.i64 (g+1)/\
            ∃g',
             vd n g'/\
              (n-g').toNat<(n-g).toNat/\
               Value.pointer none=Value.pointer none/\
                n=n/\g+1=g'/\bj (gp g) free=gp g')/\
         (decide (g<n)=false->eQ n=true/\True/\gp g=gp n)):=by
 refine⟨fun h=>⟨?_,trivial⟩,fun h=>⟨⟨0,?_,rfl,rfl,rfl,rfl⟩,fun g hg=>⟨fun hlt=>?_,fun hge=>?_⟩⟩⟩
 ·simp only[Bool.or_eq_true,Mv]at h;unfold eQ;rw[Bool.and_eq_false_iff,decide_eq_false_iff_not,decide_eq_false_iff_not];omega
 ·simp only[Bool.or_eq_false_iff,decide_eq_false_iff_not]at h;exact⟨by omega,by omega⟩
 ·simp only[Bool.or_eq_false_iff,decide_eq_false_iff_not]at h;obtain⟨g0,g1⟩:=hg;have hlt:=My hlt;refine⟨?_,?_,g+1,⟨by omega,by omega⟩,by omega,rfl,rfl,rfl,Gg g0⟩
  ·unfold e9 ae gp;simp only[List.length_replicate,maxLen];omega
  ·simp only[br,bJ];omega
 ·simp only[Bool.or_eq_false_iff,decide_eq_false_iff_not]at h;obtain⟨g0,g1⟩:=hg;have hge:=Mx hge;exact⟨ma.2 (by omega),trivial,by rw[show g=n by omega]⟩
theorem C5 (n:Int):ai Try.prog 44 [.it .i64 n] [] (Lu n) (fun _ _=>False):=aK (inl:=bx) (ann:=(kQ [(44,5,Mq [2,3,4,13] (fun g=> [(14,.it .i64 g)]) 0 tS eS gp (vd n) n)])) az (Hx n) (by kernel_rfl)
theorem I2:sF Try.prog 44 Hc:=by
 intro args res K KP h;unfold Hc at h;split at h
 ·split at h
  ·rename_i n hn;refine ai.args (fU.rd (fy .i64) hn fU.nil) ?_;cases hb:eQ n with
   |false=>exact ai.pure rfl rfl ((C5 n).mono (fun v r hv=>Bz hb hv) fun _ _ h=>h) (h.1 hb)
   |true=>
    refine ai.Gr (F:=fun j=> .tp [.lp j 0,.ci .i64 0]) rfl ?_ (h.2 hb)
    refine ai.shut (C5 n) fun v r hv=>?_
    obtain⟨j,r',_,h1,h2,h3⟩:=yJ hb hv;rcases h1 with rfl|h1
    ·exact .inl ⟨j,h2,h3⟩
    ·exact .inr ⟨j,r',h1,j,h2,h3⟩
  ·exact h.elim
 ·exact h.elim
theorem Fy (i:Int) (o:Sx.Obj):
 ((!decide (aE [] i=0))=true->aE [] i=dP [] i o)/\((!decide (aE [] i=0))=false->False):=by
 refine⟨fun _=>?_,fun h=>by simp[jD]at h⟩
 rw[zK,jD]
theorem FR (i:Int) (o:Sx.Obj):ai Try.prog 12 [oH,.it .i64 i,.ob o] [] (oB (.it .i64 (dP [] i o))) (fun _ _=>False):=aK (inl:=bx) (ann:=bV) (an su (an uw az)) (Fy i o) (by kernel_rfl)
theorem GH (L:List Sx.Obj) (i:Int) (o:Sx.Obj):
 ((!decide (aE L i=0))=true->aE L i=dP L i o/\L=fu L i o)/\
   ((!decide (aE L i=0))=false->
     ((!decide (bf o (aZ (ae L))=0))=true->bf o (aZ (ae L))=dP L i o/\L=fu L i o)/\
       ((!decide (bf o (aZ (ae L))=0))=false->
         (0<=i/\i< ↑(ae L))/\i.toNat<ae L/\0=dP L i o/\fM L i.toNat o=fu L i o)):=by
 refine⟨fun h=>?_,fun h=>⟨fun h2=>?_,fun h2=>?_⟩⟩
 ·obtain⟨a,b⟩:=GA (o:=o) (show aE L i≠0 by simpa using h)
  rw[a,b];exact⟨rfl,rfl⟩
 ·obtain⟨a,b⟩:=I5 (o:=o) (show aE L i=0 by simpa using h) (show bf o (ae L:Int)≠0 by unfold aZ at h2;simpa using h2)
  rw[a,b];exact⟨rfl,rfl⟩
 ·have h:=(show aE L i=0 by simpa using h)
  have hb:=ff.1 h;obtain⟨a,b⟩:=Gc (o:=o) h (show bf o (ae L:Int)=0 by unfold aZ at h2;simpa using h2)
  rw[a,b];exact⟨hb,by unfold ae;omega,rfl,rfl⟩
theorem Ge (L:List Sx.Obj) (i:Int) (o:Sx.Obj):ai Try.prog 12 [.lp 0 0,.it .i64 i,.ob o] [.blk tS (.ag [.sa 1]),.obs eS 2 L,.gen 1] (KW (.it .i64 (dP L i o)) (fu L i o)) (fun _ _=>False):=aK (inl:=bx) (ann:=bV) (an su (an uw az)) (GH L i o) (by kernel_rfl)
theorem FH (i:Int) (o:Sx.Obj):
 ((!decide (aE [] i=0))=true->aE [] i=dP [] i o)/\
   ((!decide (aE [] i=0))=false->
     ((!decide (bf o 0=0))=true->bf o 0=dP [] i o)/\((!decide (bf o 0=0))=false->False)):=by
 refine⟨fun _=>?_,fun h=>by simp[jD]at h⟩
 rw[zK,jD]
theorem GS (i:Int) (o:Sx.Obj):ai Try.prog 12 [.lp 0 0,.it .i64 i,.ob o] [.ro (.blk tS (.ag [.nl (.slice none 0 0)]))] (oB (.it .i64 (dP [] i o))) (fun _ _=>False):=aK (inl:=bx) (ann:=bV) (an su (an uw az)) (FH i o) (by kernel_rfl)
theorem II:sF Try.prog 12 G1:=by
 intro args res K KP h;unfold G1 at h;split at h
 ·split at h
  ·rename_i i hi;split at h
   ·rename_i o ho;refine ai.args (fU.fY (fU.rd (fy .i64) hi (fU.rd sY ho fU.nil))) ?_;split at h
    ·split at h
     ·exact ai.pure rfl rfl ((FR i o).mono (fun _ _ h=>b9 h) fun _ _ h=>h) h
     ·exact h.elim
    ·split at h
     ·rename_i hoff;have hoff:=Mw.1 hoff;subst hoff;split at h
      ·rename_i hr;split at h
       ·rename_i hc;simp only[Mu,Mw]at hc;obtain⟨rfl,rfl⟩:=hc;exact Lc hr rfl rfl (fun _ _=>Ge _ i o) h
       ·exact h.elim
      ·rename_i hr;split at h
       ·rename_i hc;simp only[Mu,Mw]at hc;obtain⟨rfl,hz⟩:=hc;have:=C8 hz;subst this;refine ai.JI (r0:= .blk tS (.ag [.nl (.slice none 0 0)])) (by unfold bk;rw[hr]) (by simp) (fun κ=>rfl) rfl rfl ((GS i o).mono (fun _ _ h=>b9 h) fun _ _ h=>h) h
       ·exact h.elim
      ·exact h.elim
     ·exact h.elim
    ·exact h.elim
   ·exact h.elim
  ·exact h.elim
 ·exact h.elim
theorem BK (l:List Sx.Obj) (hl:l.length<=9223372036854775807):
 ((decide (aZ (ae l)<1)||decide (64<aZ (ae l)))=true->false=bT l)/\
   ((decide (aZ (ae l)<1)||decide (64<aZ (ae l)))=false->
     (∃g,lC l g/\false=false/\0=g/\l=l)/\
      ∀(g:Int),
       lC l g->
        (decide (g<aZ (ae l))=true->
          (0<=g/\g< ↑(ae l))/\
           g.toNat<ae l/\
            ((!decide (bf (ay l g.toNat free) (aZ (ae l))=0))=true->false=bT l)/\
              ((!decide (bf (ay l g.toNat free) (aZ (ae l))=0))=false->
                br IntKind.i64 (g+1)/\
                 ∃g',
                  lC l g'/\
                   (aZ (ae l)-g').toNat<(aZ (ae l)-g).toNat/\
                    false=false/\g+1=g'/\l=l))/\
         (decide (g<aZ (ae l))=false->true=bT l)):=by
 refine⟨fun h=>?_,fun h=>⟨⟨0,⟨by omega,by omega,fun j hj=>by omega⟩,rfl,rfl,rfl⟩,fun g hg=>⟨fun hlt=>?_,fun hge=>?_⟩⟩⟩
 ·simp only[Bool.or_eq_true,Mv]at h;simp only[fo]at h;exact(ny fun hh=>by have h1:=hh.1;have h2:=hh.2.1;omega).symm
 ·obtain⟨g0,g1,g2⟩:=hg;have hlt:=My hlt;unfold aZ at *;refine⟨⟨g0,hlt⟩,by omega,fun hb=>(ny fun hh=>?_).symm,fun hb=>⟨?_,g+1,⟨by omega,by omega,fun j hj=>?_⟩,by omega,rfl,rfl,rfl⟩⟩
  ·have:=hh.2.2 g.toNat (by unfold ae at hlt;omega)
   unfold bf ae at hb;rw[this]at hb;simp at hb
  ·simp only[br,bJ];unfold ae at *;omega
  ·by_cases e:(j:Int)<g
   ·exact g2 j e
   ·have:j=g.toNat:=by omega
    subst this;rcases mL (ay l g.toNat free) (ae l:Int)with⟨h1,h2⟩|⟨h1,h2⟩
    ·exact h2
    ·rw[h1]at hb;simp at hb
 ·obtain⟨g0,g1,g2⟩:=hg;have hge:=Mx hge;have hle:=lr l;simp only[Bool.or_eq_false_iff,decide_eq_false_iff_not]at h;simp only[fo]at h hge;exact(je.2 ⟨by omega,by omega,fun i hi=>g2 i (by omega)⟩).symm
theorem Ee:bW Try.prog 20 Fm:=Hw (fun _=>rfl) fun l _ hl=>aK (inl:=bx) (ann:=(kQ [(20,4,Ji [0,2] (fun g=> [(3,.it .i64 g)]) (lC l) (aZ (ae l)))])) (an Ed az) (BK l hl) (by kernel_rfl)
theorem yF (l:List Sx.Obj) (k:Key) (hl:l.length<=9223372036854775807):
 ((decide (0<=aC k)&&decide (aC k<aZ (ae l)))=true->br IntKind.i64 (aZ (ae l)-1))/\
   ((decide (0<=aC k)&&decide (aC k<aZ (ae l)))=true->
     0<=mH (aC k) (aZ (ae l)-1)/\mH (aC k) (aZ (ae l)-1)< ↑(ae l))/\
     ((decide (0<=aC k)&&decide (aC k<aZ (ae l)))=true->
       (mH (aC k) (aZ (ae l)-1)).toNat<ae l)/\
       (decide (0<=aC k)&&decide (aC k<aZ (ae l))&&
         bN k (ay l (mH (aC k) (aZ (ae l)-1)).toNat free))=
        ej l k:=by
 exact vF l k hl
theorem xQ:bW Try.prog 57 Ax:=zb hJ (fun _ _=>rfl) (fun l k _ hl _=>aK (inl:=bx) (ann:=bV) (an jc (an yx az)) (yF l k hl) (by kernel_rfl)) fun _=>rfl
theorem JS (l:List Sx.Obj) (hl:l.length<=9223372036854775807):
 true=true/\
  (eQ (aZ (ae l))=false->bT l=false/\True)/\
   (eQ (aZ (ae l))=true->
    (∃g,
      lC l g/\
       Value.pointer none=Value.pointer none/\
        aZ (ae l)=aZ (ae l)/\0=g/\l=l/\gp (aZ (ae l))=eC l g)/\
     ∀(g:Int),
      lC l g->
       (decide (g<aZ (ae l))=true->
         (0<=g/\g< ↑(ae l))/\
          g.toNat<ae l/\
           true=true/\
            ((!decide (dP (eC l g) g (ay l g.toNat free)=0))=true->
              bT l=false/\dP (eC l g) g (ay l g.toNat free)=2)/\
              ((!decide (dP (eC l g) g (ay l g.toNat free)=0))=false->
                br IntKind.i64 (g+1)/\
                 ∃g',
                  lC l g'/\
                   (aZ (ae l)-g').toNat<(aZ (ae l)-g).toNat/\
                    Value.pointer none=Value.pointer none/\
                     aZ (ae l)=aZ (ae l)/\
                      g+1=g'/\l=l/\fu (eC l g) g (ay l g.toNat free)=eC l g'))/\
        (decide (g<aZ (ae l))=false->bT l=true/\True/\eC l g=l)):=by
 refine⟨rfl,fun h=>⟨ny fun hh=>?_,trivial⟩,fun h=>⟨⟨0,⟨by omega,by omega,fun j hj=>by omega⟩,rfl,rfl,rfl,rfl,BS⟩,fun g hg=>⟨fun hlt=>?_,fun hge=>?_⟩⟩⟩
 ·have:eQ (aZ (ae l))=true:=ma.2 (by unfold aZ ae;omega)
  rw[this]at h;simp at h
 ·obtain⟨g0,g1,g2⟩:=hg;have hlt:=My hlt;have h:=ma.1 h;have hle:=lr l;simp only[fo]at *;rw[IA g0 hlt];refine⟨⟨g0,hlt⟩,by omega,trivial,fun hb=>⟨ny fun hh=>?_,?_⟩,fun hb=>⟨?_,g+1,⟨by omega,by omega,fun j hj=>?_⟩,by omega,trivial,trivial,rfl,trivial,GN g0 hlt (by simpa using hb)⟩⟩
  ·have:=hh.2.2 g.toNat (by omega)
   unfold bf at hb;rw[this]at hb;simp at hb
  ·rcases mL (ay l g.toNat free) (l.length:Int)with⟨h1,h2⟩|⟨h1,h2⟩
   ·rw[h1]at hb;simp at hb
   ·exact h1
  ·simp only[br,bJ];omega
  ·by_cases e:(j:Int)<g
   ·exact g2 j e
   ·have:j=g.toNat:=by omega
    subst this;rcases mL (ay l g.toNat free) (l.length:Int)with⟨h1,h2⟩|⟨h1,h2⟩
    ·exact h2
    ·rw[h1]at hb;simp at hb
 ·obtain⟨g0,g1,g2⟩:=hg;have hge:=Mx hge;have h:=ma.1 h;have hle:=lr l;simp only[fo]at *;exact⟨je.2 ⟨by omega,by omega,fun i hi=>g2 i (by omega)⟩,trivial,EP (by omega)⟩
theorem GZ (l:List Sx.Obj) (own:Option Nat):ai Try.prog 21 [.sa 0] [.ro (.arr own 163 (.ob l))] (K3 l) (fun _ _=>False):=
 ai.JN (ai.vQ (k:=0) rfl fun _ hl=>(c8 (inl:=bx) (ann:=(kQ [(21,5,K4 [0,2,3,4,5,18,19] (fun g=> [(20,.it .i64 g)]) 1 (fun g=> .store tS eS (eC l g)) (lC l) (aZ (ae l)))])) az (b6 I2 (b6 II de)) (JS l hl) (by kernel_rfl):ai Try.prog 21 [.sa 0] [.ro (.arr none 163 (.ob l))] (K3 l) (fun _ _=>False)))
theorem GY:sF Try.prog 21 I3:=by
 intro args res K KP h;unfold I3 at h;split at h
 ·split at h
  ·split at h
   ·rename_i hr;split at h
    ·rename_i he;have he:=Mw.1 he;subst he;split at h
     ·rename_i l;cases hb:bT l with
      |false=>exact ai.JC hr rfl rfl ((GZ l _).mono (fun v r hv=>Bz hb (zO hv).1) fun _ _ h=>h) (h.1 hb)
      |true=>
       refine ai.BL (F:=fun j=> .tp [.lp j 0,.ci .i64 0]) hr rfl ?_ (h.2 hb)
       refine ai.shut (GZ l _) fun v r hv=>?_
       obtain⟨hv,h0⟩:=zO hv;obtain⟨j,r',hs,h1,h2,h3⟩:=yJ hb hv
       have hj:1<=j:=by
        rcases Nat.eq_zero_or_pos j with rfl|hj
        ·rw[h0]at hs;simp at hs
        ·exact hj
       rcases h1 with rfl|h1
       ·exact .inl ⟨j,hj,h2,h3⟩
       ·exact .inr ⟨j,r',h1,j,hj,h2,h3⟩
     ·exact h.elim
    ·exact h.elim
   ·exact h.elim
  ·exact h.elim
 ·exact h.elim
end Go.Proofs.Ytmfbohanboiklaa
namespace Go.Sx
def eN (r b:Int):Bool:=decide ((r.tdiv b).tmod 2=1)
def cB (r m g:Int):Int:=(if 2<=g/\(eN r 1||eN m 1)=true then 1 else 0)+(if 4<=g/\(eN r 2||eN m 2)=true then 2 else 0)+(if 8<=g/\(eN r 4||eN m 4)=true then 4 else 0)
def jI (r m:Int):Int:=cB r m 8
def oM (g:Int):Prop:=g=1\/g=2\/g=4\/g=8
def tQ (k:Key) (r:Int):Key:= {k with rights:=r}
def eh (k:Key):Key:=if k.kind=2 then tQ k (jI k.rights 3)else if k.kind=3 then tQ k 1 else if k.kind=1\/k.kind=8 then k else void
def cx (k:Key):Key:=if aA k then eh k else void
def GF:Ct:=Jn (rI .i64) (rI .i64) fun r m=> .it .i64 (jI r m)
def EG:Ct:=Ez rK fun k=> .key (eh k)
def C0:Ct:=Ez rK fun k=> .tp [.key (cx k),.it .i64 (aW k)]
def bE (k:Key):Bool:=decide ((k.rights.tdiv 2).tmod 2=1)
def vj (L:List Obj) (o:Obj) (k:Key) (i:Int):Key:=if bE k then eh (bd L (o.slots.at i.toNat))else bd L (o.slots.at i.toNat)
def cU (L:List Obj) (k:Key) (i:Int):Key:=vj L (ay L k.oid.toNat free) k i
def uR (L:List Obj) (k:Key) (i:Int):Prop:=0<=i/\i<16/\0<=k.oid/\k.oid<(ae L:Int)
def j5 (L:List Obj):Prop:=bT L=true
def bL (g:Int):Prop:=0<=g/\g<=16
def kA:Arg Key:=Bx rK V.key
def iA:Arg Int:=Bx (rI .i64) (V.it .i64)
def bA:Arg Bool:=Bx toBool V.bo
def K5 (o:Option (List Obj)):List Obj:=match o with
 |none=> []
 |some L=>L
def HJ:Ct:=Ia (cH Jm (cH kA (cH iA kB))) (fun x=>some (uR x.1 x.2.1 x.2.2.1)) fun x=> .key (cU x.1 x.2.1 x.2.2.1)
theorem uG {r g:Int} (hr:bJ .i64 r) (hg:g=1\/g=2\/g=4\/g=8):bJ .i64 (r.tdiv g):=by
 simp only[bJ]at *;rcases Int.le_total 0 r with h|h
 ·rw[Int.tdiv_eq_ediv_of_nonneg h];rcases hg with rfl|rfl|rfl|rfl<;>omega
 ·obtain⟨s,rfl⟩:∃s,r= -s:=⟨-r,by omega⟩
  rw[Int.neg_tdiv,Int.tdiv_eq_ediv_of_nonneg (by omega)]
  rcases hg with rfl|rfl|rfl|rfl<;>omega
theorem rG (x:Int):bJ .i64 (x.tmod 2):=by
 have h1:=Int.tmod_lt_of_pos x (show(0:Int)<2 by omega)
 have h2:=Int.lt_tmod_of_pos x (show(0:Int)<2 by omega)
 simp only[bJ];omega
theorem B0 {r m g:Int}:0<=cB r m g/\cB r m g<=7:=by
 unfold cB;repeat' split
 all_goals omega
theorem Df {r:Int} (h0:0<=r) (h1:r<=7):cS .or .i64 r 3=jI r 3:=by
 have:r=0\/r=1\/r=2\/r=3\/r=4\/r=5\/r=6\/r=7:=by omega
 rcases this with rfl|rfl|rfl|rfl|rfl|rfl|rfl|rfl<;>decide
theorem CZ {r:Int} (h0:0<=r) (h1:r<=1):cS .or .i64 r 1=1:=by
 have:r=0\/r=1:=by omega
 rcases this with rfl|rfl<;>decide
theorem nF {k:Key} (h:aA k=true):0<=k.rights/\k.rights<=fK k.kind:=by
 simp only[aA,Mu,Mv]at h;omega
theorem xJ:aA void=true:=by decide
theorem jY (L:List Obj) (k:Key):aA (bd L k)=true:=by
 unfold bd;split
 ·exact xJ
 ·rename_i h;simp only[Bool.or_eq_true,not_or,Bool.not_eq_true,Bool.not_eq_false']at h;exact h.1.2
theorem pC (L:List Obj) (k:Key):cx (bd L k)=eh (bd L k):=by unfold cx;rw[jY,MB rfl]
theorem K6 {r:Int} (h0:0<=r) (h1:r<=7):decide (cS .and .i64 r 2=0)= !decide ((r.tdiv 2).tmod 2=1):=by
 have:r=0\/r=1\/r=2\/r=3\/r=4\/r=5\/r=6\/r=7:=by omega
 rcases this with rfl|rfl|rfl|rfl|rfl|rfl|rfl|rfl<;>decide
theorem yQ:kD kA:=uQ hJ (fun _=>rfl) fun v x h=>JO h
theorem JT:kD bA:=uQ CL (fun _=>rfl) fun v x h=>by cases v<;>simp[toBool]at h<;>rfl
theorem mA:kD iA:=uQ (fy .i64) (fun _=>rfl) fun v x h=>by cases v<;>simp[rI,toInt]at h<;>rfl
theorem tB {L M:List Obj} {g:Int} (hg:jB L M g) (hge:(ae L:Int)<=g):decide (g=aZ (ae M))=gO L M:=by
 have:=BP hg hge
 have e:cW L=g:=by
  have:=hg.2.1;unfold cW;omega
 rw[decide_eq_true e,Bool.and_true]at this;exact this
structure Md where
 kind:Int
 slot:Int
 key:Key
 other:Key
def iU (l:List Obj):Bool:=decide ((ae l:Int)<=20)&&bT l
def HN:pn:=KH (cH Jm kB) (fun _=>True) (fun x=>iU x.1) (fun _=>oH) (fun _ n=> .lp n 0) (fun x=> .store tS eS x.1)
def Md.wf (x:Md):Prop:=bJ .i64 x.kind/\bJ .i64 x.slot/\x.key.wf/\x.other.wf
section
variable {L:List Obj} {k:Key} {s:b7} (h0:0<=k.oid) (h1:k.oid<(L.length:Int))
include h0 h1
end
end Go.Sx
set_option maxRecDepth 100000
namespace Go.Sx
end Go.Sx
set_option maxRecDepth 100000
namespace Go.Sx
def Lx {α:Type} (B:kT α) (l:List V):Option α:=match B.rd [] l with
 |some p=>match p.1 with
  | []=>some p.2
  |_=>none
 |none=>none
theorem IK {α:Type} {B:kT α} (hB:jT B) (hid:∀a,jg (B.cn a 0)=true):∀l x,Lx B l=some x->fU l (B.cn x 0):=fun l x h=>by
 unfold Lx at h;split at h
 case h_2=>simp at h
 rename_i p hp;obtain⟨pls,a⟩:=p;split at h
 case h_2=>simp at h
 rename_i h1;simp only at h1;subst h1;simp only[Ms]at h;subst h;obtain⟨_,_,_,b4⟩:=hB _ _ _ _ hp;obtain⟨c1,c2⟩:=b4 [] [];intro J K hk;have e1:=(c1 J K hk).1;have e2:=c2 K hk;have e3:b8 (fun _=>False) (B.cn a 0):=jF _ (hid a) e2
 refine⟨?_,jF _ (hid a) e2⟩;rw[<-e1];exact cD (N:=fun _=>False) (fun _ h=>h.elim) _ e3
theorem p8 {L:List Obj} (h:j5 L):1<=L.length/\L.length<=64:=⟨(je.1 h).1,(je.1 h).2.1⟩
end Go.Sx
