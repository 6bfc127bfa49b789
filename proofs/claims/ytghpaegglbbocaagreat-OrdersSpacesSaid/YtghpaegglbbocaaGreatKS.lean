import Derived.Test.YtghpaegglbbocaaGreatKO
import Derived.Test.YtghpaegglbbocaaGreatSxF
set_option linter.unusedSimpArgs false
set_option linter.unusedVariables false
namespace Go.Sx
def bC (L:List Obj):Bool:=decide (aj L=0)
def cS (L:List Obj) (oid:Int):Int:=if aj L=0 then 1 else if oid<0\/(aj L:Int)<=oid then 4 else 0
def aR (L:List Obj) (oid:Int):Obj:=if cS L oid=0 then ah L oid.toNat free else free
def ak (L:List Obj):Int:=(aj L:Int)
def aU (L:List Obj) (k:Key):Bool:=bg k&&decide (cS L k.oid=0)&&b7 k (ah L k.oid.toNat free)
def aa (L:List Obj) (k:Key):Obj:=if aU L k then ah L k.oid.toNat free else free
def ab (L:List Obj) (k:Key):Key:=if bC L|| !aT k||(bg k&& !aU L k)then void else k
def iE (n:Int):Bool:=decide (1<=n)&&decide (n<=64)
def g8 (n:Int):List Obj:=List.replicate n.toNat free
def cW (L:List Obj) (i:Int) (o:Obj):List Obj:=if cS L i=0/\cE o (aj L:Int)=0 then cx L i.toNat o else L
def eK (L:List Obj) (i:Int) (o:Obj):Int:=if cS L i=0 then cE o (aj L:Int)else cS L i
def eZ (l:List Obj):Bool:=decide (1<=aj l)&&decide (aj l<=64)&&(List.range (aj l)).all fun i=>bT (ah l i free) (aj l:Int)
def ji (l:List Obj) (g:Int):List Obj:=l.take g.toNat++List.replicate (l.length-g.toNat) free
def qf (l:List Obj) (g:Int):Prop:=0<=g/\g<=(aj l:Int)/\∀j:Nat,(j:Int)<g->bT (ah l j free) (aj l:Int)=true
def A5 (n i:Int):Prop:=0<=i/\i<=n
abbrev tS:Nat:=40
abbrev eS:Nat:=75
def Rl (c:Bool) (M:List Obj) (v:V) (r:List aH):Prop:=
 match v with
 | .tp l=>match l with
   | [a,b]=>match a with
     | .nl p=>match p with
       | .pointer none=>c=false/\nz (.ci .i64 2) b r
       |_=>False
     | .lp j off=>match Cz r j with
       |some (t,e,L)=>if off==0&&t==tS&&e==eS then c=true/\nz (.ci .i64 0) b r/\L=M else False
       |none=>False
     |_=>False
   |_=>False
 |_=>False
def WQ (n:Int):V->List aH->Prop:=Rl (iE n) (g8 n)
def Wt (l:List Obj) (v:V) (r:List aH):Prop:=
 match ay r 0 with
 | .ro _=>Rl (eZ l) l v r
 |_=>False
theorem Ez {l:List Obj} {v:V} {r:List aH} (h:Wt l v r):Rl (eZ l) l v r/\Cz r 0=none:=by
 unfold Wt at h;split at h
 ·rename_i hr;refine⟨h,?_⟩;unfold Cz CH;rw[hr]
 ·exact h.elim
def Wd (x:V) (M:List Obj) (v:V) (r:List aH):Prop:=
 match CH r 0 with
 |some (t,e,_,L)=>if t==tS&&e==eS then nz x v r/\L=M else False
 |none=>False
def Rv:kz:=fun args res K=>
 match args with
 | [a]=>match rI .i64 a with
   |some n=>(iE n=false->K (.tp [k9,.ci .i64 2]) res)/\(iE n=true->K (.tp [.lp res.length 0,.ci .i64 0]) (res++ [.store tS eS (g8 n)]))
   |none=>False
 |_=>False
def Vy (c:V):Bool:=
 match c with
 | .ag l=>match l with
   | [x]=>match x with
     | .nl v=>match v with
       | .slice none 0 0=>true
       |_=>false
     |_=>false
   |_=>false
 |_=>false
theorem wN {c:V} (h:Vy c=true):c= .ag [.nl (.slice none 0 0)]:=by
 unfold Vy at h;split at h
 ·split at h
  ·split at h
   ·split at h
    ·rfl
    ·simp at h
   ·simp at h
  ·simp at h
 ·simp at h
def Rk:kz:=fun args res K=>
 match args with
 | [a,b,c]=>match rI .i64 b with
   |some i=>match rO c with
    |some o=>match a with
     | .nl v=>match v with
       | .pointer none=>K (.it .i64 (eK [] i o)) res
       |_=>False
     | .lp k off=>if off==0 then match ay res k with
       | .store t e L=>if t==tS&&e==eS then K (.it .i64 (eK L i o)) (b8 res k (.store tS eS (cW L i o)))else False
       | .blk t c=>if t==tS&&Vy c then K (.it .i64 (eK [] i o)) res else False
       |_=>False
       else False
     |_=>False
    |none=>False
   |none=>False
 |_=>False
structure Xs where
 puts:Bool
 oid:Int
 ob:Obj
def Xs.wf (x:Xs):Prop:=cg .i64 x.oid/\x.ob.wf
def Pq:Ct:=Uk (.bo true)
def jN (L M:List Obj):Bool:=decide (L=M)
def oQ (L M:List Obj) (g:Int):Prop:=0<=g/\g<=(aj L:Int)/\g<=(aj M:Int)/\∀j:Nat,(j:Int)<g->ah L j free=ah M j free
def Sq:Ct:=Tg tS eS fun L M=> .bo (jN L M)
def gE (L M:List Obj) (g:Int):List Int:=((List.range g.toNat).filter fun j=> !BH (ah L j free) (ah M j free)).map Int.ofNat
def iW (L M:List Obj):Bool:=bC L||bC M|| !decide ((aj L:Int)=(aj M:Int))
def dg (L M:List Obj):List Int:=gE L M (aj L:Int)
def kM (L:List Obj) (g:Int):List Obj:=L.take g.toNat
def ou (L:List Obj) (g:Int):Prop:=0<=g/\g<=(aj L:Int)
abbrev Ui:V:= .nl (.slice none 0 0)
abbrev tI:Nat:=3
def Cw (L:List Obj) (v:V) (r:List aH):Prop:=
 match v with
 | .nl p=>match p with
   | .pointer none=>bC L=true
   |_=>False
 | .lp j off=>match Cz r j with
   |some (t,e,M)=>if off==0&&t==tS&&e==eS&&Nat.ble 1 j then bC L=false/\M=L else False
   |none=>False
 |_=>False
def HS (L M:List Obj) (v:V) (r:List aH):Prop:=
 match v with
 | .nl p=>match p with
   | .slice none 0 0=>iW L M=true
   |_=>False
 | .sa j=>match ay r j with
   | .arr own esz l=>match own with
     |some e=>match l with
      | .it k l=>match k with
        | .i64=>if e==tI&&esz==1&&Nat.ble 2 j then iW L M=false/\l=dg L M else False
        |_=>False
      |_=>False
     |none=>False
   |_=>False
 |_=>False
def Lj:kz:=fun args res K=>
 match args with
 | [a]=>match a with
   | .nl v=>match v with
     | .pointer none=>K k9 res
     |_=>False
   | .lp k off=>if off==0 then match dr res k with
     | .store t e L=>if t==tS&&e==eS then aj L<=1000/\(bC L=true->K k9 res)/\(bC L=false->K (.lp res.length 0) (res++ [.store tS eS L]))else False
     |_=>False
     else False
   |_=>False
 |_=>False
def Rp:kz:=fun args res K=>
 match args with
 | [a,b]=>match b with
   | .lp j off=>if off==0 then match dr res j with
     | .store t e M=>if t==tS&&e==eS then match a with
       | .nl v=>match v with
         | .pointer none=>K Ui res
         |_=>False
       | .lp k off'=>if off'==0&& !(k==j)then match dr res k with
         | .store t e L=>if t==tS&&e==eS then aj L<=1000/\(iW L M=true->K Ui res)/\(iW L M=false->K (.sa res.length) (res++ [.arr (some tI) 1 (.it .i64 (dg L M))]))else False
         |_=>False
         else False
       |_=>False
       else False
     |_=>False
     else False
   |_=>False
 |_=>False
def EM:Ct:=fun res nid xs=>match xs with
 | [a]=>match rS tS eS res a with
   |some (o,L)=>match o with
    |none=>some (none,.cb true,[])
    |some _=>some (none,.bo (bC L),[])
   |none=>none
 |_=>none
theorem gk {α:Type} (l:List α):cw (aj l)=(l.length:Int):=rfl
theorem lf {α:Type} (l:List α):((aj l:Nat):Int)=(l.length:Int):=rfl
def U9:kz:=fun args res K=>
 match args with
 | [a]=>match a with
   | .sa k=>match dr res k with
     | .arr _ e l=>if e==163 then match l with
       | .ob l=>(eZ l=false->K (.tp [k9,.ci .i64 2]) res)/\(eZ l=true->K (.tp [.lp res.length 0,.ci .i64 0]) (res++ [.store tS eS l]))
       |_=>False
       else False
     |_=>False
   |_=>False
 |_=>False
def QD:Ct:=Xa fun l=> .bo (eZ l)
def Hn:Ct:=OI rK fun l k=> .bo (aU l k)
def OP:Ct:=OI rK fun l k=> .key (ab l k)
def Eb:Ct:=Tf tS eS fun L=> .bo (bC L)
def VD:Ct:=He tS eS (rI .i64) fun L i=> .it .i64 (cS L i)
def VT:Ct:=He tS eS (rI .i64) fun L i=> .tp [.ob (aR L i),.it .i64 (cS L i)]
def DN:Ct:=Tf tS eS fun L=> .it .i64 (ak L)
def OU:Ct:=He tS eS rK fun L k=> .tp [.ob (aa L k),.bo (aU L k)]
def TK:Ct:=He tS eS rK fun L k=> .key (ab L k)
theorem Ew {n:Nat} (h:n<1000):vB n 8:=by unfold vB;simp only[maxLen];omega
theorem KF {L:List Obj} {g:Int} (h0:0<=g) (h1:g<(L.length:Int)):iJ (kM L g) (ah L g.toNat free)=kM L (g+1):=by
 unfold iJ kM ah;rw[show(g+1).toNat=g.toNat+1 by omega,List.take_add_one,XP,List.getElem?_eq_getElem (by omega)];rfl
theorem KI {L:List Obj} {g:Int} (h:(L.length:Int)<=g):kM L g=L:=by unfold kM;rw[List.take_of_length_le (by omega)]
theorem J2 {L:List Obj} {g:Int}:aj (kM L g)<=g.toNat:=by unfold aj kM;rw[List.length_take];omega
theorem Js {L M:List Obj} {g:Int}:aj (gE L M g)<=g.toNat:=by
 unfold aj gE;rw[List.length_map];exact Nat.le_trans (List.length_filter_le _ _) (by rw[List.length_range];omega)
theorem JO {L M:List Obj} {g:Int} (h0:0<=g) (h:(!BH (ah L g.toNat free) (ah M g.toNat free))=true):iJ (gE L M g) g=gE L M (g+1):=by
 unfold iJ gE;rw[show(g+1).toNat=g.toNat+1 by omega,List.range_succ,List.filter_append,List.map_append]
 simp only[List.filter_cons,h,if_true,List.filter_nil,List.map_cons,List.map_nil];congr 2
 show g=((g.toNat:Nat):Int)
 omega
theorem Ox {L M:List Obj} {g:Int} (h0:0<=g) (h:(!BH (ah L g.toNat free) (ah M g.toNat free))=false):gE L M g=gE L M (g+1):=by
 unfold gE;rw[show(g+1).toNat=g.toNat+1 by omega,List.range_succ,List.filter_append,List.map_append]
 simp only[List.filter_cons,h,Bool.false_eq_true,if_false,List.filter_nil,List.map_nil,List.append_nil]
theorem qK:bC []=true:=rfl
theorem zH {L:List Obj}:bC L=true↔L= []:=by
 unfold bC aj;simp[List.length_eq_zero_iff]
theorem qz (i:Int):cS [] i=1:=rfl
theorem Lm {L:List Obj} (h:bC L=false) (i:Int):cS L i=if i<0\/(L.length:Int)<=i then 4 else 0:=by
 have:L≠ []:=fun e=>by rw[e]at h;simp[qK]at h
 unfold cS aj;rw[XQ (by simpa[List.length_eq_zero_iff]using this)]
theorem kq {L:List Obj} {i:Int}:cS L i=0↔0<=i/\i<(L.length:Int):=by
 unfold cS aj;split
 ·omega
 ·split<;>omega
theorem zS (L:List Obj) (k:Key):((!bg k)=true->free=aa L k/\false=aU L k)/\
  ((!bg k)=false->
    ((!decide (cS L (cR k)=0)|| !b7 k (aR L (cR k)))=true->
      free=aa L k/\false=aU L k)/\
      ((!decide (cS L (cR k)=0)|| !b7 k (aR L (cR k)))=false->
        aR L (cR k)=aa L k/\true=aU L k)):=by
 have fin:∀b,aU L k=b->(b=false->free=aa L k)/\b=aU L k:=fun b h=>⟨fun hb=>by unfold aa;rw[h,hb];rfl,h.symm⟩
 refine⟨fun h=>?_,fun h=>?_⟩
 ·have h:bg k=false:=by simpa using h
  have:=fin false (by unfold aU;rw[h];rfl)
  exact⟨this.1 rfl,this.2⟩
 ·have h:bg k=true:=by simpa using h
  have ho:cR k=k.oid:=by unfold cR;rw[XR h]
  rw[ho];by_cases hh:cS L k.oid=0
  ·have hg:aR L k.oid=ah L k.oid.toNat free:=by unfold aR;rw[XR hh]
   rw[hg];have e:aU L k=b7 k (ah L k.oid.toNat free):=by unfold aU;simp[h,hh]
   refine⟨fun hc=>?_,fun hc=>?_⟩
   ·have hc:b7 k (ah L k.oid.toNat free)=false:=by simpa[hh]using hc
    have:=fin false (by rw[e,hc])
    exact⟨this.1 rfl,this.2⟩
   ·have hc:b7 k (ah L k.oid.toNat free)=true:=by simpa[hh]using hc
    have:=fin true (by rw[e,hc])
    refine⟨?_,this.2⟩;unfold aa;rw[e,hc];rfl
  ·have:=fin false (by unfold aU;simp[hh])
   exact⟨fun _=>⟨this.1 rfl,this.2⟩,fun hc=>by simp[hh]at hc⟩
theorem BN (L:List Obj) (k:Key):((bC L|| !decide (bD k=0))=true->void=ab L k)/\
  ((bC L|| !decide (bD k=0))=false->
    ((bg k&& !aU L k)=true->void=ab L k)/\((bg k&& !aU L k)=false->k=ab L k)):=by
 have hc:(!decide (bD k=0))= !aT k:=by unfold bD;cases aT k<;>simp
 rw[hc];unfold ab;refine⟨fun h=>?_,fun h=>⟨fun h2=>?_,fun h2=>?_⟩⟩
 ·rw[XR];simp only[h,Bool.true_or]
 ·rw[XR];simp only[h2,Bool.or_true]
 ·rw[XQ];simp only[h,h2];simp
theorem qH {n:Int}:iE n=true↔1<=n/\n<=64:=by simp[iE]
theorem OL {g:Int} (h:0<=g):iJ (g8 g) free=g8 (g+1):=by
 unfold iJ g8;rw[show(g+1).toNat=g.toNat+1 by omega,List.replicate_succ']
theorem FU {i:Int} {o:Obj}:eK [] i o=1:=by unfold eK;rw[qz];rfl
theorem PX {L:List Obj} {i:Int} {o:Obj} (h:cS L i≠0):eK L i o=cS L i/\cW L i o=L:=by
 unfold eK cW;rw[XQ h,XQ (fun hh=>h hh.1)];exact⟨rfl,rfl⟩
theorem SV {L:List Obj} {i:Int} {o:Obj} (h:cS L i=0) (h2:cE o (aj L:Int)≠0):eK L i o=cE o (aj L:Int)/\cW L i o=L:=by
 unfold eK cW;rw[XR h,XQ (fun hh=>h2 hh.2)];exact⟨rfl,rfl⟩
theorem sM {L:List Obj} {i:Int} {o:Obj} (h:cS L i=0) (h2:cE o (aj L:Int)=0):eK L i o=0/\cW L i o=cx L i.toNat o:=by
 unfold eK cW;rw[XR h,XR ⟨h,h2⟩];exact⟨h2,rfl⟩
theorem Mt {c:Bool} {M:List Obj} (hn:c=false) {v:V} {r:List aH} (h:Rl c M v r):yt (.tp [k9,.ci .i64 2]) v []:=by
 unfold Rl at h;split at h
 ·split at h
  ·split at h
   ·split at h
    ·exact O6 (dt h.2)
    ·exact h.elim
   ·split at h
    ·split at h
     ·rw[hn]at h;simp at h
     ·exact h.elim
    ·exact h.elim
   ·exact h.elim
  ·exact h.elim
 ·exact h.elim
theorem PZ {c:Bool} {M:List Obj} (hn:c=true) {v:V} {r:List aH} (h:Rl c M v r):∃j b,v= .tp [.lp j 0,b]/\yt (.ci .i64 0) b []/\Cz r j=some (tS,eS,M):=by
 unfold Rl at h;split at h
 ·split at h
  ·split at h
   ·split at h
    ·rw[hn]at h;simp at h
    ·exact h.elim
   ·split at h
    ·rename_i hst;split at h
     ·rename_i hc;simp only[XK,XM]at hc;obtain⟨⟨rfl,rfl⟩,rfl⟩:=hc;obtain⟨_,h2,rfl⟩:=h;exact⟨_,_,rfl,dt h2,hst⟩
     ·exact h.elim
    ·exact h.elim
   ·exact h.elim
  ·exact h.elim
 ·exact h.elim
theorem EJ {c:Bool} {M:List Obj} (hn:c=true) {v:V} {r:List aH} (h:Rl c M v r):∃j r',Cz r j=some (tS,eS,M)/\(r'=r\/sf r j=some r')/\ay r' j= .store tS eS M/\∀(κ:Nat->Option Nat) (i:Nat),κ j=some i->iC κ v (.tp [.lp i 0,.ci .i64 0]):=by
 obtain⟨j,b,rfl,hb,hst⟩:=PZ hn h
 have ht:∀(κ:Nat->Option Nat) (i:Nat),κ j=some i->iC κ (.tp [.lp j 0,b]) (.tp [.lp i 0,.ci .i64 0]):=fun κ i hi ρ2 ρ3 N N' hv hN hk=>by
  obtain⟨s1,s2,_⟩:=hb ρ2 N;refine⟨?_,hN j i hi hk.1,by simp[ok,cg],trivial⟩
  simp only[den,bu,(hv j i hi).1,s1]
 rcases B3 hst with h1|⟨r',h1,h2⟩
 ·exact⟨j,r,hst,.inl rfl,h1,ht⟩
 ·exact⟨j,r',hst,.inr h1,h2,ht⟩
theorem Nq {x:V} {M:List Obj} {v:V} {r:List aH} (h:Wd x M v r):∃t,CH r 0=some (tS,eS,t,M)/\yt x v r:=by
 unfold Wd at h;split at h
 ·rename_i hst;split at h
  ·rename_i hc;simp only[XK,XM]at hc;obtain⟨rfl,rfl⟩:=hc;obtain⟨h1,rfl⟩:=h;exact⟨_,hst,dt h1⟩
  ·exact h.elim
 ·exact h.elim
theorem W7 {P:Program} {f:Nat} {rest:List V} {res:List aH} {K KP:V->List aH->Prop} {k:Nat} {L M:List Obj} {x:V} (hr:ay res k= .store tS eS L) (hid:kG rest=true) (hx:j4 x=true)
  (h:(∀o∈L,o.wf)->L.length<=9223372036854775807->ai P f (.lp 0 0::rest) [.blk tS (.ag [.sa 1]),.obs eS 2 L,.gen 1] (Wd x M) (fun _ _=>False)) (hK:K x (b8 res k (.store tS eS M))):ai P f (.lp k 0::rest) res K KP:=by
 refine ai.Ah hr hid hx ?_ hK;refine ai.fact (k:=0) rfl fun w1 w2=>?_
 refine ai.jA (k:=0) rfl ?_;refine ai.shut (h w1 w2) fun v r hv=>?_
 obtain⟨t,h1,h2⟩:=Nq hv;obtain⟨r',g1,g2⟩:=yT h1;exact .inr ⟨0,r',g1,fun J K=>h2 J K,g2⟩
theorem ff {l:List Obj}:eZ l=true↔1<=l.length/\l.length<=64/\∀i,i<l.length->bT (ah l i free) (l.length:Int)=true:=by
 unfold eZ aj;simp only[XK,XL,List.all_eq_true,List.mem_range,and_assoc]
theorem sU {l:List Obj} (h:¬(1<=l.length/\l.length<=64/\∀i,i<l.length->bT (ah l i free) (l.length:Int)=true)):eZ l=false:=by
 cases hr:eZ l with
 |false=>rfl
 |true=>exact absurd (ff.1 hr) h
theorem vR {l:List Obj} {g:Int} (h1:g<=(l.length:Int)):(ji l g).length=l.length:=by
 unfold ji;simp only[List.length_append,List.length_take,List.length_replicate];omega
theorem HP {l:List Obj}:g8 (l.length:Int)=ji l 0:=by unfold g8 ji;simp
theorem NW {l:List Obj} {g:Int} (h:(l.length:Int)<=g):ji l g=l:=by
 unfold ji;rw[List.take_of_length_le (by omega),show l.length-g.toNat=0 by omega];simp
theorem QW {l:List Obj} {g:Int} (h0:0<=g) (h1:g<(l.length:Int)):cx (ji l g) g.toNat (ah l g.toNat free)=ji l (g+1):=by
 unfold cx ji ah;obtain⟨n,rfl⟩:=Int.eq_ofNat_of_zero_le h0;have hn:n<l.length:=by omega
 have e1:((n:Int)+1).toNat=n+1:=by omega
 have e2:((n:Int)).toNat=n:=by omega
 rw[e1,e2];apply List.ext_getElem?
 intro i;rw[List.getElem?_set];have hlt:(List.take n l++List.replicate (l.length-n) free).length=l.length:=by simp;omega
 have htl:(List.take n l).length=n:=by simp;omega
 have htl1:(List.take (n+1) l).length=n+1:=by simp;omega
 by_cases hi:n=i
 ·subst hi;rw[XR rfl,XR (by rw[hlt];exact hn),List.getElem?_append_left (by rw[htl1];omega),List.getElem?_take,XR (by omega),XP,List.getElem?_eq_getElem hn];rfl
 ·rw[XQ hi];by_cases hl:i<n
  ·rw[List.getElem?_append_left (by rw[htl];exact hl),List.getElem?_append_left (by rw[htl1];omega),List.getElem?_take,List.getElem?_take,XR hl,XR (by omega)]
  ·rw[List.getElem?_append_right (by rw[htl];omega),List.getElem?_append_right (by rw[htl1];omega),htl,htl1,List.getElem?_replicate,List.getElem?_replicate]
   by_cases hb:i<l.length
   ·rw[XR (by omega),XR (by omega)]
   ·rw[XQ (by omega),XQ (by omega)]
theorem TO {l:List Obj} {g:Int} (h0:0<=g) (h1:g<(l.length:Int)) (x:Obj):eK (ji l g) g x=cE x (l.length:Int):=by
 have hh:cS (ji l g) g=0:=kq.2 (by rw[vR (by omega)];exact⟨h0,h1⟩)
 unfold eK aj;rw[XR hh,vR (by omega)]
theorem OO {l:List Obj} {g:Int} (h0:0<=g) (h1:g<(l.length:Int)) (hx:cE (ah l g.toNat free) (l.length:Int)=0):cW (ji l g) g (ah l g.toNat free)=ji l (g+1):=by
 have hh:cS (ji l g) g=0:=kq.2 (by rw[vR (by omega)];exact⟨h0,h1⟩)
 unfold cW aj;rw[XR ⟨hh,by rw[vR (by omega)];exact hx⟩]
 exact QW h0 h1
theorem r8 (o:Obj) (n:Int):(cE o n=0/\bT o n=true)\/(cE o n=2/\bT o n=false):=by
 unfold cE;cases bT o n<;>simp
theorem jX (k:Key):(bg k=true/\aX k=k.oid/\0<=k.oid)\/(bg k=false/\aX k= -1):=by
 have h:aX k=if bg k then k.oid else -1:=rfl
 cases hn:bg k
 ·exact .inr ⟨rfl,by rw[h,hn];rfl⟩
 ·refine .inl ⟨rfl,by rw[h,hn];rfl,?_⟩
  unfold bg at hn;simp only[XK]at hn;have:=hn.1;simp only[aT,fF,hn.2,if_true,XK,XL]at this;omega
theorem CF (l:List Obj) (k:Key) (hl:l.length<=9223372036854775807):((decide (0<=aX k)&&decide (aX k<cw (aj l)))=true->aI IntKind.i64 (cw (aj l)-1))/\
  ((decide (0<=aX k)&&decide (aX k<cw (aj l)))=true->
    0<=kD (aX k) (cw (aj l)-1)/\kD (aX k) (cw (aj l)-1)< ↑(aj l))/\
    ((decide (0<=aX k)&&decide (aX k<cw (aj l)))=true->
      (kD (aX k) (cw (aj l)-1)).toNat<aj l)/\
      (decide (0<=aX k)&&decide (aX k<cw (aj l))&&
        b7 k (ah l (kD (aX k) (cw (aj l)-1)).toNat free))=
       aU l k:=by
 unfold cw aj
 have hm:0<=aX k->aX k<(l.length:Int)->kD (aX k) ((l.length:Int)-1)=aX k:=fun h1 h2=>by
  unfold kD;rw[XQ (by omega)]
 simp only[XK,XL];refine⟨fun h=>by simp only[aI,cg];omega,fun h=>by rw[hm h.1 h.2];exact h,fun h=>by rw[hm h.1 h.2];omega,?_⟩
 rcases jX k with⟨h1,h2,h3⟩|⟨h1,h2⟩
 ·by_cases hh:k.oid<(l.length:Int)
  ·rw[hm (by omega) (by omega),h2]
   have h0:cS l k.oid=0:=kq.2 ⟨h3,hh⟩;unfold aU;simp[h1,h0,h3,hh]
  ·have h0:¬cS l k.oid=0:=fun h=>hh (kq.1 h).2
   unfold aU;rw[h2];simp[h0,hh]
 ·unfold aU;simp[h1,h2]
theorem F4 (l:List Obj) (k:Key):((decide (cw (aj l)=0)|| !decide (bD k=0)||decide (0<=aX k)&& !aU l k)=true->void=ab l k)/\
  ((decide (cw (aj l)=0)|| !decide (bD k=0)||decide (0<=aX k)&& !aU l k)=false->k=ab l k):=by
 have hc:(!decide (bD k=0))= !aT k:=by unfold bD;cases aT k<;>simp
 have hd:decide (0<=aX k)=bg k:=by
  rcases jX k with⟨h1,h2,h3⟩|⟨h1,h2⟩
  ·rw[h1,h2];simpa using h3
  ·rw[h1,h2];simp
 have he:decide (cw (aj l)=0)=bC l:=by
  unfold bC cw;rw[decide_eq_decide];omega
 rw[hc,hd,he];unfold ab;exact⟨fun h=>by rw[h];rfl,fun h=>by rw[h];rfl⟩
theorem yq {l:List Obj} {k:Key} (h:aU l k=true):0<=aX k/\aX k<(l.length:Int)/\aa l k=ah l (aX k).toNat free:=by
 have h':=h;unfold aU at h;simp only[XK,XL]at h;have hb:=kq.1 h.1.2;rcases jX k with⟨h1,h2,h3⟩|⟨h1,h2⟩
 ·rw[h2];exact⟨hb.1,hb.2,by unfold aa;rw[h',XR rfl]⟩
 ·rw[h1]at h;simp at h
theorem qc {L M:List Obj} (h:L.length=M.length) (h2:∀j:Nat,j<L.length->ah L j free=ah M j free):L=M:=by
 apply List.ext_getElem h
 intro i h3 h4;have:=h2 i h3;unfold ah at this;simpa[XP,h3,h4]using this
theorem H4 {L M:List Obj} {g:Int} (hg:oQ L M g) (hge:(aj L:Int)<=g):(decide (g=cw (aj M))&&decide (ak L=g))=jN L M:=by
 obtain⟨g0,g1,g2,g3⟩:=hg;have e:g=(L.length:Int):=by unfold aj at *;omega
 subst e;unfold jN ak cw aj;cases hd:decide (L=M)with
 |true=>
  have:=XO hd;subst this;simp
 |false=>
  have hne:=XN hd;simp only[decide_true,Bool.and_true,decide_eq_false_iff_not];intro hl;exact hne (qc (by omega) fun j hj=>g3 j (by omega))
end Go.Sx
namespace Go.Proofs.YtghpaegglbbocaaGreat
open Go.Sx
set_option maxRecDepth 100000
theorem K7:
 true=bC []:=by
 rfl
theorem MV (L:List Sx.Obj):
 decide (cw (aj L)=0)=bC L:=by
 unfold bC cw aj;rw[decide_eq_decide];omega
theorem oC:cj Tryz.prog 34 Eb:=
 MW (fun _=>rfl) (aW (inl:=bn) (ann:=aP) an K7 (by kernel_rfl)) (fun L _ _=>aW (inl:=bn) (ann:=aP) an (MV L) (by kernel_rfl))
theorem Q0 (i:Int):
 (bC []=true->1=cS [] i)/\
  (bC []=false->((!decide (i<0))=true->False)/\((!decide (i<0))=false->4=cS [] i)):=by
 exact⟨fun _=>rfl,fun h=>by simp[qK]at h⟩
theorem Pp (L:List Sx.Obj) (i:Int):
 (bC L=true->1=cS L i)/\
  (bC L=false->
   ((decide (i<0)||decide (cw (aj L)<=i))=true->4=cS L i)/\
     ((decide (i<0)||decide (cw (aj L)<=i))=false->0=cS L i)):=by
 refine⟨fun h=>?_,fun h=>?_⟩
 ·rw[zH.1 h];rfl
 ·rw[Lm h];unfold cw aj;refine⟨fun h1=>?_,fun h1=>?_⟩
  ·simp only[Bool.or_eq_true,XL]at h1;rw[XR h1]
  ·simp only[Bool.or_eq_false_iff,decide_eq_false_iff_not]at h1;rw[XQ (by omega)]
theorem xf:cj Tryz.prog 27 VD:=
 vM (fy .i64) (fun _ _=>rfl) (fun x _=>aW (inl:=bn) (ann:=aP) (ae oC an) (Q0 x) (by kernel_rfl)) (fun L x _ _ _=>aW (inl:=bn) (ann:=aP) (ae oC an) (Pp L x) (by kernel_rfl)) fun _=>rfl
theorem Jp:
 (bC []=true->0=ak [])/\(bC []=false->False):=by
 exact⟨fun _=>rfl,fun h=>by simp[qK]at h⟩
theorem HU (L:List Sx.Obj):
 (bC L=true->0=ak L)/\(bC L=false->cw (aj L)=ak L):=by
 exact⟨fun h=>by rw[zH.1 h];rfl,fun _=>rfl⟩
theorem bB:cj Tryz.prog 23 DN:=
 MW (fun _=>rfl) (aW (inl:=bn) (ann:=aP) (ae oC an) Jp (by kernel_rfl)) (fun L _ _=>aW (inl:=bn) (ann:=aP) (ae oC an) (HU L) (by kernel_rfl))
theorem NG (i:Int):
 ((!decide (cS [] i=0))=true->free=aR [] i/\cS [] i=cS [] i)/\
   ((!decide (cS [] i=0))=false->False):=by
 exact⟨fun _=>⟨rfl,rfl⟩,fun h=>by simp[qz]at h⟩
theorem PY (L:List Sx.Obj) (i:Int):
 ((!decide (cS L i=0))=true->free=aR L i/\cS L i=cS L i)/\
   ((!decide (cS L i=0))=false->
     (0<=i/\i< ↑(aj L))/\i.toNat<aj L/\i.toNat<aj L/\ah L i.toNat free=aR L i/\0=cS L i):=by
 refine⟨fun h=>⟨?_,rfl⟩,fun h=>?_⟩
 ·unfold aR;rw[XQ (by simpa using h)]
 ·have h:cS L i=0:=by simpa using h
  have hb:=kq.1 h;unfold aR aj;rw[XR h,h];exact⟨hb,by omega,by omega,rfl,rfl⟩
theorem gW:cj Tryz.prog 14 VT:=
 vM (fy .i64) (fun _ _=>rfl) (fun x _=>aW (inl:=bn) (ann:=aP) (ae xf an) (NG x) (by kernel_rfl)) (fun L x _ _ _=>aW (inl:=bn) (ann:=aP) (ae xf an) (PY L x) (by kernel_rfl)) fun _=>rfl
theorem Hf (k:Key):
 ((!bg k)=true->free=aa [] k/\false=aU [] k)/\
   ((!bg k)=false->
     ((!decide (cS [] (cR k)=0)|| !b7 k (aR [] (cR k)))=true->
       free=aa [] k/\false=aU [] k)/\
       ((!decide (cS [] (cR k)=0)|| !b7 k (aR [] (cR k)))=false->
         aR [] (cR k)=aa [] k/\true=aU [] k)):=by
 exact zS [] k
theorem Gd (L:List Sx.Obj) (k:Key):
 ((!bg k)=true->free=aa L k/\false=aU L k)/\
   ((!bg k)=false->
     ((!decide (cS L (cR k)=0)|| !b7 k (aR L (cR k)))=true->
       free=aa L k/\false=aU L k)/\
       ((!decide (cS L (cR k)=0)|| !b7 k (aR L (cR k)))=false->
         aR L (cR k)=aa L k/\true=aU L k)):=by
 exact zS L k
theorem bK:cj Tryz.prog 35 OU:=
 vM fx (fun _ _=>rfl) (fun x _=>aW (inl:=bn) (ann:=aP) (ae eV (ae gW (ae ya an))) (Hf x) (by kernel_rfl)) (fun L x _ _ _=>aW (inl:=bn) (ann:=aP) (ae eV (ae gW (ae ya an))) (Gd L x) (by kernel_rfl)) fun _=>rfl
end Go.Proofs.YtghpaegglbbocaaGreat
namespace Go.Proofs.YtghpaegglbbocaaGreat
open Go.Sx
set_option maxRecDepth 100000
theorem SK (n:Int):
 ((decide (n<1)||decide (64<n))=true->iE n=false/\True)/\
   ((decide (n<1)||decide (64<n))=false->
     (∃g,A5 n g/\Value.pointer none=Value.pointer none/\n=n/\0=g/\ []=g8 g)/\
      ∀(g:Int),
       A5 n g->
        (decide (g<n)=true->
          vB (aj (g8 g)) 8/\
           aI IntKind.i64 (g+1)/\
            ∃g',
             A5 n g'/\
              (n-g').toNat<(n-g).toNat/\
               Value.pointer none=Value.pointer none/\
                n=n/\g+1=g'/\iJ (g8 g) free=g8 g')/\
         (decide (g<n)=false->iE n=true/\True/\g8 g=g8 n)):=by
 refine⟨fun h=>⟨?_,trivial⟩,fun h=>⟨⟨0,?_,rfl,rfl,rfl,rfl⟩,fun g hg=>⟨fun hlt=>?_,fun hge=>?_⟩⟩⟩
 ·simp only[Bool.or_eq_true,XL]at h;unfold iE;rw[Bool.and_eq_false_iff,decide_eq_false_iff_not,decide_eq_false_iff_not];omega
 ·simp only[Bool.or_eq_false_iff,decide_eq_false_iff_not]at h;exact⟨by omega,by omega⟩
 ·simp only[Bool.or_eq_false_iff,decide_eq_false_iff_not]at h;obtain⟨g0,g1⟩:=hg;have hlt:=XO hlt;refine⟨?_,?_,g+1,⟨by omega,by omega⟩,by omega,rfl,rfl,rfl,OL g0⟩
  ·unfold vB aj g8;simp only[List.length_replicate,maxLen];omega
  ·simp only[aI,cg];omega
 ·simp only[Bool.or_eq_false_iff,decide_eq_false_iff_not]at h;obtain⟨g0,g1⟩:=hg;have hge:=XN hge;exact⟨qH.2 (by omega),trivial,by rw[show g=n by omega]⟩
theorem JW (n:Int):ai Tryz.prog 20 [.it .i64 n] [] (WQ n) (fun _ _=>False):=aW (inl:=bn) (ann:=(jC [(20,5,Xj [2,3,4,13] (fun g=> [(14,.it .i64 g)]) 0 tS eS g8 (A5 n) n)])) an (SK n) (by kernel_rfl)
theorem Kt:ll Tryz.prog 20 Rv:=by
 intro args res K KP h;unfold Rv at h;split at h
 ·split at h
  ·rename_i n hn;refine ai.args (eg.rd (fy .i64) hn eg.nil) ?_;cases hb:iE n with
   |false=>exact ai.pure rfl rfl ((JW n).mono (fun v r hv=>Mt hb hv) fun _ _ h=>h) (h.1 hb)
   |true=>
    refine ai.On (F:=fun j=> .tp [.lp j 0,.ci .i64 0]) rfl ?_ (h.2 hb)
    refine ai.shut (JW n) fun v r hv=>?_
    obtain⟨j,r',_,h1,h2,h3⟩:=EJ hb hv;rcases h1 with rfl|h1
    ·exact .inl ⟨j,h2,h3⟩
    ·exact .inr ⟨j,r',h1,j,h2,h3⟩
  ·exact h.elim
 ·exact h.elim
theorem P9 (i:Int) (o:Sx.Obj):
 ((!decide (cS [] i=0))=true->cS [] i=eK [] i o)/\((!decide (cS [] i=0))=false->False):=by
 refine⟨fun _=>?_,fun h=>by simp[qz]at h⟩
 rw[FU,qz]
theorem N4 (i:Int) (o:Sx.Obj):ai Tryz.prog 41 [k9,.it .i64 i,.ob o] [] (nz (.it .i64 (eK [] i o))) (fun _ _=>False):=aW (inl:=bn) (ann:=aP) (ae xf (ae AX an)) (P9 i o) (by kernel_rfl)
theorem O8 (L:List Sx.Obj) (i:Int) (o:Sx.Obj):
 ((!decide (cS L i=0))=true->cS L i=eK L i o/\L=cW L i o)/\
   ((!decide (cS L i=0))=false->
     ((!decide (cE o (cw (aj L))=0))=true->cE o (cw (aj L))=eK L i o/\L=cW L i o)/\
       ((!decide (cE o (cw (aj L))=0))=false->
         (0<=i/\i< ↑(aj L))/\i.toNat<aj L/\0=eK L i o/\cx L i.toNat o=cW L i o)):=by
 refine⟨fun h=>?_,fun h=>⟨fun h2=>?_,fun h2=>?_⟩⟩
 ·obtain⟨a,b⟩:=PX (o:=o) (show cS L i≠0 by simpa using h)
  rw[a,b];exact⟨rfl,rfl⟩
 ·obtain⟨a,b⟩:=SV (o:=o) (show cS L i=0 by simpa using h) (show cE o (aj L:Int)≠0 by unfold cw at h2;simpa using h2)
  rw[a,b];exact⟨rfl,rfl⟩
 ·have h:=(show cS L i=0 by simpa using h)
  have hb:=kq.1 h;obtain⟨a,b⟩:=sM (o:=o) h (show cE o (aj L:Int)=0 by unfold cw at h2;simpa using h2)
  rw[a,b];exact⟨hb,by unfold aj;omega,rfl,rfl⟩
theorem Qp (L:List Sx.Obj) (i:Int) (o:Sx.Obj):ai Tryz.prog 41 [.lp 0 0,.it .i64 i,.ob o] [.blk tS (.ag [.sa 1]),.obs eS 2 L,.gen 1] (Wd (.it .i64 (eK L i o)) (cW L i o)) (fun _ _=>False):=aW (inl:=bn) (ann:=aP) (ae xf (ae AX an)) (O8 L i o) (by kernel_rfl)
theorem NC (i:Int) (o:Sx.Obj):
 ((!decide (cS [] i=0))=true->cS [] i=eK [] i o)/\
   ((!decide (cS [] i=0))=false->
     ((!decide (cE o 0=0))=true->cE o 0=eK [] i o)/\((!decide (cE o 0=0))=false->False)):=by
 refine⟨fun _=>?_,fun h=>by simp[qz]at h⟩
 rw[FU,qz]
theorem Ot (i:Int) (o:Sx.Obj):ai Tryz.prog 41 [.lp 0 0,.it .i64 i,.ob o] [.ro (.blk tS (.ag [.nl (.slice none 0 0)]))] (nz (.it .i64 (eK [] i o))) (fun _ _=>False):=aW (inl:=bn) (ann:=aP) (ae xf (ae AX an)) (NC i o) (by kernel_rfl)
theorem dM:ll Tryz.prog 41 Rk:=by
 intro args res K KP h;unfold Rk at h;split at h
 ·split at h
  ·rename_i i hi;split at h
   ·rename_i o ho;refine ai.args (eg.iT (eg.rd (fy .i64) hi (eg.rd yk ho eg.nil))) ?_;split at h
    ·split at h
     ·exact ai.pure rfl rfl ((N4 i o).mono (fun _ _ h=>dt h) fun _ _ h=>h) h
     ·exact h.elim
    ·split at h
     ·rename_i hoff;have hoff:=XM.1 hoff;subst hoff;split at h
      ·rename_i hr;split at h
       ·rename_i hc;simp only[XK,XM]at hc;obtain⟨rfl,rfl⟩:=hc;exact W7 hr rfl rfl (fun _ _=>Qp _ i o) h
       ·exact h.elim
      ·rename_i hr;split at h
       ·rename_i hc;simp only[XK,XM]at hc;obtain⟨rfl,hz⟩:=hc;have:=wN hz;subst this;refine ai.Jl (r0:= .blk tS (.ag [.nl (.slice none 0 0)])) (by unfold dr;rw[hr]) (by simp) (fun κ=>rfl) rfl rfl ((Ot i o).mono (fun _ _ h=>dt h) fun _ _ h=>h) h
       ·exact h.elim
      ·exact h.elim
     ·exact h.elim
    ·exact h.elim
   ·exact h.elim
  ·exact h.elim
 ·exact h.elim
theorem J9 (l:List Sx.Obj) (hl:l.length<=9223372036854775807):
 ((decide (cw (aj l)<1)||decide (64<cw (aj l)))=true->false=eZ l)/\
   ((decide (cw (aj l)<1)||decide (64<cw (aj l)))=false->
     (∃g,qf l g/\false=false/\0=g/\l=l)/\
      ∀(g:Int),
       qf l g->
        (decide (g<cw (aj l))=true->
          (0<=g/\g< ↑(aj l))/\
           g.toNat<aj l/\
            ((!decide (cE (ah l g.toNat free) (cw (aj l))=0))=true->false=eZ l)/\
              ((!decide (cE (ah l g.toNat free) (cw (aj l))=0))=false->
                aI IntKind.i64 (g+1)/\
                 ∃g',
                  qf l g'/\
                   (cw (aj l)-g').toNat<(cw (aj l)-g).toNat/\
                    false=false/\g+1=g'/\l=l))/\
         (decide (g<cw (aj l))=false->true=eZ l)):=by
 refine⟨fun h=>?_,fun h=>⟨⟨0,⟨by omega,by omega,fun j hj=>by omega⟩,rfl,rfl,rfl⟩,fun g hg=>⟨fun hlt=>?_,fun hge=>?_⟩⟩⟩
 ·simp only[Bool.or_eq_true,XL]at h;simp only[gk]at h;exact(sU fun hh=>by have h1:=hh.1;have h2:=hh.2.1;omega).symm
 ·obtain⟨g0,g1,g2⟩:=hg;have hlt:=XO hlt;unfold cw at *;refine⟨⟨g0,hlt⟩,by omega,fun hb=>(sU fun hh=>?_).symm,fun hb=>⟨?_,g+1,⟨by omega,by omega,fun j hj=>?_⟩,by omega,rfl,rfl,rfl⟩⟩
  ·have:=hh.2.2 g.toNat (by unfold aj at hlt;omega)
   unfold cE aj at hb;rw[this]at hb;simp at hb
  ·simp only[aI,cg];unfold aj at *;omega
  ·by_cases e:(j:Int)<g
   ·exact g2 j e
   ·have:j=g.toNat:=by omega
    subst this;rcases r8 (ah l g.toNat free) (aj l:Int)with⟨h1,h2⟩|⟨h1,h2⟩
    ·exact h2
    ·rw[h1]at hb;simp at hb
 ·obtain⟨g0,g1,g2⟩:=hg;have hge:=XN hge;have hle:=lf l;simp only[Bool.or_eq_false_iff,decide_eq_false_iff_not]at h;simp only[gk]at h hge;exact(ff.2 ⟨by omega,by omega,fun i hi=>g2 i (by omega)⟩).symm
theorem Mb:cj Tryz.prog 25 QD:=S6 (fun _=>rfl) fun l _ hl=>aW (inl:=bn) (ann:=(jC [(25,4,T2 [0,2] (fun g=> [(3,.it .i64 g)]) (qf l) (cw (aj l)))])) (ae JP an) (J9 l hl) (by kernel_rfl)
theorem Eo (l:List Sx.Obj) (k:Key) (hl:l.length<=9223372036854775807):
 ((decide (0<=aX k)&&decide (aX k<cw (aj l)))=true->aI IntKind.i64 (cw (aj l)-1))/\
   ((decide (0<=aX k)&&decide (aX k<cw (aj l)))=true->
     0<=kD (aX k) (cw (aj l)-1)/\kD (aX k) (cw (aj l)-1)< ↑(aj l))/\
     ((decide (0<=aX k)&&decide (aX k<cw (aj l)))=true->
       (kD (aX k) (cw (aj l)-1)).toNat<aj l)/\
       (decide (0<=aX k)&&decide (aX k<cw (aj l))&&
         b7 k (ah l (kD (aX k) (cw (aj l)-1)).toNat free))=
        aU l k:=by
 exact CF l k hl
theorem lZ:cj Tryz.prog 109 Hn:=Fl fx (fun _ _=>rfl) (fun l k _ hl _=>aW (inl:=bn) (ann:=aP) (ae lX (ae D4 an)) (Eo l k hl) (by kernel_rfl)) fun _=>rfl
theorem Vi (l:List Sx.Obj) (hl:l.length<=9223372036854775807):
 true=true/\
  (iE (cw (aj l))=false->eZ l=false/\True)/\
   (iE (cw (aj l))=true->
    (∃g,
      qf l g/\
       Value.pointer none=Value.pointer none/\
        cw (aj l)=cw (aj l)/\0=g/\l=l/\g8 (cw (aj l))=ji l g)/\
     ∀(g:Int),
      qf l g->
       (decide (g<cw (aj l))=true->
         (0<=g/\g< ↑(aj l))/\
          g.toNat<aj l/\
           true=true/\
            ((!decide (eK (ji l g) g (ah l g.toNat free)=0))=true->
              eZ l=false/\eK (ji l g) g (ah l g.toNat free)=2)/\
              ((!decide (eK (ji l g) g (ah l g.toNat free)=0))=false->
                aI IntKind.i64 (g+1)/\
                 ∃g',
                  qf l g'/\
                   (cw (aj l)-g').toNat<(cw (aj l)-g).toNat/\
                    Value.pointer none=Value.pointer none/\
                     cw (aj l)=cw (aj l)/\
                      g+1=g'/\l=l/\cW (ji l g) g (ah l g.toNat free)=ji l g'))/\
        (decide (g<cw (aj l))=false->eZ l=true/\True/\ji l g=l)):=by
 refine⟨rfl,fun h=>⟨sU fun hh=>?_,trivial⟩,fun h=>⟨⟨0,⟨by omega,by omega,fun j hj=>by omega⟩,rfl,rfl,rfl,rfl,HP⟩,fun g hg=>⟨fun hlt=>?_,fun hge=>?_⟩⟩⟩
 ·have:iE (cw (aj l))=true:=qH.2 (by unfold cw aj;omega)
  rw[this]at h;simp at h
 ·obtain⟨g0,g1,g2⟩:=hg;have hlt:=XO hlt;have h:=qH.1 h;have hle:=lf l;simp only[gk]at *;rw[TO g0 hlt];refine⟨⟨g0,hlt⟩,by omega,trivial,fun hb=>⟨sU fun hh=>?_,?_⟩,fun hb=>⟨?_,g+1,⟨by omega,by omega,fun j hj=>?_⟩,by omega,trivial,trivial,rfl,trivial,OO g0 hlt (by simpa using hb)⟩⟩
  ·have:=hh.2.2 g.toNat (by omega)
   unfold cE at hb;rw[this]at hb;simp at hb
  ·rcases r8 (ah l g.toNat free) (l.length:Int)with⟨h1,h2⟩|⟨h1,h2⟩
   ·rw[h1]at hb;simp at hb
   ·exact h1
  ·simp only[aI,cg];omega
  ·by_cases e:(j:Int)<g
   ·exact g2 j e
   ·have:j=g.toNat:=by omega
    subst this;rcases r8 (ah l g.toNat free) (l.length:Int)with⟨h1,h2⟩|⟨h1,h2⟩
    ·exact h2
    ·rw[h1]at hb;simp at hb
 ·obtain⟨g0,g1,g2⟩:=hg;have hge:=XN hge;have h:=qH.1 h;have hle:=lf l;simp only[gk]at *;exact⟨ff.2 ⟨by omega,by omega,fun i hi=>g2 i (by omega)⟩,trivial,NW (by omega)⟩
theorem RC (l:List Sx.Obj) (own:Option Nat):ai Tryz.prog 26 [.sa 0] [.ro (.arr own 163 (.ob l))] (Wt l) (fun _ _=>False):=
 ai.Uw (ai.B6 (k:=0) rfl fun _ hl=>(br (inl:=bn) (ann:=(jC [(26,5,Uh [0,2,3,4,5,18,19] (fun g=> [(20,.it .i64 g)]) 1 (fun g=> .store tS eS (ji l g)) (qf l) (cw (aj l)))])) an (aF Kt (aF dM aC)) (Vi l hl) (by kernel_rfl):ai Tryz.prog 26 [.sa 0] [.ro (.arr none 163 (.ob l))] (Wt l) (fun _ _=>False)))
theorem V6:ll Tryz.prog 26 U9:=by
 intro args res K KP h;unfold U9 at h;split at h
 ·split at h
  ·split at h
   ·rename_i hr;split at h
    ·rename_i he;have he:=XM.1 he;subst he;split at h
     ·rename_i l;cases hb:eZ l with
      |false=>exact ai.U1 hr rfl rfl ((RC l _).mono (fun v r hv=>Mt hb (Ez hv).1) fun _ _ h=>h) (h.1 hb)
      |true=>
       refine ai.Iw (F:=fun j=> .tp [.lp j 0,.ci .i64 0]) hr rfl ?_ (h.2 hb)
       refine ai.shut (RC l _) fun v r hv=>?_
       obtain⟨hv,h0⟩:=Ez hv;obtain⟨j,r',hs,h1,h2,h3⟩:=EJ hb hv
       have hj:1<=j:=by
        rcases Nat.eq_zero_or_pos j with rfl|hj
        ·rw[h0]at hs;simp at hs
        ·exact hj
       rcases h1 with rfl|h1
       ·exact .inl ⟨j,hj,h2,h3⟩
       ·exact .inr ⟨j,r',h1,j,hj,h2,h3⟩
     ·exact h.elim
    ·exact h.elim
   ·exact h.elim
  ·exact h.elim
 ·exact h.elim
end Go.Proofs.YtghpaegglbbocaaGreat
namespace Go.Sx
def fU (r b:Int):Bool:=decide ((r.tdiv b).tmod 2=1)
def fI (r m g:Int):Int:=(if 2<=g/\(fU r 1||fU m 1)=true then 1 else 0)+(if 4<=g/\(fU r 2||fU m 2)=true then 2 else 0)+(if 8<=g/\(fU r 4||fU m 4)=true then 4 else 0)
def gw (r m:Int):Int:=fI r m 8
def jL (g:Int):Prop:=g=1\/g=2\/g=4\/g=8
def cL (k:Key) (r:Int):Key:= {k with rights:=r}
def jM (k:Key):Key:=if k.kind=2 then cL k (gw k.rights 3)else if k.kind=3 then cL k 1 else if k.kind=1\/k.kind=8 then k else void
def gD (k:Key):Key:=if aT k then jM k else void
def Qy:Ct:=Qn (rI .i64) (rI .i64) fun r m=> .it .i64 (gw r m)
def PC:Ct:=Nj rK fun k=> .key (jM k)
def Me:Ct:=Nj rK fun k=> .tp [.key (gD k),.it .i64 (bD k)]
def aw (L:List Obj) (k:Key) (kind:Int) (c:Bool):Int:=if aj L=0 then 1 else if(!aU L k|| !decide (k.kind=kind))=true then 190 else if(c&& !decide (k.rights.tmod 4=0))=true then 191 else 0
def qO (k:Key):Bool:=decide ((k.rights.tdiv 2).tmod 2=1)
def ij (L:List Obj) (o:Obj) (k:Key) (i:Int):Key:=if qO k then jM (ab L (o.slots.at i.toNat))else ab L (o.slots.at i.toNat)
def cN (L:List Obj) (k:Key) (i:Int):Key:=ij L (ah L k.oid.toNat free) k i
def nu (k:Key) (i:Int):Prop:=0<=i/\i<16/\aT k=true
def mZ (L:List Obj) (k:Key) (i:Int):Prop:=0<=i/\i<16/\0<=k.oid/\k.oid<(aj L:Int)
def jm (i:Int):Bool:=decide (0<=i)&&decide (i<16)
def bI (L:List Obj) (k:Key) (i:Int):Int:=if aw L k 2 false=0 then(if jm i then 0 else 4)else aw L k 2 false
def aE (L:List Obj) (k:Key) (i:Int):Key:=if bI L k i=0 then cN L k i else void
def cZ (L:List Obj) (v:Key):Bool:=aT v&&decide (aX v<(aj L:Int))
def bc (L:List Obj) (k:Key) (i:Int) (v:Key):Int:=if aw L k 2 true=0 then(if jm i then(if cZ L v then 0 else 2)else 4)else aw L k 2 true
def cA (L:List Obj) (k:Key) (i:Int) (v:Key):Key:=if bc L k i v=0 then cN L k i else void
def en (o:Obj) (s:cQ):Obj:= {o with slots:=s}
def rE (L:List Obj) (k:Key) (s:cQ):List Obj:=cx L k.oid.toNat (en (ah L k.oid.toNat free) s)
def bZ (L:List Obj) (k:Key) (i:Int) (v:Key):List Obj:=if bc L k i v=0 then rE L k ((ah L k.oid.toNat free).slots.put i.toNat (ab L v))else L
def eM (L:List Obj) (k:Key):List Obj:=if aw L k 2 true=0 then rE L k fV else L
def bG (L:List Obj) (t f:Key):Int:=if aw L t 2 true=0 then aw L f 2 false else aw L t 2 true
def cY (L:List Obj) (t f:Key) (g:Int):cQ:=(List.range g.toNat).foldl (fun s (j:Nat)=>s.put j (cN L f (j:Int))) (ah L t.oid.toNat free).slots
def dZ (L:List Obj) (t f:Key):List Obj:=if bG L t f=0 then rE L t (cY L t f 16)else L
def aq (L:List Obj):Prop:=eZ L=true
def j6 (g:Int):Prop:=0<=g/\g<=16
def kA:Arg Key:=DK rK V.key
def iA:Arg Int:=DK (rI .i64) (V.it .i64)
def bA:Arg Bool:=DK toBool V.bo
def oA:Arg Obj:=DK rO V.ob
def sA:Arg (Option (List Obj)):=Wm tS eS
def D9 (o:Option (List Obj)):List Obj:=match o with
 |none=> []
 |some L=>L
def nB:lj (Obj×Option (List Obj)×Key×Unit):=bk oA (bk sA (bk kA iI))
def TM:Ct:=tB (bk (We nB) (bk iA iI)) (fun x=>some (nu x.1.2.2.1 x.2.1)) fun x=> .key (ij (D9 x.1.2.1) x.1.1 x.1.2.2.1 x.2.1)
def Nw:Ct:=tB (bk A6 (bk kA (bk iA (bk bA iI)))) (fun _=>none) fun x=> .it .i64 (aw x.1 x.2.1 x.2.2.1 x.2.2.2.1)
def TB:Ct:=tB (bk A6 (bk kA (bk iA iI))) (fun x=>some (mZ x.1 x.2.1 x.2.2.1)) fun x=> .key (cN x.1 x.2.1 x.2.2.1)
def UZ:Ct:=tB (bk A6 (bk kA iI)) (fun _=>none) fun x=> .bo (cZ x.1 x.2.1)
def Tk:Ct:=tB (bk sA (bk kA (bk iA iI))) (fun _=>none) fun x=> .tp [.key (aE (D9 x.1) x.2.1 x.2.2.1),.it .i64 (bI (D9 x.1) x.2.1 x.2.2.1)]
def dN (L:List Obj) (i:Int):Prop:=0<=i/\i<(aj L:Int)/\aj L<=1000
def tO:Nat:=48
def Tv:Ct:=S3 (bk A6 (bk iA (bk oA iI))) (fun x=>some (dN x.1 x.2.1)) (fun _ n=> .sa n) fun x _=> [.arr (some tO) 163 (.ob (cx x.1 (ot x.2.1) x.2.2.1))]
theorem tT {r g:Int} (hr:cg .i64 r) (hg:g=1\/g=2\/g=4\/g=8):cg .i64 (r.tdiv g):=by
 simp only[cg]at *;rcases Int.le_total 0 r with h|h
 ·rw[Int.tdiv_eq_ediv_of_nonneg h];rcases hg with rfl|rfl|rfl|rfl<;>omega
 ·obtain⟨s,rfl⟩:∃s,r= -s:=⟨-r,by omega⟩
  rw[Int.neg_tdiv,Int.tdiv_eq_ediv_of_nonneg (by omega)]
  rcases hg with rfl|rfl|rfl|rfl<;>omega
theorem nQ (x:Int):cg .i64 (x.tmod 2):=by
 have h1:=Int.tmod_lt_of_pos x (show(0:Int)<2 by omega)
 have h2:=Int.lt_tmod_of_pos x (show(0:Int)<2 by omega)
 simp only[cg];omega
theorem CC {r m g:Int}:0<=fI r m g/\fI r m g<=7:=by
 unfold fI;repeat' split
 all_goals omega
theorem JA {r:Int} (h0:0<=r) (h1:r<=7):bd .or .i64 r 3=gw r 3:=by
 have:r=0\/r=1\/r=2\/r=3\/r=4\/r=5\/r=6\/r=7:=by omega
 rcases this with rfl|rfl|rfl|rfl|rfl|rfl|rfl|rfl<;>decide
theorem CM {r:Int} (h0:0<=r) (h1:r<=1):bd .or .i64 r 1=1:=by
 have:r=0\/r=1:=by omega
 rcases this with rfl|rfl<;>decide
theorem gS {k:Key} (h:aT k=true):0<=k.rights/\k.rights<=eN k.kind:=by
 simp only[aT,XK,XL]at h;omega
theorem oU:aT void=true:=by decide
theorem oM (L:List Obj) (k:Key):aT (ab L k)=true:=by
 unfold ab;split
 ·exact oU
 ·rename_i h;simp only[Bool.or_eq_true,not_or,Bool.not_eq_true,Bool.not_eq_false']at h;exact h.1.2
theorem BO (L:List Obj) (k:Key):gD (ab L k)=jM (ab L k):=by unfold gD;rw[oM,XR rfl]
theorem W6 {r:Int} (h0:0<=r) (h1:r<=7):decide (bd .and .i64 r 2=0)= !decide ((r.tdiv 2).tmod 2=1):=by
 have:r=0\/r=1\/r=2\/r=3\/r=4\/r=5\/r=6\/r=7:=by omega
 rcases this with rfl|rfl|rfl|rfl|rfl|rfl|rfl|rfl<;>decide
theorem Nx {r:Int} (h0:0<=r) (h1:r<=7):decide (bd .and .i64 r 3=0)=decide (r.tmod 4=0):=by
 have:r=0\/r=1\/r=2\/r=3\/r=4\/r=5\/r=6\/r=7:=by omega
 rcases this with rfl|rfl|rfl|rfl|rfl|rfl|rfl|rfl<;>decide
theorem O4 (n:Int):eN n<=7:=by unfold eN;split<;>(try split)<;>omega
theorem nJ {k:Key} (h:aT k=true):0<=k.rights/\k.rights<=7:=by
 have:=gS h;have:=O4 k.kind;omega
theorem dB {L:List Obj} {k:Key} (h:aU L k=true):aT k=true/\0<=k.oid/\k.oid<(L.length:Int)/\aa L k=ah L k.oid.toNat free/\(ah L k.oid.toNat free).kind=fN k:=by
 have h':=h;unfold aU at h;simp only[XK,XL]at h;obtain⟨⟨h1,h2⟩,h3⟩:=h;have hb:=kq.1 h2;have hn:0<=aX k:=(yq h').1;simp only[b7,XK,Bool.or_eq_true,XL]at h3;refine⟨h3.1,hb.1,hb.2,by unfold aa;rw[h',XR rfl],?_⟩
 rcases h3.2 with h|h
 ·omega
 ·exact h.1.1
theorem FY {L:List Obj} {o:Obj} {k:Key} {i:Int} (hq:nu k i):(0<=i/\i< ↑16)/\
  ((!decide (bd BinOp.and IntKind.i64 k.rights 2=0))=true->gD (ab L (o.slots.at i.toNat))=ij L o k i)/\
    ((!decide (bd BinOp.and IntKind.i64 k.rights 2=0))=false->ab L (o.slots.at i.toNat)=ij L o k i):=by
 obtain⟨h0,h1,h2⟩:=hq;have hr:=nJ h2;rw[W6 hr.1 hr.2,BO];unfold ij qO;refine⟨⟨h0,by omega⟩,fun h=>?_,fun h=>?_⟩
 ·rw[XR (by simpa using h)]
 ·rw[XQ (by simpa using h)]
theorem fD {L:List Obj} {k:Key} {d:Int} {c:Bool} (h:aw L k d c=0):aU L k=true/\k.kind=d/\(c=true->k.rights.tmod 4=0):=by
 unfold aw at h;split at h
 ·omega
 ·split at h
  ·omega
  ·rename_i h2;simp only[Bool.or_eq_true,Bool.not_eq_true',decide_eq_false_iff_not,not_or,Bool.not_eq_false,Decidable.not_not]at h2;split at h
   ·omega
   ·rename_i h3;refine⟨h2.1,h2.2,fun hc=>?_⟩
    simpa[hc]using h3
theorem gM:qg kA:=tC fx (fun _=>rfl) fun v x h=>Us h
theorem Rb:qg oA:=tC yk (fun _=>rfl) fun v x h=>by cases v<;>simp[rO]at h;rfl
theorem FV:qg bA:=tC MM (fun _=>rfl) fun v x h=>by cases v<;>simp[toBool]at h<;>rfl
theorem fl:qg iA:=tC (fy .i64) (fun _=>rfl) fun v x h=>by cases v<;>simp[rI,toInt]at h<;>rfl
theorem tf:qg sA:=SW _ _
theorem Uy:iu nB:=aJ Rb (aJ tf (aJ gM cK))
def CP (x:V) (M:List Obj) (v:V) (r:List aH):Prop:=
 match ay r 0 with
 | .store t e L=>if t==tS&&e==eS then nz x v r/\L=M else False
 |_=>False
theorem ED {x:V} {M:List Obj} {v:V} {r:List aH} (h:CP x M v r):yt x v r/\ay r 0= .store tS eS M:=by
 unfold CP at h;split at h
 ·rename_i hr;split at h
  ·rename_i hc;simp only[XK,XM]at hc;obtain⟨rfl,rfl⟩:=hc;obtain⟨h1,rfl⟩:=h;exact⟨dt h1,hr⟩
  ·exact h.elim
 ·exact h.elim
def GM {α:Type} (B:List V->Option α) (Q:List Obj->α->Prop) (F:List Obj->α->V) (M:List Obj->α->List Obj):kz:=fun args res K=>
 match args with
 |a::l=>match B l with
  |some x=>match a with
   | .nl v=>match v with
     | .pointer none=>K (F [] x) res
     |_=>False
   | .lp k off=>if off==0 then match ay res k with
     | .store t e L=>if t==tS&&e==eS then Q L x/\K (F L x) (b8 res k (.store tS eS (M L x)))else False
     | .blk t c=>if t==tS&&Vy c then K (F [] x) res else False
     |_=>False
     else False
   |_=>False
  |none=>False
 |_=>False
def Ws:V:= .ag [.nl (.slice none 0 0)]
theorem mj {P:Program} {f:Nat} {α:Type} {B:List V->Option α} {m:α->List V} {Q:List Obj->α->Prop} {F:List Obj->α->V} {M:List Obj->α->List Obj} (hB:∀l x,B l=some x->eg l (m x)) (hid:∀x,kG (m x)=true) (hF:∀L x,j4 (F L x)=true)
  (h0:∀x,ai P f (k9::m x) [] (nz (F [] x)) (fun _ _=>False)) (hz:∀x,ai P f (.lp 0 0::m x) [.ro (.blk tS Ws)] (nz (F [] x)) (fun _ _=>False))
  (h1:∀L x,Q L x->(∀o∈L,o.wf)->L.length<=9223372036854775807->ai P f (.lp 0 0::m x) [.store tS eS L] (CP (F L x) (M L x)) (fun _ _=>False)):ll P f (GM B Q F M):=by
 intro args res K KP h;unfold GM at h;split at h
 case h_2=>exact h.elim
 split at h
 case h_2=>exact h.elim
 rename_i x hx;refine ai.args (eg.iT (hB _ _ hx)) ?_;split at h
 ·split at h
  ·exact ai.pure (by simp only[kG,j4,Bool.true_and];exact hid x) (hF _ _) ((h0 x).mono (fun _ _ h=>dt h) fun _ _ h=>h) h
  ·exact h.elim
 ·split at h
  ·rename_i hoff;have hoff:=XM.1 hoff;subst hoff;split at h
   ·rename_i hr;split at h
    ·rename_i hc;simp only[XK,XM]at hc;obtain⟨rfl,rfl⟩:=hc;refine ai.Ah hr (hid x) (hF _ _) (ai.fact (k:=0) rfl fun w1 w2=>(h1 _ x h.1 w1 w2).mono (fun v r hv=>ED hv |> fun⟨a,b⟩=>⟨fun J K=>a J K,b⟩) fun _ _ h=>h) h.2
    ·exact h.elim
   ·rename_i hr;split at h
    ·rename_i hc;simp only[XK,XM]at hc;obtain⟨rfl,hz'⟩:=hc;have:=wN hz';subst this;exact ai.Jl (r0:= .blk tS Ws) (by unfold dr;rw[hr];rfl) (by simp) (fun κ=>rfl) (hid x) (hF _ _) ((hz x).mono (fun _ _ h=>dt h) fun _ _ h=>h) h
    ·exact h.elim
   ·exact h.elim
  ·exact h.elim
 ·exact h.elim
def Wh (l:List V):Option Key:=match l with
 | [a]=>rK a
 |_=>none
def Pk (l:List V):Option (Key×Key):=match l with
 | [a,b]=>match rK a with
   |some k=>match rK b with
    |some k'=>some (k,k')
    |none=>none
   |none=>none
 |_=>none
def Jw (l:List V):Option (Key×Int×Key):=match l with
 | [a,b,c]=>match rK a with
   |some k=>match rI .i64 b with
    |some i=>match rK c with
     |some k'=>some (k,i,k')
     |none=>none
    |none=>none
   |none=>none
 |_=>none
theorem Kc:∀l x,Wh l=some x->eg l [.key x]:=fun l x h=>by
 unfold Wh at h;split at h
 ·exact eg.rd fx h eg.nil
 ·simp at h
theorem ES:∀l x,Pk l=some x->eg l [.key x.1,.key x.2]:=fun l x h=>by
 unfold Pk at h;split at h
 ·split at h
  ·rename_i h1;split at h<;>simp only[XI,reduceCtorEq]at h
   rename_i h2;subst h;exact eg.rd fx h1 (eg.rd fx h2 eg.nil)
  ·simp at h
 ·simp at h
theorem LV:∀l x,Jw l=some x->eg l [.key x.1,.it .i64 x.2.1,.key x.2.2]:=fun l x h=>by
 unfold Jw at h;split at h
 ·split at h
  ·rename_i h1;split at h
   ·rename_i h2;split at h<;>simp only[XI,reduceCtorEq]at h
    rename_i h3;subst h;exact eg.rd fx h1 (eg.rd (fy .i64) h2 (eg.rd fx h3 eg.nil))
   ·simp at h
  ·simp at h
 ·simp at h
def tK:Nat:=25
def ni (g:Int):Nat:=(16-g).toNat
def Tw:kz:=GM Jw (fun L _=>aq L) (fun L x=> .tp [.key (cA L x.1 x.2.1 x.2.2),.it .i64 (bc L x.1 x.2.1 x.2.2)]) fun L x=>bZ L x.1 x.2.1 x.2.2
def Sp:kz:=GM Wh (fun L _=>aq L) (fun L x=> .it .i64 (aw L x 2 true)) fun L x=>eM L x
def SJ:kz:=GM Pk (fun L _=>aq L) (fun L x=> .it .i64 (bG L x.1 x.2)) fun L x=>dZ L x.1 x.2
theorem HH {L:List Obj} {k:Key} {d:Int} {c:Bool} (h:(!decide (0<ak L))=true):aw L k d c=1:=by
 unfold aw;unfold ak at h;rw[XR (by simp at h;omega)]
theorem Gw {L:List Obj} {k:Key} {d:Int} {c:Bool} (h:(!decide (0<ak L))=false) (h2:(!(aU L k&&decide (k.kind=d)))=true):aw L k d c=190:=by
 unfold aw;unfold ak at h;rw[XQ (by simp at h;omega),XR (by simpa using h2)]
theorem mF {L:List Obj} {k:Key} {d:Int} (h2:(!(aU L k&&decide (k.kind=d)))=false):aU L k=true/\k.kind=d:=by simpa using h2
theorem Sm {L:List Obj} {k:Key} {d:Int} (h:(!decide (0<ak L))=false) (h2:(!(aU L k&&decide (k.kind=d)))=false) (h3:(!decide (bd BinOp.and IntKind.i64 k.rights 3=0))=true):aw L k d true=191:=by
 have hr:=nJ (dB (mF h2).1).1;rw[Nx hr.1 hr.2]at h3;unfold aw;unfold ak at h;rw[XQ (by simp at h;omega),XQ (by simpa using h2),XR (by simpa using h3)]
theorem Hv {L:List Obj} {k:Key} {d:Int} (h:(!decide (0<ak L))=false) (h2:(!(aU L k&&decide (k.kind=d)))=false) (h3:(!decide (bd BinOp.and IntKind.i64 k.rights 3=0))=false):aw L k d true=0:=by
 have hr:=nJ (dB (mF h2).1).1;rw[Nx hr.1 hr.2]at h3;unfold aw;unfold ak at h;rw[XQ (by simp at h;omega),XQ (by simpa using h2),XQ (by simpa using h3)]
theorem Fo {L:List Obj} {k:Key} {d:Int} (h:(!decide (0<ak L))=false) (h2:(!(aU L k&&decide (k.kind=d)))=false):aw L k d false=0:=by
 unfold aw;unfold ak at h;rw[XQ (by simp at h;omega),XQ (by simpa using h2),XQ (by simp)]
def fM (n:Int) (k:Key):Prop:=aT k=true/\aX k<n
theorem Lv {n:Int} {k:Key}:h9 1 n k=true↔fM n k:=by simp[h9,fM]
theorem LD (r:Int):0<=gw r 3/\gw r 3<=7:=CC
theorem KY {n:Int} (hn:0<=n) {k:Key} (h:fM n k):fM n (jM k):=by
 obtain⟨h1,h2⟩:=h;have hv:fM n void:=⟨oU,by have:=oi.2;omega⟩
 unfold jM;split
 ·rename_i e;have hw:=LD k.rights
  have h1':aT (cL k (gw k.rights 3))=true:=by
   simp only[aT,cL,e,XK,XL]at h1⊢;have:eN 2=7:=rfl;grind
  refine⟨h1',?_⟩;unfold aX at h2⊢;rw[h1'];rw[h1]at h2;exact h2
 ·split
  ·rename_i e
   have h1':aT (cL k 1)=true:=by
    simp only[aT,cL,e,XK,XL]at h1⊢;have:eN 3=1:=rfl;grind
   refine⟨h1',?_⟩;unfold aX at h2⊢;rw[h1'];rw[h1]at h2;exact h2
  ·split
   ·exact⟨h1,h2⟩
   ·exact hv
theorem xc {L:List Obj} (hL:0<L.length) (k:Key):fM (L.length:Int) (ab L k):=by
 have hv:fM (L.length:Int) void:=⟨oU,by have:=oi.2;omega⟩
 unfold ab;split
 ·exact hv
 ·rename_i h;simp only[Bool.or_eq_true,not_or,Bool.not_eq_true,Bool.not_eq_false',Bool.and_eq_false_imp]at h;refine⟨h.1.2,?_⟩;rcases jX k with⟨a,b,c⟩|⟨a,b⟩
  ·rw[b];exact(dB (h.2 a)).2.2.1
  ·omega
theorem PI {L:List Obj} (hL:0<L.length) (k:Key) (i:Int):fM (L.length:Int) (cN L k i):=by
 unfold cN ij;split
 ·exact KY (by omega) (xc hL _)
 ·exact xc hL _
theorem Ag {o:Obj} {n:Int} {s:cQ} (h:bT o n=true) (hk:o.kind=1) (hs:∀i,i<16->fM n (s.at i)):bT (en o s) n=true:=by
 rw[fg]at h⊢;simp only[en];obtain⟨a1,a2,a3,a4,a5,a6,a7,a8,a9,a10,a11⟩:=h;exact⟨a1,a2,a3,a4,a5,a6,a7,a8,a9,fun i hi=>by rw[hk];exact Lv.2 (hs i hi),fun i hi=> .inl (.inl hk)⟩
theorem za {L:List Obj} {k:Key} (h:aU L k=true) (h2:k.kind=2):(ah L k.oid.toNat free).kind=1:=by
 rw[(dB h).2.2.2.2];unfold fN;rw[XQ (by have:=(yq h).1;omega),XQ (by omega)]
theorem rB {L:List Obj} {k:Key} (hL:aq L) (h:aU L k=true) (h2:k.kind=2):∀i,i<16->fM (L.length:Int) ((ah L k.oid.toNat free).slots.at i):=fun i hi=>by
 obtain⟨_,b2,b3,_⟩:=dB h;have:=(ff.1 hL).2.2 k.oid.toNat (by omega)
 have:=(fg.1 this).2.2.2.2.2.2.2.2.2.1 i hi;rw[za h h2]at this;exact Lv.1 this
theorem nX {L:List Obj} {k:Key} {s:cQ} (hL:aq L) (h:aU L k=true) (h2:k.kind=2) (hs:∀i,i<16->fM (L.length:Int) (s.at i)):cW L k.oid (en (aa L k) s)=rE L k s/\aq (rE L k s):=by
 obtain⟨b1,b2,b3,b4,_⟩:=dB h;have hr:=ff.1 hL;have ho:=Ag (hr.2.2 k.oid.toNat (by omega)) (za h h2) hs
 refine⟨?_,?_⟩
 ·rw[b4];exact(sM (kq.2 ⟨b2,b3⟩) (py ho).symm).2
 ·refine ff.2 ?_;unfold rE;have hl:(cx L k.oid.toNat (en (ah L k.oid.toNat free) s)).length=L.length:=by simp[cx]
  rw[hl];refine⟨hr.1,hr.2.1,fun i hi=>?_⟩
  by_cases e:i=k.oid.toNat
  ·subst e;rw[show ah (cx L k.oid.toNat (en (ah L k.oid.toNat free) s)) k.oid.toNat free=en (ah L k.oid.toNat free) s by simp[ah,cx,XP,hi]]
   exact ho
  ·rw[show ah (cx L k.oid.toNat (en (ah L k.oid.toNat free) s)) i free=ah L i free by simp[ah,cx,XP,List.getElem?_set,Ne.symm e]]
   exact hr.2.2 i hi
theorem Db {L:List Obj} {k:Key} {i:Int} {v:Key} (hL:aq L) (h:aU L k=true) (h2:k.kind=2) (h0:0<=i) (h1:i<16):∀j,j<16->fM (L.length:Int) (((ah L k.oid.toNat free).slots.put i.toNat (ab L v)).at j):=fun j hj=>by
 rw[cQ.gC _ _ _ _ (by omega)]
 split
 ·exact xc (ff.1 hL).1 v
 ·exact rB hL h h2 j hj
theorem FP {n:Int} (hn:0<=n):∀j,j<16->fM n (fV.at j):=fun j hj=>by
 rw[EI.1 rfl j hj];exact⟨oU,by have:=oi.2;omega⟩
theorem AB (L:List Obj) (v:Key):(decide (bD v=0)&&(!bg v||decide (cR v<ak L)))=cZ L v:=by
 unfold cZ bD cR ak;rcases jX v with⟨a,b,c⟩|⟨a,b⟩
 ·rw[a,b];cases aT v<;>simp
 ·rw[a,b];have:(-1:Int)<(aj L:Int):=by omega
  cases aT v<;>simp[this]
theorem yE {L:List Obj} {t f:Key} {g:Int} (h0:0<=g):cY L t f (g+1)=(cY L t f g).put g.toNat (cN L f g):=by
 unfold cY;rw[show(g+1).toNat=g.toNat+1 by omega,List.range_succ,List.foldl_append]
 simp only[List.foldl_cons,List.foldl_nil];rw[show((g.toNat:Nat):Int)=g by omega]
theorem CE {L:List Obj} {t f:Key} (h:aa L t=ah L t.oid.toNat free):aa L t=en (aa L t) (cY L t f 0):=by
 unfold cY en;simp[h]
theorem CA {L:List Obj} {t f:Key} {g:Int} (h0:0<=g) (h:aa L f=ah L f.oid.toNat free) (o:Obj) (s:cQ):({kind:=(en o (cY L t f g)).kind,count:=(en o (cY L t f g)).count,calls:=(en o (cY L t f g)).calls,slots:=(en o (cY L t f g)).slots.put g.toNat (ij L (aa L f) f g),bytes:=(en o (cY L t f g)).bytes}:Obj)=en o (cY L t f (g+1)):=by
 rw[yE h0];unfold cN;rw[h];rfl
theorem wS {L:List Obj} {t f:Key} (hL:aq L) (h:aU L t=true) (h2:t.kind=2):∀n:Nat,n<=16->∀j,j<16->fM (L.length:Int) ((cY L t f n).at j)
 |0,_,j,hj=>by
  unfold cY;exact rB hL h h2 j hj
 |n+1,hn,j,hj=>by
  rw[show((n+1:Nat):Int)=(n:Int)+1 by omega,yE (by omega),cQ.gC _ _ _ _ (by omega)]
  split
  ·exact PI (ff.1 hL).1 _ _
  ·exact wS hL h h2 n (by omega) j hj
theorem zV {L M:List Obj} {g:Int} (hg:oQ L M g) (hge:(aj L:Int)<=g):decide (g=cw (aj M))=jN L M:=by
 have:=H4 hg hge
 have e:ak L=g:=by
  have:=hg.2.1;unfold ak;omega
 rw[decide_eq_true e,Bool.and_true]at this;exact this
structure Vv where
 kind:Int
 slot:Int
 key:Key
 other:Key
def jO (l:List Obj):Bool:=decide ((aj l:Int)<=20)&&eZ l
def Tl:kz:=Uj (bk A6 iI) (fun _=>True) (fun x=>jO x.1) (fun _=>k9) (fun _ n=> .lp n 0) (fun x=> .store tS eS x.1)
def xH (L:List Obj) (a:Vv):Bool:=
 if a.kind=1 then false else if a.kind=2 then decide (bc L a.key a.slot a.other=0)else if a.kind=3 then decide (aw L a.key 2 true=0)else if a.kind=4 then decide (bG L a.key a.other=0)else false
def EO (L:List Obj) (a:Vv):List Obj:=
 if a.kind=1 then L else if a.kind=2 then bZ L a.key a.slot a.other else if a.kind=3 then eM L a.key else if a.kind=4 then dZ L a.key a.other else L
def U3 (c:Bool) (L0 L1:List Obj) (v:V) (r:List aH):Prop:=
 match v with
 | .tp l=>match l with
   | [a,b]=>match a with
     | .sa p=>match ay r 0 with
       | .store t e L=>if t==tS&&e==eS then
         if p==1 then nz (.bo true) b r/\c=false/\L=L0
         else if Nat.ble 2 p then match ay r p with
          | .arr o z l=>match o with
            |some e'=>match l with
             | .ob M=>if e'==tO&&z==163 then nz (.bo true) b r/\c=true/\L=L1/\M=L1 else False
             |_=>False
            |none=>False
          |_=>False
         else False
         else False
       |_=>False
     |_=>False
   |_=>False
 |_=>False
theorem ME {L:List Obj} {k:Key} {i:Int} (h:aw L k 2 false≠0):bI L k i=aw L k 2 false/\aE L k i=void:=by
 have:bI L k i=aw L k 2 false:=by unfold bI;rw[XQ h]
 exact⟨this,by unfold aE;rw[this,XQ h]⟩
theorem Ij {L:List Obj} {k:Key} {i:Int} (h:aw L k 2 false=0) (hr:i<0\/15<i):bI L k i=4/\aE L k i=void:=by
 have:bI L k i=4:=by
  unfold bI jm;rw[XR h,XQ (by simp;omega)]
 exact⟨this,by unfold aE;rw[this];rfl⟩
theorem NK {L:List Obj} {k:Key} {i:Int} (h:aw L k 2 false=0) (hr:¬(i<0\/15<i)):bI L k i=0/\aE L k i=cN L k i:=by
 have:bI L k i=0:=by
  unfold bI jm;rw[XR h,XR (by simp;omega)]
 exact⟨this,by unfold aE;rw[this];rfl⟩
theorem Bl {L:List Obj} {k:Key} {i:Int} {v:Key} {e:Int} (h:bc L k i v=e) (he:e≠0):bc L k i v=e/\cA L k i v=void/\bZ L k i v=L:=⟨h,by unfold cA;rw[h,XQ he],by unfold bZ;rw[h,XQ he]⟩
theorem Lr {L:List Obj} {k:Key} {i:Int} {v:Key} (h:aw L k 2 true≠0):bc L k i v=aw L k 2 true/\cA L k i v=void/\bZ L k i v=L:=Bl (by unfold bc;rw[XQ h]) h
theorem LJ {L:List Obj} {k:Key} {i:Int} {v:Key} (h:aw L k 2 true=0) (hr:i<0\/15<i):bc L k i v=4/\cA L k i v=void/\bZ L k i v=L:=
 Bl (by unfold bc jm;rw[XR h,XQ (by simp;omega)]) (by omega)
theorem Li {L:List Obj} {k:Key} {i:Int} {v:Key} (h:aw L k 2 true=0) (hr:¬(i<0\/15<i)) (hm:cZ L v=false):bc L k i v=2/\cA L k i v=void/\bZ L k i v=L:=
 Bl (by unfold bc jm;rw[XR h,XR (by simp;omega),hm];rfl) (by omega)
theorem Oj {L:List Obj} {k:Key} {i:Int} {v:Key} (h:aw L k 2 true=0) (hr:¬(i<0\/15<i)) (hm:cZ L v=true):
  bc L k i v=0/\cA L k i v=cN L k i/\bZ L k i v=rE L k ((ah L k.oid.toNat free).slots.put i.toNat (ab L v)):=by
 have:bc L k i v=0:=by unfold bc jm;rw[XR h,XR (by simp;omega),hm];rfl
 exact⟨this,by unfold cA;rw[this];rfl,by unfold bZ;rw[this];rfl⟩
theorem sQ {L:List Obj} {k:Key} (hL:aq L) (h:aU L k=true):dN L k.oid/\0<=k.oid/\k.oid<(aj L:Int)/\k.oid.toNat<aj L:=by
 obtain⟨_,b2,b3,_⟩:=dB h;have:=(ff.1 hL).2.1;exact⟨⟨b2,b3,by unfold aj;omega⟩,b2,b3,by unfold aj;omega⟩
theorem yb (k:Key):wC k k=true:=by simp[wC]
def Vv.wf (x:Vv):Prop:=cg .i64 x.kind/\cg .i64 x.slot/\x.key.wf/\x.other.wf
theorem yY (L:List Obj):jN L L=true:=by unfold jN;simp
theorem DS {L:List Obj} {k:Key} {i:Int} {v:Key} (h:bc L k i v=0):aw L k 2 true=0/\0<=i/\i<16:=by
 unfold bc jm at h;split at h
 ·rename_i h1;split at h
  ·rename_i h2;simp at h2;exact⟨h1,h2.1,h2.2⟩
  ·omega
 ·rename_i h1;exact absurd h h1
theorem xT {L:List Obj} {a:Vv} (hL:aq L) (h:xH L a=true):aq (EO L a):=by
 unfold xH at h;unfold EO;split at h
 ·simp at h
 ·rename_i h1;rw[XQ h1];split at h
  ·rename_i h2;rw[XR h2];have h:=XO h;obtain⟨e1,e2,e3⟩:=DS h;obtain⟨a1,a2,_⟩:=fD e1;unfold bZ;rw[XR h];exact(nX hL a1 a2 (Db hL a1 a2 e2 e3)).2
  ·rename_i h2;rw[XQ h2];split at h
   ·rename_i h3;rw[XR h3];have h:=XO h;obtain⟨a1,a2,_⟩:=fD h;unfold eM;rw[XR h];exact(nX hL a1 a2 (FP (by omega))).2
   ·rename_i h3;rw[XQ h3];split at h
    ·rename_i h4;rw[XR h4];have h:=XO h;have h':=h;unfold bG at h';split at h'
     ·rename_i h5;obtain⟨a1,a2,_⟩:=fD h5;unfold dZ;rw[XR h];exact(nX hL a1 a2 (wS hL a1 a2 16 (by omega))).2
     ·rename_i h5;exact absurd h' h5
    ·simp at h
theorem EE {l:List Obj} (h:jO l=true):aq l/\l.length<=20:=by
 unfold jO at h;simp only[XK,XL]at h;unfold aj at h;exact⟨h.2,by omega⟩
section
variable {L:List Obj} {k:Key} {s:cQ} (h0:0<=k.oid) (h1:k.oid<(L.length:Int))
include h0 h1
end
theorem gF {L:List Obj} {j:Int} (h0:0<=j) (h1:j<(L.length:Int)):aR L j=ah L j.toNat free:=by
 unfold aR;rw[XR (kq.2 ⟨h0,h1⟩)]
theorem gh {L:List Obj} {i:Nat} {x:Obj} (hi:i<L.length) (j:Nat):ah (cx L i x) j free=if j=i then x else ah L j free:=by
 by_cases e:j=i
 ·subst e;rw[XR rfl];simp[ah,cx,XP,hi]
 ·rw[XQ e];simp[ah,cx,XP,List.getElem?_set,Ne.symm e]
theorem jt {L:List Obj} {i:Nat} {x:Obj}:(cx L i x).length=L.length:=by simp[cx]
end Go.Sx
set_option maxRecDepth 100000
namespace Go.Sx
def WN {α:Type} (rd:V->Option α) (Q:List Obj->α->Prop) (chg:List Obj->α->Bool) (L1:List Obj->α->List Obj):kz:=fun args res K=>
 match args with
 | [a,b,c]=>match rd c with
   |some x=>match a with
    | .lp k off=>if off==0 then match ay res k with
      | .store t e L=>if t==tS&&e==eS then match b with
        | .sa j=>match dr res j with
          | .arr _ z l=>if z==163 then match l with
            | .ob M=>M=L/\Q L x/\(chg L x=false->K (.tp [.sa j,.bo true]) (b8 res k (.store tS eS L)))/\
              (chg L x=true->K (.tp [.sa res.length,.bo true]) (b8 res k (.store tS eS (L1 L x))++ [.arr (some tO) 163 (.ob (L1 L x))]))
            |_=>False
            else False
          |_=>False
        |_=>False
        else False
      |_=>False
      else False
    |_=>False
   |none=>False
 |_=>False
theorem jJ {κ:Nat->Option Nat} {x a:V} {l m:List V} (h1:fk κ x=some a) (h2:eT κ l=some m):eT κ (x::l)=some (a::m):=by
 simp only[eT];rw[h1];simp only;rw[h2]
theorem NH {c:Bool} {L0 L1:List Obj} {v:V} {r:List aH} (h:U3 c L0 L1 v r):∃b,nz (.bo true) b r/\((v= .tp [.sa 1,b]/\c=false/\ay r 0= .store tS eS L0)\/
  ∃p,2<=p/\v= .tp [.sa p,b]/\c=true/\ay r 0= .store tS eS L1/\ay r p= .arr (some tO) 163 (.ob L1)):=by
 unfold U3 at h;split at h
 case h_2=>exact h.elim
 split at h
 case h_2=>exact h.elim
 rename_i a b;split at h
 case h_2=>exact h.elim
 rename_i p;split at h
 case h_2=>exact h.elim
 rename_i t e L hr;split at h
 case isFalse=>exact h.elim
 rename_i hc;simp only[XK,XM]at hc;obtain⟨rfl,rfl⟩:=hc;split at h
 ·rename_i hp;have hp:=XM.1 hp;subst hp;obtain⟨h1,h2,rfl⟩:=h;exact⟨b,h1,.inl ⟨rfl,h2,hr⟩⟩
 ·split at h
  case isFalse=>exact h.elim
  rename_i hp;have hp:2<=p:=by simpa using hp
  split at h
  case h_2=>exact h.elim
  rename_i o z l hrp;split at h
  case h_2=>exact h.elim
  rename_i e';split at h
  case h_2=>exact h.elim
  rename_i M;split at h
  case isFalse=>exact h.elim
  rename_i hc;simp only[XK,XM]at hc;obtain⟨rfl,rfl⟩:=hc;obtain⟨h1,h2,rfl,rfl⟩:=h;exact⟨b,h1,.inr ⟨p,hp,rfl,h2,hr,hrp⟩⟩
theorem S1 {b:V} {c:Bool} {r:List aH} (h:nz (.bo c) b r):(∀κ,fk κ b=some b)/\∀J N,pG J N b (.bo c):=by
 refine⟨fun κ=>?_,fun J N=>dt h J N⟩
 unfold nz at h;cases b<;>first|rfl| (simp[ve]at h)
theorem ai.Vx {P:Program} {f:Nat} {args:List V} {K KP:V->List aH->Prop} {own:Option Nat} {z t e:Nat} {l:TL} {L:List Obj} (h:ai P f args [.store t e L,.ro (.arr none z l)] K KP):ai P f args [.store t e L,.ro (.arr own z l)] K KP:=by
 have hk:∀i (own:Option Nat),known [.store t e L,.ro (.arr own z l)] i↔i<2:=fun i own=>by
  unfold known;match i with
  |0=>simp[ay]
  |1=>simp[ay]
  |i+2=>simp[ay]
 refine h.th fun J fps w0 F0 w hH=>⟨J,fps,hH.weaken fun i hi=>⟨(hk i _).2 ((hk i _).1 hi),fun fp hh=>?_⟩,Env.bp.refl _ _,fun i hi=>(hk i _).2 ((hk i _).1 hi)⟩
 match i,(hk i _).1 hi with
 |0,_=>exact hh
 |1,_=>
  obtain⟨fp',g1,g2⟩:=hh;exact⟨fp',xi g1,g2⟩
theorem T5 {P:Program} {f:Nat} {α:Type} {rd:V->Option α} {m:α->V} {Q:List Obj->α->Prop} {chg:List Obj->α->Bool} {L1:List Obj->α->List Obj} (hrd:pg rd m) (hid:∀x,j4 (m x)=true)
  (hcl:∀L x,Q L x->ai P f [.lp 0 0,.sa 1,m x] [.store tS eS L,.ro (.arr none 163 (.ob L))] (U3 (chg L x) L (L1 L x)) (fun _ _=>False)):ll P f (WN rd Q chg L1):=by
 intro args res K KP h;unfold WN at h;split at h
 case h_2=>exact h.elim
 split at h
 case h_2=>exact h.elim
 rename_i x hx;refine ai.args (eg.iT (eg.iT (eg.rd hrd hx eg.nil))) ?_;split at h
 case h_2=>exact h.elim
 rename_i k off;split at h
 case isFalse=>exact h.elim
 rename_i hoff;have hoff:=XM.1 hoff;subst hoff;split at h
 case h_2=>exact h.elim
 rename_i t e L hr;split at h
 case isFalse=>exact h.elim
 rename_i hc;simp only[XK,XM]at hc;obtain⟨rfl,rfl⟩:=hc;split at h
 case h_2=>exact h.elim
 rename_i j;split at h
 case h_2=>exact h.elim
 rename_i own z l hj;split at h
 case isFalse=>exact h.elim
 rename_i hz;have hz:=XM.1 hz;subst hz;split at h
 case h_2=>exact h.elim
 rename_i M;obtain⟨rfl,hL,h0,h1⟩:=h;have hk:known res k:=by unfold known;rw[hr];simp
 have hkj:=dV hj (by simp)
 have hkl:=aN hk;have hjl:=aN hkj
 have hne:k≠j:=fun e=>by
  subst e;unfold dr at hj;rw[hr]at hj;simp at hj
 have hres:ez (kC 0 (dA [(k,true),(j,false)])) res [(k,true),(j,false)]= [.store tS eS M,.ro (.arr own 163 (.ob M))]:=by simp[ez,hr,hj,fW]
 refine ai.frame (pl:= [(k,true),(j,false)]) (args0:= [.lp 0 0,.sa 1,m x]) (K0:=U3 (chg M x) M (L1 M x)) (KP0:=fun _ _=>False) (by simp[eA,cV.2 hk,cV.2 hkj]) (by simpa[gN,dA,na]using⟨⟨hkl,Ne.symm hne⟩,hjl⟩) ?_ ?_ (fun v r hv=>?_) (fun _ _ h=>h.elim)
 ·exact jJ (by simp[fk,kC,idxOf,dA]) (jJ (by simp[fk,kC,idxOf,dA,hne]) (iX _ (by simp only[kG,hid,Bool.and_true])))
 ·rw[hres];exact ai.Vx (hcl M x hL)
 ·obtain⟨b,hb,hv⟩:=NH hv;obtain⟨b1,b2⟩:=S1 hb;rcases hv with⟨rfl,hc,hr0⟩|⟨p,hp,rfl,hc,hr0,hrp⟩
  ·have hm:merge [(k,true),(j,false)] [] r res=b8 res k (.store tS eS M):=by simp[merge,eP,hr0,fW,fO]
   refine⟨[],.tp [.sa j,.bo true],rfl,by simp[jR,hr0,iH],rfl,iC.Xo (v2:= .tp [.sa j,b]) (by simp[fk,eT,back,vD,b1]) (fun J N=>?_),by rw[hm];exact h0 hc⟩
   obtain⟨s1,s2,_⟩:=b2 J N;exact⟨by simp only[den,bu,s1],fun hk=>⟨hk.1,s2 hk.2.1,trivial⟩,rfl⟩
  ·have hpl:p<r.length:=aN (by rw[hrp];simp)
   have hm:merge [(k,true),(j,false)] [p] r res=b8 res k (.store tS eS (L1 M x))++ [.arr (some tO) 163 (.ob (L1 M x))]:=by simp[merge,eP,hr0,hrp,fW,fO]
   refine⟨[p],.tp [.sa res.length,.bo true],by simpa[gN,na]using⟨hp,hpl⟩,by simp[jR,hr0,iH],by simp[lG,hrp,iH],iC.Xo (v2:= .tp [.sa res.length,b]) ?_ (fun J N=>?_),by rw[hm];exact h1 hc⟩
   ·have:back [(k,true),(j,false)] [p] res.length p=some res.length:=by
     unfold back;rw[qS _ _ (by simpa using hp)]
     simp[idxOf]
    simp[fk,eT,this,b1]
   ·obtain⟨s1,s2,_⟩:=b2 J N;exact⟨by simp only[den,bu,s1],fun hk=>⟨hk.1,s2 hk.2.1,trivial⟩,rfl⟩
end Go.Sx
set_option maxRecDepth 100000
namespace Go.Sx
def vJ {α:Type} (B:lj α) (l:List V):Option α:=match B.rd [] l with
 |some p=>match p.1 with
  | []=>some p.2
  |_=>none
 |none=>none
theorem gg {α:Type} {B:lj α} (hB:iu B) (hid:∀a,kG (B.cn a 0)=true):∀l x,vJ B l=some x->eg l (B.cn x 0):=fun l x h=>by
 unfold vJ at h;split at h
 case h_2=>simp at h
 rename_i p hp;obtain⟨pls,a⟩:=p;split at h
 case h_2=>simp at h
 rename_i h1;simp only at h1;subst h1;simp only[XI]at h;subst h;obtain⟨_,_,_,b4⟩:=hB _ _ _ _ hp;obtain⟨c1,c2⟩:=b4 [] [];intro J K hk;have e1:=(c1 J K hk).1;have e2:=c2 K hk;have e3:ft (fun _=>False) (B.cn a 0):=mW _ (hid a) e2
 refine⟨?_,mW _ (hid a) e2⟩;rw[<-e1];exact fA (N:=fun _=>False) (fun _ h=>h.elim) _ e3
def yW {α:Type} (B:List V->Option α) (Q:List Obj->α->Prop) (chg:List Obj->α->Bool) (L1:List Obj->α->List Obj) (F:List Obj->α->List V):kz:=fun args res K=>
 match args with
 |b::l=>match B l with
  |some x=>match b with
   | .sa j=>match dr res j with
     | .arr _ z t=>if z==163 then match t with
       | .ob M=>Q M x/\(chg M x=false->K (.tp (.sa j::F M x)) res)/\(chg M x=true->K (.tp (.sa res.length::F M x)) (res++ [.arr (some tO) 163 (.ob (L1 M x))]))
       |_=>False
       else False
     |_=>False
   |_=>False
  |none=>False
 |_=>False
def yr (c:Bool) (L1:List Obj) (F:List V) (v:V) (r:List aH):Prop:=
 match v with
 | .tp l=>match l with
   |a::bs=>match a with
    | .sa p=>if p==0 then c=false/\nz (.tp F) (.tp bs) r else if Nat.ble 1 p then match ay r p with
      | .arr own z t=>match own with
        |some e=>match t with
         | .ob M=>if z==163&&e==tO then c=true/\nz (.tp F) (.tp bs) r/\M=L1 else False
         |_=>False
        |none=>False
      |_=>False
      else False
    |_=>False
   | []=>False
 |_=>False
theorem PK {c:Bool} {L1:List Obj} {F:List V} {v:V} {r:List aH} (h:yr c L1 F v r):∃p bs,v= .tp (.sa p::bs)/\nz (.tp F) (.tp bs) r/\((p=0/\c=false)\/(1<=p/\c=true/\ay r p= .arr (some tO) 163 (.ob L1))):=by
 unfold yr at h;split at h
 case h_2=>exact h.elim
 split at h
 case h_2=>exact h.elim
 split at h
 case h_2=>exact h.elim
 rename_i p;split at h
 ·rename_i e;have e:=XM.1 e;exact⟨p,_,rfl,h.2,.inl ⟨e,h.1⟩⟩
 ·split at h
  case isFalse=>exact h.elim
  rename_i hp;have hp:1<=p:=by simpa using hp
  split at h
  case h_2=>exact h.elim
  rename_i hrp;split at h
  case h_2=>exact h.elim
  split at h
  case h_2=>exact h.elim
  split at h
  case isFalse=>exact h.elim
  rename_i hc;simp only[XK,XM]at hc;obtain⟨rfl,rfl⟩:=hc;obtain⟨h1,h2,rfl⟩:=h;exact⟨p,_,rfl,h2,.inr ⟨hp,h1,hrp⟩⟩
theorem ai.Vf {P:Program} {f:Nat} {args:List V} {K KP:V->List aH->Prop} {own:Option Nat} {z:Nat} {l:TL} (h:ai P f args [.ro (.arr none z l)] K KP):ai P f args [.ro (.arr own z l)] K KP:=by
 have hk:∀i (own:Option Nat),known [.ro (.arr own z l)] i↔i<1:=fun i own=>by
  unfold known;match i with
  |0=>simp[ay]
  |i+1=>simp[ay]
 refine h.th fun J fps w0 F0 w hH=>⟨J,fps,hH.weaken fun i hi=>⟨(hk i _).2 ((hk i _).1 hi),fun fp hh=>?_⟩,Env.bp.refl _ _,fun i hi=>(hk i _).2 ((hk i _).1 hi)⟩
 match i,(hk i _).1 hi with
 |0,_=>
  obtain⟨fp',g1,g2⟩:=hh;exact⟨fp',xi g1,g2⟩
theorem BV {κ:Nat->Option Nat} {p j:Nat} {bs F:List V} {r:List aH} (hκ:κ p=some j) (hF:kG F=true) (hb:nz (.tp F) (.tp bs) r):iC κ (.tp (.sa p::bs)) (.tp (.sa j::F)):=by
 intro ρ2 ρ3 N N' h1 h2 hv;obtain⟨hp,hbs⟩:=hv;obtain⟨e1,e2,_⟩:=dt hb ρ2 N;obtain⟨a1,a2,a3,a4,a5,a6⟩:=h1 p j hκ;have hFN:ft N F:=e2 hbs;have hF0:ft (fun _=>False) F:=mW _ hF hFN
 have e3:bu ρ3 F=bu ρ2 F:=fA (N:=fun _=>False) (fun _ h=>h.elim) _ hF0
 simp only[den,Value.tuple.injEq]at e1;have e1:bu ρ2 bs=bu ρ2 F:=by simpa using e1
 refine⟨?_,h2 p j hκ hp,mW _ hF hFN⟩;simp only[den,bu,e3,e1,a2,a4,a5]
theorem iq {P:Program} {f:Nat} {α:Type} {B:List V->Option α} {m:α->List V} {Q:List Obj->α->Prop} {chg:List Obj->α->Bool} {L1:List Obj->α->List Obj} {F:List Obj->α->List V} (hB:∀l x,B l=some x->eg l (m x)) (hid:∀x,kG (m x)=true)
  (hF:∀L x,kG (F L x)=true) (hcl:∀L x,Q L x->ai P f (.sa 0::m x) [.ro (.arr none 163 (.ob L))] (yr (chg L x) (L1 L x) (F L x)) (fun _ _=>False)):ll P f (yW B Q chg L1 F):=by
 intro args res K KP h;unfold yW at h;split at h
 case h_2=>exact h.elim
 split at h
 case h_2=>exact h.elim
 rename_i x hx;refine ai.args (eg.iT (hB _ _ hx)) ?_;split at h
 case h_2=>exact h.elim
 rename_i j;split at h
 case h_2=>exact h.elim
 rename_i own z t hj;split at h
 case isFalse=>exact h.elim
 rename_i hz;have hz:=XM.1 hz;subst hz;split at h
 case h_2=>exact h.elim
 rename_i M;obtain⟨hQ,h0,h1⟩:=h;have hkj:=dV hj (by simp)
 have hjl:=aN hkj;have hres:ez (kC 0 (dA [(j,false)])) res [(j,false)]= [.ro (.arr own 163 (.ob M))]:=by simp[ez,hj,fW]
 refine ai.frame (pl:= [(j,false)]) (args0:= .sa 0::m x) (K0:=yr (chg M x) (L1 M x) (F M x)) (KP0:=fun _ _=>False) (by simp[eA,cV.2 hkj]) (by simpa[gN,dA,na]using hjl) ?_ ?_ (fun v r hv=>?_) (fun _ _ h=>h.elim)
 ·exact jJ (by simp[fk,kC,idxOf,dA]) (iX _ (hid x))
 ·rw[hres];exact ai.Vf (hcl M x hQ)
 ·obtain⟨p,bs,rfl,hb,hv⟩:=PK hv;rcases hv with⟨rfl,hc⟩|⟨hp,hc,hrp⟩
  ·have hm:merge [(j,false)] [] r res=res:=by simp[merge,eP,fO]
   refine⟨[],.tp (.sa j::F M x),rfl,by simp[jR],rfl,BV (by simp[back,vD]) (hF M x) hb,by rw[hm];exact h0 hc⟩
  ·have hpl:p<r.length:=aN (by rw[hrp];simp)
   have hm:merge [(j,false)] [p] r res=res++ [.arr (some tO) 163 (.ob (L1 M x))]:=by simp[merge,eP,hrp,fW,fO]
   refine⟨[p],.tp (.sa res.length::F M x),by simpa[gN,na]using⟨hp,hpl⟩,by simp[jR],by simp[lG,hrp,iH],BV ?_ (hF M x) hb,by rw[hm];exact h1 hc⟩
   unfold back;rw[qS _ _ (by simpa using hp)]
   simp[idxOf]
def Wl {α:Type} (B:List V->Option α) (R:α->Prop) (Q:List Obj->α->Prop) (F:List Obj->α->V) (M:List Obj->α->List Obj):kz:=fun args res K=>
 match args with
 |a::l=>match B l with
  |some x=>R x/\match a with
   | .nl v=>match v with
     | .pointer none=>K (F [] x) res
     |_=>False
   | .lp k off=>if off==0 then match ay res k with
     | .store t e L=>if t==tS&&e==eS then Q L x/\K (F L x) (b8 res k (.store tS eS (M L x)))else False
     | .blk t c=>if t==tS&&Vy c then K (F [] x) res else False
     |_=>False
     else False
   |_=>False
  |none=>False
 |_=>False
theorem Ii {P:Program} {f:Nat} {α:Type} {B:List V->Option α} {m:α->List V} {R:α->Prop} {Q:List Obj->α->Prop} {F:List Obj->α->V} {M:List Obj->α->List Obj} (hB:∀l x,B l=some x->eg l (m x)) (hid:∀x,kG (m x)=true) (hF:∀L x,j4 (F L x)=true)
  (h0:∀x,R x->ai P f (k9::m x) [] (nz (F [] x)) (fun _ _=>False)) (hz:∀x,R x->ai P f (.lp 0 0::m x) [.ro (.blk tS Ws)] (nz (F [] x)) (fun _ _=>False))
  (h1:∀L x,Q L x->ai P f (.lp 0 0::m x) [.store tS eS L] (CP (F L x) (M L x)) (fun _ _=>False)):ll P f (Wl B R Q F M):=by
 intro args res K KP h;unfold Wl at h;split at h
 case h_2=>exact h.elim
 split at h
 case h_2=>exact h.elim
 rename_i x hx;obtain⟨hR,h⟩:=h;refine ai.args (eg.iT (hB _ _ hx)) ?_;split at h
 ·split at h
  ·exact ai.pure (by simp only[kG,j4,Bool.true_and];exact hid x) (hF _ _) ((h0 x hR).mono (fun _ _ h=>dt h) fun _ _ h=>h) h
  ·exact h.elim
 ·split at h
  ·rename_i hoff;have hoff:=XM.1 hoff;subst hoff;split at h
   ·rename_i hr;split at h
    ·rename_i hc;simp only[XK,XM]at hc;obtain⟨rfl,rfl⟩:=hc;exact ai.Ah hr (hid x) (hF _ _) ((h1 _ x h.1).mono (fun v r hv=>ED hv |> fun⟨a,b⟩=>⟨fun J K=>a J K,b⟩) fun _ _ h=>h) h.2
    ·exact h.elim
   ·rename_i hr;split at h
    ·rename_i hc;simp only[XK,XM]at hc;obtain⟨rfl,hz'⟩:=hc;have:=wN hz';subst this;exact ai.Jl (r0:= .blk tS Ws) (by unfold dr;rw[hr];rfl) (by simp) (fun κ=>rfl) (hid x) (hF _ _) ((hz x hR).mono (fun _ _ h=>dt h) fun _ _ h=>h) h
    ·exact h.elim
   ·exact h.elim
  ·exact h.elim
 ·exact h.elim
def cG (n:Int):Key:=⟨1,0,0,0,0,n⟩
theorem dW {L:List Obj} (h:aq L) (j:Nat) (hj:j<L.length):bT (ah L j free) (L.length:Int)=true:=(ff.1 h).2.2 j hj
theorem ku {L:List Obj} (h:aq L):1<=L.length/\L.length<=64:=⟨(ff.1 h).1,(ff.1 h).2.1⟩
theorem LQ {L M:List Obj} (h:aq L) (hl:M.length=L.length) (hm:∀j,j<L.length->bT (ah M j free) (L.length:Int)=true):aq M:=by
 obtain⟨a,b⟩:=ku h;unfold aq;rw[ff,hl];exact⟨a,b,hm⟩
theorem m8 {L:List Obj} {i:Nat} {x:Obj} (h:aq L) (hx:bT x (L.length:Int)=true):aq (cx L i x):=by
 by_cases hi:i<L.length
 ·refine LQ h jt fun j hj=>?_
  rw[gh hi];split
  ·exact hx
  ·exact dW h j hj
 ·rw[show cx L i x=L from List.set_eq_of_length_le (by omega)];exact h
theorem nt {L:List Obj} {i:Int} {x:Obj} (h0:0<=i) (h1:i<(L.length:Int)) (hx:bT x (L.length:Int)=true):cW L i x=cx L i.toNat x/\eK L i x=0:=by
 have e:cS L i=0:=kq.2 ⟨h0,h1⟩;have e2:cE x (aj L:Int)=0:=by unfold cE;exact XR hx
 exact⟨(sM e e2).2,(sM e e2).1⟩
theorem PF {n:Int} {s:cQ} {k:Key} {j:Nat} (hj:j<16) (h:∀i,i<16->fM n (s.at i)) (hk:fM n k) (i:Nat) (hi:i<16):fM n ((s.put j k).at i):=by
 rw[cQ.gC _ _ _ _ hj];split
 ·exact hk
 ·exact h i hi
theorem vY {n:Int} (hn:0<=n) (x:Int):fM n (cG x):=by
 refine⟨by simp[cG,aT,eN,jZ,dH,fY,fF],?_⟩
 unfold aX;rw[show dH (cG x).kind=false by simp[cG,dH]]
 simp;omega
theorem ui {o:Obj} {n:Int} (h:bT o n=true) (hk:o.kind=1) (i:Nat) (hi:i<16):fM n (o.slots.at i):=by
 obtain⟨a1,a2,a3,a4,a5,a6,a7,a8,a9,a10,a11⟩:=fg.1 h;have:=a10 i hi;rw[hk]at this;exact Lv.1 this
end Go.Sx
