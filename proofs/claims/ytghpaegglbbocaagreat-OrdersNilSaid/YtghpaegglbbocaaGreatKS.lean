import Derived.Test.YtghpaegglbbocaaGreatKO
import Derived.Test.YtghpaegglbbocaaGreatSxF
set_option linter.unusedSimpArgs false
set_option linter.unusedVariables false
namespace Go.Sx
def bB (L:List Obj):Bool:=decide (aj L=0)
def cQ (L:List Obj) (oid:Int):Int:=if aj L=0 then 1 else if oid<0\/(aj L:Int)<=oid then 4 else 0
def aR (L:List Obj) (oid:Int):Obj:=if cQ L oid=0 then ah L oid.toNat free else free
def an (L:List Obj):Int:=(aj L:Int)
def aU (L:List Obj) (k:Key):Bool:=bf k&&decide (cQ L k.oid=0)&&cc k (ah L k.oid.toNat free)
def aa (L:List Obj) (k:Key):Obj:=if aU L k then ah L k.oid.toNat free else free
def ae (L:List Obj) (k:Key):Key:=if bB L|| !aT k||(bf k&& !aU L k)then void else k
def iE (n:Int):Bool:=decide (1<=n)&&decide (n<=64)
def ie (n:Int):List Obj:=List.replicate n.toNat free
def cV (L:List Obj) (i:Int) (o:Obj):List Obj:=if cQ L i=0/\cG o (aj L:Int)=0 then cC L i.toNat o else L
def eJ (L:List Obj) (i:Int) (o:Obj):Int:=if cQ L i=0 then cG o (aj L:Int)else cQ L i
def fb (l:List Obj):Bool:=decide (1<=aj l)&&decide (aj l<=64)&&(List.range (aj l)).all fun i=>bT (ah l i free) (aj l:Int)
def jq (l:List Obj) (g:Int):List Obj:=l.take g.toNat++List.replicate (l.length-g.toNat) free
def pJ (l:List Obj) (g:Int):Prop:=0<=g/\g<=(aj l:Int)/\∀j:Nat,(j:Int)<g->bT (ah l j free) (aj l:Int)=true
def Bx (n i:Int):Prop:=0<=i/\i<=n
abbrev tS:Nat:=40
abbrev eS:Nat:=75
def RK (c:Bool) (M:List Obj) (v:V) (r:List aI):Prop:=
 match v with
 | .tp l=>match l with
   | [a,b]=>match a with
     | .nl p=>match p with
       | .pointer none=>c=false/\mn (.ci .i64 2) b r
       |_=>False
     | .lp j off=>match Cm r j with
       |some (t,e,L)=>if off==0&&t==tS&&e==eS then c=true/\mn (.ci .i64 0) b r/\L=M else False
       |none=>False
     |_=>False
   |_=>False
 |_=>False
def Xi (n:Int):V->List aI->Prop:=RK (iE n) (ie n)
def WL (l:List Obj) (v:V) (r:List aI):Prop:=
 match az r 0 with
 | .ro _=>RK (fb l) l v r
 |_=>False
theorem Fh {l:List Obj} {v:V} {r:List aI} (h:WL l v r):RK (fb l) l v r/\Cm r 0=none:=by
 unfold WL at h;split at h
 ·rename_i hr;refine⟨h,?_⟩;unfold Cm Ce;rw[hr]
 ·exact h.elim
def WQ (x:V) (M:List Obj) (v:V) (r:List aI):Prop:=
 match Ce r 0 with
 |some (t,e,_,L)=>if t==tS&&e==eS then mn x v r/\L=M else False
 |none=>False
def Sc:kI:=fun args res K=>
 match args with
 | [a]=>match rI .i64 a with
   |some n=>(iE n=false->K (.tp [lh,.ci .i64 2]) res)/\(iE n=true->K (.tp [.lp res.length 0,.ci .i64 0]) (res++ [.store tS eS (ie n)]))
   |none=>False
 |_=>False
def Vo (c:V):Bool:=
 match c with
 | .ag l=>match l with
   | [x]=>match x with
     | .nl v=>match v with
       | .slice none 0 0=>true
       |_=>false
     |_=>false
   |_=>false
 |_=>false
theorem wZ {c:V} (h:Vo c=true):c= .ag [.nl (.slice none 0 0)]:=by
 unfold Vo at h;split at h
 ·split at h
  ·split at h
   ·split at h
    ·rfl
    ·simp at h
   ·simp at h
  ·simp at h
 ·simp at h
def RY:kI:=fun args res K=>
 match args with
 | [a,b,c]=>match rI .i64 b with
   |some i=>match rO c with
    |some o=>match a with
     | .nl v=>match v with
       | .pointer none=>K (.it .i64 (eJ [] i o)) res
       |_=>False
     | .lp k off=>if off==0 then match az res k with
       | .store t e L=>if t==tS&&e==eS then K (.it .i64 (eJ L i o)) (cj res k (.store tS eS (cV L i o)))else False
       | .blk t c=>if t==tS&&Vo c then K (.it .i64 (eJ [] i o)) res else False
       |_=>False
       else False
     |_=>False
    |none=>False
   |none=>False
 |_=>False
structure XZ where
 puts:Bool
 oid:Int
 ob:Obj
def XZ.wf (x:XZ):Prop:=bY .i64 x.oid/\x.ob.wf
def O9:Ct:=UM (.bo true)
def eu (L M:List Obj):Bool:=decide (L=M)
def pb (L M:List Obj) (g:Int):Prop:=0<=g/\g<=(aj L:Int)/\g<=(aj M:Int)/\∀j:Nat,(j:Int)<g->ah L j free=ah M j free
def Uh:Ct:=TI tS eS fun L M=> .bo (eu L M)
def gL (L M:List Obj) (g:Int):List Int:=((List.range g.toNat).filter fun j=> !CU (ah L j free) (ah M j free)).map Int.ofNat
def jf (L M:List Obj):Bool:=bB L||bB M|| !decide ((aj L:Int)=(aj M:Int))
def dc (L M:List Obj):List Int:=gL L M (aj L:Int)
def kN (L:List Obj) (g:Int):List Obj:=L.take g.toNat
def oP (L:List Obj) (g:Int):Prop:=0<=g/\g<=(aj L:Int)
abbrev UL:V:= .nl (.slice none 0 0)
abbrev tI:Nat:=3
def BZ (L:List Obj) (v:V) (r:List aI):Prop:=
 match v with
 | .nl p=>match p with
   | .pointer none=>bB L=true
   |_=>False
 | .lp j off=>match Cm r j with
   |some (t,e,M)=>if off==0&&t==tS&&e==eS&&Nat.ble 1 j then bB L=false/\M=L else False
   |none=>False
 |_=>False
def NN (L M:List Obj) (v:V) (r:List aI):Prop:=
 match v with
 | .nl p=>match p with
   | .slice none 0 0=>jf L M=true
   |_=>False
 | .sa j=>match az r j with
   | .arr own esz l=>match own with
     |some e=>match l with
      | .it k l=>match k with
        | .i64=>if e==tI&&esz==1&&Nat.ble 2 j then jf L M=false/\l=dc L M else False
        |_=>False
      |_=>False
     |none=>False
   |_=>False
 |_=>False
def JN:kI:=fun args res K=>
 match args with
 | [a]=>match a with
   | .nl v=>match v with
     | .pointer none=>K lh res
     |_=>False
   | .lp k off=>if off==0 then match de res k with
     | .store t e L=>if t==tS&&e==eS then aj L<=1000/\(bB L=true->K lh res)/\(bB L=false->K (.lp res.length 0) (res++ [.store tS eS L]))else False
     |_=>False
     else False
   |_=>False
 |_=>False
def RS:kI:=fun args res K=>
 match args with
 | [a,b]=>match b with
   | .lp j off=>if off==0 then match de res j with
     | .store t e M=>if t==tS&&e==eS then match a with
       | .nl v=>match v with
         | .pointer none=>K UL res
         |_=>False
       | .lp k off'=>if off'==0&& !(k==j)then match de res k with
         | .store t e L=>if t==tS&&e==eS then aj L<=1000/\(jf L M=true->K UL res)/\(jf L M=false->K (.sa res.length) (res++ [.arr (some tI) 1 (.it .i64 (dc L M))]))else False
         |_=>False
         else False
       |_=>False
       else False
     |_=>False
     else False
   |_=>False
 |_=>False
def Gd:Ct:=fun res nid xs=>match xs with
 | [a]=>match rS tS eS res a with
   |some (o,L)=>match o with
    |none=>some (none,.cb true,[])
    |some _=>some (none,.bo (bB L),[])
   |none=>none
 |_=>none
theorem gu {α:Type} (l:List α):b9 (aj l)=(l.length:Int):=rfl
theorem lq {α:Type} (l:List α):((aj l:Nat):Int)=(l.length:Int):=rfl
def Wj:kI:=fun args res K=>
 match args with
 | [a]=>match a with
   | .sa k=>match de res k with
     | .arr _ e l=>if e==163 then match l with
       | .ob l=>(fb l=false->K (.tp [lh,.ci .i64 2]) res)/\(fb l=true->K (.tp [.lp res.length 0,.ci .i64 0]) (res++ [.store tS eS l]))
       |_=>False
       else False
     |_=>False
   |_=>False
 |_=>False
def QD:Ct:=Xw fun l=> .bo (fb l)
def HI:Ct:=OX rK fun l k=> .bo (aU l k)
def Rq:Ct:=OX rK fun l k=> .key (ae l k)
def Es:Ct:=Ug tS eS fun L=> .bo (bB L)
def V5:Ct:=GL tS eS (rI .i64) fun L i=> .it .i64 (cQ L i)
def VS:Ct:=GL tS eS (rI .i64) fun L i=> .tp [.ob (aR L i),.it .i64 (cQ L i)]
def DK:Ct:=Ug tS eS fun L=> .it .i64 (an L)
def OE:Ct:=GL tS eS rK fun L k=> .tp [.ob (aa L k),.bo (aU L k)]
def TP:Ct:=GL tS eS rK fun L k=> .key (ae L k)
theorem Ge {n:Nat} (h:n<1000):vQ n 8:=by unfold vQ;simp only[maxLen];omega
theorem Kv {L:List Obj} {g:Int} (h0:0<=g) (h1:g<(L.length:Int)):iM (kN L g) (ah L g.toNat free)=kN L (g+1):=by
 unfold iM kN ah;rw[show(g+1).toNat=g.toNat+1 by omega,List.take_add_one,Yo,List.getElem?_eq_getElem (by omega)];rfl
theorem Ma {L:List Obj} {g:Int} (h:(L.length:Int)<=g):kN L g=L:=by unfold kN;rw[List.take_of_length_le (by omega)]
theorem Mz {L:List Obj} {g:Int}:aj (kN L g)<=g.toNat:=by unfold aj kN;rw[List.length_take];omega
theorem K2 {L M:List Obj} {g:Int}:aj (gL L M g)<=g.toNat:=by
 unfold aj gL;rw[List.length_map];exact Nat.le_trans (List.length_filter_le _ _) (by rw[List.length_range];omega)
theorem NO {L M:List Obj} {g:Int} (h0:0<=g) (h:(!CU (ah L g.toNat free) (ah M g.toNat free))=true):iM (gL L M g) g=gL L M (g+1):=by
 unfold iM gL;rw[show(g+1).toNat=g.toNat+1 by omega,List.range_succ,List.filter_append,List.map_append]
 simp only[List.filter_cons,h,if_true,List.filter_nil,List.map_cons,List.map_nil];congr 2
 show g=((g.toNat:Nat):Int)
 omega
theorem PC {L M:List Obj} {g:Int} (h0:0<=g) (h:(!CU (ah L g.toNat free) (ah M g.toNat free))=false):gL L M g=gL L M (g+1):=by
 unfold gL;rw[show(g+1).toNat=g.toNat+1 by omega,List.range_succ,List.filter_append,List.map_append]
 simp only[List.filter_cons,h,Bool.false_eq_true,if_false,List.filter_nil,List.map_nil,List.append_nil]
theorem qG:bB []=true:=rfl
theorem ze {L:List Obj}:bB L=true↔L= []:=by
 unfold bB aj;simp[List.length_eq_zero_iff]
theorem ra (i:Int):cQ [] i=1:=rfl
theorem It {L:List Obj} (h:bB L=false) (i:Int):cQ L i=if i<0\/(L.length:Int)<=i then 4 else 0:=by
 have:L≠ []:=fun e=>by rw[e]at h;simp[qG]at h
 unfold cQ aj;rw[Yp (by simpa[List.length_eq_zero_iff]using this)]
theorem ky {L:List Obj} {i:Int}:cQ L i=0↔0<=i/\i<(L.length:Int):=by
 unfold cQ aj;split
 ·omega
 ·split<;>omega
theorem zs (L:List Obj) (k:Key):((!bf k)=true->free=aa L k/\false=aU L k)/\
  ((!bf k)=false->
    ((!decide (cQ L (cS k)=0)|| !cc k (aR L (cS k)))=true->
      free=aa L k/\false=aU L k)/\
      ((!decide (cQ L (cS k)=0)|| !cc k (aR L (cS k)))=false->
        aR L (cS k)=aa L k/\true=aU L k)):=by
 have fin:∀b,aU L k=b->(b=false->free=aa L k)/\b=aU L k:=fun b h=>⟨fun hb=>by unfold aa;rw[h,hb];rfl,h.symm⟩
 refine⟨fun h=>?_,fun h=>?_⟩
 ·have h:bf k=false:=by simpa using h
  have:=fin false (by unfold aU;rw[h];rfl)
  exact⟨this.1 rfl,this.2⟩
 ·have h:bf k=true:=by simpa using h
  have ho:cS k=k.oid:=by unfold cS;rw[Yq h]
  rw[ho];by_cases hh:cQ L k.oid=0
  ·have hg:aR L k.oid=ah L k.oid.toNat free:=by unfold aR;rw[Yq hh]
   rw[hg];have e:aU L k=cc k (ah L k.oid.toNat free):=by unfold aU;simp[h,hh]
   refine⟨fun hc=>?_,fun hc=>?_⟩
   ·have hc:cc k (ah L k.oid.toNat free)=false:=by simpa[hh]using hc
    have:=fin false (by rw[e,hc])
    exact⟨this.1 rfl,this.2⟩
   ·have hc:cc k (ah L k.oid.toNat free)=true:=by simpa[hh]using hc
    have:=fin true (by rw[e,hc])
    refine⟨?_,this.2⟩;unfold aa;rw[e,hc];rfl
  ·have:=fin false (by unfold aU;simp[hh])
   exact⟨fun _=>⟨this.1 rfl,this.2⟩,fun hc=>by simp[hh]at hc⟩
theorem CG (L:List Obj) (k:Key):((bB L|| !decide (bD k=0))=true->void=ae L k)/\
  ((bB L|| !decide (bD k=0))=false->
    ((bf k&& !aU L k)=true->void=ae L k)/\((bf k&& !aU L k)=false->k=ae L k)):=by
 have hc:(!decide (bD k=0))= !aT k:=by unfold bD;cases aT k<;>simp
 rw[hc];unfold ae;refine⟨fun h=>?_,fun h=>⟨fun h2=>?_,fun h2=>?_⟩⟩
 ·rw[Yq];simp only[h,Bool.true_or]
 ·rw[Yq];simp only[h2,Bool.or_true]
 ·rw[Yp];simp only[h,h2];simp
theorem qK {n:Int}:iE n=true↔1<=n/\n<=64:=by simp[iE]
theorem Qq {g:Int} (h:0<=g):iM (ie g) free=ie (g+1):=by
 unfold iM ie;rw[show(g+1).toNat=g.toNat+1 by omega,List.replicate_succ']
theorem FI {i:Int} {o:Obj}:eJ [] i o=1:=by unfold eJ;rw[ra];rfl
theorem N1 {L:List Obj} {i:Int} {o:Obj} (h:cQ L i≠0):eJ L i o=cQ L i/\cV L i o=L:=by
 unfold eJ cV;rw[Yp h,Yp (fun hh=>h hh.1)];exact⟨rfl,rfl⟩
theorem Ty {L:List Obj} {i:Int} {o:Obj} (h:cQ L i=0) (h2:cG o (aj L:Int)≠0):eJ L i o=cG o (aj L:Int)/\cV L i o=L:=by
 unfold eJ cV;rw[Yq h,Yp (fun hh=>h2 hh.2)];exact⟨rfl,rfl⟩
theorem tj {L:List Obj} {i:Int} {o:Obj} (h:cQ L i=0) (h2:cG o (aj L:Int)=0):eJ L i o=0/\cV L i o=cC L i.toNat o:=by
 unfold eJ cV;rw[Yq h,Yq ⟨h,h2⟩];exact⟨h2,rfl⟩
theorem LJ {c:Bool} {M:List Obj} (hn:c=false) {v:V} {r:List aI} (h:RK c M v r):yU (.tp [lh,.ci .i64 2]) v []:=by
 unfold RK at h;split at h
 ·split at h
  ·split at h
   ·split at h
    ·exact QZ (dt h.2)
    ·exact h.elim
   ·split at h
    ·split at h
     ·rw[hn]at h;simp at h
     ·exact h.elim
    ·exact h.elim
   ·exact h.elim
  ·exact h.elim
 ·exact h.elim
theorem Qj {c:Bool} {M:List Obj} (hn:c=true) {v:V} {r:List aI} (h:RK c M v r):∃j b,v= .tp [.lp j 0,b]/\yU (.ci .i64 0) b []/\Cm r j=some (tS,eS,M):=by
 unfold RK at h;split at h
 ·split at h
  ·split at h
   ·split at h
    ·rw[hn]at h;simp at h
    ·exact h.elim
   ·split at h
    ·rename_i hst;split at h
     ·rename_i hc;simp only[Yj,Yl]at hc;obtain⟨⟨rfl,rfl⟩,rfl⟩:=hc;obtain⟨_,h2,rfl⟩:=h;exact⟨_,_,rfl,dt h2,hst⟩
     ·exact h.elim
    ·exact h.elim
   ·exact h.elim
  ·exact h.elim
 ·exact h.elim
theorem Gt {c:Bool} {M:List Obj} (hn:c=true) {v:V} {r:List aI} (h:RK c M v r):∃j r',Cm r j=some (tS,eS,M)/\(r'=r\/tA r j=some r')/\az r' j= .store tS eS M/\∀(κ:Nat->Option Nat) (i:Nat),κ j=some i->iL κ v (.tp [.lp i 0,.ci .i64 0]):=by
 obtain⟨j,b,rfl,hb,hst⟩:=Qj hn h
 have ht:∀(κ:Nat->Option Nat) (i:Nat),κ j=some i->iL κ (.tp [.lp j 0,b]) (.tp [.lp i 0,.ci .i64 0]):=fun κ i hi ρ2 ρ3 N N' hv hN hk=>by
  obtain⟨s1,s2,_⟩:=hb ρ2 N;refine⟨?_,hN j i hi hk.1,by simp[ok,bY],trivial⟩
  simp only[den,bq,(hv j i hi).1,s1]
 rcases Du hst with h1|⟨r',h1,h2⟩
 ·exact⟨j,r,hst,.inl rfl,h1,ht⟩
 ·exact⟨j,r',hst,.inr h1,h2,ht⟩
theorem OL {x:V} {M:List Obj} {v:V} {r:List aI} (h:WQ x M v r):∃t,Ce r 0=some (tS,eS,t,M)/\yU x v r:=by
 unfold WQ at h;split at h
 ·rename_i hst;split at h
  ·rename_i hc;simp only[Yj,Yl]at hc;obtain⟨rfl,rfl⟩:=hc;obtain⟨h1,rfl⟩:=h;exact⟨_,hst,dt h1⟩
  ·exact h.elim
 ·exact h.elim
theorem Xf {P:Program} {f:Nat} {rest:List V} {res:List aI} {K KP:V->List aI->Prop} {k:Nat} {L M:List Obj} {x:V} (hr:az res k= .store tS eS L) (hid:kK rest=true) (hx:j3 x=true)
  (h:(∀o∈L,o.wf)->L.length<=9223372036854775807->ai P f (.lp 0 0::rest) [.blk tS (.ag [.sa 1]),.obs eS 2 L,.gen 1] (WQ x M) (fun _ _=>False)) (hK:K x (cj res k (.store tS eS M))):ai P f (.lp k 0::rest) res K KP:=by
 refine ai.AY hr hid hx ?_ hK;refine ai.fact (k:=0) rfl fun w1 w2=>?_
 refine ai.jI (k:=0) rfl ?_;refine ai.shut (h w1 w2) fun v r hv=>?_
 obtain⟨t,h1,h2⟩:=OL hv;obtain⟨r',g1,g2⟩:=zu h1;exact .inr ⟨0,r',g1,fun J K=>h2 J K,g2⟩
theorem ff {l:List Obj}:fb l=true↔1<=l.length/\l.length<=64/\∀i,i<l.length->bT (ah l i free) (l.length:Int)=true:=by
 unfold fb aj;simp only[Yj,Yk,List.all_eq_true,List.mem_range,and_assoc]
theorem tR {l:List Obj} (h:¬(1<=l.length/\l.length<=64/\∀i,i<l.length->bT (ah l i free) (l.length:Int)=true)):fb l=false:=by
 cases hr:fb l with
 |false=>rfl
 |true=>exact absurd (ff.1 hr) h
theorem wy {l:List Obj} {g:Int} (h1:g<=(l.length:Int)):(jq l g).length=l.length:=by
 unfold jq;simp only[List.length_append,List.length_take,List.length_replicate];omega
theorem Ju {l:List Obj}:ie (l.length:Int)=jq l 0:=by unfold ie jq;simp
theorem N3 {l:List Obj} {g:Int} (h:(l.length:Int)<=g):jq l g=l:=by
 unfold jq;rw[List.take_of_length_le (by omega),show l.length-g.toNat=0 by omega];simp
theorem Ol {l:List Obj} {g:Int} (h0:0<=g) (h1:g<(l.length:Int)):cC (jq l g) g.toNat (ah l g.toNat free)=jq l (g+1):=by
 unfold cC jq ah;obtain⟨n,rfl⟩:=Int.eq_ofNat_of_zero_le h0;have hn:n<l.length:=by omega
 have e1:((n:Int)+1).toNat=n+1:=by omega
 have e2:((n:Int)).toNat=n:=by omega
 rw[e1,e2];apply List.ext_getElem?
 intro i;rw[List.getElem?_set];have hlt:(List.take n l++List.replicate (l.length-n) free).length=l.length:=by simp;omega
 have htl:(List.take n l).length=n:=by simp;omega
 have htl1:(List.take (n+1) l).length=n+1:=by simp;omega
 by_cases hi:n=i
 ·subst hi;rw[Yq rfl,Yq (by rw[hlt];exact hn),List.getElem?_append_left (by rw[htl1];omega),List.getElem?_take,Yq (by omega),Yo,List.getElem?_eq_getElem hn];rfl
 ·rw[Yp hi];by_cases hl:i<n
  ·rw[List.getElem?_append_left (by rw[htl];exact hl),List.getElem?_append_left (by rw[htl1];omega),List.getElem?_take,List.getElem?_take,Yq hl,Yq (by omega)]
  ·rw[List.getElem?_append_right (by rw[htl];omega),List.getElem?_append_right (by rw[htl1];omega),htl,htl1,List.getElem?_replicate,List.getElem?_replicate]
   by_cases hb:i<l.length
   ·rw[Yq (by omega),Yq (by omega)]
   ·rw[Yp (by omega),Yp (by omega)]
theorem Sn {l:List Obj} {g:Int} (h0:0<=g) (h1:g<(l.length:Int)) (x:Obj):eJ (jq l g) g x=cG x (l.length:Int):=by
 have hh:cQ (jq l g) g=0:=ky.2 (by rw[wy (by omega)];exact⟨h0,h1⟩)
 unfold eJ aj;rw[Yq hh,wy (by omega)]
theorem Oe {l:List Obj} {g:Int} (h0:0<=g) (h1:g<(l.length:Int)) (hx:cG (ah l g.toNat free) (l.length:Int)=0):cV (jq l g) g (ah l g.toNat free)=jq l (g+1):=by
 have hh:cQ (jq l g) g=0:=ky.2 (by rw[wy (by omega)];exact⟨h0,h1⟩)
 unfold cV aj;rw[Yq ⟨hh,by rw[wy (by omega)];exact hx⟩]
 exact Ol h0 h1
theorem rX (o:Obj) (n:Int):(cG o n=0/\bT o n=true)\/(cG o n=2/\bT o n=false):=by
 unfold cG;cases bT o n<;>simp
theorem jX (k:Key):(bf k=true/\aY k=k.oid/\0<=k.oid)\/(bf k=false/\aY k= -1):=by
 have h:aY k=if bf k then k.oid else -1:=rfl
 cases hn:bf k
 ·exact .inr ⟨rfl,by rw[h,hn];rfl⟩
 ·refine .inl ⟨rfl,by rw[h,hn];rfl,?_⟩
  unfold bf at hn;simp only[Yj]at hn;have:=hn.1;simp only[aT,fF,hn.2,if_true,Yj,Yk]at this;omega
theorem DB (l:List Obj) (k:Key) (hl:l.length<=9223372036854775807):((decide (0<=aY k)&&decide (aY k<b9 (aj l)))=true->aG IntKind.i64 (b9 (aj l)-1))/\
  ((decide (0<=aY k)&&decide (aY k<b9 (aj l)))=true->
    0<=kJ (aY k) (b9 (aj l)-1)/\kJ (aY k) (b9 (aj l)-1)< ↑(aj l))/\
    ((decide (0<=aY k)&&decide (aY k<b9 (aj l)))=true->
      (kJ (aY k) (b9 (aj l)-1)).toNat<aj l)/\
      (decide (0<=aY k)&&decide (aY k<b9 (aj l))&&
        cc k (ah l (kJ (aY k) (b9 (aj l)-1)).toNat free))=
       aU l k:=by
 unfold b9 aj
 have hm:0<=aY k->aY k<(l.length:Int)->kJ (aY k) ((l.length:Int)-1)=aY k:=fun h1 h2=>by
  unfold kJ;rw[Yp (by omega)]
 simp only[Yj,Yk];refine⟨fun h=>by simp only[aG,bY];omega,fun h=>by rw[hm h.1 h.2];exact h,fun h=>by rw[hm h.1 h.2];omega,?_⟩
 rcases jX k with⟨h1,h2,h3⟩|⟨h1,h2⟩
 ·by_cases hh:k.oid<(l.length:Int)
  ·rw[hm (by omega) (by omega),h2]
   have h0:cQ l k.oid=0:=ky.2 ⟨h3,hh⟩;unfold aU;simp[h1,h0,h3,hh]
  ·have h0:¬cQ l k.oid=0:=fun h=>hh (ky.1 h).2
   unfold aU;rw[h2];simp[h0,hh]
 ·unfold aU;simp[h1,h2]
theorem Hn (l:List Obj) (k:Key):((decide (b9 (aj l)=0)|| !decide (bD k=0)||decide (0<=aY k)&& !aU l k)=true->void=ae l k)/\
  ((decide (b9 (aj l)=0)|| !decide (bD k=0)||decide (0<=aY k)&& !aU l k)=false->k=ae l k):=by
 have hc:(!decide (bD k=0))= !aT k:=by unfold bD;cases aT k<;>simp
 have hd:decide (0<=aY k)=bf k:=by
  rcases jX k with⟨h1,h2,h3⟩|⟨h1,h2⟩
  ·rw[h1,h2];simpa using h3
  ·rw[h1,h2];simp
 have he:decide (b9 (aj l)=0)=bB l:=by
  unfold bB b9;rw[decide_eq_decide];omega
 rw[hc,hd,he];unfold ae;exact⟨fun h=>by rw[h];rfl,fun h=>by rw[h];rfl⟩
theorem xu {l:List Obj} {k:Key} (h:aU l k=true):0<=aY k/\aY k<(l.length:Int)/\aa l k=ah l (aY k).toNat free:=by
 have h':=h;unfold aU at h;simp only[Yj,Yk]at h;have hb:=ky.1 h.1.2;rcases jX k with⟨h1,h2,h3⟩|⟨h1,h2⟩
 ·rw[h2];exact⟨hb.1,hb.2,by unfold aa;rw[h',Yq rfl]⟩
 ·rw[h1]at h;simp at h
theorem ql {L M:List Obj} (h:L.length=M.length) (h2:∀j:Nat,j<L.length->ah L j free=ah M j free):L=M:=by
 apply List.ext_getElem h
 intro i h3 h4;have:=h2 i h3;unfold ah at this;simpa[Yo,h3,h4]using this
theorem LP {L M:List Obj} {g:Int} (hg:pb L M g) (hge:(aj L:Int)<=g):(decide (g=b9 (aj M))&&decide (an L=g))=eu L M:=by
 obtain⟨g0,g1,g2,g3⟩:=hg;have e:g=(L.length:Int):=by unfold aj at *;omega
 subst e;unfold eu an b9 aj;cases hd:decide (L=M)with
 |true=>
  have:=Yn hd;subst this;simp
 |false=>
  have hne:=Ym hd;simp only[decide_true,Bool.and_true,decide_eq_false_iff_not];intro hl;exact hne (ql (by omega) fun j hj=>g3 j (by omega))
end Go.Sx
namespace Go.Proofs.YtghpaegglbbocaaGreat
open Go.Sx
set_option maxRecDepth 100000
theorem Ns:
 true=bB []:=by
 rfl
theorem IX (L:List Sx.Obj):
 decide (b9 (aj L)=0)=bB L:=by
 unfold bB b9 aj;rw[decide_eq_decide];omega
theorem oG:ck Tryz.prog 34 Es:=
 J2 (fun _=>rfl) (aV (inl:=bp) (ann:=aP) ak Ns (by kernel_rfl)) (fun L _ _=>aV (inl:=bp) (ann:=aP) ak (IX L) (by kernel_rfl))
theorem P5 (i:Int):
 (bB []=true->1=cQ [] i)/\
  (bB []=false->((!decide (i<0))=true->False)/\((!decide (i<0))=false->4=cQ [] i)):=by
 exact⟨fun _=>rfl,fun h=>by simp[qG]at h⟩
theorem Ro (L:List Sx.Obj) (i:Int):
 (bB L=true->1=cQ L i)/\
  (bB L=false->
   ((decide (i<0)||decide (b9 (aj L)<=i))=true->4=cQ L i)/\
     ((decide (i<0)||decide (b9 (aj L)<=i))=false->0=cQ L i)):=by
 refine⟨fun h=>?_,fun h=>?_⟩
 ·rw[ze.1 h];rfl
 ·rw[It h];unfold b9 aj;refine⟨fun h1=>?_,fun h1=>?_⟩
  ·simp only[Bool.or_eq_true,Yk]at h1;rw[Yq h1]
  ·simp only[Bool.or_eq_false_iff,decide_eq_false_iff_not]at h1;rw[Yp (by omega)]
theorem xY:ck Tryz.prog 27 V5:=
 wL (fy .i64) (fun _ _=>rfl) (fun x _=>aV (inl:=bp) (ann:=aP) (ab oG ak) (P5 x) (by kernel_rfl)) (fun L x _ _ _=>aV (inl:=bp) (ann:=aP) (ab oG ak) (Ro L x) (by kernel_rfl)) fun _=>rfl
theorem Lw:
 (bB []=true->0=an [])/\(bB []=false->False):=by
 exact⟨fun _=>rfl,fun h=>by simp[qG]at h⟩
theorem Kg (L:List Sx.Obj):
 (bB L=true->0=an L)/\(bB L=false->b9 (aj L)=an L):=by
 exact⟨fun h=>by rw[ze.1 h];rfl,fun _=>rfl⟩
theorem bC:ck Tryz.prog 23 DK:=
 J2 (fun _=>rfl) (aV (inl:=bp) (ann:=aP) (ab oG ak) Lw (by kernel_rfl)) (fun L _ _=>aV (inl:=bp) (ann:=aP) (ab oG ak) (Kg L) (by kernel_rfl))
theorem Q5 (i:Int):
 ((!decide (cQ [] i=0))=true->free=aR [] i/\cQ [] i=cQ [] i)/\
   ((!decide (cQ [] i=0))=false->False):=by
 exact⟨fun _=>⟨rfl,rfl⟩,fun h=>by simp[ra]at h⟩
theorem Qb (L:List Sx.Obj) (i:Int):
 ((!decide (cQ L i=0))=true->free=aR L i/\cQ L i=cQ L i)/\
   ((!decide (cQ L i=0))=false->
     (0<=i/\i< ↑(aj L))/\i.toNat<aj L/\i.toNat<aj L/\ah L i.toNat free=aR L i/\0=cQ L i):=by
 refine⟨fun h=>⟨?_,rfl⟩,fun h=>?_⟩
 ·unfold aR;rw[Yp (by simpa using h)]
 ·have h:cQ L i=0:=by simpa using h
  have hb:=ky.1 h;unfold aR aj;rw[Yq h,h];exact⟨hb,by omega,by omega,rfl,rfl⟩
theorem gY:ck Tryz.prog 14 VS:=
 wL (fy .i64) (fun _ _=>rfl) (fun x _=>aV (inl:=bp) (ann:=aP) (ab xY ak) (Q5 x) (by kernel_rfl)) (fun L x _ _ _=>aV (inl:=bp) (ann:=aP) (ab xY ak) (Qb L x) (by kernel_rfl)) fun _=>rfl
theorem GQ (k:Key):
 ((!bf k)=true->free=aa [] k/\false=aU [] k)/\
   ((!bf k)=false->
     ((!decide (cQ [] (cS k)=0)|| !cc k (aR [] (cS k)))=true->
       free=aa [] k/\false=aU [] k)/\
       ((!decide (cQ [] (cS k)=0)|| !cc k (aR [] (cS k)))=false->
         aR [] (cS k)=aa [] k/\true=aU [] k)):=by
 exact zs [] k
theorem G9 (L:List Sx.Obj) (k:Key):
 ((!bf k)=true->free=aa L k/\false=aU L k)/\
   ((!bf k)=false->
     ((!decide (cQ L (cS k)=0)|| !cc k (aR L (cS k)))=true->
       free=aa L k/\false=aU L k)/\
       ((!decide (cQ L (cS k)=0)|| !cc k (aR L (cS k)))=false->
         aR L (cS k)=aa L k/\true=aU L k)):=by
 exact zs L k
theorem bL:ck Tryz.prog 35 OE:=
 wL fz (fun _ _=>rfl) (fun x _=>aV (inl:=bp) (ann:=aP) (ab eY (ab gY (ab xM ak))) (GQ x) (by kernel_rfl)) (fun L x _ _ _=>aV (inl:=bp) (ann:=aP) (ab eY (ab gY (ab xM ak))) (G9 L x) (by kernel_rfl)) fun _=>rfl
end Go.Proofs.YtghpaegglbbocaaGreat
namespace Go.Proofs.YtghpaegglbbocaaGreat
open Go.Sx
set_option maxRecDepth 100000
theorem Td (n:Int):
 ((decide (n<1)||decide (64<n))=true->iE n=false/\True)/\
   ((decide (n<1)||decide (64<n))=false->
     (∃g,Bx n g/\Value.pointer none=Value.pointer none/\n=n/\0=g/\ []=ie g)/\
      ∀(g:Int),
       Bx n g->
        (decide (g<n)=true->
          vQ (aj (ie g)) 8/\
           aG IntKind.i64 (g+1)/\
            ∃g',
             Bx n g'/\
              (n-g').toNat<(n-g).toNat/\
               Value.pointer none=Value.pointer none/\
                n=n/\g+1=g'/\iM (ie g) free=ie g')/\
         (decide (g<n)=false->iE n=true/\True/\ie g=ie n)):=by
 refine⟨fun h=>⟨?_,trivial⟩,fun h=>⟨⟨0,?_,rfl,rfl,rfl,rfl⟩,fun g hg=>⟨fun hlt=>?_,fun hge=>?_⟩⟩⟩
 ·simp only[Bool.or_eq_true,Yk]at h;unfold iE;rw[Bool.and_eq_false_iff,decide_eq_false_iff_not,decide_eq_false_iff_not];omega
 ·simp only[Bool.or_eq_false_iff,decide_eq_false_iff_not]at h;exact⟨by omega,by omega⟩
 ·simp only[Bool.or_eq_false_iff,decide_eq_false_iff_not]at h;obtain⟨g0,g1⟩:=hg;have hlt:=Yn hlt;refine⟨?_,?_,g+1,⟨by omega,by omega⟩,by omega,rfl,rfl,rfl,Qq g0⟩
  ·unfold vQ aj ie;simp only[List.length_replicate,maxLen];omega
  ·simp only[aG,bY];omega
 ·simp only[Bool.or_eq_false_iff,decide_eq_false_iff_not]at h;obtain⟨g0,g1⟩:=hg;have hge:=Ym hge;exact⟨qK.2 (by omega),trivial,by rw[show g=n by omega]⟩
theorem Nu (n:Int):ai Tryz.prog 20 [.it .i64 n] [] (Xi n) (fun _ _=>False):=aV (inl:=bp) (ann:=(iy [(20,5,XM [2,3,4,13] (fun g=> [(14,.it .i64 g)]) 0 tS eS ie (Bx n) n)])) ak (Td n) (by kernel_rfl)
theorem LI:lF Tryz.prog 20 Sc:=by
 intro args res K KP h;unfold Sc at h;split at h
 ·split at h
  ·rename_i n hn;refine ai.args (eh.rd (fy .i64) hn eh.nil) ?_;cases hb:iE n with
   |false=>exact ai.pure rfl rfl ((Nu n).mono (fun v r hv=>LJ hb hv) fun _ _ h=>h) (h.1 hb)
   |true=>
    refine ai.PS (F:=fun j=> .tp [.lp j 0,.ci .i64 0]) rfl ?_ (h.2 hb)
    refine ai.shut (Nu n) fun v r hv=>?_
    obtain⟨j,r',_,h1,h2,h3⟩:=Gt hb hv;rcases h1 with rfl|h1
    ·exact .inl ⟨j,h2,h3⟩
    ·exact .inr ⟨j,r',h1,j,h2,h3⟩
  ·exact h.elim
 ·exact h.elim
theorem OD (i:Int) (o:Sx.Obj):
 ((!decide (cQ [] i=0))=true->cQ [] i=eJ [] i o)/\((!decide (cQ [] i=0))=false->False):=by
 refine⟨fun _=>?_,fun h=>by simp[ra]at h⟩
 rw[FI,ra]
theorem PX (i:Int) (o:Sx.Obj):ai Tryz.prog 41 [lh,.it .i64 i,.ob o] [] (mn (.it .i64 (eJ [] i o))) (fun _ _=>False):=aV (inl:=bp) (ann:=aP) (ab xY (ab A3 ak)) (OD i o) (by kernel_rfl)
theorem Qh (L:List Sx.Obj) (i:Int) (o:Sx.Obj):
 ((!decide (cQ L i=0))=true->cQ L i=eJ L i o/\L=cV L i o)/\
   ((!decide (cQ L i=0))=false->
     ((!decide (cG o (b9 (aj L))=0))=true->cG o (b9 (aj L))=eJ L i o/\L=cV L i o)/\
       ((!decide (cG o (b9 (aj L))=0))=false->
         (0<=i/\i< ↑(aj L))/\i.toNat<aj L/\0=eJ L i o/\cC L i.toNat o=cV L i o)):=by
 refine⟨fun h=>?_,fun h=>⟨fun h2=>?_,fun h2=>?_⟩⟩
 ·obtain⟨a,b⟩:=N1 (o:=o) (show cQ L i≠0 by simpa using h)
  rw[a,b];exact⟨rfl,rfl⟩
 ·obtain⟨a,b⟩:=Ty (o:=o) (show cQ L i=0 by simpa using h) (show cG o (aj L:Int)≠0 by unfold b9 at h2;simpa using h2)
  rw[a,b];exact⟨rfl,rfl⟩
 ·have h:=(show cQ L i=0 by simpa using h)
  have hb:=ky.1 h;obtain⟨a,b⟩:=tj (o:=o) h (show cG o (aj L:Int)=0 by unfold b9 at h2;simpa using h2)
  rw[a,b];exact⟨hb,by unfold aj;omega,rfl,rfl⟩
theorem O8 (L:List Sx.Obj) (i:Int) (o:Sx.Obj):ai Tryz.prog 41 [.lp 0 0,.it .i64 i,.ob o] [.blk tS (.ag [.sa 1]),.obs eS 2 L,.gen 1] (WQ (.it .i64 (eJ L i o)) (cV L i o)) (fun _ _=>False):=aV (inl:=bp) (ann:=aP) (ab xY (ab A3 ak)) (Qh L i o) (by kernel_rfl)
theorem Qa (i:Int) (o:Sx.Obj):
 ((!decide (cQ [] i=0))=true->cQ [] i=eJ [] i o)/\
   ((!decide (cQ [] i=0))=false->
     ((!decide (cG o 0=0))=true->cG o 0=eJ [] i o)/\((!decide (cG o 0=0))=false->False)):=by
 refine⟨fun _=>?_,fun h=>by simp[ra]at h⟩
 rw[FI,ra]
theorem QS (i:Int) (o:Sx.Obj):ai Tryz.prog 41 [.lp 0 0,.it .i64 i,.ob o] [.ro (.blk tS (.ag [.nl (.slice none 0 0)]))] (mn (.it .i64 (eJ [] i o))) (fun _ _=>False):=aV (inl:=bp) (ann:=aP) (ab xY (ab A3 ak)) (Qa i o) (by kernel_rfl)
theorem dN:lF Tryz.prog 41 RY:=by
 intro args res K KP h;unfold RY at h;split at h
 ·split at h
  ·rename_i i hi;split at h
   ·rename_i o ho;refine ai.args (eh.iW (eh.rd (fy .i64) hi (eh.rd xe ho eh.nil))) ?_;split at h
    ·split at h
     ·exact ai.pure rfl rfl ((PX i o).mono (fun _ _ h=>dt h) fun _ _ h=>h) h
     ·exact h.elim
    ·split at h
     ·rename_i hoff;have hoff:=Yl.1 hoff;subst hoff;split at h
      ·rename_i hr;split at h
       ·rename_i hc;simp only[Yj,Yl]at hc;obtain⟨rfl,rfl⟩:=hc;exact Xf hr rfl rfl (fun _ _=>O8 _ i o) h
       ·exact h.elim
      ·rename_i hr;split at h
       ·rename_i hc;simp only[Yj,Yl]at hc;obtain⟨rfl,hz⟩:=hc;have:=wZ hz;subst this;refine ai.Kq (r0:= .blk tS (.ag [.nl (.slice none 0 0)])) (by unfold de;rw[hr]) (by simp) (fun κ=>rfl) rfl rfl ((QS i o).mono (fun _ _ h=>dt h) fun _ _ h=>h) h
       ·exact h.elim
      ·exact h.elim
     ·exact h.elim
    ·exact h.elim
   ·exact h.elim
  ·exact h.elim
 ·exact h.elim
theorem JG (l:List Sx.Obj) (hl:l.length<=9223372036854775807):
 ((decide (b9 (aj l)<1)||decide (64<b9 (aj l)))=true->false=fb l)/\
   ((decide (b9 (aj l)<1)||decide (64<b9 (aj l)))=false->
     (∃g,pJ l g/\false=false/\0=g/\l=l)/\
      ∀(g:Int),
       pJ l g->
        (decide (g<b9 (aj l))=true->
          (0<=g/\g< ↑(aj l))/\
           g.toNat<aj l/\
            ((!decide (cG (ah l g.toNat free) (b9 (aj l))=0))=true->false=fb l)/\
              ((!decide (cG (ah l g.toNat free) (b9 (aj l))=0))=false->
                aG IntKind.i64 (g+1)/\
                 ∃g',
                  pJ l g'/\
                   (b9 (aj l)-g').toNat<(b9 (aj l)-g).toNat/\
                    false=false/\g+1=g'/\l=l))/\
         (decide (g<b9 (aj l))=false->true=fb l)):=by
 refine⟨fun h=>?_,fun h=>⟨⟨0,⟨by omega,by omega,fun j hj=>by omega⟩,rfl,rfl,rfl⟩,fun g hg=>⟨fun hlt=>?_,fun hge=>?_⟩⟩⟩
 ·simp only[Bool.or_eq_true,Yk]at h;simp only[gu]at h;exact(tR fun hh=>by have h1:=hh.1;have h2:=hh.2.1;omega).symm
 ·obtain⟨g0,g1,g2⟩:=hg;have hlt:=Yn hlt;unfold b9 at *;refine⟨⟨g0,hlt⟩,by omega,fun hb=>(tR fun hh=>?_).symm,fun hb=>⟨?_,g+1,⟨by omega,by omega,fun j hj=>?_⟩,by omega,rfl,rfl,rfl⟩⟩
  ·have:=hh.2.2 g.toNat (by unfold aj at hlt;omega)
   unfold cG aj at hb;rw[this]at hb;simp at hb
  ·simp only[aG,bY];unfold aj at *;omega
  ·by_cases e:(j:Int)<g
   ·exact g2 j e
   ·have:j=g.toNat:=by omega
    subst this;rcases rX (ah l g.toNat free) (aj l:Int)with⟨h1,h2⟩|⟨h1,h2⟩
    ·exact h2
    ·rw[h1]at hb;simp at hb
 ·obtain⟨g0,g1,g2⟩:=hg;have hge:=Ym hge;have hle:=lq l;simp only[Bool.or_eq_false_iff,decide_eq_false_iff_not]at h;simp only[gu]at h hge;exact(ff.2 ⟨by omega,by omega,fun i hi=>g2 i (by omega)⟩).symm
theorem Jl:ck Tryz.prog 25 QD:=To (fun _=>rfl) fun l _ hl=>aV (inl:=bp) (ann:=(iy [(25,4,Og [0,2] (fun g=> [(3,.it .i64 g)]) (pJ l) (b9 (aj l)))])) (ab Mk ak) (JG l hl) (by kernel_rfl)
theorem EC (l:List Sx.Obj) (k:Key) (hl:l.length<=9223372036854775807):
 ((decide (0<=aY k)&&decide (aY k<b9 (aj l)))=true->aG IntKind.i64 (b9 (aj l)-1))/\
   ((decide (0<=aY k)&&decide (aY k<b9 (aj l)))=true->
     0<=kJ (aY k) (b9 (aj l)-1)/\kJ (aY k) (b9 (aj l)-1)< ↑(aj l))/\
     ((decide (0<=aY k)&&decide (aY k<b9 (aj l)))=true->
       (kJ (aY k) (b9 (aj l)-1)).toNat<aj l)/\
       (decide (0<=aY k)&&decide (aY k<b9 (aj l))&&
         cc k (ah l (kJ (aY k) (b9 (aj l)-1)).toNat free))=
        aU l k:=by
 exact DB l k hl
theorem mD:ck Tryz.prog 109 HI:=FM fz (fun _ _=>rfl) (fun l k _ hl _=>aV (inl:=bp) (ann:=aP) (ab lZ (ab EN ak)) (EC l k hl) (by kernel_rfl)) fun _=>rfl
theorem Vb (l:List Sx.Obj) (hl:l.length<=9223372036854775807):
 true=true/\
  (iE (b9 (aj l))=false->fb l=false/\True)/\
   (iE (b9 (aj l))=true->
    (∃g,
      pJ l g/\
       Value.pointer none=Value.pointer none/\
        b9 (aj l)=b9 (aj l)/\0=g/\l=l/\ie (b9 (aj l))=jq l g)/\
     ∀(g:Int),
      pJ l g->
       (decide (g<b9 (aj l))=true->
         (0<=g/\g< ↑(aj l))/\
          g.toNat<aj l/\
           true=true/\
            ((!decide (eJ (jq l g) g (ah l g.toNat free)=0))=true->
              fb l=false/\eJ (jq l g) g (ah l g.toNat free)=2)/\
              ((!decide (eJ (jq l g) g (ah l g.toNat free)=0))=false->
                aG IntKind.i64 (g+1)/\
                 ∃g',
                  pJ l g'/\
                   (b9 (aj l)-g').toNat<(b9 (aj l)-g).toNat/\
                    Value.pointer none=Value.pointer none/\
                     b9 (aj l)=b9 (aj l)/\
                      g+1=g'/\l=l/\cV (jq l g) g (ah l g.toNat free)=jq l g'))/\
        (decide (g<b9 (aj l))=false->fb l=true/\True/\jq l g=l)):=by
 refine⟨rfl,fun h=>⟨tR fun hh=>?_,trivial⟩,fun h=>⟨⟨0,⟨by omega,by omega,fun j hj=>by omega⟩,rfl,rfl,rfl,rfl,Ju⟩,fun g hg=>⟨fun hlt=>?_,fun hge=>?_⟩⟩⟩
 ·have:iE (b9 (aj l))=true:=qK.2 (by unfold b9 aj;omega)
  rw[this]at h;simp at h
 ·obtain⟨g0,g1,g2⟩:=hg;have hlt:=Yn hlt;have h:=qK.1 h;have hle:=lq l;simp only[gu]at *;rw[Sn g0 hlt];refine⟨⟨g0,hlt⟩,by omega,trivial,fun hb=>⟨tR fun hh=>?_,?_⟩,fun hb=>⟨?_,g+1,⟨by omega,by omega,fun j hj=>?_⟩,by omega,trivial,trivial,rfl,trivial,Oe g0 hlt (by simpa using hb)⟩⟩
  ·have:=hh.2.2 g.toNat (by omega)
   unfold cG at hb;rw[this]at hb;simp at hb
  ·rcases rX (ah l g.toNat free) (l.length:Int)with⟨h1,h2⟩|⟨h1,h2⟩
   ·rw[h1]at hb;simp at hb
   ·exact h1
  ·simp only[aG,bY];omega
  ·by_cases e:(j:Int)<g
   ·exact g2 j e
   ·have:j=g.toNat:=by omega
    subst this;rcases rX (ah l g.toNat free) (l.length:Int)with⟨h1,h2⟩|⟨h1,h2⟩
    ·exact h2
    ·rw[h1]at hb;simp at hb
 ·obtain⟨g0,g1,g2⟩:=hg;have hge:=Ym hge;have h:=qK.1 h;have hle:=lq l;simp only[gu]at *;exact⟨ff.2 ⟨by omega,by omega,fun i hi=>g2 i (by omega)⟩,trivial,N3 (by omega)⟩
theorem R4 (l:List Sx.Obj) (own:Option Nat):ai Tryz.prog 26 [.sa 0] [.ro (.arr own 163 (.ob l))] (WL l) (fun _ _=>False):=
 ai.Wy (ai.Cn (k:=0) rfl fun _ hl=>(bn (inl:=bp) (ann:=(iy [(26,5,UK [0,2,3,4,5,18,19] (fun g=> [(20,.it .i64 g)]) 1 (fun g=> .store tS eS (jq l g)) (pJ l) (b9 (aj l)))])) ak (aD LI (aD dN aC)) (Vb l hl) (by kernel_rfl):ai Tryz.prog 26 [.sa 0] [.ro (.arr none 163 (.ob l))] (WL l) (fun _ _=>False)))
theorem Wo:lF Tryz.prog 26 Wj:=by
 intro args res K KP h;unfold Wj at h;split at h
 ·split at h
  ·split at h
   ·rename_i hr;split at h
    ·rename_i he;have he:=Yl.1 he;subst he;split at h
     ·rename_i l;cases hb:fb l with
      |false=>exact ai.V9 hr rfl rfl ((R4 l _).mono (fun v r hv=>LJ hb (Fh hv).1) fun _ _ h=>h) (h.1 hb)
      |true=>
       refine ai.Ib (F:=fun j=> .tp [.lp j 0,.ci .i64 0]) hr rfl ?_ (h.2 hb)
       refine ai.shut (R4 l _) fun v r hv=>?_
       obtain⟨hv,h0⟩:=Fh hv;obtain⟨j,r',hs,h1,h2,h3⟩:=Gt hb hv
       have hj:1<=j:=by
        rcases Nat.eq_zero_or_pos j with rfl|hj
        ·rw[h0]at hs;simp at hs
        ·exact hj
       rcases h1 with rfl|h1
       ·exact .inl ⟨j,hj,h2,h3⟩
       ·exact .inr ⟨j,r',h1,j,hj,h2,h3⟩
     ·exact h.elim
    ·exact h.elim
   ·exact h.elim
  ·exact h.elim
 ·exact h.elim
end Go.Proofs.YtghpaegglbbocaaGreat
namespace Go.Sx
def fW (r b:Int):Bool:=decide ((r.tdiv b).tmod 2=1)
def fO (r m g:Int):Int:=(if 2<=g/\(fW r 1||fW m 1)=true then 1 else 0)+(if 4<=g/\(fW r 2||fW m 2)=true then 2 else 0)+(if 8<=g/\(fW r 4||fW m 4)=true then 4 else 0)
def gw (r m:Int):Int:=fO r m 8
def jQ (g:Int):Prop:=g=1\/g=2\/g=4\/g=8
def cJ (k:Key) (r:Int):Key:= {k with rights:=r}
def jO (k:Key):Key:=if k.kind=2 then cJ k (gw k.rights 3)else if k.kind=3 then cJ k 1 else if k.kind=1\/k.kind=8 then k else void
def gC (k:Key):Key:=if aT k then jO k else void
def Re:Ct:=P6 (rI .i64) (rI .i64) fun r m=> .it .i64 (gw r m)
def Qv:Ct:=NR rK fun k=> .key (jO k)
def Nw:Ct:=NR rK fun k=> .tp [.key (gC k),.it .i64 (bD k)]
def ay (L:List Obj) (k:Key) (kind:Int) (c:Bool):Int:=if aj L=0 then 1 else if(!aU L k|| !decide (k.kind=kind))=true then 190 else if(c&& !decide (k.rights.tmod 4=0))=true then 191 else 0
def re (k:Key):Bool:=decide ((k.rights.tdiv 2).tmod 2=1)
def iz (L:List Obj) (o:Obj) (k:Key) (i:Int):Key:=if re k then jO (ae L (o.slots.at i.toNat))else ae L (o.slots.at i.toNat)
def cN (L:List Obj) (k:Key) (i:Int):Key:=iz L (ah L k.oid.toNat free) k i
def nH (k:Key) (i:Int):Prop:=0<=i/\i<16/\aT k=true
def na (L:List Obj) (k:Key) (i:Int):Prop:=0<=i/\i<16/\0<=k.oid/\k.oid<(aj L:Int)
def jv (i:Int):Bool:=decide (0<=i)&&decide (i<16)
def bJ (L:List Obj) (k:Key) (i:Int):Int:=if ay L k 2 false=0 then(if jv i then 0 else 4)else ay L k 2 false
def aF (L:List Obj) (k:Key) (i:Int):Key:=if bJ L k i=0 then cN L k i else void
def cZ (L:List Obj) (v:Key):Bool:=aT v&&decide (aY v<(aj L:Int))
def ba (L:List Obj) (k:Key) (i:Int) (v:Key):Int:=if ay L k 2 true=0 then(if jv i then(if cZ L v then 0 else 2)else 4)else ay L k 2 true
def cz (L:List Obj) (k:Key) (i:Int) (v:Key):Key:=if ba L k i v=0 then cN L k i else void
def eo (o:Obj) (s:cR):Obj:= {o with slots:=s}
def se (L:List Obj) (k:Key) (s:cR):List Obj:=cC L k.oid.toNat (eo (ah L k.oid.toNat free) s)
def b6 (L:List Obj) (k:Key) (i:Int) (v:Key):List Obj:=if ba L k i v=0 then se L k ((ah L k.oid.toNat free).slots.put i.toNat (ae L v))else L
def eQ (L:List Obj) (k:Key):List Obj:=if ay L k 2 true=0 then se L k fY else L
def bG (L:List Obj) (t f:Key):Int:=if ay L t 2 true=0 then ay L f 2 false else ay L t 2 true
def cX (L:List Obj) (t f:Key) (g:Int):cR:=(List.range g.toNat).foldl (fun s (j:Nat)=>s.put j (cN L f (j:Int))) (ah L t.oid.toNat free).slots
def dV (L:List Obj) (t f:Key):List Obj:=if bG L t f=0 then se L t (cX L t f 16)else L
def aq (L:List Obj):Prop:=fb L=true
def kf (g:Int):Prop:=0<=g/\g<=16
def kA:Arg Key:=DI rK V.key
def iA:Arg Int:=DI (rI .i64) (V.it .i64)
def bA:Arg Bool:=DI toBool V.bo
def oA:Arg Obj:=DI rO V.ob
def sA:Arg (Option (List Obj)):=WY tS eS
def DV (o:Option (List Obj)):List Obj:=match o with
 |none=> []
 |some L=>L
def nB:ly (Obj×Option (List Obj)×Key×Unit):=bk oA (bk sA (bk kA iv))
def TY:Ct:=sE (bk (WU nB) (bk iA iv)) (fun x=>some (nH x.1.2.2.1 x.2.1)) fun x=> .key (iz (DV x.1.2.1) x.1.1 x.1.2.2.1 x.2.1)
def Rd:Ct:=sE (bk AR (bk kA (bk iA (bk bA iv)))) (fun _=>none) fun x=> .it .i64 (ay x.1 x.2.1 x.2.2.1 x.2.2.2.1)
def T4:Ct:=sE (bk AR (bk kA (bk iA iv))) (fun x=>some (na x.1 x.2.1 x.2.2.1)) fun x=> .key (cN x.1 x.2.1 x.2.2.1)
def U6:Ct:=sE (bk AR (bk kA iv)) (fun _=>none) fun x=> .bo (cZ x.1 x.2.1)
def S0:Ct:=sE (bk sA (bk kA (bk iA iv))) (fun _=>none) fun x=> .tp [.key (aF (DV x.1) x.2.1 x.2.2.1),.it .i64 (bJ (DV x.1) x.2.1 x.2.2.1)]
def dL (L:List Obj) (i:Int):Prop:=0<=i/\i<(aj L:Int)/\aj L<=1000
def tO:Nat:=48
def Uy:Ct:=Tn (bk AR (bk iA (bk oA iv))) (fun x=>some (dL x.1 x.2.1)) (fun _ n=> .sa n) fun x _=> [.arr (some tO) 163 (.ob (cC x.1 (oX x.2.1) x.2.2.1))]
theorem s9 {r g:Int} (hr:bY .i64 r) (hg:g=1\/g=2\/g=4\/g=8):bY .i64 (r.tdiv g):=by
 simp only[bY]at *;rcases Int.le_total 0 r with h|h
 ·rw[Int.tdiv_eq_ediv_of_nonneg h];rcases hg with rfl|rfl|rfl|rfl<;>omega
 ·obtain⟨s,rfl⟩:∃s,r= -s:=⟨-r,by omega⟩
  rw[Int.neg_tdiv,Int.tdiv_eq_ediv_of_nonneg (by omega)]
  rcases hg with rfl|rfl|rfl|rfl<;>omega
theorem nZ (x:Int):bY .i64 (x.tmod 2):=by
 have h1:=Int.tmod_lt_of_pos x (show(0:Int)<2 by omega)
 have h2:=Int.lt_tmod_of_pos x (show(0:Int)<2 by omega)
 simp only[bY];omega
theorem CO {r m g:Int}:0<=fO r m g/\fO r m g<=7:=by
 unfold fO;repeat' split
 all_goals omega
theorem Lo {r:Int} (h0:0<=r) (h1:r<=7):bc .or .i64 r 3=gw r 3:=by
 have:r=0\/r=1\/r=2\/r=3\/r=4\/r=5\/r=6\/r=7:=by omega
 rcases this with rfl|rfl|rfl|rfl|rfl|rfl|rfl|rfl<;>decide
theorem Dj {r:Int} (h0:0<=r) (h1:r<=1):bc .or .i64 r 1=1:=by
 have:r=0\/r=1:=by omega
 rcases this with rfl|rfl<;>decide
theorem gS {k:Key} (h:aT k=true):0<=k.rights/\k.rights<=eK k.kind:=by
 simp only[aT,Yj,Yk]at h;omega
theorem oZ:aT void=true:=by decide
theorem oR (L:List Obj) (k:Key):aT (ae L k)=true:=by
 unfold ae;split
 ·exact oZ
 ·rename_i h;simp only[Bool.or_eq_true,not_or,Bool.not_eq_true,Bool.not_eq_false']at h;exact h.1.2
theorem BS (L:List Obj) (k:Key):gC (ae L k)=jO (ae L k):=by unfold gC;rw[oR,Yq rfl]
theorem XG {r:Int} (h0:0<=r) (h1:r<=7):decide (bc .and .i64 r 2=0)= !decide ((r.tdiv 2).tmod 2=1):=by
 have:r=0\/r=1\/r=2\/r=3\/r=4\/r=5\/r=6\/r=7:=by omega
 rcases this with rfl|rfl|rfl|rfl|rfl|rfl|rfl|rfl<;>decide
theorem Ok {r:Int} (h0:0<=r) (h1:r<=7):decide (bc .and .i64 r 3=0)=decide (r.tmod 4=0):=by
 have:r=0\/r=1\/r=2\/r=3\/r=4\/r=5\/r=6\/r=7:=by omega
 rcases this with rfl|rfl|rfl|rfl|rfl|rfl|rfl|rfl<;>decide
theorem Pf (n:Int):eK n<=7:=by unfold eK;split<;>(try split)<;>omega
theorem n9 {k:Key} (h:aT k=true):0<=k.rights/\k.rights<=7:=by
 have:=gS h;have:=Pf k.kind;omega
theorem dz {L:List Obj} {k:Key} (h:aU L k=true):aT k=true/\0<=k.oid/\k.oid<(L.length:Int)/\aa L k=ah L k.oid.toNat free/\(ah L k.oid.toNat free).kind=fP k:=by
 have h':=h;unfold aU at h;simp only[Yj,Yk]at h;obtain⟨⟨h1,h2⟩,h3⟩:=h;have hb:=ky.1 h2;have hn:0<=aY k:=(xu h').1;simp only[cc,Yj,Bool.or_eq_true,Yk]at h3;refine⟨h3.1,hb.1,hb.2,by unfold aa;rw[h',Yq rfl],?_⟩
 rcases h3.2 with h|h
 ·omega
 ·exact h.1.1
theorem E5 {L:List Obj} {o:Obj} {k:Key} {i:Int} (hq:nH k i):(0<=i/\i< ↑16)/\
  ((!decide (bc BinOp.and IntKind.i64 k.rights 2=0))=true->gC (ae L (o.slots.at i.toNat))=iz L o k i)/\
    ((!decide (bc BinOp.and IntKind.i64 k.rights 2=0))=false->ae L (o.slots.at i.toNat)=iz L o k i):=by
 obtain⟨h0,h1,h2⟩:=hq;have hr:=n9 h2;rw[XG hr.1 hr.2,BS];unfold iz re;refine⟨⟨h0,by omega⟩,fun h=>?_,fun h=>?_⟩
 ·rw[Yq (by simpa using h)]
 ·rw[Yp (by simpa using h)]
theorem fG {L:List Obj} {k:Key} {d:Int} {c:Bool} (h:ay L k d c=0):aU L k=true/\k.kind=d/\(c=true->k.rights.tmod 4=0):=by
 unfold ay at h;split at h
 ·omega
 ·split at h
  ·omega
  ·rename_i h2;simp only[Bool.or_eq_true,Bool.not_eq_true',decide_eq_false_iff_not,not_or,Bool.not_eq_false,Decidable.not_not]at h2;split at h
   ·omega
   ·rename_i h3;refine⟨h2.1,h2.2,fun hc=>?_⟩
    simpa[hc]using h3
theorem gQ:nM kA:=ug fz (fun _=>rfl) fun v x h=>Wp h
theorem R1:nM oA:=ug xe (fun _=>rfl) fun v x h=>by cases v<;>simp[rO]at h;rfl
theorem E6:nM bA:=ug Kw (fun _=>rfl) fun v x h=>by cases v<;>simp[toBool]at h<;>rfl
theorem ft:nM iA:=ug (fy .i64) (fun _=>rfl) fun v x h=>by cases v<;>simp[rI,toInt]at h<;>rfl
theorem s8:nM sA:=TH _ _
theorem Wd:iB nB:=aJ R1 (aJ s8 (aJ gQ cF))
def B0 (x:V) (M:List Obj) (v:V) (r:List aI):Prop:=
 match az r 0 with
 | .store t e L=>if t==tS&&e==eS then mn x v r/\L=M else False
 |_=>False
theorem E9 {x:V} {M:List Obj} {v:V} {r:List aI} (h:B0 x M v r):yU x v r/\az r 0= .store tS eS M:=by
 unfold B0 at h;split at h
 ·rename_i hr;split at h
  ·rename_i hc;simp only[Yj,Yl]at hc;obtain⟨rfl,rfl⟩:=hc;obtain⟨h1,rfl⟩:=h;exact⟨dt h1,hr⟩
  ·exact h.elim
 ·exact h.elim
def GW {α:Type} (B:List V->Option α) (Q:List Obj->α->Prop) (F:List Obj->α->V) (M:List Obj->α->List Obj):kI:=fun args res K=>
 match args with
 |a::l=>match B l with
  |some x=>match a with
   | .nl v=>match v with
     | .pointer none=>K (F [] x) res
     |_=>False
   | .lp k off=>if off==0 then match az res k with
     | .store t e L=>if t==tS&&e==eS then Q L x/\K (F L x) (cj res k (.store tS eS (M L x)))else False
     | .blk t c=>if t==tS&&Vo c then K (F [] x) res else False
     |_=>False
     else False
   |_=>False
  |none=>False
 |_=>False
def WD:V:= .ag [.nl (.slice none 0 0)]
theorem mg {P:Program} {f:Nat} {α:Type} {B:List V->Option α} {m:α->List V} {Q:List Obj->α->Prop} {F:List Obj->α->V} {M:List Obj->α->List Obj} (hB:∀l x,B l=some x->eh l (m x)) (hid:∀x,kK (m x)=true) (hF:∀L x,j3 (F L x)=true)
  (h0:∀x,ai P f (lh::m x) [] (mn (F [] x)) (fun _ _=>False)) (hz:∀x,ai P f (.lp 0 0::m x) [.ro (.blk tS WD)] (mn (F [] x)) (fun _ _=>False))
  (h1:∀L x,Q L x->(∀o∈L,o.wf)->L.length<=9223372036854775807->ai P f (.lp 0 0::m x) [.store tS eS L] (B0 (F L x) (M L x)) (fun _ _=>False)):lF P f (GW B Q F M):=by
 intro args res K KP h;unfold GW at h;split at h
 case h_2=>exact h.elim
 split at h
 case h_2=>exact h.elim
 rename_i x hx;refine ai.args (eh.iW (hB _ _ hx)) ?_;split at h
 ·split at h
  ·exact ai.pure (by simp only[kK,j3,Bool.true_and];exact hid x) (hF _ _) ((h0 x).mono (fun _ _ h=>dt h) fun _ _ h=>h) h
  ·exact h.elim
 ·split at h
  ·rename_i hoff;have hoff:=Yl.1 hoff;subst hoff;split at h
   ·rename_i hr;split at h
    ·rename_i hc;simp only[Yj,Yl]at hc;obtain⟨rfl,rfl⟩:=hc;refine ai.AY hr (hid x) (hF _ _) (ai.fact (k:=0) rfl fun w1 w2=>(h1 _ x h.1 w1 w2).mono (fun v r hv=>E9 hv |> fun⟨a,b⟩=>⟨fun J K=>a J K,b⟩) fun _ _ h=>h) h.2
    ·exact h.elim
   ·rename_i hr;split at h
    ·rename_i hc;simp only[Yj,Yl]at hc;obtain⟨rfl,hz'⟩:=hc;have:=wZ hz';subst this;exact ai.Kq (r0:= .blk tS WD) (by unfold de;rw[hr];rfl) (by simp) (fun κ=>rfl) (hid x) (hF _ _) ((hz x).mono (fun _ _ h=>dt h) fun _ _ h=>h) h
    ·exact h.elim
   ·exact h.elim
  ·exact h.elim
 ·exact h.elim
def W0 (l:List V):Option Key:=match l with
 | [a]=>rK a
 |_=>none
def QE (l:List V):Option (Key×Key):=match l with
 | [a,b]=>match rK a with
   |some k=>match rK b with
    |some k'=>some (k,k')
    |none=>none
   |none=>none
 |_=>none
def KA (l:List V):Option (Key×Int×Key):=match l with
 | [a,b,c]=>match rK a with
   |some k=>match rI .i64 b with
    |some i=>match rK c with
     |some k'=>some (k,i,k')
     |none=>none
    |none=>none
   |none=>none
 |_=>none
theorem LQ:∀l x,W0 l=some x->eh l [.key x]:=fun l x h=>by
 unfold W0 at h;split at h
 ·exact eh.rd fz h eh.nil
 ·simp at h
theorem Fa:∀l x,QE l=some x->eh l [.key x.1,.key x.2]:=fun l x h=>by
 unfold QE at h;split at h
 ·split at h
  ·rename_i h1;split at h<;>simp only[Yh,reduceCtorEq]at h
   rename_i h2;subst h;exact eh.rd fz h1 (eh.rd fz h2 eh.nil)
  ·simp at h
 ·simp at h
theorem JV:∀l x,KA l=some x->eh l [.key x.1,.it .i64 x.2.1,.key x.2.2]:=fun l x h=>by
 unfold KA at h;split at h
 ·split at h
  ·rename_i h1;split at h
   ·rename_i h2;split at h<;>simp only[Yh,reduceCtorEq]at h
    rename_i h3;subst h;exact eh.rd fz h1 (eh.rd (fy .i64) h2 (eh.rd fz h3 eh.nil))
   ·simp at h
  ·simp at h
 ·simp at h
def tK:Nat:=25
def nn (g:Int):Nat:=(16-g).toNat
def S4:kI:=GW KA (fun L _=>aq L) (fun L x=> .tp [.key (cz L x.1 x.2.1 x.2.2),.it .i64 (ba L x.1 x.2.1 x.2.2)]) fun L x=>b6 L x.1 x.2.1 x.2.2
def TB:kI:=GW W0 (fun L _=>aq L) (fun L x=> .it .i64 (ay L x 2 true)) fun L x=>eQ L x
def Uz:kI:=GW QE (fun L _=>aq L) (fun L x=> .it .i64 (bG L x.1 x.2)) fun L x=>dV L x.1 x.2
theorem H9 {L:List Obj} {k:Key} {d:Int} {c:Bool} (h:(!decide (0<an L))=true):ay L k d c=1:=by
 unfold ay;unfold an at h;rw[Yq (by simp at h;omega)]
theorem GK {L:List Obj} {k:Key} {d:Int} {c:Bool} (h:(!decide (0<an L))=false) (h2:(!(aU L k&&decide (k.kind=d)))=true):ay L k d c=190:=by
 unfold ay;unfold an at h;rw[Yp (by simp at h;omega),Yq (by simpa using h2)]
theorem mW {L:List Obj} {k:Key} {d:Int} (h2:(!(aU L k&&decide (k.kind=d)))=false):aU L k=true/\k.kind=d:=by simpa using h2
theorem Sf {L:List Obj} {k:Key} {d:Int} (h:(!decide (0<an L))=false) (h2:(!(aU L k&&decide (k.kind=d)))=false) (h3:(!decide (bc BinOp.and IntKind.i64 k.rights 3=0))=true):ay L k d true=191:=by
 have hr:=n9 (dz (mW h2).1).1;rw[Ok hr.1 hr.2]at h3;unfold ay;unfold an at h;rw[Yp (by simp at h;omega),Yp (by simpa using h2),Yq (by simpa using h3)]
theorem Hu {L:List Obj} {k:Key} {d:Int} (h:(!decide (0<an L))=false) (h2:(!(aU L k&&decide (k.kind=d)))=false) (h3:(!decide (bc BinOp.and IntKind.i64 k.rights 3=0))=false):ay L k d true=0:=by
 have hr:=n9 (dz (mW h2).1).1;rw[Ok hr.1 hr.2]at h3;unfold ay;unfold an at h;rw[Yp (by simp at h;omega),Yp (by simpa using h2),Yp (by simpa using h3)]
theorem E0 {L:List Obj} {k:Key} {d:Int} (h:(!decide (0<an L))=false) (h2:(!(aU L k&&decide (k.kind=d)))=false):ay L k d false=0:=by
 unfold ay;unfold an at h;rw[Yp (by simp at h;omega),Yp (by simpa using h2),Yp (by simp)]
def fJ (n:Int) (k:Key):Prop:=aT k=true/\aY k<n
theorem JR {n:Int} {k:Key}:hU 1 n k=true↔fJ n k:=by simp[hU,fJ]
theorem Lm (r:Int):0<=gw r 3/\gw r 3<=7:=CO
theorem Lt {n:Int} (hn:0<=n) {k:Key} (h:fJ n k):fJ n (jO k):=by
 obtain⟨h1,h2⟩:=h;have hv:fJ n void:=⟨oZ,by have:=ow.2;omega⟩
 unfold jO;split
 ·rename_i e;have hw:=Lm k.rights
  have h1':aT (cJ k (gw k.rights 3))=true:=by
   simp only[aT,cJ,e,Yj,Yk]at h1⊢;have:eK 2=7:=rfl;grind
  refine⟨h1',?_⟩;unfold aY at h2⊢;rw[h1'];rw[h1]at h2;exact h2
 ·split
  ·rename_i e
   have h1':aT (cJ k 1)=true:=by
    simp only[aT,cJ,e,Yj,Yk]at h1⊢;have:eK 3=1:=rfl;grind
   refine⟨h1',?_⟩;unfold aY at h2⊢;rw[h1'];rw[h1]at h2;exact h2
  ·split
   ·exact⟨h1,h2⟩
   ·exact hv
theorem xa {L:List Obj} (hL:0<L.length) (k:Key):fJ (L.length:Int) (ae L k):=by
 have hv:fJ (L.length:Int) void:=⟨oZ,by have:=ow.2;omega⟩
 unfold ae;split
 ·exact hv
 ·rename_i h;simp only[Bool.or_eq_true,not_or,Bool.not_eq_true,Bool.not_eq_false',Bool.and_eq_false_imp]at h;refine⟨h.1.2,?_⟩;rcases jX k with⟨a,b,c⟩|⟨a,b⟩
  ·rw[b];exact(dz (h.2 a)).2.2.1
  ·omega
theorem P0 {L:List Obj} (hL:0<L.length) (k:Key) (i:Int):fJ (L.length:Int) (cN L k i):=by
 unfold cN iz;split
 ·exact Lt (by omega) (xa hL _)
 ·exact xa hL _
theorem A4 {o:Obj} {n:Int} {s:cR} (h:bT o n=true) (hk:o.kind=1) (hs:∀i,i<16->fJ n (s.at i)):bT (eo o s) n=true:=by
 rw[fj]at h⊢;simp only[eo];obtain⟨a1,a2,a3,a4,a5,a6,a7,a8,a9,a10,a11⟩:=h;exact⟨a1,a2,a3,a4,a5,a6,a7,a8,a9,fun i hi=>by rw[hk];exact JR.2 (hs i hi),fun i hi=> .inl (.inl hk)⟩
theorem zP {L:List Obj} {k:Key} (h:aU L k=true) (h2:k.kind=2):(ah L k.oid.toNat free).kind=1:=by
 rw[(dz h).2.2.2.2];unfold fP;rw[Yp (by have:=(xu h).1;omega),Yp (by omega)]
theorem rY {L:List Obj} {k:Key} (hL:aq L) (h:aU L k=true) (h2:k.kind=2):∀i,i<16->fJ (L.length:Int) ((ah L k.oid.toNat free).slots.at i):=fun i hi=>by
 obtain⟨_,b2,b3,_⟩:=dz h;have:=(ff.1 hL).2.2 k.oid.toNat (by omega)
 have:=(fj.1 this).2.2.2.2.2.2.2.2.2.1 i hi;rw[zP h h2]at this;exact JR.1 this
theorem nP {L:List Obj} {k:Key} {s:cR} (hL:aq L) (h:aU L k=true) (h2:k.kind=2) (hs:∀i,i<16->fJ (L.length:Int) (s.at i)):cV L k.oid (eo (aa L k) s)=se L k s/\aq (se L k s):=by
 obtain⟨b1,b2,b3,b4,_⟩:=dz h;have hr:=ff.1 hL;have ho:=A4 (hr.2.2 k.oid.toNat (by omega)) (zP h h2) hs
 refine⟨?_,?_⟩
 ·rw[b4];exact(tj (ky.2 ⟨b2,b3⟩) (pQ ho).symm).2
 ·refine ff.2 ?_;unfold se;have hl:(cC L k.oid.toNat (eo (ah L k.oid.toNat free) s)).length=L.length:=by simp[cC]
  rw[hl];refine⟨hr.1,hr.2.1,fun i hi=>?_⟩
  by_cases e:i=k.oid.toNat
  ·subst e;rw[show ah (cC L k.oid.toNat (eo (ah L k.oid.toNat free) s)) k.oid.toNat free=eo (ah L k.oid.toNat free) s by simp[ah,cC,Yo,hi]]
   exact ho
  ·rw[show ah (cC L k.oid.toNat (eo (ah L k.oid.toNat free) s)) i free=ah L i free by simp[ah,cC,Yo,List.getElem?_set,Ne.symm e]]
   exact hr.2.2 i hi
theorem CN {L:List Obj} {k:Key} {i:Int} {v:Key} (hL:aq L) (h:aU L k=true) (h2:k.kind=2) (h0:0<=i) (h1:i<16):∀j,j<16->fJ (L.length:Int) (((ah L k.oid.toNat free).slots.put i.toNat (ae L v)).at j):=fun j hj=>by
 rw[cR.gI _ _ _ _ (by omega)]
 split
 ·exact xa (ff.1 hL).1 v
 ·exact rY hL h h2 j hj
theorem F9 {n:Int} (hn:0<=n):∀j,j<16->fJ n (fY.at j):=fun j hj=>by
 rw[Gj.1 rfl j hj];exact⟨oZ,by have:=ow.2;omega⟩
theorem A7 (L:List Obj) (v:Key):(decide (bD v=0)&&(!bf v||decide (cS v<an L)))=cZ L v:=by
 unfold cZ bD cS an;rcases jX v with⟨a,b,c⟩|⟨a,b⟩
 ·rw[a,b];cases aT v<;>simp
 ·rw[a,b];have:(-1:Int)<(aj L:Int):=by omega
  cases aT v<;>simp[this]
theorem Ao {L:List Obj} {t f:Key} {g:Int} (h0:0<=g):cX L t f (g+1)=(cX L t f g).put g.toNat (cN L f g):=by
 unfold cX;rw[show(g+1).toNat=g.toNat+1 by omega,List.range_succ,List.foldl_append]
 simp only[List.foldl_cons,List.foldl_nil];rw[show((g.toNat:Nat):Int)=g by omega]
theorem Cd {L:List Obj} {t f:Key} (h:aa L t=ah L t.oid.toNat free):aa L t=eo (aa L t) (cX L t f 0):=by
 unfold cX eo;simp[h]
theorem C0 {L:List Obj} {t f:Key} {g:Int} (h0:0<=g) (h:aa L f=ah L f.oid.toNat free) (o:Obj) (s:cR):({kind:=(eo o (cX L t f g)).kind,count:=(eo o (cX L t f g)).count,calls:=(eo o (cX L t f g)).calls,slots:=(eo o (cX L t f g)).slots.put g.toNat (iz L (aa L f) f g),bytes:=(eo o (cX L t f g)).bytes}:Obj)=eo o (cX L t f (g+1)):=by
 rw[Ao h0];unfold cN;rw[h];rfl
theorem xi {L:List Obj} {t f:Key} (hL:aq L) (h:aU L t=true) (h2:t.kind=2):∀n:Nat,n<=16->∀j,j<16->fJ (L.length:Int) ((cX L t f n).at j)
 |0,_,j,hj=>by
  unfold cX;exact rY hL h h2 j hj
 |n+1,hn,j,hj=>by
  rw[show((n+1:Nat):Int)=(n:Int)+1 by omega,Ao (by omega),cR.gI _ _ _ _ (by omega)]
  split
  ·exact P0 (ff.1 hL).1 _ _
  ·exact xi hL h h2 n (by omega) j hj
theorem zj {L M:List Obj} {g:Int} (hg:pb L M g) (hge:(aj L:Int)<=g):decide (g=b9 (aj M))=eu L M:=by
 have:=LP hg hge
 have e:an L=g:=by
  have:=hg.2.1;unfold an;omega
 rw[decide_eq_true e,Bool.and_true]at this;exact this
structure VT where
 kind:Int
 slot:Int
 key:Key
 other:Key
def fA (l:List Obj):Bool:=decide ((aj l:Int)<=20)&&fb l
def T8:kI:=UN (bk AR iv) (fun _=>True) (fun x=>fA x.1) (fun _=>lh) (fun _ n=> .lp n 0) (fun x=> .store tS eS x.1)
def xt (L:List Obj) (a:VT):Bool:=
 if a.kind=1 then false else if a.kind=2 then decide (ba L a.key a.slot a.other=0)else if a.kind=3 then decide (ay L a.key 2 true=0)else if a.kind=4 then decide (bG L a.key a.other=0)else false
def FN (L:List Obj) (a:VT):List Obj:=
 if a.kind=1 then L else if a.kind=2 then b6 L a.key a.slot a.other else if a.kind=3 then eQ L a.key else if a.kind=4 then dV L a.key a.other else L
def Wz (c:Bool) (L0 L1:List Obj) (v:V) (r:List aI):Prop:=
 match v with
 | .tp l=>match l with
   | [a,b]=>match a with
     | .sa p=>match az r 0 with
       | .store t e L=>if t==tS&&e==eS then
         if p==1 then mn (.bo true) b r/\c=false/\L=L0
         else if Nat.ble 2 p then match az r p with
          | .arr o z l=>match o with
            |some e'=>match l with
             | .ob M=>if e'==tO&&z==163 then mn (.bo true) b r/\c=true/\L=L1/\M=L1 else False
             |_=>False
            |none=>False
          |_=>False
         else False
         else False
       |_=>False
     |_=>False
   |_=>False
 |_=>False
theorem KY {L:List Obj} {k:Key} {i:Int} (h:ay L k 2 false≠0):bJ L k i=ay L k 2 false/\aF L k i=void:=by
 have:bJ L k i=ay L k 2 false:=by unfold bJ;rw[Yp h]
 exact⟨this,by unfold aF;rw[this,Yp h]⟩
theorem LD {L:List Obj} {k:Key} {i:Int} (h:ay L k 2 false=0) (hr:i<0\/15<i):bJ L k i=4/\aF L k i=void:=by
 have:bJ L k i=4:=by
  unfold bJ jv;rw[Yq h,Yp (by simp;omega)]
 exact⟨this,by unfold aF;rw[this];rfl⟩
theorem Rn {L:List Obj} {k:Key} {i:Int} (h:ay L k 2 false=0) (hr:¬(i<0\/15<i)):bJ L k i=0/\aF L k i=cN L k i:=by
 have:bJ L k i=0:=by
  unfold bJ jv;rw[Yq h,Yq (by simp;omega)]
 exact⟨this,by unfold aF;rw[this];rfl⟩
theorem AS {L:List Obj} {k:Key} {i:Int} {v:Key} {e:Int} (h:ba L k i v=e) (he:e≠0):ba L k i v=e/\cz L k i v=void/\b6 L k i v=L:=⟨h,by unfold cz;rw[h,Yp he],by unfold b6;rw[h,Yp he]⟩
theorem Jh {L:List Obj} {k:Key} {i:Int} {v:Key} (h:ay L k 2 true≠0):ba L k i v=ay L k 2 true/\cz L k i v=void/\b6 L k i v=L:=AS (by unfold ba;rw[Yp h]) h
theorem Jg {L:List Obj} {k:Key} {i:Int} {v:Key} (h:ay L k 2 true=0) (hr:i<0\/15<i):ba L k i v=4/\cz L k i v=void/\b6 L k i v=L:=
 AS (by unfold ba jv;rw[Yq h,Yp (by simp;omega)]) (by omega)
theorem IL {L:List Obj} {k:Key} {i:Int} {v:Key} (h:ay L k 2 true=0) (hr:¬(i<0\/15<i)) (hm:cZ L v=false):ba L k i v=2/\cz L k i v=void/\b6 L k i v=L:=
 AS (by unfold ba jv;rw[Yq h,Yq (by simp;omega),hm];rfl) (by omega)
theorem NZ {L:List Obj} {k:Key} {i:Int} {v:Key} (h:ay L k 2 true=0) (hr:¬(i<0\/15<i)) (hm:cZ L v=true):
  ba L k i v=0/\cz L k i v=cN L k i/\b6 L k i v=se L k ((ah L k.oid.toNat free).slots.put i.toNat (ae L v)):=by
 have:ba L k i v=0:=by unfold ba jv;rw[Yq h,Yq (by simp;omega),hm];rfl
 exact⟨this,by unfold cz;rw[this];rfl,by unfold b6;rw[this];rfl⟩
theorem tJ {L:List Obj} {k:Key} (hL:aq L) (h:aU L k=true):dL L k.oid/\0<=k.oid/\k.oid<(aj L:Int)/\k.oid.toNat<aj L:=by
 obtain⟨_,b2,b3,_⟩:=dz h;have:=(ff.1 hL).2.1;exact⟨⟨b2,b3,by unfold aj;omega⟩,b2,b3,by unfold aj;omega⟩
theorem xJ (k:Key):tE k k=true:=by simp[tE]
def VT.wf (x:VT):Prop:=bY .i64 x.kind/\bY .i64 x.slot/\x.key.wf/\x.other.wf
theorem ir (L:List Obj):eu L L=true:=by unfold eu;simp
theorem EF {L:List Obj} {k:Key} {i:Int} {v:Key} (h:ba L k i v=0):ay L k 2 true=0/\0<=i/\i<16:=by
 unfold ba jv at h;split at h
 ·rename_i h1;split at h
  ·rename_i h2;simp at h2;exact⟨h1,h2.1,h2.2⟩
  ·omega
 ·rename_i h1;exact absurd h h1
theorem xE {L:List Obj} {a:VT} (hL:aq L) (h:xt L a=true):aq (FN L a):=by
 unfold xt at h;unfold FN;split at h
 ·simp at h
 ·rename_i h1;rw[Yp h1];split at h
  ·rename_i h2;rw[Yq h2];have h:=Yn h;obtain⟨e1,e2,e3⟩:=EF h;obtain⟨a1,a2,_⟩:=fG e1;unfold b6;rw[Yq h];exact(nP hL a1 a2 (CN hL a1 a2 e2 e3)).2
  ·rename_i h2;rw[Yp h2];split at h
   ·rename_i h3;rw[Yq h3];have h:=Yn h;obtain⟨a1,a2,_⟩:=fG h;unfold eQ;rw[Yq h];exact(nP hL a1 a2 (F9 (by omega))).2
   ·rename_i h3;rw[Yp h3];split at h
    ·rename_i h4;rw[Yq h4];have h:=Yn h;have h':=h;unfold bG at h';split at h'
     ·rename_i h5;obtain⟨a1,a2,_⟩:=fG h5;unfold dV;rw[Yq h];exact(nP hL a1 a2 (xi hL a1 a2 16 (by omega))).2
     ·rename_i h5;exact absurd h' h5
    ·simp at h
theorem wF {l:List Obj} (h:fA l=true):aq l/\l.length<=20:=by
 unfold fA at h;simp only[Yj,Yk]at h;unfold aj at h;exact⟨h.2,by omega⟩
section
variable {L:List Obj} {k:Key} {s:cR} (h0:0<=k.oid) (h1:k.oid<(L.length:Int))
include h0 h1
end
theorem gG {L:List Obj} {j:Int} (h0:0<=j) (h1:j<(L.length:Int)):aR L j=ah L j.toNat free:=by
 unfold aR;rw[Yq (ky.2 ⟨h0,h1⟩)]
theorem gk {L:List Obj} {i:Nat} {x:Obj} (hi:i<L.length) (j:Nat):ah (cC L i x) j free=if j=i then x else ah L j free:=by
 by_cases e:j=i
 ·subst e;rw[Yq rfl];simp[ah,cC,Yo,hi]
 ·rw[Yp e];simp[ah,cC,Yo,List.getElem?_set,Ne.symm e]
theorem jx {L:List Obj} {i:Nat} {x:Obj}:(cC L i x).length=L.length:=by simp[cC]
end Go.Sx
set_option maxRecDepth 100000
namespace Go.Sx
def Xe {α:Type} (rd:V->Option α) (Q:List Obj->α->Prop) (chg:List Obj->α->Bool) (L1:List Obj->α->List Obj):kI:=fun args res K=>
 match args with
 | [a,b,c]=>match rd c with
   |some x=>match a with
    | .lp k off=>if off==0 then match az res k with
      | .store t e L=>if t==tS&&e==eS then match b with
        | .sa j=>match de res j with
          | .arr _ z l=>if z==163 then match l with
            | .ob M=>M=L/\Q L x/\(chg L x=false->K (.tp [.sa j,.bo true]) (cj res k (.store tS eS L)))/\
              (chg L x=true->K (.tp [.sa res.length,.bo true]) (cj res k (.store tS eS (L1 L x))++ [.arr (some tO) 163 (.ob (L1 L x))]))
            |_=>False
            else False
          |_=>False
        |_=>False
        else False
      |_=>False
      else False
    |_=>False
   |none=>False
 |_=>False
theorem jN {κ:Nat->Option Nat} {x a:V} {l m:List V} (h1:fo κ x=some a) (h2:eX κ l=some m):eX κ (x::l)=some (a::m):=by
 simp only[eX];rw[h1];simp only;rw[h2]
theorem Oq {c:Bool} {L0 L1:List Obj} {v:V} {r:List aI} (h:Wz c L0 L1 v r):∃b,mn (.bo true) b r/\((v= .tp [.sa 1,b]/\c=false/\az r 0= .store tS eS L0)\/
  ∃p,2<=p/\v= .tp [.sa p,b]/\c=true/\az r 0= .store tS eS L1/\az r p= .arr (some tO) 163 (.ob L1)):=by
 unfold Wz at h;split at h
 case h_2=>exact h.elim
 split at h
 case h_2=>exact h.elim
 rename_i a b;split at h
 case h_2=>exact h.elim
 rename_i p;split at h
 case h_2=>exact h.elim
 rename_i t e L hr;split at h
 case isFalse=>exact h.elim
 rename_i hc;simp only[Yj,Yl]at hc;obtain⟨rfl,rfl⟩:=hc;split at h
 ·rename_i hp;have hp:=Yl.1 hp;subst hp;obtain⟨h1,h2,rfl⟩:=h;exact⟨b,h1,.inl ⟨rfl,h2,hr⟩⟩
 ·split at h
  case isFalse=>exact h.elim
  rename_i hp;have hp:2<=p:=by simpa using hp
  split at h
  case h_2=>exact h.elim
  rename_i o z l hrp;split at h
  case h_2=>exact h.elim
  rename_i e';split at h
  case h_2=>exact h.elim
  rename_i M;split at h
  case isFalse=>exact h.elim
  rename_i hc;simp only[Yj,Yl]at hc;obtain⟨rfl,rfl⟩:=hc;obtain⟨h1,h2,rfl,rfl⟩:=h;exact⟨b,h1,.inr ⟨p,hp,rfl,h2,hr,hrp⟩⟩
theorem Ur {b:V} {c:Bool} {r:List aI} (h:mn (.bo c) b r):(∀κ,fo κ b=some b)/\∀J N,pX J N b (.bo c):=by
 refine⟨fun κ=>?_,fun J N=>dt h J N⟩
 unfold mn at h;cases b<;>first|rfl| (simp[vH]at h)
theorem ai.VV {P:Program} {f:Nat} {args:List V} {K KP:V->List aI->Prop} {own:Option Nat} {z t e:Nat} {l:TL} {L:List Obj} (h:ai P f args [.store t e L,.ro (.arr none z l)] K KP):ai P f args [.store t e L,.ro (.arr own z l)] K KP:=by
 have hk:∀i (own:Option Nat),known [.store t e L,.ro (.arr own z l)] i↔i<2:=fun i own=>by
  unfold known;match i with
  |0=>simp[az]
  |1=>simp[az]
  |i+2=>simp[az]
 refine h.sI fun J fps w0 F0 w hH=>⟨J,fps,hH.weaken fun i hi=>⟨(hk i _).2 ((hk i _).1 hi),fun fp hh=>?_⟩,Env.bz.refl _ _,fun i hi=>(hk i _).2 ((hk i _).1 hi)⟩
 match i,(hk i _).1 hi with
 |0,_=>exact hh
 |1,_=>
  obtain⟨fp',g1,g2⟩:=hh;exact⟨fp',wX g1,g2⟩
theorem Um {P:Program} {f:Nat} {α:Type} {rd:V->Option α} {m:α->V} {Q:List Obj->α->Prop} {chg:List Obj->α->Bool} {L1:List Obj->α->List Obj} (hrd:py rd m) (hid:∀x,j3 (m x)=true)
  (hcl:∀L x,Q L x->ai P f [.lp 0 0,.sa 1,m x] [.store tS eS L,.ro (.arr none 163 (.ob L))] (Wz (chg L x) L (L1 L x)) (fun _ _=>False)):lF P f (Xe rd Q chg L1):=by
 intro args res K KP h;unfold Xe at h;split at h
 case h_2=>exact h.elim
 split at h
 case h_2=>exact h.elim
 rename_i x hx;refine ai.args (eh.iW (eh.iW (eh.rd hrd hx eh.nil))) ?_;split at h
 case h_2=>exact h.elim
 rename_i k off;split at h
 case isFalse=>exact h.elim
 rename_i hoff;have hoff:=Yl.1 hoff;subst hoff;split at h
 case h_2=>exact h.elim
 rename_i t e L hr;split at h
 case isFalse=>exact h.elim
 rename_i hc;simp only[Yj,Yl]at hc;obtain⟨rfl,rfl⟩:=hc;split at h
 case h_2=>exact h.elim
 rename_i j;split at h
 case h_2=>exact h.elim
 rename_i own z l hj;split at h
 case isFalse=>exact h.elim
 rename_i hz;have hz:=Yl.1 hz;subst hz;split at h
 case h_2=>exact h.elim
 rename_i M;obtain⟨rfl,hL,h0,h1⟩:=h;have hk:known res k:=by unfold known;rw[hr];simp
 have hkj:=dX hj (by simp)
 have hkl:=aN hk;have hjl:=aN hkj
 have hne:k≠j:=fun e=>by
  subst e;unfold de at hj;rw[hr]at hj;simp at hj
 have hres:ew (kG 0 (dv [(k,true),(j,false)])) res [(k,true),(j,false)]= [.store tS eS M,.ro (.arr own 163 (.ob M))]:=by simp[ew,hr,hj,ga]
 refine ai.frame (pl:= [(k,true),(j,false)]) (args0:= [.lp 0 0,.sa 1,m x]) (K0:=Wz (chg M x) M (L1 M x)) (KP0:=fun _ _=>False) (by simp[ez,cW.2 hk,cW.2 hkj]) (by simpa[gN,dv,nI]using⟨⟨hkl,Ne.symm hne⟩,hjl⟩) ?_ ?_ (fun v r hv=>?_) (fun _ _ h=>h.elim)
 ·exact jN (by simp[fo,kG,idxOf,dv]) (jN (by simp[fo,kG,idxOf,dv,hne]) (jm _ (by simp only[kK,hid,Bool.and_true])))
 ·rw[hres];exact ai.VV (hcl M x hL)
 ·obtain⟨b,hb,hv⟩:=Oq hv;obtain⟨b1,b2⟩:=Ur hb;rcases hv with⟨rfl,hc,hr0⟩|⟨p,hp,rfl,hc,hr0,hrp⟩
  ·have hm:merge [(k,true),(j,false)] [] r res=cj res k (.store tS eS M):=by simp[merge,eV,hr0,ga,fL]
   refine⟨[],.tp [.sa j,.bo true],rfl,by simp[jT,hr0,iO],rfl,iL.XP (v2:= .tp [.sa j,b]) (by simp[fo,eX,back,vS,b1]) (fun J N=>?_),by rw[hm];exact h0 hc⟩
   obtain⟨s1,s2,_⟩:=b2 J N;exact⟨by simp only[den,bq,s1],fun hk=>⟨hk.1,s2 hk.2.1,trivial⟩,rfl⟩
  ·have hpl:p<r.length:=aN (by rw[hrp];simp)
   have hm:merge [(k,true),(j,false)] [p] r res=cj res k (.store tS eS (L1 M x))++ [.arr (some tO) 163 (.ob (L1 M x))]:=by simp[merge,eV,hr0,hrp,ga,fL]
   refine⟨[p],.tp [.sa res.length,.bo true],by simpa[gN,nI]using⟨hp,hpl⟩,by simp[jT,hr0,iO],by simp[lL,hrp,iO],iL.XP (v2:= .tp [.sa res.length,b]) ?_ (fun J N=>?_),by rw[hm];exact h1 hc⟩
   ·have:back [(k,true),(j,false)] [p] res.length p=some res.length:=by
     unfold back;rw[qI _ _ (by simpa using hp)]
     simp[idxOf]
    simp[fo,eX,this,b1]
   ·obtain⟨s1,s2,_⟩:=b2 J N;exact⟨by simp only[den,bq,s1],fun hk=>⟨hk.1,s2 hk.2.1,trivial⟩,rfl⟩
end Go.Sx
set_option maxRecDepth 100000
namespace Go.Sx
def wO {α:Type} (B:ly α) (l:List V):Option α:=match B.rd [] l with
 |some p=>match p.1 with
  | []=>some p.2
  |_=>none
 |none=>none
theorem gg {α:Type} {B:ly α} (hB:iB B) (hid:∀a,kK (B.cn a 0)=true):∀l x,wO B l=some x->eh l (B.cn x 0):=fun l x h=>by
 unfold wO at h;split at h
 case h_2=>simp at h
 rename_i p hp;obtain⟨pls,a⟩:=p;split at h
 case h_2=>simp at h
 rename_i h1;simp only at h1;subst h1;simp only[Yh]at h;subst h;obtain⟨_,_,_,b4⟩:=hB _ _ _ _ hp;obtain⟨c1,c2⟩:=b4 [] [];intro J K hk;have e1:=(c1 J K hk).1;have e2:=c2 K hk;have e3:fw (fun _=>False) (B.cn a 0):=nc _ (hid a) e2
 refine⟨?_,nc _ (hid a) e2⟩;rw[<-e1];exact fE (N:=fun _=>False) (fun _ h=>h.elim) _ e3
def zm {α:Type} (B:List V->Option α) (Q:List Obj->α->Prop) (chg:List Obj->α->Bool) (L1:List Obj->α->List Obj) (F:List Obj->α->List V):kI:=fun args res K=>
 match args with
 |b::l=>match B l with
  |some x=>match b with
   | .sa j=>match de res j with
     | .arr _ z t=>if z==163 then match t with
       | .ob M=>Q M x/\(chg M x=false->K (.tp (.sa j::F M x)) res)/\(chg M x=true->K (.tp (.sa res.length::F M x)) (res++ [.arr (some tO) 163 (.ob (L1 M x))]))
       |_=>False
       else False
     |_=>False
   |_=>False
  |none=>False
 |_=>False
def yT (c:Bool) (L1:List Obj) (F:List V) (v:V) (r:List aI):Prop:=
 match v with
 | .tp l=>match l with
   |a::bs=>match a with
    | .sa p=>if p==0 then c=false/\mn (.tp F) (.tp bs) r else if Nat.ble 1 p then match az r p with
      | .arr own z t=>match own with
        |some e=>match t with
         | .ob M=>if z==163&&e==tO then c=true/\mn (.tp F) (.tp bs) r/\M=L1 else False
         |_=>False
        |none=>False
      |_=>False
      else False
    |_=>False
   | []=>False
 |_=>False
theorem P3 {c:Bool} {L1:List Obj} {F:List V} {v:V} {r:List aI} (h:yT c L1 F v r):∃p bs,v= .tp (.sa p::bs)/\mn (.tp F) (.tp bs) r/\((p=0/\c=false)\/(1<=p/\c=true/\az r p= .arr (some tO) 163 (.ob L1))):=by
 unfold yT at h;split at h
 case h_2=>exact h.elim
 split at h
 case h_2=>exact h.elim
 split at h
 case h_2=>exact h.elim
 rename_i p;split at h
 ·rename_i e;have e:=Yl.1 e;exact⟨p,_,rfl,h.2,.inl ⟨e,h.1⟩⟩
 ·split at h
  case isFalse=>exact h.elim
  rename_i hp;have hp:1<=p:=by simpa using hp
  split at h
  case h_2=>exact h.elim
  rename_i hrp;split at h
  case h_2=>exact h.elim
  split at h
  case h_2=>exact h.elim
  split at h
  case isFalse=>exact h.elim
  rename_i hc;simp only[Yj,Yl]at hc;obtain⟨rfl,rfl⟩:=hc;obtain⟨h1,h2,rfl⟩:=h;exact⟨p,_,rfl,h2,.inr ⟨hp,h1,hrp⟩⟩
theorem ai.WB {P:Program} {f:Nat} {args:List V} {K KP:V->List aI->Prop} {own:Option Nat} {z:Nat} {l:TL} (h:ai P f args [.ro (.arr none z l)] K KP):ai P f args [.ro (.arr own z l)] K KP:=by
 have hk:∀i (own:Option Nat),known [.ro (.arr own z l)] i↔i<1:=fun i own=>by
  unfold known;match i with
  |0=>simp[az]
  |i+1=>simp[az]
 refine h.sI fun J fps w0 F0 w hH=>⟨J,fps,hH.weaken fun i hi=>⟨(hk i _).2 ((hk i _).1 hi),fun fp hh=>?_⟩,Env.bz.refl _ _,fun i hi=>(hk i _).2 ((hk i _).1 hi)⟩
 match i,(hk i _).1 hi with
 |0,_=>
  obtain⟨fp',g1,g2⟩:=hh;exact⟨fp',wX g1,g2⟩
theorem CZ {κ:Nat->Option Nat} {p j:Nat} {bs F:List V} {r:List aI} (hκ:κ p=some j) (hF:kK F=true) (hb:mn (.tp F) (.tp bs) r):iL κ (.tp (.sa p::bs)) (.tp (.sa j::F)):=by
 intro ρ2 ρ3 N N' h1 h2 hv;obtain⟨hp,hbs⟩:=hv;obtain⟨e1,e2,_⟩:=dt hb ρ2 N;obtain⟨a1,a2,a3,a4,a5,a6⟩:=h1 p j hκ;have hFN:fw N F:=e2 hbs;have hF0:fw (fun _=>False) F:=nc _ hF hFN
 have e3:bq ρ3 F=bq ρ2 F:=fE (N:=fun _=>False) (fun _ h=>h.elim) _ hF0
 simp only[den,Value.tuple.injEq]at e1;have e1:bq ρ2 bs=bq ρ2 F:=by simpa using e1
 refine⟨?_,h2 p j hκ hp,nc _ hF hFN⟩;simp only[den,bq,e3,e1,a2,a4,a5]
theorem iC {P:Program} {f:Nat} {α:Type} {B:List V->Option α} {m:α->List V} {Q:List Obj->α->Prop} {chg:List Obj->α->Bool} {L1:List Obj->α->List Obj} {F:List Obj->α->List V} (hB:∀l x,B l=some x->eh l (m x)) (hid:∀x,kK (m x)=true)
  (hF:∀L x,kK (F L x)=true) (hcl:∀L x,Q L x->ai P f (.sa 0::m x) [.ro (.arr none 163 (.ob L))] (yT (chg L x) (L1 L x) (F L x)) (fun _ _=>False)):lF P f (zm B Q chg L1 F):=by
 intro args res K KP h;unfold zm at h;split at h
 case h_2=>exact h.elim
 split at h
 case h_2=>exact h.elim
 rename_i x hx;refine ai.args (eh.iW (hB _ _ hx)) ?_;split at h
 case h_2=>exact h.elim
 rename_i j;split at h
 case h_2=>exact h.elim
 rename_i own z t hj;split at h
 case isFalse=>exact h.elim
 rename_i hz;have hz:=Yl.1 hz;subst hz;split at h
 case h_2=>exact h.elim
 rename_i M;obtain⟨hQ,h0,h1⟩:=h;have hkj:=dX hj (by simp)
 have hjl:=aN hkj;have hres:ew (kG 0 (dv [(j,false)])) res [(j,false)]= [.ro (.arr own 163 (.ob M))]:=by simp[ew,hj,ga]
 refine ai.frame (pl:= [(j,false)]) (args0:= .sa 0::m x) (K0:=yT (chg M x) (L1 M x) (F M x)) (KP0:=fun _ _=>False) (by simp[ez,cW.2 hkj]) (by simpa[gN,dv,nI]using hjl) ?_ ?_ (fun v r hv=>?_) (fun _ _ h=>h.elim)
 ·exact jN (by simp[fo,kG,idxOf,dv]) (jm _ (hid x))
 ·rw[hres];exact ai.WB (hcl M x hQ)
 ·obtain⟨p,bs,rfl,hb,hv⟩:=P3 hv;rcases hv with⟨rfl,hc⟩|⟨hp,hc,hrp⟩
  ·have hm:merge [(j,false)] [] r res=res:=by simp[merge,eV,fL]
   refine⟨[],.tp (.sa j::F M x),rfl,by simp[jT],rfl,CZ (by simp[back,vS]) (hF M x) hb,by rw[hm];exact h0 hc⟩
  ·have hpl:p<r.length:=aN (by rw[hrp];simp)
   have hm:merge [(j,false)] [p] r res=res++ [.arr (some tO) 163 (.ob (L1 M x))]:=by simp[merge,eV,hrp,ga,fL]
   refine⟨[p],.tp (.sa res.length::F M x),by simpa[gN,nI]using⟨hp,hpl⟩,by simp[jT],by simp[lL,hrp,iO],CZ ?_ (hF M x) hb,by rw[hm];exact h1 hc⟩
   unfold back;rw[qI _ _ (by simpa using hp)]
   simp[idxOf]
def WJ {α:Type} (B:List V->Option α) (R:α->Prop) (Q:List Obj->α->Prop) (F:List Obj->α->V) (M:List Obj->α->List Obj):kI:=fun args res K=>
 match args with
 |a::l=>match B l with
  |some x=>R x/\match a with
   | .nl v=>match v with
     | .pointer none=>K (F [] x) res
     |_=>False
   | .lp k off=>if off==0 then match az res k with
     | .store t e L=>if t==tS&&e==eS then Q L x/\K (F L x) (cj res k (.store tS eS (M L x)))else False
     | .blk t c=>if t==tS&&Vo c then K (F [] x) res else False
     |_=>False
     else False
   |_=>False
  |none=>False
 |_=>False
theorem Kk {P:Program} {f:Nat} {α:Type} {B:List V->Option α} {m:α->List V} {R:α->Prop} {Q:List Obj->α->Prop} {F:List Obj->α->V} {M:List Obj->α->List Obj} (hB:∀l x,B l=some x->eh l (m x)) (hid:∀x,kK (m x)=true) (hF:∀L x,j3 (F L x)=true)
  (h0:∀x,R x->ai P f (lh::m x) [] (mn (F [] x)) (fun _ _=>False)) (hz:∀x,R x->ai P f (.lp 0 0::m x) [.ro (.blk tS WD)] (mn (F [] x)) (fun _ _=>False))
  (h1:∀L x,Q L x->ai P f (.lp 0 0::m x) [.store tS eS L] (B0 (F L x) (M L x)) (fun _ _=>False)):lF P f (WJ B R Q F M):=by
 intro args res K KP h;unfold WJ at h;split at h
 case h_2=>exact h.elim
 split at h
 case h_2=>exact h.elim
 rename_i x hx;obtain⟨hR,h⟩:=h;refine ai.args (eh.iW (hB _ _ hx)) ?_;split at h
 ·split at h
  ·exact ai.pure (by simp only[kK,j3,Bool.true_and];exact hid x) (hF _ _) ((h0 x hR).mono (fun _ _ h=>dt h) fun _ _ h=>h) h
  ·exact h.elim
 ·split at h
  ·rename_i hoff;have hoff:=Yl.1 hoff;subst hoff;split at h
   ·rename_i hr;split at h
    ·rename_i hc;simp only[Yj,Yl]at hc;obtain⟨rfl,rfl⟩:=hc;exact ai.AY hr (hid x) (hF _ _) ((h1 _ x h.1).mono (fun v r hv=>E9 hv |> fun⟨a,b⟩=>⟨fun J K=>a J K,b⟩) fun _ _ h=>h) h.2
    ·exact h.elim
   ·rename_i hr;split at h
    ·rename_i hc;simp only[Yj,Yl]at hc;obtain⟨rfl,hz'⟩:=hc;have:=wZ hz';subst this;exact ai.Kq (r0:= .blk tS WD) (by unfold de;rw[hr];rfl) (by simp) (fun κ=>rfl) (hid x) (hF _ _) ((hz x hR).mono (fun _ _ h=>dt h) fun _ _ h=>h) h
    ·exact h.elim
   ·exact h.elim
  ·exact h.elim
 ·exact h.elim
def cH (n:Int):Key:=⟨1,0,0,0,0,n⟩
theorem dY {L:List Obj} (h:aq L) (j:Nat) (hj:j<L.length):bT (ah L j free) (L.length:Int)=true:=(ff.1 h).2.2 j hj
theorem kh {L:List Obj} (h:aq L):1<=L.length/\L.length<=64:=⟨(ff.1 h).1,(ff.1 h).2.1⟩
theorem Jv {L M:List Obj} (h:aq L) (hl:M.length=L.length) (hm:∀j,j<L.length->bT (ah M j free) (L.length:Int)=true):aq M:=by
 obtain⟨a,b⟩:=kh h;unfold aq;rw[ff,hl];exact⟨a,b,hm⟩
theorem nk {L:List Obj} {i:Nat} {x:Obj} (h:aq L) (hx:bT x (L.length:Int)=true):aq (cC L i x):=by
 by_cases hi:i<L.length
 ·refine Jv h jx fun j hj=>?_
  rw[gk hi];split
  ·exact hx
  ·exact dY h j hj
 ·rw[show cC L i x=L from List.set_eq_of_length_le (by omega)];exact h
theorem nt {L:List Obj} {i:Int} {x:Obj} (h0:0<=i) (h1:i<(L.length:Int)) (hx:bT x (L.length:Int)=true):cV L i x=cC L i.toNat x/\eJ L i x=0:=by
 have e:cQ L i=0:=ky.2 ⟨h0,h1⟩;have e2:cG x (aj L:Int)=0:=by unfold cG;exact Yq hx
 exact⟨(tj e e2).2,(tj e e2).1⟩
theorem PB {n:Int} {s:cR} {k:Key} {j:Nat} (hj:j<16) (h:∀i,i<16->fJ n (s.at i)) (hk:fJ n k) (i:Nat) (hi:i<16):fJ n ((s.put j k).at i):=by
 rw[cR.gI _ _ _ _ hj];split
 ·exact hk
 ·exact h i hi
theorem wx {n:Int} (hn:0<=n) (x:Int):fJ n (cH x):=by
 refine⟨by simp[cH,aT,eK,jY,dG,gd,fF],?_⟩
 unfold aY;rw[show dG (cH x).kind=false by simp[cH,dG]]
 simp;omega
theorem vf {o:Obj} {n:Int} (h:bT o n=true) (hk:o.kind=1) (i:Nat) (hi:i<16):fJ n (o.slots.at i):=by
 obtain⟨a1,a2,a3,a4,a5,a6,a7,a8,a9,a10,a11⟩:=fj.1 h;have:=a10 i hi;rw[hk]at this;exact JR.1 this
end Go.Sx
