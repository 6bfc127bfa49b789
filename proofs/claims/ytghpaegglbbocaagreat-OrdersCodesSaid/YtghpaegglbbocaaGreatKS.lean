import Derived.Test.YtghpaegglbbocaaGreatKO
import Derived.Test.YtghpaegglbbocaaGreatSxF
set_option linter.unusedSimpArgs false
set_option linter.unusedVariables false
namespace Go.Sx
def bC (L:List Obj):Bool:=decide (aj L=0)
def cR (L:List Obj) (oid:Int):Int:=if aj L=0 then 1 else if oid<0\/(aj L:Int)<=oid then 4 else 0
def aR (L:List Obj) (oid:Int):Obj:=if cR L oid=0 then ah L oid.toNat free else free
def an (L:List Obj):Int:=(aj L:Int)
def aU (L:List Obj) (k:Key):Bool:=bg k&&decide (cR L k.oid=0)&&ca k (ah L k.oid.toNat free)
def aa (L:List Obj) (k:Key):Obj:=if aU L k then ah L k.oid.toNat free else free
def ae (L:List Obj) (k:Key):Key:=if bC L|| !aT k||(bg k&& !aU L k)then void else k
def iF (n:Int):Bool:=decide (1<=n)&&decide (n<=64)
def ib (n:Int):List Obj:=List.replicate n.toNat free
def cW (L:List Obj) (i:Int) (o:Obj):List Obj:=if cR L i=0/\cG o (aj L:Int)=0 then cC L i.toNat o else L
def eU (L:List Obj) (i:Int) (o:Obj):Int:=if cR L i=0 then cG o (aj L:Int)else cR L i
def fb (l:List Obj):Bool:=decide (1<=aj l)&&decide (aj l<=64)&&(List.range (aj l)).all fun i=>bT (ah l i free) (aj l:Int)
def js (l:List Obj) (g:Int):List Obj:=l.take g.toNat++List.replicate (l.length-g.toNat) free
def qz (l:List Obj) (g:Int):Prop:=0<=g/\g<=(aj l:Int)/\∀j:Nat,(j:Int)<g->bT (ah l j free) (aj l:Int)=true
def Ay (n i:Int):Prop:=0<=i/\i<=n
abbrev tS:Nat:=40
abbrev eS:Nat:=75
def RO (c:Bool) (M:List Obj) (v:V) (r:List aI):Prop:=
 match v with
 | .tp l=>match l with
   | [a,b]=>match a with
     | .nl p=>match p with
       | .pointer none=>c=false/\mG (.ci .i64 2) b r
       |_=>False
     | .lp j off=>match B1 r j with
       |some (t,e,L)=>if off==0&&t==tS&&e==eS then c=true/\mG (.ci .i64 0) b r/\L=M else False
       |none=>False
     |_=>False
   |_=>False
 |_=>False
def Xj (n:Int):V->List aI->Prop:=RO (iF n) (ib n)
def W7 (l:List Obj) (v:V) (r:List aI):Prop:=
 match az r 0 with
 | .ro _=>RO (fb l) l v r
 |_=>False
theorem Fo {l:List Obj} {v:V} {r:List aI} (h:W7 l v r):RO (fb l) l v r/\B1 r 0=none:=by
 unfold W7 at h;split at h
 ·rename_i hr;refine⟨h,?_⟩;unfold B1 DK;rw[hr]
 ·exact h.elim
def WJ (x:V) (M:List Obj) (v:V) (r:List aI):Prop:=
 match DK r 0 with
 |some (t,e,_,L)=>if t==tS&&e==eS then mG x v r/\L=M else False
 |none=>False
def Sj:kJ:=fun args res K=>
 match args with
 | [a]=>match rI .i64 a with
   |some n=>(iF n=false->K (.tp [lh,.ci .i64 2]) res)/\(iF n=true->K (.tp [.lp res.length 0,.ci .i64 0]) (res++ [.store tS eS (ib n)]))
   |none=>False
 |_=>False
def Ww (c:V):Bool:=
 match c with
 | .ag l=>match l with
   | [x]=>match x with
     | .nl v=>match v with
       | .slice none 0 0=>true
       |_=>false
     |_=>false
   |_=>false
 |_=>false
theorem yd {c:V} (h:Ww c=true):c= .ag [.nl (.slice none 0 0)]:=by
 unfold Ww at h;split at h
 ·split at h
  ·split at h
   ·split at h
    ·rfl
    ·simp at h
   ·simp at h
  ·simp at h
 ·simp at h
def R7:kJ:=fun args res K=>
 match args with
 | [a,b,c]=>match rI .i64 b with
   |some i=>match rO c with
    |some o=>match a with
     | .nl v=>match v with
       | .pointer none=>K (.it .i64 (eU [] i o)) res
       |_=>False
     | .lp k off=>if off==0 then match az res k with
       | .store t e L=>if t==tS&&e==eS then K (.it .i64 (eU L i o)) (cc res k (.store tS eS (cW L i o)))else False
       | .blk t c=>if t==tS&&Ww c then K (.it .i64 (eU [] i o)) res else False
       |_=>False
       else False
     |_=>False
    |none=>False
   |none=>False
 |_=>False
structure XS where
 puts:Bool
 oid:Int
 ob:Obj
def XS.wf (x:XS):Prop:=bY .i64 x.oid/\x.ob.wf
def P0:Ct:=U0 (.bo true)
def ev (L M:List Obj):Bool:=decide (L=M)
def oE (L M:List Obj) (g:Int):Prop:=0<=g/\g<=(aj L:Int)/\g<=(aj M:Int)/\∀j:Nat,(j:Int)<g->ah L j free=ah M j free
def SG:Ct:=TZ tS eS fun L M=> .bo (ev L M)
def gH (L M:List Obj) (g:Int):List Int:=((List.range g.toNat).filter fun j=> !Dm (ah L j free) (ah M j free)).map Int.ofNat
def jo (L M:List Obj):Bool:=bC L||bC M|| !decide ((aj L:Int)=(aj M:Int))
def de (L M:List Obj):List Int:=gH L M (aj L:Int)
def kX (L:List Obj) (g:Int):List Obj:=L.take g.toNat
def oV (L:List Obj) (g:Int):Prop:=0<=g/\g<=(aj L:Int)
abbrev UW:V:= .nl (.slice none 0 0)
abbrev tI:Nat:=3
def Dj (L:List Obj) (v:V) (r:List aI):Prop:=
 match v with
 | .nl p=>match p with
   | .pointer none=>bC L=true
   |_=>False
 | .lp j off=>match B1 r j with
   |some (t,e,M)=>if off==0&&t==tS&&e==eS&&Nat.ble 1 j then bC L=false/\M=L else False
   |none=>False
 |_=>False
def Nu (L M:List Obj) (v:V) (r:List aI):Prop:=
 match v with
 | .nl p=>match p with
   | .slice none 0 0=>jo L M=true
   |_=>False
 | .sa j=>match az r j with
   | .arr own esz l=>match own with
     |some e=>match l with
      | .it k l=>match k with
        | .i64=>if e==tI&&esz==1&&Nat.ble 2 j then jo L M=false/\l=de L M else False
        |_=>False
      |_=>False
     |none=>False
   |_=>False
 |_=>False
def NN:kJ:=fun args res K=>
 match args with
 | [a]=>match a with
   | .nl v=>match v with
     | .pointer none=>K lh res
     |_=>False
   | .lp k off=>if off==0 then match dc res k with
     | .store t e L=>if t==tS&&e==eS then aj L<=1000/\(bC L=true->K lh res)/\(bC L=false->K (.lp res.length 0) (res++ [.store tS eS L]))else False
     |_=>False
     else False
   |_=>False
 |_=>False
def Sf:kJ:=fun args res K=>
 match args with
 | [a,b]=>match b with
   | .lp j off=>if off==0 then match dc res j with
     | .store t e M=>if t==tS&&e==eS then match a with
       | .nl v=>match v with
         | .pointer none=>K UW res
         |_=>False
       | .lp k off'=>if off'==0&& !(k==j)then match dc res k with
         | .store t e L=>if t==tS&&e==eS then aj L<=1000/\(jo L M=true->K UW res)/\(jo L M=false->K (.sa res.length) (res++ [.arr (some tI) 1 (.it .i64 (de L M))]))else False
         |_=>False
         else False
       |_=>False
       else False
     |_=>False
     else False
   |_=>False
 |_=>False
def FT:Ct:=fun res nid xs=>match xs with
 | [a]=>match rS tS eS res a with
   |some (o,L)=>match o with
    |none=>some (none,.cb true,[])
    |some _=>some (none,.bo (bC L),[])
   |none=>none
 |_=>none
theorem gu {α:Type} (l:List α):b9 (aj l)=(l.length:Int):=rfl
theorem lk {α:Type} (l:List α):((aj l:Nat):Int)=(l.length:Int):=rfl
def VF:kJ:=fun args res K=>
 match args with
 | [a]=>match a with
   | .sa k=>match dc res k with
     | .arr _ e l=>if e==163 then match l with
       | .ob l=>(fb l=false->K (.tp [lh,.ci .i64 2]) res)/\(fb l=true->K (.tp [.lp res.length 0,.ci .i64 0]) (res++ [.store tS eS l]))
       |_=>False
       else False
     |_=>False
   |_=>False
 |_=>False
def Qb:Ct:=XL fun l=> .bo (fb l)
def GZ:Ct:=Rd rK fun l k=> .bo (aU l k)
def OR:Ct:=Rd rK fun l k=> .key (ae l k)
def DS:Ct:=Uo tS eS fun L=> .bo (bC L)
def VP:Ct:=G4 tS eS (rI .i64) fun L i=> .it .i64 (cR L i)
def Vi:Ct:=G4 tS eS (rI .i64) fun L i=> .tp [.ob (aR L i),.it .i64 (cR L i)]
def Ex:Ct:=Uo tS eS fun L=> .it .i64 (an L)
def Rf:Ct:=G4 tS eS rK fun L k=> .tp [.ob (aa L k),.bo (aU L k)]
def Sy:Ct:=G4 tS eS rK fun L k=> .key (ae L k)
theorem FA {n:Nat} (h:n<1000):vT n 8:=by unfold vT;simp only[maxLen];omega
theorem Ii {L:List Obj} {g:Int} (h0:0<=g) (h1:g<(L.length:Int)):iN (kX L g) (ah L g.toNat free)=kX L (g+1):=by
 unfold iN kX ah;rw[show(g+1).toNat=g.toNat+1 by omega,List.take_add_one,Yt,List.getElem?_eq_getElem (by omega)];rfl
theorem K8 {L:List Obj} {g:Int} (h:(L.length:Int)<=g):kX L g=L:=by unfold kX;rw[List.take_of_length_le (by omega)]
theorem M7 {L:List Obj} {g:Int}:aj (kX L g)<=g.toNat:=by unfold aj kX;rw[List.length_take];omega
theorem Jh {L M:List Obj} {g:Int}:aj (gH L M g)<=g.toNat:=by
 unfold aj gH;rw[List.length_map];exact Nat.le_trans (List.length_filter_le _ _) (by rw[List.length_range];omega)
theorem LF {L M:List Obj} {g:Int} (h0:0<=g) (h:(!Dm (ah L g.toNat free) (ah M g.toNat free))=true):iN (gH L M g) g=gH L M (g+1):=by
 unfold iN gH;rw[show(g+1).toNat=g.toNat+1 by omega,List.range_succ,List.filter_append,List.map_append]
 simp only[List.filter_cons,h,if_true,List.filter_nil,List.map_cons,List.map_nil];congr 2
 show g=((g.toNat:Nat):Int)
 omega
theorem RH {L M:List Obj} {g:Int} (h0:0<=g) (h:(!Dm (ah L g.toNat free) (ah M g.toNat free))=false):gH L M g=gH L M (g+1):=by
 unfold gH;rw[show(g+1).toNat=g.toNat+1 by omega,List.range_succ,List.filter_append,List.map_append]
 simp only[List.filter_cons,h,Bool.false_eq_true,if_false,List.filter_nil,List.map_nil,List.append_nil]
theorem qJ:bC []=true:=rfl
theorem zs {L:List Obj}:bC L=true↔L= []:=by
 unfold bC aj;simp[List.length_eq_zero_iff]
theorem qY (i:Int):cR [] i=1:=rfl
theorem Ng {L:List Obj} (h:bC L=false) (i:Int):cR L i=if i<0\/(L.length:Int)<=i then 4 else 0:=by
 have:L≠ []:=fun e=>by rw[e]at h;simp[qJ]at h
 unfold cR aj;rw[Yu (by simpa[List.length_eq_zero_iff]using this)]
theorem kx {L:List Obj} {i:Int}:cR L i=0↔0<=i/\i<(L.length:Int):=by
 unfold cR aj;split
 ·omega
 ·split<;>omega
theorem zQ (L:List Obj) (k:Key):((!bg k)=true->free=aa L k/\false=aU L k)/\
  ((!bg k)=false->
    ((!decide (cR L (cS k)=0)|| !ca k (aR L (cS k)))=true->
      free=aa L k/\false=aU L k)/\
      ((!decide (cR L (cS k)=0)|| !ca k (aR L (cS k)))=false->
        aR L (cS k)=aa L k/\true=aU L k)):=by
 have fin:∀b,aU L k=b->(b=false->free=aa L k)/\b=aU L k:=fun b h=>⟨fun hb=>by unfold aa;rw[h,hb];rfl,h.symm⟩
 refine⟨fun h=>?_,fun h=>?_⟩
 ·have h:bg k=false:=by simpa using h
  have:=fin false (by unfold aU;rw[h];rfl)
  exact⟨this.1 rfl,this.2⟩
 ·have h:bg k=true:=by simpa using h
  have ho:cS k=k.oid:=by unfold cS;rw[Yv h]
  rw[ho];by_cases hh:cR L k.oid=0
  ·have hg:aR L k.oid=ah L k.oid.toNat free:=by unfold aR;rw[Yv hh]
   rw[hg];have e:aU L k=ca k (ah L k.oid.toNat free):=by unfold aU;simp[h,hh]
   refine⟨fun hc=>?_,fun hc=>?_⟩
   ·have hc:ca k (ah L k.oid.toNat free)=false:=by simpa[hh]using hc
    have:=fin false (by rw[e,hc])
    exact⟨this.1 rfl,this.2⟩
   ·have hc:ca k (ah L k.oid.toNat free)=true:=by simpa[hh]using hc
    have:=fin true (by rw[e,hc])
    refine⟨?_,this.2⟩;unfold aa;rw[e,hc];rfl
  ·have:=fin false (by unfold aU;simp[hh])
   exact⟨fun _=>⟨this.1 rfl,this.2⟩,fun hc=>by simp[hh]at hc⟩
theorem Cz (L:List Obj) (k:Key):((bC L|| !decide (bD k=0))=true->void=ae L k)/\
  ((bC L|| !decide (bD k=0))=false->
    ((bg k&& !aU L k)=true->void=ae L k)/\((bg k&& !aU L k)=false->k=ae L k)):=by
 have hc:(!decide (bD k=0))= !aT k:=by unfold bD;cases aT k<;>simp
 rw[hc];unfold ae;refine⟨fun h=>?_,fun h=>⟨fun h2=>?_,fun h2=>?_⟩⟩
 ·rw[Yv];simp only[h,Bool.true_or]
 ·rw[Yv];simp only[h2,Bool.or_true]
 ·rw[Yu];simp only[h,h2];simp
theorem qX {n:Int}:iF n=true↔1<=n/\n<=64:=by simp[iF]
theorem PZ {g:Int} (h:0<=g):iN (ib g) free=ib (g+1):=by
 unfold iN ib;rw[show(g+1).toNat=g.toNat+1 by omega,List.replicate_succ']
theorem F5 {i:Int} {o:Obj}:eU [] i o=1:=by unfold eU;rw[qY];rfl
theorem OV {L:List Obj} {i:Int} {o:Obj} (h:cR L i≠0):eU L i o=cR L i/\cW L i o=L:=by
 unfold eU cW;rw[Yu h,Yu (fun hh=>h hh.1)];exact⟨rfl,rfl⟩
theorem UC {L:List Obj} {i:Int} {o:Obj} (h:cR L i=0) (h2:cG o (aj L:Int)≠0):eU L i o=cG o (aj L:Int)/\cW L i o=L:=by
 unfold eU cW;rw[Yv h,Yu (fun hh=>h2 hh.2)];exact⟨rfl,rfl⟩
theorem tt {L:List Obj} {i:Int} {o:Obj} (h:cR L i=0) (h2:cG o (aj L:Int)=0):eU L i o=0/\cW L i o=cC L i.toNat o:=by
 unfold eU cW;rw[Yv h,Yv ⟨h,h2⟩];exact⟨h2,rfl⟩
theorem ID {c:Bool} {M:List Obj} (hn:c=false) {v:V} {r:List aI} (h:RO c M v r):yW (.tp [lh,.ci .i64 2]) v []:=by
 unfold RO at h;split at h
 ·split at h
  ·split at h
   ·split at h
    ·exact OT (du h.2)
    ·exact h.elim
   ·split at h
    ·split at h
     ·rw[hn]at h;simp at h
     ·exact h.elim
    ·exact h.elim
   ·exact h.elim
  ·exact h.elim
 ·exact h.elim
theorem OD {c:Bool} {M:List Obj} (hn:c=true) {v:V} {r:List aI} (h:RO c M v r):∃j b,v= .tp [.lp j 0,b]/\yW (.ci .i64 0) b []/\B1 r j=some (tS,eS,M):=by
 unfold RO at h;split at h
 ·split at h
  ·split at h
   ·split at h
    ·rw[hn]at h;simp at h
    ·exact h.elim
   ·split at h
    ·rename_i hst;split at h
     ·rename_i hc;simp only[Yo,Yq]at hc;obtain⟨⟨rfl,rfl⟩,rfl⟩:=hc;obtain⟨_,h2,rfl⟩:=h;exact⟨_,_,rfl,du h2,hst⟩
     ·exact h.elim
    ·exact h.elim
   ·exact h.elim
  ·exact h.elim
 ·exact h.elim
theorem Fv {c:Bool} {M:List Obj} (hn:c=true) {v:V} {r:List aI} (h:RO c M v r):∃j r',B1 r j=some (tS,eS,M)/\(r'=r\/sR r j=some r')/\az r' j= .store tS eS M/\∀(κ:Nat->Option Nat) (i:Nat),κ j=some i->iI κ v (.tp [.lp i 0,.ci .i64 0]):=by
 obtain⟨j,b,rfl,hb,hst⟩:=OD hn h
 have ht:∀(κ:Nat->Option Nat) (i:Nat),κ j=some i->iI κ (.tp [.lp j 0,b]) (.tp [.lp i 0,.ci .i64 0]):=fun κ i hi ρ2 ρ3 N N' hv hN hk=>by
  obtain⟨s1,s2,_⟩:=hb ρ2 N;refine⟨?_,hN j i hi hk.1,by simp[ok,bY],trivial⟩
  simp only[den,bq,(hv j i hi).1,s1]
 rcases Cp hst with h1|⟨r',h1,h2⟩
 ·exact⟨j,r,hst,.inl rfl,h1,ht⟩
 ·exact⟨j,r',hst,.inr h1,h2,ht⟩
theorem RD {x:V} {M:List Obj} {v:V} {r:List aI} (h:WJ x M v r):∃t,DK r 0=some (tS,eS,t,M)/\yW x v r:=by
 unfold WJ at h;split at h
 ·rename_i hst;split at h
  ·rename_i hc;simp only[Yo,Yq]at hc;obtain⟨rfl,rfl⟩:=hc;obtain⟨h1,rfl⟩:=h;exact⟨_,hst,du h1⟩
  ·exact h.elim
 ·exact h.elim
theorem XN {P:Program} {f:Nat} {rest:List V} {res:List aI} {K KP:V->List aI->Prop} {k:Nat} {L M:List Obj} {x:V} (hr:az res k= .store tS eS L) (hid:kK rest=true) (hx:j6 x=true)
  (h:(∀o∈L,o.wf)->L.length<=9223372036854775807->ai P f (.lp 0 0::rest) [.blk tS (.ag [.sa 1]),.obs eS 2 L,.gen 1] (WJ x M) (fun _ _=>False)) (hK:K x (cc res k (.store tS eS M))):ai P f (.lp k 0::rest) res K KP:=by
 refine ai.Bd hr hid hx ?_ hK;refine ai.fact (k:=0) rfl fun w1 w2=>?_
 refine ai.jI (k:=0) rfl ?_;refine ai.shut (h w1 w2) fun v r hv=>?_
 obtain⟨t,h1,h2⟩:=RD hv;obtain⟨r',g1,g2⟩:=zI h1;exact .inr ⟨0,r',g1,fun J K=>h2 J K,g2⟩
theorem fj {l:List Obj}:fb l=true↔1<=l.length/\l.length<=64/\∀i,i<l.length->bT (ah l i free) (l.length:Int)=true:=by
 unfold fb aj;simp only[Yo,Yp,List.all_eq_true,List.mem_range,and_assoc]
theorem s7 {l:List Obj} (h:¬(1<=l.length/\l.length<=64/\∀i,i<l.length->bT (ah l i free) (l.length:Int)=true)):fb l=false:=by
 cases hr:fb l with
 |false=>rfl
 |true=>exact absurd (fj.1 hr) h
theorem wU {l:List Obj} {g:Int} (h1:g<=(l.length:Int)):(js l g).length=l.length:=by
 unfold js;simp only[List.length_append,List.length_take,List.length_replicate];omega
theorem JB {l:List Obj}:ib (l.length:Int)=js l 0:=by unfold ib js;simp
theorem OL {l:List Obj} {g:Int} (h:(l.length:Int)<=g):js l g=l:=by
 unfold js;rw[List.take_of_length_le (by omega),show l.length-g.toNat=0 by omega];simp
theorem QR {l:List Obj} {g:Int} (h0:0<=g) (h1:g<(l.length:Int)):cC (js l g) g.toNat (ah l g.toNat free)=js l (g+1):=by
 unfold cC js ah;obtain⟨n,rfl⟩:=Int.eq_ofNat_of_zero_le h0;have hn:n<l.length:=by omega
 have e1:((n:Int)+1).toNat=n+1:=by omega
 have e2:((n:Int)).toNat=n:=by omega
 rw[e1,e2];apply List.ext_getElem?
 intro i;rw[List.getElem?_set];have hlt:(List.take n l++List.replicate (l.length-n) free).length=l.length:=by simp;omega
 have htl:(List.take n l).length=n:=by simp;omega
 have htl1:(List.take (n+1) l).length=n+1:=by simp;omega
 by_cases hi:n=i
 ·subst hi;rw[Yv rfl,Yv (by rw[hlt];exact hn),List.getElem?_append_left (by rw[htl1];omega),List.getElem?_take,Yv (by omega),Yt,List.getElem?_eq_getElem hn];rfl
 ·rw[Yu hi];by_cases hl:i<n
  ·rw[List.getElem?_append_left (by rw[htl];exact hl),List.getElem?_append_left (by rw[htl1];omega),List.getElem?_take,List.getElem?_take,Yv hl,Yv (by omega)]
  ·rw[List.getElem?_append_right (by rw[htl];omega),List.getElem?_append_right (by rw[htl1];omega),htl,htl1,List.getElem?_replicate,List.getElem?_replicate]
   by_cases hb:i<l.length
   ·rw[Yv (by omega),Yv (by omega)]
   ·rw[Yu (by omega),Yu (by omega)]
theorem Sv {l:List Obj} {g:Int} (h0:0<=g) (h1:g<(l.length:Int)) (x:Obj):eU (js l g) g x=cG x (l.length:Int):=by
 have hh:cR (js l g) g=0:=kx.2 (by rw[wU (by omega)];exact⟨h0,h1⟩)
 unfold eU aj;rw[Yv hh,wU (by omega)]
theorem OH {l:List Obj} {g:Int} (h0:0<=g) (h1:g<(l.length:Int)) (hx:cG (ah l g.toNat free) (l.length:Int)=0):cW (js l g) g (ah l g.toNat free)=js l (g+1):=by
 have hh:cR (js l g) g=0:=kx.2 (by rw[wU (by omega)];exact⟨h0,h1⟩)
 unfold cW aj;rw[Yv ⟨hh,by rw[wU (by omega)];exact hx⟩]
 exact QR h0 h1
theorem r8 (o:Obj) (n:Int):(cG o n=0/\bT o n=true)\/(cG o n=2/\bT o n=false):=by
 unfold cG;cases bT o n<;>simp
theorem jW (k:Key):(bg k=true/\aY k=k.oid/\0<=k.oid)\/(bg k=false/\aY k= -1):=by
 have h:aY k=if bg k then k.oid else -1:=rfl
 cases hn:bg k
 ·exact .inr ⟨rfl,by rw[h,hn];rfl⟩
 ·refine .inl ⟨rfl,by rw[h,hn];rfl,?_⟩
  unfold bg at hn;simp only[Yo]at hn;have:=hn.1;simp only[aT,fG,hn.2,if_true,Yo,Yp]at this;omega
theorem Cv (l:List Obj) (k:Key) (hl:l.length<=9223372036854775807):((decide (0<=aY k)&&decide (aY k<b9 (aj l)))=true->aG IntKind.i64 (b9 (aj l)-1))/\
  ((decide (0<=aY k)&&decide (aY k<b9 (aj l)))=true->
    0<=kL (aY k) (b9 (aj l)-1)/\kL (aY k) (b9 (aj l)-1)< ↑(aj l))/\
    ((decide (0<=aY k)&&decide (aY k<b9 (aj l)))=true->
      (kL (aY k) (b9 (aj l)-1)).toNat<aj l)/\
      (decide (0<=aY k)&&decide (aY k<b9 (aj l))&&
        ca k (ah l (kL (aY k) (b9 (aj l)-1)).toNat free))=
       aU l k:=by
 unfold b9 aj
 have hm:0<=aY k->aY k<(l.length:Int)->kL (aY k) ((l.length:Int)-1)=aY k:=fun h1 h2=>by
  unfold kL;rw[Yu (by omega)]
 simp only[Yo,Yp];refine⟨fun h=>by simp only[aG,bY];omega,fun h=>by rw[hm h.1 h.2];exact h,fun h=>by rw[hm h.1 h.2];omega,?_⟩
 rcases jW k with⟨h1,h2,h3⟩|⟨h1,h2⟩
 ·by_cases hh:k.oid<(l.length:Int)
  ·rw[hm (by omega) (by omega),h2]
   have h0:cR l k.oid=0:=kx.2 ⟨h3,hh⟩;unfold aU;simp[h1,h0,h3,hh]
  ·have h0:¬cR l k.oid=0:=fun h=>hh (kx.1 h).2
   unfold aU;rw[h2];simp[h0,hh]
 ·unfold aU;simp[h1,h2]
theorem Hp (l:List Obj) (k:Key):((decide (b9 (aj l)=0)|| !decide (bD k=0)||decide (0<=aY k)&& !aU l k)=true->void=ae l k)/\
  ((decide (b9 (aj l)=0)|| !decide (bD k=0)||decide (0<=aY k)&& !aU l k)=false->k=ae l k):=by
 have hc:(!decide (bD k=0))= !aT k:=by unfold bD;cases aT k<;>simp
 have hd:decide (0<=aY k)=bg k:=by
  rcases jW k with⟨h1,h2,h3⟩|⟨h1,h2⟩
  ·rw[h1,h2];simpa using h3
  ·rw[h1,h2];simp
 have he:decide (b9 (aj l)=0)=bC l:=by
  unfold bC b9;rw[decide_eq_decide];omega
 rw[hc,hd,he];unfold ae;exact⟨fun h=>by rw[h];rfl,fun h=>by rw[h];rfl⟩
theorem xm {l:List Obj} {k:Key} (h:aU l k=true):0<=aY k/\aY k<(l.length:Int)/\aa l k=ah l (aY k).toNat free:=by
 have h':=h;unfold aU at h;simp only[Yo,Yp]at h;have hb:=kx.1 h.1.2;rcases jW k with⟨h1,h2,h3⟩|⟨h1,h2⟩
 ·rw[h2];exact⟨hb.1,hb.2,by unfold aa;rw[h',Yv rfl]⟩
 ·rw[h1]at h;simp at h
theorem pL {L M:List Obj} (h:L.length=M.length) (h2:∀j:Nat,j<L.length->ah L j free=ah M j free):L=M:=by
 apply List.ext_getElem h
 intro i h3 h4;have:=h2 i h3;unfold ah at this;simpa[Yt,h3,h4]using this
theorem My {L M:List Obj} {g:Int} (hg:oE L M g) (hge:(aj L:Int)<=g):(decide (g=b9 (aj M))&&decide (an L=g))=ev L M:=by
 obtain⟨g0,g1,g2,g3⟩:=hg;have e:g=(L.length:Int):=by unfold aj at *;omega
 subst e;unfold ev an b9 aj;cases hd:decide (L=M)with
 |true=>
  have:=Ys hd;subst this;simp
 |false=>
  have hne:=Yr hd;simp only[decide_true,Bool.and_true,decide_eq_false_iff_not];intro hl;exact hne (pL (by omega) fun j hj=>g3 j (by omega))
end Go.Sx
namespace Go.Proofs.YtghpaegglbbocaaGreat
open Go.Sx
set_option maxRecDepth 100000
theorem Mk:
 true=bC []:=by
 rfl
theorem KD (L:List Sx.Obj):
 decide (b9 (aj L)=0)=bC L:=by
 unfold bC b9 aj;rw[decide_eq_decide];omega
theorem oC:ck Tryz.prog 34 DS:=
 L7 (fun _=>rfl) (aV (inl:=bn) (ann:=aP) ak Mk (by kernel_rfl)) (fun L _ _=>aV (inl:=bn) (ann:=aP) ak (KD L) (by kernel_rfl))
theorem Rg (i:Int):
 (bC []=true->1=cR [] i)/\
  (bC []=false->((!decide (i<0))=true->False)/\((!decide (i<0))=false->4=cR [] i)):=by
 exact⟨fun _=>rfl,fun h=>by simp[qJ]at h⟩
theorem Pw (L:List Sx.Obj) (i:Int):
 (bC L=true->1=cR L i)/\
  (bC L=false->
   ((decide (i<0)||decide (b9 (aj L)<=i))=true->4=cR L i)/\
     ((decide (i<0)||decide (b9 (aj L)<=i))=false->0=cR L i)):=by
 refine⟨fun h=>?_,fun h=>?_⟩
 ·rw[zs.1 h];rfl
 ·rw[Ng h];unfold b9 aj;refine⟨fun h1=>?_,fun h1=>?_⟩
  ·simp only[Bool.or_eq_true,Yp]at h1;rw[Yv h1]
  ·simp only[Bool.or_eq_false_iff,decide_eq_false_iff_not]at h1;rw[Yu (by omega)]
theorem yn:ck Tryz.prog 27 VP:=
 wT (fz .i64) (fun _ _=>rfl) (fun x _=>aV (inl:=bn) (ann:=aP) (ab oC ak) (Rg x) (by kernel_rfl)) (fun L x _ _ _=>aV (inl:=bn) (ann:=aP) (ab oC ak) (Pw L x) (by kernel_rfl)) fun _=>rfl
theorem JR:
 (bC []=true->0=an [])/\(bC []=false->False):=by
 exact⟨fun _=>rfl,fun h=>by simp[qJ]at h⟩
theorem Kt (L:List Sx.Obj):
 (bC L=true->0=an L)/\(bC L=false->b9 (aj L)=an L):=by
 exact⟨fun h=>by rw[zs.1 h];rfl,fun _=>rfl⟩
theorem bB:ck Tryz.prog 23 Ex:=
 L7 (fun _=>rfl) (aV (inl:=bn) (ann:=aP) (ab oC ak) JR (by kernel_rfl)) (fun L _ _=>aV (inl:=bn) (ann:=aP) (ab oC ak) (Kt L) (by kernel_rfl))
theorem Q7 (i:Int):
 ((!decide (cR [] i=0))=true->free=aR [] i/\cR [] i=cR [] i)/\
   ((!decide (cR [] i=0))=false->False):=by
 exact⟨fun _=>⟨rfl,rfl⟩,fun h=>by simp[qY]at h⟩
theorem O8 (L:List Sx.Obj) (i:Int):
 ((!decide (cR L i=0))=true->free=aR L i/\cR L i=cR L i)/\
   ((!decide (cR L i=0))=false->
     (0<=i/\i< ↑(aj L))/\i.toNat<aj L/\i.toNat<aj L/\ah L i.toNat free=aR L i/\0=cR L i):=by
 refine⟨fun h=>⟨?_,rfl⟩,fun h=>?_⟩
 ·unfold aR;rw[Yu (by simpa using h)]
 ·have h:cR L i=0:=by simpa using h
  have hb:=kx.1 h;unfold aR aj;rw[Yv h,h];exact⟨hb,by omega,by omega,rfl,rfl⟩
theorem gX:ck Tryz.prog 14 Vi:=
 wT (fz .i64) (fun _ _=>rfl) (fun x _=>aV (inl:=bn) (ann:=aP) (ab yn ak) (Q7 x) (by kernel_rfl)) (fun L x _ _ _=>aV (inl:=bn) (ann:=aP) (ab yn ak) (O8 L x) (by kernel_rfl)) fun _=>rfl
theorem HJ (k:Key):
 ((!bg k)=true->free=aa [] k/\false=aU [] k)/\
   ((!bg k)=false->
     ((!decide (cR [] (cS k)=0)|| !ca k (aR [] (cS k)))=true->
       free=aa [] k/\false=aU [] k)/\
       ((!decide (cR [] (cS k)=0)|| !ca k (aR [] (cS k)))=false->
         aR [] (cS k)=aa [] k/\true=aU [] k)):=by
 exact zQ [] k
theorem Hw (L:List Sx.Obj) (k:Key):
 ((!bg k)=true->free=aa L k/\false=aU L k)/\
   ((!bg k)=false->
     ((!decide (cR L (cS k)=0)|| !ca k (aR L (cS k)))=true->
       free=aa L k/\false=aU L k)/\
       ((!decide (cR L (cS k)=0)|| !ca k (aR L (cS k)))=false->
         aR L (cS k)=aa L k/\true=aU L k)):=by
 exact zQ L k
theorem bL:ck Tryz.prog 35 Rf:=
 wT fy (fun _ _=>rfl) (fun x _=>aV (inl:=bn) (ann:=aP) (ab eY (ab gX (ab yB ak))) (HJ x) (by kernel_rfl)) (fun L x _ _ _=>aV (inl:=bn) (ann:=aP) (ab eY (ab gX (ab yB ak))) (Hw L x) (by kernel_rfl)) fun _=>rfl
end Go.Proofs.YtghpaegglbbocaaGreat
namespace Go.Proofs.YtghpaegglbbocaaGreat
open Go.Sx
set_option maxRecDepth 100000
theorem Ti (n:Int):
 ((decide (n<1)||decide (64<n))=true->iF n=false/\True)/\
   ((decide (n<1)||decide (64<n))=false->
     (∃g,Ay n g/\Value.pointer none=Value.pointer none/\n=n/\0=g/\ []=ib g)/\
      ∀(g:Int),
       Ay n g->
        (decide (g<n)=true->
          vT (aj (ib g)) 8/\
           aG IntKind.i64 (g+1)/\
            ∃g',
             Ay n g'/\
              (n-g').toNat<(n-g).toNat/\
               Value.pointer none=Value.pointer none/\
                n=n/\g+1=g'/\iN (ib g) free=ib g')/\
         (decide (g<n)=false->iF n=true/\True/\ib g=ib n)):=by
 refine⟨fun h=>⟨?_,trivial⟩,fun h=>⟨⟨0,?_,rfl,rfl,rfl,rfl⟩,fun g hg=>⟨fun hlt=>?_,fun hge=>?_⟩⟩⟩
 ·simp only[Bool.or_eq_true,Yp]at h;unfold iF;rw[Bool.and_eq_false_iff,decide_eq_false_iff_not,decide_eq_false_iff_not];omega
 ·simp only[Bool.or_eq_false_iff,decide_eq_false_iff_not]at h;exact⟨by omega,by omega⟩
 ·simp only[Bool.or_eq_false_iff,decide_eq_false_iff_not]at h;obtain⟨g0,g1⟩:=hg;have hlt:=Ys hlt;refine⟨?_,?_,g+1,⟨by omega,by omega⟩,by omega,rfl,rfl,rfl,PZ g0⟩
  ·unfold vT aj ib;simp only[List.length_replicate,maxLen];omega
  ·simp only[aG,bY];omega
 ·simp only[Bool.or_eq_false_iff,decide_eq_false_iff_not]at h;obtain⟨g0,g1⟩:=hg;have hge:=Yr hge;exact⟨qX.2 (by omega),trivial,by rw[show g=n by omega]⟩
theorem Ks (n:Int):ai Tryz.prog 20 [.it .i64 n] [] (Xj n) (fun _ _=>False):=aV (inl:=bn) (ann:=(iz [(20,5,X2 [2,3,4,13] (fun g=> [(14,.it .i64 g)]) 0 tS eS ib (Ay n) n)])) ak (Ti n) (by kernel_rfl)
theorem Nf:lG Tryz.prog 20 Sj:=by
 intro args res K KP h;unfold Sj at h;split at h
 ·split at h
  ·rename_i n hn;refine ai.args (eh.rd (fz .i64) hn eh.nil) ?_;cases hb:iF n with
   |false=>exact ai.pure rfl rfl ((Ks n).mono (fun v r hv=>ID hb hv) fun _ _ h=>h) (h.1 hb)
   |true=>
    refine ai.Pc (F:=fun j=> .tp [.lp j 0,.ci .i64 0]) rfl ?_ (h.2 hb)
    refine ai.shut (Ks n) fun v r hv=>?_
    obtain⟨j,r',_,h1,h2,h3⟩:=Fv hb hv;rcases h1 with rfl|h1
    ·exact .inl ⟨j,h2,h3⟩
    ·exact .inr ⟨j,r',h1,j,h2,h3⟩
  ·exact h.elim
 ·exact h.elim
theorem QP (i:Int) (o:Sx.Obj):
 ((!decide (cR [] i=0))=true->cR [] i=eU [] i o)/\((!decide (cR [] i=0))=false->False):=by
 refine⟨fun _=>?_,fun h=>by simp[qY]at h⟩
 rw[F5,qY]
theorem QQ (i:Int) (o:Sx.Obj):ai Tryz.prog 41 [lh,.it .i64 i,.ob o] [] (mG (.it .i64 (eU [] i o))) (fun _ _=>False):=aV (inl:=bn) (ann:=aP) (ab yn (ab AJ ak)) (QP i o) (by kernel_rfl)
theorem OE (L:List Sx.Obj) (i:Int) (o:Sx.Obj):
 ((!decide (cR L i=0))=true->cR L i=eU L i o/\L=cW L i o)/\
   ((!decide (cR L i=0))=false->
     ((!decide (cG o (b9 (aj L))=0))=true->cG o (b9 (aj L))=eU L i o/\L=cW L i o)/\
       ((!decide (cG o (b9 (aj L))=0))=false->
         (0<=i/\i< ↑(aj L))/\i.toNat<aj L/\0=eU L i o/\cC L i.toNat o=cW L i o)):=by
 refine⟨fun h=>?_,fun h=>⟨fun h2=>?_,fun h2=>?_⟩⟩
 ·obtain⟨a,b⟩:=OV (o:=o) (show cR L i≠0 by simpa using h)
  rw[a,b];exact⟨rfl,rfl⟩
 ·obtain⟨a,b⟩:=UC (o:=o) (show cR L i=0 by simpa using h) (show cG o (aj L:Int)≠0 by unfold b9 at h2;simpa using h2)
  rw[a,b];exact⟨rfl,rfl⟩
 ·have h:=(show cR L i=0 by simpa using h)
  have hb:=kx.1 h;obtain⟨a,b⟩:=tt (o:=o) h (show cG o (aj L:Int)=0 by unfold b9 at h2;simpa using h2)
  rw[a,b];exact⟨hb,by unfold aj;omega,rfl,rfl⟩
theorem PX (L:List Sx.Obj) (i:Int) (o:Sx.Obj):ai Tryz.prog 41 [.lp 0 0,.it .i64 i,.ob o] [.blk tS (.ag [.sa 1]),.obs eS 2 L,.gen 1] (WJ (.it .i64 (eU L i o)) (cW L i o)) (fun _ _=>False):=aV (inl:=bn) (ann:=aP) (ab yn (ab AJ ak)) (OE L i o) (by kernel_rfl)
theorem Rk (i:Int) (o:Sx.Obj):
 ((!decide (cR [] i=0))=true->cR [] i=eU [] i o)/\
   ((!decide (cR [] i=0))=false->
     ((!decide (cG o 0=0))=true->cG o 0=eU [] i o)/\((!decide (cG o 0=0))=false->False)):=by
 refine⟨fun _=>?_,fun h=>by simp[qY]at h⟩
 rw[F5,qY]
theorem Qs (i:Int) (o:Sx.Obj):ai Tryz.prog 41 [.lp 0 0,.it .i64 i,.ob o] [.ro (.blk tS (.ag [.nl (.slice none 0 0)]))] (mG (.it .i64 (eU [] i o))) (fun _ _=>False):=aV (inl:=bn) (ann:=aP) (ab yn (ab AJ ak)) (Rk i o) (by kernel_rfl)
theorem dO:lG Tryz.prog 41 R7:=by
 intro args res K KP h;unfold R7 at h;split at h
 ·split at h
  ·rename_i i hi;split at h
   ·rename_i o ho;refine ai.args (eh.iZ (eh.rd (fz .i64) hi (eh.rd xR ho eh.nil))) ?_;split at h
    ·split at h
     ·exact ai.pure rfl rfl ((QQ i o).mono (fun _ _ h=>du h) fun _ _ h=>h) h
     ·exact h.elim
    ·split at h
     ·rename_i hoff;have hoff:=Yq.1 hoff;subst hoff;split at h
      ·rename_i hr;split at h
       ·rename_i hc;simp only[Yo,Yq]at hc;obtain⟨rfl,rfl⟩:=hc;exact XN hr rfl rfl (fun _ _=>PX _ i o) h
       ·exact h.elim
      ·rename_i hr;split at h
       ·rename_i hc;simp only[Yo,Yq]at hc;obtain⟨rfl,hz⟩:=hc;have:=yd hz;subst this;refine ai.JA (r0:= .blk tS (.ag [.nl (.slice none 0 0)])) (by unfold dc;rw[hr]) (by simp) (fun κ=>rfl) rfl rfl ((Qs i o).mono (fun _ _ h=>du h) fun _ _ h=>h) h
       ·exact h.elim
      ·exact h.elim
     ·exact h.elim
    ·exact h.elim
   ·exact h.elim
  ·exact h.elim
 ·exact h.elim
theorem NF (l:List Sx.Obj) (hl:l.length<=9223372036854775807):
 ((decide (b9 (aj l)<1)||decide (64<b9 (aj l)))=true->false=fb l)/\
   ((decide (b9 (aj l)<1)||decide (64<b9 (aj l)))=false->
     (∃g,qz l g/\false=false/\0=g/\l=l)/\
      ∀(g:Int),
       qz l g->
        (decide (g<b9 (aj l))=true->
          (0<=g/\g< ↑(aj l))/\
           g.toNat<aj l/\
            ((!decide (cG (ah l g.toNat free) (b9 (aj l))=0))=true->false=fb l)/\
              ((!decide (cG (ah l g.toNat free) (b9 (aj l))=0))=false->
                aG IntKind.i64 (g+1)/\
                 ∃g',
                  qz l g'/\
                   (b9 (aj l)-g').toNat<(b9 (aj l)-g).toNat/\
                    false=false/\g+1=g'/\l=l))/\
         (decide (g<b9 (aj l))=false->true=fb l)):=by
 refine⟨fun h=>?_,fun h=>⟨⟨0,⟨by omega,by omega,fun j hj=>by omega⟩,rfl,rfl,rfl⟩,fun g hg=>⟨fun hlt=>?_,fun hge=>?_⟩⟩⟩
 ·simp only[Bool.or_eq_true,Yp]at h;simp only[gu]at h;exact(s7 fun hh=>by have h1:=hh.1;have h2:=hh.2.1;omega).symm
 ·obtain⟨g0,g1,g2⟩:=hg;have hlt:=Ys hlt;unfold b9 at *;refine⟨⟨g0,hlt⟩,by omega,fun hb=>(s7 fun hh=>?_).symm,fun hb=>⟨?_,g+1,⟨by omega,by omega,fun j hj=>?_⟩,by omega,rfl,rfl,rfl⟩⟩
  ·have:=hh.2.2 g.toNat (by unfold aj at hlt;omega)
   unfold cG aj at hb;rw[this]at hb;simp at hb
  ·simp only[aG,bY];unfold aj at *;omega
  ·by_cases e:(j:Int)<g
   ·exact g2 j e
   ·have:j=g.toNat:=by omega
    subst this;rcases r8 (ah l g.toNat free) (aj l:Int)with⟨h1,h2⟩|⟨h1,h2⟩
    ·exact h2
    ·rw[h1]at hb;simp at hb
 ·obtain⟨g0,g1,g2⟩:=hg;have hge:=Yr hge;have hle:=lk l;simp only[Bool.or_eq_false_iff,decide_eq_false_iff_not]at h;simp only[gu]at h hge;exact(fj.2 ⟨by omega,by omega,fun i hi=>g2 i (by omega)⟩).symm
theorem NA:ck Tryz.prog 25 Qb:=TG (fun _=>rfl) fun l _ hl=>aV (inl:=bn) (ann:=(iz [(25,4,Ra [0,2] (fun g=> [(3,.it .i64 g)]) (qz l) (b9 (aj l)))])) (ab JK ak) (NF l hl) (by kernel_rfl)
theorem Ep (l:List Sx.Obj) (k:Key) (hl:l.length<=9223372036854775807):
 ((decide (0<=aY k)&&decide (aY k<b9 (aj l)))=true->aG IntKind.i64 (b9 (aj l)-1))/\
   ((decide (0<=aY k)&&decide (aY k<b9 (aj l)))=true->
     0<=kL (aY k) (b9 (aj l)-1)/\kL (aY k) (b9 (aj l)-1)< ↑(aj l))/\
     ((decide (0<=aY k)&&decide (aY k<b9 (aj l)))=true->
       (kL (aY k) (b9 (aj l)-1)).toNat<aj l)/\
       (decide (0<=aY k)&&decide (aY k<b9 (aj l))&&
         ca k (ah l (kL (aY k) (b9 (aj l)-1)).toNat free))=
        aU l k:=by
 exact Cv l k hl
theorem mw:ck Tryz.prog 109 GZ:=FN fy (fun _ _=>rfl) (fun l k _ hl _=>aV (inl:=bn) (ann:=aP) (ab l0 (ab EV ak)) (Ep l k hl) (by kernel_rfl)) fun _=>rfl
theorem Wd (l:List Sx.Obj) (hl:l.length<=9223372036854775807):
 true=true/\
  (iF (b9 (aj l))=false->fb l=false/\True)/\
   (iF (b9 (aj l))=true->
    (∃g,
      qz l g/\
       Value.pointer none=Value.pointer none/\
        b9 (aj l)=b9 (aj l)/\0=g/\l=l/\ib (b9 (aj l))=js l g)/\
     ∀(g:Int),
      qz l g->
       (decide (g<b9 (aj l))=true->
         (0<=g/\g< ↑(aj l))/\
          g.toNat<aj l/\
           true=true/\
            ((!decide (eU (js l g) g (ah l g.toNat free)=0))=true->
              fb l=false/\eU (js l g) g (ah l g.toNat free)=2)/\
              ((!decide (eU (js l g) g (ah l g.toNat free)=0))=false->
                aG IntKind.i64 (g+1)/\
                 ∃g',
                  qz l g'/\
                   (b9 (aj l)-g').toNat<(b9 (aj l)-g).toNat/\
                    Value.pointer none=Value.pointer none/\
                     b9 (aj l)=b9 (aj l)/\
                      g+1=g'/\l=l/\cW (js l g) g (ah l g.toNat free)=js l g'))/\
        (decide (g<b9 (aj l))=false->fb l=true/\True/\js l g=l)):=by
 refine⟨rfl,fun h=>⟨s7 fun hh=>?_,trivial⟩,fun h=>⟨⟨0,⟨by omega,by omega,fun j hj=>by omega⟩,rfl,rfl,rfl,rfl,JB⟩,fun g hg=>⟨fun hlt=>?_,fun hge=>?_⟩⟩⟩
 ·have:iF (b9 (aj l))=true:=qX.2 (by unfold b9 aj;omega)
  rw[this]at h;simp at h
 ·obtain⟨g0,g1,g2⟩:=hg;have hlt:=Ys hlt;have h:=qX.1 h;have hle:=lk l;simp only[gu]at *;rw[Sv g0 hlt];refine⟨⟨g0,hlt⟩,by omega,trivial,fun hb=>⟨s7 fun hh=>?_,?_⟩,fun hb=>⟨?_,g+1,⟨by omega,by omega,fun j hj=>?_⟩,by omega,trivial,trivial,rfl,trivial,OH g0 hlt (by simpa using hb)⟩⟩
  ·have:=hh.2.2 g.toNat (by omega)
   unfold cG at hb;rw[this]at hb;simp at hb
  ·rcases r8 (ah l g.toNat free) (l.length:Int)with⟨h1,h2⟩|⟨h1,h2⟩
   ·rw[h1]at hb;simp at hb
   ·exact h1
  ·simp only[aG,bY];omega
  ·by_cases e:(j:Int)<g
   ·exact g2 j e
   ·have:j=g.toNat:=by omega
    subst this;rcases r8 (ah l g.toNat free) (l.length:Int)with⟨h1,h2⟩|⟨h1,h2⟩
    ·exact h2
    ·rw[h1]at hb;simp at hb
 ·obtain⟨g0,g1,g2⟩:=hg;have hge:=Yr hge;have h:=qX.1 h;have hle:=lk l;simp only[gu]at *;exact⟨fj.2 ⟨by omega,by omega,fun i hi=>g2 i (by omega)⟩,trivial,OL (by omega)⟩
theorem RQ (l:List Sx.Obj) (own:Option Nat):ai Tryz.prog 26 [.sa 0] [.ro (.arr own 163 (.ob l))] (W7 l) (fun _ _=>False):=
 ai.Wn (ai.DB (k:=0) rfl fun _ hl=>(bp (inl:=bn) (ann:=(iz [(26,5,UP [0,2,3,4,5,18,19] (fun g=> [(20,.it .i64 g)]) 1 (fun g=> .store tS eS (js l g)) (qz l) (b9 (aj l)))])) ak (aD Nf (aD dO aC)) (Wd l hl) (by kernel_rfl):ai Tryz.prog 26 [.sa 0] [.ro (.arr none 163 (.ob l))] (W7 l) (fun _ _=>False)))
theorem VW:lG Tryz.prog 26 VF:=by
 intro args res K KP h;unfold VF at h;split at h
 ·split at h
  ·split at h
   ·rename_i hr;split at h
    ·rename_i he;have he:=Yq.1 he;subst he;split at h
     ·rename_i l;cases hb:fb l with
      |false=>exact ai.VZ hr rfl rfl ((RQ l _).mono (fun v r hv=>ID hb (Fo hv).1) fun _ _ h=>h) (h.1 hb)
      |true=>
       refine ai.LO (F:=fun j=> .tp [.lp j 0,.ci .i64 0]) hr rfl ?_ (h.2 hb)
       refine ai.shut (RQ l _) fun v r hv=>?_
       obtain⟨hv,h0⟩:=Fo hv;obtain⟨j,r',hs,h1,h2,h3⟩:=Fv hb hv
       have hj:1<=j:=by
        rcases Nat.eq_zero_or_pos j with rfl|hj
        ·rw[h0]at hs;simp at hs
        ·exact hj
       rcases h1 with rfl|h1
       ·exact .inl ⟨j,hj,h2,h3⟩
       ·exact .inr ⟨j,r',h1,j,hj,h2,h3⟩
     ·exact h.elim
    ·exact h.elim
   ·exact h.elim
  ·exact h.elim
 ·exact h.elim
end Go.Proofs.YtghpaegglbbocaaGreat
namespace Go.Sx
def fY (r b:Int):Bool:=decide ((r.tdiv b).tmod 2=1)
def fQ (r m g:Int):Int:=(if 2<=g/\(fY r 1||fY m 1)=true then 1 else 0)+(if 4<=g/\(fY r 2||fY m 2)=true then 2 else 0)+(if 8<=g/\(fY r 4||fY m 4)=true then 4 else 0)
def gx (r m:Int):Int:=fQ r m 8
def jT (g:Int):Prop:=g=1\/g=2\/g=4\/g=8
def cM (k:Key) (r:Int):Key:= {k with rights:=r}
def jP (k:Key):Key:=if k.kind=2 then cM k (gx k.rights 3)else if k.kind=3 then cM k 1 else if k.kind=1\/k.kind=8 then k else void
def gE (k:Key):Key:=if aT k then jP k else void
def Rp:Ct:=Q6 (rI .i64) (rI .i64) fun r m=> .it .i64 (gx r m)
def Ps:Ct:=NX rK fun k=> .key (jP k)
def IC:Ct:=NX rK fun k=> .tp [.key (gE k),.it .i64 (bD k)]
def ay (L:List Obj) (k:Key) (kind:Int) (c:Bool):Int:=if aj L=0 then 1 else if(!aU L k|| !decide (k.kind=kind))=true then 190 else if(c&& !decide (k.rights.tmod 4=0))=true then 191 else 0
def qP (k:Key):Bool:=decide ((k.rights.tdiv 2).tmod 2=1)
def iC (L:List Obj) (o:Obj) (k:Key) (i:Int):Key:=if qP k then jP (ae L (o.slots.at i.toNat))else ae L (o.slots.at i.toNat)
def cL (L:List Obj) (k:Key) (i:Int):Key:=iC L (ah L k.oid.toNat free) k i
def nr (k:Key) (i:Int):Prop:=0<=i/\i<16/\aT k=true
def nb (L:List Obj) (k:Key) (i:Int):Prop:=0<=i/\i<16/\0<=k.oid/\k.oid<(aj L:Int)
def jv (i:Int):Bool:=decide (0<=i)&&decide (i<16)
def bJ (L:List Obj) (k:Key) (i:Int):Int:=if ay L k 2 false=0 then(if jv i then 0 else 4)else ay L k 2 false
def aF (L:List Obj) (k:Key) (i:Int):Key:=if bJ L k i=0 then cL L k i else void
def cZ (L:List Obj) (v:Key):Bool:=aT v&&decide (aY v<(aj L:Int))
def bc (L:List Obj) (k:Key) (i:Int) (v:Key):Int:=if ay L k 2 true=0 then(if jv i then(if cZ L v then 0 else 2)else 4)else ay L k 2 true
def cA (L:List Obj) (k:Key) (i:Int) (v:Key):Key:=if bc L k i v=0 then cL L k i else void
def eo (o:Obj) (s:cQ):Obj:= {o with slots:=s}
def rQ (L:List Obj) (k:Key) (s:cQ):List Obj:=cC L k.oid.toNat (eo (ah L k.oid.toNat free) s)
def b7 (L:List Obj) (k:Key) (i:Int) (v:Key):List Obj:=if bc L k i v=0 then rQ L k ((ah L k.oid.toNat free).slots.put i.toNat (ae L v))else L
def eT (L:List Obj) (k:Key):List Obj:=if ay L k 2 true=0 then rQ L k fX else L
def bG (L:List Obj) (t f:Key):Int:=if ay L t 2 true=0 then ay L f 2 false else ay L t 2 true
def cX (L:List Obj) (t f:Key) (g:Int):cQ:=(List.range g.toNat).foldl (fun s (j:Nat)=>s.put j (cL L f (j:Int))) (ah L t.oid.toNat free).slots
def dZ (L:List Obj) (t f:Key):List Obj:=if bG L t f=0 then rQ L t (cX L t f 16)else L
def aq (L:List Obj):Prop:=fb L=true
def km (g:Int):Prop:=0<=g/\g<=16
def kA:Arg Key:=EY rK V.key
def iA:Arg Int:=EY (rI .i64) (V.it .i64)
def bA:Arg Bool:=EY toBool V.bo
def oA:Arg Obj:=EY rO V.ob
def sA:Arg (Option (List Obj)):=WI tS eS
def Ei (o:Option (List Obj)):List Obj:=match o with
 |none=> []
 |some L=>L
def nB:lA (Obj×Option (List Obj)×Key×Unit):=bk oA (bk sA (bk kA iv))
def Ty:Ct:=sF (bk (W6 nB) (bk iA iv)) (fun x=>some (nr x.1.2.2.1 x.2.1)) fun x=> .key (iC (Ei x.1.2.1) x.1.1 x.1.2.2.1 x.2.1)
def O9:Ct:=sF (bk Bq (bk kA (bk iA (bk bA iv)))) (fun _=>none) fun x=> .it .i64 (ay x.1 x.2.1 x.2.2.1 x.2.2.2.1)
def T4:Ct:=sF (bk Bq (bk kA (bk iA iv))) (fun x=>some (nb x.1 x.2.1 x.2.2.1)) fun x=> .key (cL x.1 x.2.1 x.2.2.1)
def VO:Ct:=sF (bk Bq (bk kA iv)) (fun _=>none) fun x=> .bo (cZ x.1 x.2.1)
def TO:Ct:=sF (bk sA (bk kA (bk iA iv))) (fun _=>none) fun x=> .tp [.key (aF (Ei x.1) x.2.1 x.2.2.1),.it .i64 (bJ (Ei x.1) x.2.1 x.2.2.1)]
def dS (L:List Obj) (i:Int):Prop:=0<=i/\i<(aj L:Int)/\aj L<=1000
def tO:Nat:=48
def TR:Ct:=SJ (bk Bq (bk iA (bk oA iv))) (fun x=>some (dS x.1 x.2.1)) (fun _ n=> .sa n) fun x _=> [.arr (some tO) 163 (.ob (cC x.1 (oZ x.2.1) x.2.2.1))]
theorem sT {r g:Int} (hr:bY .i64 r) (hg:g=1\/g=2\/g=4\/g=8):bY .i64 (r.tdiv g):=by
 simp only[bY]at *;rcases Int.le_total 0 r with h|h
 ·rw[Int.tdiv_eq_ediv_of_nonneg h];rcases hg with rfl|rfl|rfl|rfl<;>omega
 ·obtain⟨s,rfl⟩:∃s,r= -s:=⟨-r,by omega⟩
  rw[Int.neg_tdiv,Int.tdiv_eq_ediv_of_nonneg (by omega)]
  rcases hg with rfl|rfl|rfl|rfl<;>omega
theorem nV (x:Int):bY .i64 (x.tmod 2):=by
 have h1:=Int.tmod_lt_of_pos x (show(0:Int)<2 by omega)
 have h2:=Int.lt_tmod_of_pos x (show(0:Int)<2 by omega)
 simp only[bY];omega
theorem CZ {r m g:Int}:0<=fQ r m g/\fQ r m g<=7:=by
 unfold fQ;repeat' split
 all_goals omega
theorem Iv {r:Int} (h0:0<=r) (h1:r<=7):bd .or .i64 r 3=gx r 3:=by
 have:r=0\/r=1\/r=2\/r=3\/r=4\/r=5\/r=6\/r=7:=by omega
 rcases this with rfl|rfl|rfl|rfl|rfl|rfl|rfl|rfl<;>decide
theorem Dg {r:Int} (h0:0<=r) (h1:r<=1):bd .or .i64 r 1=1:=by
 have:r=0\/r=1:=by omega
 rcases this with rfl|rfl<;>decide
theorem g8 {k:Key} (h:aT k=true):0<=k.rights/\k.rights<=eP k.kind:=by
 simp only[aT,Yo,Yp]at h;omega
theorem o9:aT void=true:=by decide
theorem oN (L:List Obj) (k:Key):aT (ae L k)=true:=by
 unfold ae;split
 ·exact o9
 ·rename_i h;simp only[Bool.or_eq_true,not_or,Bool.not_eq_true,Bool.not_eq_false']at h;exact h.1.2
theorem Cj (L:List Obj) (k:Key):gE (ae L k)=jP (ae L k):=by unfold gE;rw[oN,Yv rfl]
theorem Xo {r:Int} (h0:0<=r) (h1:r<=7):decide (bd .and .i64 r 2=0)= !decide ((r.tdiv 2).tmod 2=1):=by
 have:r=0\/r=1\/r=2\/r=3\/r=4\/r=5\/r=6\/r=7:=by omega
 rcases this with rfl|rfl|rfl|rfl|rfl|rfl|rfl|rfl<;>decide
theorem Ow {r:Int} (h0:0<=r) (h1:r<=7):decide (bd .and .i64 r 3=0)=decide (r.tmod 4=0):=by
 have:r=0\/r=1\/r=2\/r=3\/r=4\/r=5\/r=6\/r=7:=by omega
 rcases this with rfl|rfl|rfl|rfl|rfl|rfl|rfl|rfl<;>decide
theorem QV (n:Int):eP n<=7:=by unfold eP;split<;>(try split)<;>omega
theorem nQ {k:Key} (h:aT k=true):0<=k.rights/\k.rights<=7:=by
 have:=g8 h;have:=QV k.kind;omega
theorem dC {L:List Obj} {k:Key} (h:aU L k=true):aT k=true/\0<=k.oid/\k.oid<(L.length:Int)/\aa L k=ah L k.oid.toNat free/\(ah L k.oid.toNat free).kind=fP k:=by
 have h':=h;unfold aU at h;simp only[Yo,Yp]at h;obtain⟨⟨h1,h2⟩,h3⟩:=h;have hb:=kx.1 h2;have hn:0<=aY k:=(xm h').1;simp only[ca,Yo,Bool.or_eq_true,Yp]at h3;refine⟨h3.1,hb.1,hb.2,by unfold aa;rw[h',Yv rfl],?_⟩
 rcases h3.2 with h|h
 ·omega
 ·exact h.1.1
theorem E7 {L:List Obj} {o:Obj} {k:Key} {i:Int} (hq:nr k i):(0<=i/\i< ↑16)/\
  ((!decide (bd BinOp.and IntKind.i64 k.rights 2=0))=true->gE (ae L (o.slots.at i.toNat))=iC L o k i)/\
    ((!decide (bd BinOp.and IntKind.i64 k.rights 2=0))=false->ae L (o.slots.at i.toNat)=iC L o k i):=by
 obtain⟨h0,h1,h2⟩:=hq;have hr:=nQ h2;rw[Xo hr.1 hr.2,Cj];unfold iC qP;refine⟨⟨h0,by omega⟩,fun h=>?_,fun h=>?_⟩
 ·rw[Yv (by simpa using h)]
 ·rw[Yu (by simpa using h)]
theorem fH {L:List Obj} {k:Key} {d:Int} {c:Bool} (h:ay L k d c=0):aU L k=true/\k.kind=d/\(c=true->k.rights.tmod 4=0):=by
 unfold ay at h;split at h
 ·omega
 ·split at h
  ·omega
  ·rename_i h2;simp only[Bool.or_eq_true,Bool.not_eq_true',decide_eq_false_iff_not,not_or,Bool.not_eq_false,Decidable.not_not]at h2;split at h
   ·omega
   ·rename_i h3;refine⟨h2.1,h2.2,fun hc=>?_⟩
    simpa[hc]using h3
theorem gR:oq kA:=tT fy (fun _=>rfl) fun v x h=>U5 h
theorem RM:oq oA:=tT xR (fun _=>rfl) fun v x h=>by cases v<;>simp[rO]at h;rfl
theorem E3:oq bA:=tT Lk (fun _=>rfl) fun v x h=>by cases v<;>simp[toBool]at h<;>rfl
theorem ft:oq iA:=tT (fz .i64) (fun _=>rfl) fun v x h=>by cases v<;>simp[rI,toInt]at h<;>rfl
theorem tR:oq sA:=TS _ _
theorem WD:iy nB:=aJ RM (aJ tR (aJ gR cF))
def B8 (x:V) (M:List Obj) (v:V) (r:List aI):Prop:=
 match az r 0 with
 | .store t e L=>if t==tS&&e==eS then mG x v r/\L=M else False
 |_=>False
theorem FM {x:V} {M:List Obj} {v:V} {r:List aI} (h:B8 x M v r):yW x v r/\az r 0= .store tS eS M:=by
 unfold B8 at h;split at h
 ·rename_i hr;split at h
  ·rename_i hc;simp only[Yo,Yq]at hc;obtain⟨rfl,rfl⟩:=hc;obtain⟨h1,rfl⟩:=h;exact⟨du h1,hr⟩
  ·exact h.elim
 ·exact h.elim
def G0 {α:Type} (B:List V->Option α) (Q:List Obj->α->Prop) (F:List Obj->α->V) (M:List Obj->α->List Obj):kJ:=fun args res K=>
 match args with
 |a::l=>match B l with
  |some x=>match a with
   | .nl v=>match v with
     | .pointer none=>K (F [] x) res
     |_=>False
   | .lp k off=>if off==0 then match az res k with
     | .store t e L=>if t==tS&&e==eS then Q L x/\K (F L x) (cc res k (.store tS eS (M L x)))else False
     | .blk t c=>if t==tS&&Ww c then K (F [] x) res else False
     |_=>False
     else False
   |_=>False
  |none=>False
 |_=>False
def WW:V:= .ag [.nl (.slice none 0 0)]
theorem mg {P:Program} {f:Nat} {α:Type} {B:List V->Option α} {m:α->List V} {Q:List Obj->α->Prop} {F:List Obj->α->V} {M:List Obj->α->List Obj} (hB:∀l x,B l=some x->eh l (m x)) (hid:∀x,kK (m x)=true) (hF:∀L x,j6 (F L x)=true)
  (h0:∀x,ai P f (lh::m x) [] (mG (F [] x)) (fun _ _=>False)) (hz:∀x,ai P f (.lp 0 0::m x) [.ro (.blk tS WW)] (mG (F [] x)) (fun _ _=>False))
  (h1:∀L x,Q L x->(∀o∈L,o.wf)->L.length<=9223372036854775807->ai P f (.lp 0 0::m x) [.store tS eS L] (B8 (F L x) (M L x)) (fun _ _=>False)):lG P f (G0 B Q F M):=by
 intro args res K KP h;unfold G0 at h;split at h
 case h_2=>exact h.elim
 split at h
 case h_2=>exact h.elim
 rename_i x hx;refine ai.args (eh.iZ (hB _ _ hx)) ?_;split at h
 ·split at h
  ·exact ai.pure (by simp only[kK,j6,Bool.true_and];exact hid x) (hF _ _) ((h0 x).mono (fun _ _ h=>du h) fun _ _ h=>h) h
  ·exact h.elim
 ·split at h
  ·rename_i hoff;have hoff:=Yq.1 hoff;subst hoff;split at h
   ·rename_i hr;split at h
    ·rename_i hc;simp only[Yo,Yq]at hc;obtain⟨rfl,rfl⟩:=hc;refine ai.Bd hr (hid x) (hF _ _) (ai.fact (k:=0) rfl fun w1 w2=>(h1 _ x h.1 w1 w2).mono (fun v r hv=>FM hv |> fun⟨a,b⟩=>⟨fun J K=>a J K,b⟩) fun _ _ h=>h) h.2
    ·exact h.elim
   ·rename_i hr;split at h
    ·rename_i hc;simp only[Yo,Yq]at hc;obtain⟨rfl,hz'⟩:=hc;have:=yd hz';subst this;exact ai.JA (r0:= .blk tS WW) (by unfold dc;rw[hr];rfl) (by simp) (fun κ=>rfl) (hid x) (hF _ _) ((hz x).mono (fun _ _ h=>du h) fun _ _ h=>h) h
    ·exact h.elim
   ·exact h.elim
  ·exact h.elim
 ·exact h.elim
def WU (l:List V):Option Key:=match l with
 | [a]=>rK a
 |_=>none
def QY (l:List V):Option (Key×Key):=match l with
 | [a,b]=>match rK a with
   |some k=>match rK b with
    |some k'=>some (k,k')
    |none=>none
   |none=>none
 |_=>none
def Jd (l:List V):Option (Key×Int×Key):=match l with
 | [a,b,c]=>match rK a with
   |some k=>match rI .i64 b with
    |some i=>match rK c with
     |some k'=>some (k,i,k')
     |none=>none
    |none=>none
   |none=>none
 |_=>none
theorem K5:∀l x,WU l=some x->eh l [.key x]:=fun l x h=>by
 unfold WU at h;split at h
 ·exact eh.rd fy h eh.nil
 ·simp at h
theorem FW:∀l x,QY l=some x->eh l [.key x.1,.key x.2]:=fun l x h=>by
 unfold QY at h;split at h
 ·split at h
  ·rename_i h1;split at h<;>simp only[Ym,reduceCtorEq]at h
   rename_i h2;subst h;exact eh.rd fy h1 (eh.rd fy h2 eh.nil)
  ·simp at h
 ·simp at h
theorem Kr:∀l x,Jd l=some x->eh l [.key x.1,.it .i64 x.2.1,.key x.2.2]:=fun l x h=>by
 unfold Jd at h;split at h
 ·split at h
  ·rename_i h1;split at h
   ·rename_i h2;split at h<;>simp only[Ym,reduceCtorEq]at h
    rename_i h3;subst h;exact eh.rd fy h1 (eh.rd (fz .i64) h2 (eh.rd fy h3 eh.nil))
   ·simp at h
  ·simp at h
 ·simp at h
def tK:Nat:=25
def nA (g:Int):Nat:=(16-g).toNat
def Up:kJ:=G0 Jd (fun L _=>aq L) (fun L x=> .tp [.key (cA L x.1 x.2.1 x.2.2),.it .i64 (bc L x.1 x.2.1 x.2.2)]) fun L x=>b7 L x.1 x.2.1 x.2.2
def S0:kJ:=G0 WU (fun L _=>aq L) (fun L x=> .it .i64 (ay L x 2 true)) fun L x=>eT L x
def UL:kJ:=G0 QY (fun L _=>aq L) (fun L x=> .it .i64 (bG L x.1 x.2)) fun L x=>dZ L x.1 x.2
theorem K6 {L:List Obj} {k:Key} {d:Int} {c:Bool} (h:(!decide (0<an L))=true):ay L k d c=1:=by
 unfold ay;unfold an at h;rw[Yv (by simp at h;omega)]
theorem HI {L:List Obj} {k:Key} {d:Int} {c:Bool} (h:(!decide (0<an L))=false) (h2:(!(aU L k&&decide (k.kind=d)))=true):ay L k d c=190:=by
 unfold ay;unfold an at h;rw[Yu (by simp at h;omega),Yv (by simpa using h2)]
theorem mi {L:List Obj} {k:Key} {d:Int} (h2:(!(aU L k&&decide (k.kind=d)))=false):aU L k=true/\k.kind=d:=by simpa using h2
theorem Tu {L:List Obj} {k:Key} {d:Int} (h:(!decide (0<an L))=false) (h2:(!(aU L k&&decide (k.kind=d)))=false) (h3:(!decide (bd BinOp.and IntKind.i64 k.rights 3=0))=true):ay L k d true=191:=by
 have hr:=nQ (dC (mi h2).1).1;rw[Ow hr.1 hr.2]at h3;unfold ay;unfold an at h;rw[Yu (by simp at h;omega),Yu (by simpa using h2),Yv (by simpa using h3)]
theorem GM {L:List Obj} {k:Key} {d:Int} (h:(!decide (0<an L))=false) (h2:(!(aU L k&&decide (k.kind=d)))=false) (h3:(!decide (bd BinOp.and IntKind.i64 k.rights 3=0))=false):ay L k d true=0:=by
 have hr:=nQ (dC (mi h2).1).1;rw[Ow hr.1 hr.2]at h3;unfold ay;unfold an at h;rw[Yu (by simp at h;omega),Yu (by simpa using h2),Yu (by simpa using h3)]
theorem Fg {L:List Obj} {k:Key} {d:Int} (h:(!decide (0<an L))=false) (h2:(!(aU L k&&decide (k.kind=d)))=false):ay L k d false=0:=by
 unfold ay;unfold an at h;rw[Yu (by simp at h;omega),Yu (by simpa using h2),Yu (by simp)]
def fL (n:Int) (k:Key):Prop:=aT k=true/\aY k<n
theorem KM {n:Int} {k:Key}:h9 1 n k=true↔fL n k:=by simp[h9,fL]
theorem Ih (r:Int):0<=gx r 3/\gx r 3<=7:=CZ
theorem LL {n:Int} (hn:0<=n) {k:Key} (h:fL n k):fL n (jP k):=by
 obtain⟨h1,h2⟩:=h;have hv:fL n void:=⟨o9,by have:=pb.2;omega⟩
 unfold jP;split
 ·rename_i e;have hw:=Ih k.rights
  have h1':aT (cM k (gx k.rights 3))=true:=by
   simp only[aT,cM,e,Yo,Yp]at h1⊢;have:eP 2=7:=rfl;grind
  refine⟨h1',?_⟩;unfold aY at h2⊢;rw[h1'];rw[h1]at h2;exact h2
 ·split
  ·rename_i e
   have h1':aT (cM k 1)=true:=by
    simp only[aT,cM,e,Yo,Yp]at h1⊢;have:eP 3=1:=rfl;grind
   refine⟨h1',?_⟩;unfold aY at h2⊢;rw[h1'];rw[h1]at h2;exact h2
  ·split
   ·exact⟨h1,h2⟩
   ·exact hv
theorem xc {L:List Obj} (hL:0<L.length) (k:Key):fL (L.length:Int) (ae L k):=by
 have hv:fL (L.length:Int) void:=⟨o9,by have:=pb.2;omega⟩
 unfold ae;split
 ·exact hv
 ·rename_i h;simp only[Bool.or_eq_true,not_or,Bool.not_eq_true,Bool.not_eq_false',Bool.and_eq_false_imp]at h;refine⟨h.1.2,?_⟩;rcases jW k with⟨a,b,c⟩|⟨a,b⟩
  ·rw[b];exact(dC (h.2 a)).2.2.1
  ·omega
theorem Pe {L:List Obj} (hL:0<L.length) (k:Key) (i:Int):fL (L.length:Int) (cL L k i):=by
 unfold cL iC;split
 ·exact LL (by omega) (xc hL _)
 ·exact xc hL _
theorem AY {o:Obj} {n:Int} {s:cQ} (h:bT o n=true) (hk:o.kind=1) (hs:∀i,i<16->fL n (s.at i)):bT (eo o s) n=true:=by
 rw[fg]at h⊢;simp only[eo];obtain⟨a1,a2,a3,a4,a5,a6,a7,a8,a9,a10,a11⟩:=h;exact⟨a1,a2,a3,a4,a5,a6,a7,a8,a9,fun i hi=>by rw[hk];exact KM.2 (hs i hi),fun i hi=> .inl (.inl hk)⟩
theorem zE {L:List Obj} {k:Key} (h:aU L k=true) (h2:k.kind=2):(ah L k.oid.toNat free).kind=1:=by
 rw[(dC h).2.2.2.2];unfold fP;rw[Yu (by have:=(xm h).1;omega),Yu (by omega)]
theorem sk {L:List Obj} {k:Key} (hL:aq L) (h:aU L k=true) (h2:k.kind=2):∀i,i<16->fL (L.length:Int) ((ah L k.oid.toNat free).slots.at i):=fun i hi=>by
 obtain⟨_,b2,b3,_⟩:=dC h;have:=(fj.1 hL).2.2 k.oid.toNat (by omega)
 have:=(fg.1 this).2.2.2.2.2.2.2.2.2.1 i hi;rw[zE h h2]at this;exact KM.1 this
theorem nY {L:List Obj} {k:Key} {s:cQ} (hL:aq L) (h:aU L k=true) (h2:k.kind=2) (hs:∀i,i<16->fL (L.length:Int) (s.at i)):cW L k.oid (eo (aa L k) s)=rQ L k s/\aq (rQ L k s):=by
 obtain⟨b1,b2,b3,b4,_⟩:=dC h;have hr:=fj.1 hL;have ho:=AY (hr.2.2 k.oid.toNat (by omega)) (zE h h2) hs
 refine⟨?_,?_⟩
 ·rw[b4];exact(tt (kx.2 ⟨b2,b3⟩) (qu ho).symm).2
 ·refine fj.2 ?_;unfold rQ;have hl:(cC L k.oid.toNat (eo (ah L k.oid.toNat free) s)).length=L.length:=by simp[cC]
  rw[hl];refine⟨hr.1,hr.2.1,fun i hi=>?_⟩
  by_cases e:i=k.oid.toNat
  ·subst e;rw[show ah (cC L k.oid.toNat (eo (ah L k.oid.toNat free) s)) k.oid.toNat free=eo (ah L k.oid.toNat free) s by simp[ah,cC,Yt,hi]]
   exact ho
  ·rw[show ah (cC L k.oid.toNat (eo (ah L k.oid.toNat free) s)) i free=ah L i free by simp[ah,cC,Yt,List.getElem?_set,Ne.symm e]]
   exact hr.2.2 i hi
theorem C1 {L:List Obj} {k:Key} {i:Int} {v:Key} (hL:aq L) (h:aU L k=true) (h2:k.kind=2) (h0:0<=i) (h1:i<16):∀j,j<16->fL (L.length:Int) (((ah L k.oid.toNat free).slots.put i.toNat (ae L v)).at j):=fun j hj=>by
 rw[cQ.gL _ _ _ _ (by omega)]
 split
 ·exact xc (fj.1 hL).1 v
 ·exact sk hL h h2 j hj
theorem Gy {n:Int} (hn:0<=n):∀j,j<16->fL n (fX.at j):=fun j hj=>by
 rw[Fz.1 rfl j hj];exact⟨o9,by have:=pb.2;omega⟩
theorem A2 (L:List Obj) (v:Key):(decide (bD v=0)&&(!bg v||decide (cS v<an L)))=cZ L v:=by
 unfold cZ bD cS an;rcases jW v with⟨a,b,c⟩|⟨a,b⟩
 ·rw[a,b];cases aT v<;>simp
 ·rw[a,b];have:(-1:Int)<(aj L:Int):=by omega
  cases aT v<;>simp[this]
theorem zo {L:List Obj} {t f:Key} {g:Int} (h0:0<=g):cX L t f (g+1)=(cX L t f g).put g.toNat (cL L f g):=by
 unfold cX;rw[show(g+1).toNat=g.toNat+1 by omega,List.range_succ,List.foldl_append]
 simp only[List.foldl_cons,List.foldl_nil];rw[show((g.toNat:Nat):Int)=g by omega]
theorem Dq {L:List Obj} {t f:Key} (h:aa L t=ah L t.oid.toNat free):aa L t=eo (aa L t) (cX L t f 0):=by
 unfold cX eo;simp[h]
theorem Cm {L:List Obj} {t f:Key} {g:Int} (h0:0<=g) (h:aa L f=ah L f.oid.toNat free) (o:Obj) (s:cQ):({kind:=(eo o (cX L t f g)).kind,count:=(eo o (cX L t f g)).count,calls:=(eo o (cX L t f g)).calls,slots:=(eo o (cX L t f g)).slots.put g.toNat (iC L (aa L f) f g),bytes:=(eo o (cX L t f g)).bytes}:Obj)=eo o (cX L t f (g+1)):=by
 rw[zo h0];unfold cL;rw[h];rfl
theorem yU {L:List Obj} {t f:Key} (hL:aq L) (h:aU L t=true) (h2:t.kind=2):∀n:Nat,n<=16->∀j,j<16->fL (L.length:Int) ((cX L t f n).at j)
 |0,_,j,hj=>by
  unfold cX;exact sk hL h h2 j hj
 |n+1,hn,j,hj=>by
  rw[show((n+1:Nat):Int)=(n:Int)+1 by omega,zo (by omega),cQ.gL _ _ _ _ (by omega)]
  split
  ·exact Pe (fj.1 hL).1 _ _
  ·exact yU hL h h2 n (by omega) j hj
theorem zN {L M:List Obj} {g:Int} (hg:oE L M g) (hge:(aj L:Int)<=g):decide (g=b9 (aj M))=ev L M:=by
 have:=My hg hge
 have e:an L=g:=by
  have:=hg.2.1;unfold an;omega
 rw[decide_eq_true e,Bool.and_true]at this;exact this
structure V7 where
 kind:Int
 slot:Int
 key:Key
 other:Key
def fC (l:List Obj):Bool:=decide ((aj l:Int)<=20)&&fb l
def Ub:kJ:=UO (bk Bq iv) (fun _=>True) (fun x=>fC x.1) (fun _=>lh) (fun _ n=> .lp n 0) (fun x=> .store tS eS x.1)
def xy (L:List Obj) (a:V7):Bool:=
 if a.kind=1 then false else if a.kind=2 then decide (bc L a.key a.slot a.other=0)else if a.kind=3 then decide (ay L a.key 2 true=0)else if a.kind=4 then decide (bG L a.key a.other=0)else false
def E6 (L:List Obj) (a:V7):List Obj:=
 if a.kind=1 then L else if a.kind=2 then b7 L a.key a.slot a.other else if a.kind=3 then eT L a.key else if a.kind=4 then dZ L a.key a.other else L
def VJ (c:Bool) (L0 L1:List Obj) (v:V) (r:List aI):Prop:=
 match v with
 | .tp l=>match l with
   | [a,b]=>match a with
     | .sa p=>match az r 0 with
       | .store t e L=>if t==tS&&e==eS then
         if p==1 then mG (.bo true) b r/\c=false/\L=L0
         else if Nat.ble 2 p then match az r p with
          | .arr o z l=>match o with
            |some e'=>match l with
             | .ob M=>if e'==tO&&z==163 then mG (.bo true) b r/\c=true/\L=L1/\M=L1 else False
             |_=>False
            |none=>False
          |_=>False
         else False
         else False
       |_=>False
     |_=>False
   |_=>False
 |_=>False
theorem Jj {L:List Obj} {k:Key} {i:Int} (h:ay L k 2 false≠0):bJ L k i=ay L k 2 false/\aF L k i=void:=by
 have:bJ L k i=ay L k 2 false:=by unfold bJ;rw[Yu h]
 exact⟨this,by unfold aF;rw[this,Yu h]⟩
theorem Mz {L:List Obj} {k:Key} {i:Int} (h:ay L k 2 false=0) (hr:i<0\/15<i):bJ L k i=4/\aF L k i=void:=by
 have:bJ L k i=4:=by
  unfold bJ jv;rw[Yv h,Yu (by simp;omega)]
 exact⟨this,by unfold aF;rw[this];rfl⟩
theorem OZ {L:List Obj} {k:Key} {i:Int} (h:ay L k 2 false=0) (hr:¬(i<0\/15<i)):bJ L k i=0/\aF L k i=cL L k i:=by
 have:bJ L k i=0:=by
  unfold bJ jv;rw[Yv h,Yv (by simp;omega)]
 exact⟨this,by unfold aF;rw[this];rfl⟩
theorem Br {L:List Obj} {k:Key} {i:Int} {v:Key} {e:Int} (h:bc L k i v=e) (he:e≠0):bc L k i v=e/\cA L k i v=void/\b7 L k i v=L:=⟨h,by unfold cA;rw[h,Yu he],by unfold b7;rw[h,Yu he]⟩
theorem Ki {L:List Obj} {k:Key} {i:Int} {v:Key} (h:ay L k 2 true≠0):bc L k i v=ay L k 2 true/\cA L k i v=void/\b7 L k i v=L:=Br (by unfold bc;rw[Yu h]) h
theorem KA {L:List Obj} {k:Key} {i:Int} {v:Key} (h:ay L k 2 true=0) (hr:i<0\/15<i):bc L k i v=4/\cA L k i v=void/\b7 L k i v=L:=
 Br (by unfold bc jv;rw[Yv h,Yu (by simp;omega)]) (by omega)
theorem Kn {L:List Obj} {k:Key} {i:Int} {v:Key} (h:ay L k 2 true=0) (hr:¬(i<0\/15<i)) (hm:cZ L v=false):bc L k i v=2/\cA L k i v=void/\b7 L k i v=L:=
 Br (by unfold bc jv;rw[Yv h,Yv (by simp;omega),hm];rfl) (by omega)
theorem Pj {L:List Obj} {k:Key} {i:Int} {v:Key} (h:ay L k 2 true=0) (hr:¬(i<0\/15<i)) (hm:cZ L v=true):
  bc L k i v=0/\cA L k i v=cL L k i/\b7 L k i v=rQ L k ((ah L k.oid.toNat free).slots.put i.toNat (ae L v)):=by
 have:bc L k i v=0:=by unfold bc jv;rw[Yv h,Yv (by simp;omega),hm];rfl
 exact⟨this,by unfold cA;rw[this];rfl,by unfold b7;rw[this];rfl⟩
theorem uy {L:List Obj} {k:Key} (hL:aq L) (h:aU L k=true):dS L k.oid/\0<=k.oid/\k.oid<(aj L:Int)/\k.oid.toNat<aj L:=by
 obtain⟨_,b2,b3,_⟩:=dC h;have:=(fj.1 hL).2.1;exact⟨⟨b2,b3,by unfold aj;omega⟩,b2,b3,by unfold aj;omega⟩
theorem yr (k:Key):tL k k=true:=by simp[tL]
def V7.wf (x:V7):Prop:=bY .i64 x.kind/\bY .i64 x.slot/\x.key.wf/\x.other.wf
theorem iq (L:List Obj):ev L L=true:=by unfold ev;simp
theorem ER {L:List Obj} {k:Key} {i:Int} {v:Key} (h:bc L k i v=0):ay L k 2 true=0/\0<=i/\i<16:=by
 unfold bc jv at h;split at h
 ·rename_i h1;split at h
  ·rename_i h2;simp at h2;exact⟨h1,h2.1,h2.2⟩
  ·omega
 ·rename_i h1;exact absurd h h1
theorem xG {L:List Obj} {a:V7} (hL:aq L) (h:xy L a=true):aq (E6 L a):=by
 unfold xy at h;unfold E6;split at h
 ·simp at h
 ·rename_i h1;rw[Yu h1];split at h
  ·rename_i h2;rw[Yv h2];have h:=Ys h;obtain⟨e1,e2,e3⟩:=ER h;obtain⟨a1,a2,_⟩:=fH e1;unfold b7;rw[Yv h];exact(nY hL a1 a2 (C1 hL a1 a2 e2 e3)).2
  ·rename_i h2;rw[Yu h2];split at h
   ·rename_i h3;rw[Yv h3];have h:=Ys h;obtain⟨a1,a2,_⟩:=fH h;unfold eT;rw[Yv h];exact(nY hL a1 a2 (Gy (by omega))).2
   ·rename_i h3;rw[Yu h3];split at h
    ·rename_i h4;rw[Yv h4];have h:=Ys h;have h':=h;unfold bG at h';split at h'
     ·rename_i h5;obtain⟨a1,a2,_⟩:=fH h5;unfold dZ;rw[Yv h];exact(nY hL a1 a2 (yU hL a1 a2 16 (by omega))).2
     ·rename_i h5;exact absurd h' h5
    ·simp at h
theorem wC {l:List Obj} (h:fC l=true):aq l/\l.length<=20:=by
 unfold fC at h;simp only[Yo,Yp]at h;unfold aj at h;exact⟨h.2,by omega⟩
section
variable {L:List Obj} {k:Key} {s:cQ} (h0:0<=k.oid) (h1:k.oid<(L.length:Int))
include h0 h1
end
theorem gD {L:List Obj} {j:Int} (h0:0<=j) (h1:j<(L.length:Int)):aR L j=ah L j.toNat free:=by
 unfold aR;rw[Yv (kx.2 ⟨h0,h1⟩)]
theorem gp {L:List Obj} {i:Nat} {x:Obj} (hi:i<L.length) (j:Nat):ah (cC L i x) j free=if j=i then x else ah L j free:=by
 by_cases e:j=i
 ·subst e;rw[Yv rfl];simp[ah,cC,Yt,hi]
 ·rw[Yu e];simp[ah,cC,Yt,List.getElem?_set,Ne.symm e]
theorem jD {L:List Obj} {i:Nat} {x:Obj}:(cC L i x).length=L.length:=by simp[cC]
end Go.Sx
set_option maxRecDepth 100000
namespace Go.Sx
def Xy {α:Type} (rd:V->Option α) (Q:List Obj->α->Prop) (chg:List Obj->α->Bool) (L1:List Obj->α->List Obj):kJ:=fun args res K=>
 match args with
 | [a,b,c]=>match rd c with
   |some x=>match a with
    | .lp k off=>if off==0 then match az res k with
      | .store t e L=>if t==tS&&e==eS then match b with
        | .sa j=>match dc res j with
          | .arr _ z l=>if z==163 then match l with
            | .ob M=>M=L/\Q L x/\(chg L x=false->K (.tp [.sa j,.bo true]) (cc res k (.store tS eS L)))/\
              (chg L x=true->K (.tp [.sa res.length,.bo true]) (cc res k (.store tS eS (L1 L x))++ [.arr (some tO) 163 (.ob (L1 L x))]))
            |_=>False
            else False
          |_=>False
        |_=>False
        else False
      |_=>False
      else False
    |_=>False
   |none=>False
 |_=>False
theorem jN {κ:Nat->Option Nat} {x a:V} {l m:List V} (h1:fm κ x=some a) (h2:eN κ l=some m):eN κ (x::l)=some (a::m):=by
 simp only[eN];rw[h1];simp only;rw[h2]
theorem O4 {c:Bool} {L0 L1:List Obj} {v:V} {r:List aI} (h:VJ c L0 L1 v r):∃b,mG (.bo true) b r/\((v= .tp [.sa 1,b]/\c=false/\az r 0= .store tS eS L0)\/
  ∃p,2<=p/\v= .tp [.sa p,b]/\c=true/\az r 0= .store tS eS L1/\az r p= .arr (some tO) 163 (.ob L1)):=by
 unfold VJ at h;split at h
 case h_2=>exact h.elim
 split at h
 case h_2=>exact h.elim
 rename_i a b;split at h
 case h_2=>exact h.elim
 rename_i p;split at h
 case h_2=>exact h.elim
 rename_i t e L hr;split at h
 case isFalse=>exact h.elim
 rename_i hc;simp only[Yo,Yq]at hc;obtain⟨rfl,rfl⟩:=hc;split at h
 ·rename_i hp;have hp:=Yq.1 hp;subst hp;obtain⟨h1,h2,rfl⟩:=h;exact⟨b,h1,.inl ⟨rfl,h2,hr⟩⟩
 ·split at h
  case isFalse=>exact h.elim
  rename_i hp;have hp:2<=p:=by simpa using hp
  split at h
  case h_2=>exact h.elim
  rename_i o z l hrp;split at h
  case h_2=>exact h.elim
  rename_i e';split at h
  case h_2=>exact h.elim
  rename_i M;split at h
  case isFalse=>exact h.elim
  rename_i hc;simp only[Yo,Yq]at hc;obtain⟨rfl,rfl⟩:=hc;obtain⟨h1,h2,rfl,rfl⟩:=h;exact⟨b,h1,.inr ⟨p,hp,rfl,h2,hr,hrp⟩⟩
theorem Uc {b:V} {c:Bool} {r:List aI} (h:mG (.bo c) b r):(∀κ,fm κ b=some b)/\∀J N,qd J N b (.bo c):=by
 refine⟨fun κ=>?_,fun J N=>du h J N⟩
 unfold mG at h;cases b<;>first|rfl| (simp[vu]at h)
theorem ai.U8 {P:Program} {f:Nat} {args:List V} {K KP:V->List aI->Prop} {own:Option Nat} {z t e:Nat} {l:TL} {L:List Obj} (h:ai P f args [.store t e L,.ro (.arr none z l)] K KP):ai P f args [.store t e L,.ro (.arr own z l)] K KP:=by
 have hk:∀i (own:Option Nat),known [.store t e L,.ro (.arr own z l)] i↔i<2:=fun i own=>by
  unfold known;match i with
  |0=>simp[az]
  |1=>simp[az]
  |i+2=>simp[az]
 refine h.tf fun J fps w0 F0 w hH=>⟨J,fps,hH.weaken fun i hi=>⟨(hk i _).2 ((hk i _).1 hi),fun fp hh=>?_⟩,Env.br.refl _ _,fun i hi=>(hk i _).2 ((hk i _).1 hi)⟩
 match i,(hk i _).1 hi with
 |0,_=>exact hh
 |1,_=>
  obtain⟨fp',g1,g2⟩:=hh;exact⟨fp',yP g1,g2⟩
theorem UE {P:Program} {f:Nat} {α:Type} {rd:V->Option α} {m:α->V} {Q:List Obj->α->Prop} {chg:List Obj->α->Bool} {L1:List Obj->α->List Obj} (hrd:pB rd m) (hid:∀x,j6 (m x)=true)
  (hcl:∀L x,Q L x->ai P f [.lp 0 0,.sa 1,m x] [.store tS eS L,.ro (.arr none 163 (.ob L))] (VJ (chg L x) L (L1 L x)) (fun _ _=>False)):lG P f (Xy rd Q chg L1):=by
 intro args res K KP h;unfold Xy at h;split at h
 case h_2=>exact h.elim
 split at h
 case h_2=>exact h.elim
 rename_i x hx;refine ai.args (eh.iZ (eh.iZ (eh.rd hrd hx eh.nil))) ?_;split at h
 case h_2=>exact h.elim
 rename_i k off;split at h
 case isFalse=>exact h.elim
 rename_i hoff;have hoff:=Yq.1 hoff;subst hoff;split at h
 case h_2=>exact h.elim
 rename_i t e L hr;split at h
 case isFalse=>exact h.elim
 rename_i hc;simp only[Yo,Yq]at hc;obtain⟨rfl,rfl⟩:=hc;split at h
 case h_2=>exact h.elim
 rename_i j;split at h
 case h_2=>exact h.elim
 rename_i own z l hj;split at h
 case isFalse=>exact h.elim
 rename_i hz;have hz:=Yq.1 hz;subst hz;split at h
 case h_2=>exact h.elim
 rename_i M;obtain⟨rfl,hL,h0,h1⟩:=h;have hk:known res k:=by unfold known;rw[hr];simp
 have hkj:=dY hj (by simp)
 have hkl:=aN hk;have hjl:=aN hkj
 have hne:k≠j:=fun e=>by
  subst e;unfold dc at hj;rw[hr]at hj;simp at hj
 have hres:eA (kH 0 (dz [(k,true),(j,false)])) res [(k,true),(j,false)]= [.store tS eS M,.ro (.arr own 163 (.ob M))]:=by simp[eA,hr,hj,ga]
 refine ai.frame (pl:= [(k,true),(j,false)]) (args0:= [.lp 0 0,.sa 1,m x]) (K0:=VJ (chg M x) M (L1 M x)) (KP0:=fun _ _=>False) (by simp[ez,cV.2 hk,cV.2 hkj]) (by simpa[gO,dz,nz]using⟨⟨hkl,Ne.symm hne⟩,hjl⟩) ?_ ?_ (fun v r hv=>?_) (fun _ _ h=>h.elim)
 ·exact jN (by simp[fm,kH,idxOf,dz]) (jN (by simp[fm,kH,idxOf,dz,hne]) (jc _ (by simp only[kK,hid,Bool.and_true])))
 ·rw[hres];exact ai.U8 (hcl M x hL)
 ·obtain⟨b,hb,hv⟩:=O4 hv;obtain⟨b1,b2⟩:=Uc hb;rcases hv with⟨rfl,hc,hr0⟩|⟨p,hp,rfl,hc,hr0,hrp⟩
  ·have hm:merge [(k,true),(j,false)] [] r res=cc res k (.store tS eS M):=by simp[merge,eM,hr0,ga,fI]
   refine⟨[],.tp [.sa j,.bo true],rfl,by simp[jQ,hr0,iP],rfl,iI.XP (v2:= .tp [.sa j,b]) (by simp[fm,eN,back,vV,b1]) (fun J N=>?_),by rw[hm];exact h0 hc⟩
   obtain⟨s1,s2,_⟩:=b2 J N;exact⟨by simp only[den,bq,s1],fun hk=>⟨hk.1,s2 hk.2.1,trivial⟩,rfl⟩
  ·have hpl:p<r.length:=aN (by rw[hrp];simp)
   have hm:merge [(k,true),(j,false)] [p] r res=cc res k (.store tS eS (L1 M x))++ [.arr (some tO) 163 (.ob (L1 M x))]:=by simp[merge,eM,hr0,hrp,ga,fI]
   refine⟨[p],.tp [.sa res.length,.bo true],by simpa[gO,nz]using⟨hp,hpl⟩,by simp[jQ,hr0,iP],by simp[lW,hrp,iP],iI.XP (v2:= .tp [.sa res.length,b]) ?_ (fun J N=>?_),by rw[hm];exact h1 hc⟩
   ·have:back [(k,true),(j,false)] [p] res.length p=some res.length:=by
     unfold back;rw[qZ _ _ (by simpa using hp)]
     simp[idxOf]
    simp[fm,eN,this,b1]
   ·obtain⟨s1,s2,_⟩:=b2 J N;exact⟨by simp only[den,bq,s1],fun hk=>⟨hk.1,s2 hk.2.1,trivial⟩,rfl⟩
end Go.Sx
set_option maxRecDepth 100000
namespace Go.Sx
def wv {α:Type} (B:lA α) (l:List V):Option α:=match B.rd [] l with
 |some p=>match p.1 with
  | []=>some p.2
  |_=>none
 |none=>none
theorem gh {α:Type} {B:lA α} (hB:iy B) (hid:∀a,kK (B.cn a 0)=true):∀l x,wv B l=some x->eh l (B.cn x 0):=fun l x h=>by
 unfold wv at h;split at h
 case h_2=>simp at h
 rename_i p hp;obtain⟨pls,a⟩:=p;split at h
 case h_2=>simp at h
 rename_i h1;simp only at h1;subst h1;simp only[Ym]at h;subst h;obtain⟨_,_,_,b4⟩:=hB _ _ _ _ hp;obtain⟨c1,c2⟩:=b4 [] [];intro J K hk;have e1:=(c1 J K hk).1;have e2:=c2 K hk;have e3:fw (fun _=>False) (B.cn a 0):=m6 _ (hid a) e2
 refine⟨?_,m6 _ (hid a) e2⟩;rw[<-e1];exact fB (N:=fun _=>False) (fun _ h=>h.elim) _ e3
def Ar {α:Type} (B:List V->Option α) (Q:List Obj->α->Prop) (chg:List Obj->α->Bool) (L1:List Obj->α->List Obj) (F:List Obj->α->List V):kJ:=fun args res K=>
 match args with
 |b::l=>match B l with
  |some x=>match b with
   | .sa j=>match dc res j with
     | .arr _ z t=>if z==163 then match t with
       | .ob M=>Q M x/\(chg M x=false->K (.tp (.sa j::F M x)) res)/\(chg M x=true->K (.tp (.sa res.length::F M x)) (res++ [.arr (some tO) 163 (.ob (L1 M x))]))
       |_=>False
       else False
     |_=>False
   |_=>False
  |none=>False
 |_=>False
def yV (c:Bool) (L1:List Obj) (F:List V) (v:V) (r:List aI):Prop:=
 match v with
 | .tp l=>match l with
   |a::bs=>match a with
    | .sa p=>if p==0 then c=false/\mG (.tp F) (.tp bs) r else if Nat.ble 1 p then match az r p with
      | .arr own z t=>match own with
        |some e=>match t with
         | .ob M=>if z==163&&e==tO then c=true/\mG (.tp F) (.tp bs) r/\M=L1 else False
         |_=>False
        |none=>False
      |_=>False
      else False
    |_=>False
   | []=>False
 |_=>False
theorem Q4 {c:Bool} {L1:List Obj} {F:List V} {v:V} {r:List aI} (h:yV c L1 F v r):∃p bs,v= .tp (.sa p::bs)/\mG (.tp F) (.tp bs) r/\((p=0/\c=false)\/(1<=p/\c=true/\az r p= .arr (some tO) 163 (.ob L1))):=by
 unfold yV at h;split at h
 case h_2=>exact h.elim
 split at h
 case h_2=>exact h.elim
 split at h
 case h_2=>exact h.elim
 rename_i p;split at h
 ·rename_i e;have e:=Yq.1 e;exact⟨p,_,rfl,h.2,.inl ⟨e,h.1⟩⟩
 ·split at h
  case isFalse=>exact h.elim
  rename_i hp;have hp:1<=p:=by simpa using hp
  split at h
  case h_2=>exact h.elim
  rename_i hrp;split at h
  case h_2=>exact h.elim
  split at h
  case h_2=>exact h.elim
  split at h
  case isFalse=>exact h.elim
  rename_i hc;simp only[Yo,Yq]at hc;obtain⟨rfl,rfl⟩:=hc;obtain⟨h1,h2,rfl⟩:=h;exact⟨p,_,rfl,h2,.inr ⟨hp,h1,hrp⟩⟩
theorem ai.WG {P:Program} {f:Nat} {args:List V} {K KP:V->List aI->Prop} {own:Option Nat} {z:Nat} {l:TL} (h:ai P f args [.ro (.arr none z l)] K KP):ai P f args [.ro (.arr own z l)] K KP:=by
 have hk:∀i (own:Option Nat),known [.ro (.arr own z l)] i↔i<1:=fun i own=>by
  unfold known;match i with
  |0=>simp[az]
  |i+1=>simp[az]
 refine h.tf fun J fps w0 F0 w hH=>⟨J,fps,hH.weaken fun i hi=>⟨(hk i _).2 ((hk i _).1 hi),fun fp hh=>?_⟩,Env.br.refl _ _,fun i hi=>(hk i _).2 ((hk i _).1 hi)⟩
 match i,(hk i _).1 hi with
 |0,_=>
  obtain⟨fp',g1,g2⟩:=hh;exact⟨fp',yP g1,g2⟩
theorem B2 {κ:Nat->Option Nat} {p j:Nat} {bs F:List V} {r:List aI} (hκ:κ p=some j) (hF:kK F=true) (hb:mG (.tp F) (.tp bs) r):iI κ (.tp (.sa p::bs)) (.tp (.sa j::F)):=by
 intro ρ2 ρ3 N N' h1 h2 hv;obtain⟨hp,hbs⟩:=hv;obtain⟨e1,e2,_⟩:=du hb ρ2 N;obtain⟨a1,a2,a3,a4,a5,a6⟩:=h1 p j hκ;have hFN:fw N F:=e2 hbs;have hF0:fw (fun _=>False) F:=m6 _ hF hFN
 have e3:bq ρ3 F=bq ρ2 F:=fB (N:=fun _=>False) (fun _ h=>h.elim) _ hF0
 simp only[den,Value.tuple.injEq]at e1;have e1:bq ρ2 bs=bq ρ2 F:=by simpa using e1
 refine⟨?_,h2 p j hκ hp,m6 _ hF hFN⟩;simp only[den,bq,e3,e1,a2,a4,a5]
theorem iw {P:Program} {f:Nat} {α:Type} {B:List V->Option α} {m:α->List V} {Q:List Obj->α->Prop} {chg:List Obj->α->Bool} {L1:List Obj->α->List Obj} {F:List Obj->α->List V} (hB:∀l x,B l=some x->eh l (m x)) (hid:∀x,kK (m x)=true)
  (hF:∀L x,kK (F L x)=true) (hcl:∀L x,Q L x->ai P f (.sa 0::m x) [.ro (.arr none 163 (.ob L))] (yV (chg L x) (L1 L x) (F L x)) (fun _ _=>False)):lG P f (Ar B Q chg L1 F):=by
 intro args res K KP h;unfold Ar at h;split at h
 case h_2=>exact h.elim
 split at h
 case h_2=>exact h.elim
 rename_i x hx;refine ai.args (eh.iZ (hB _ _ hx)) ?_;split at h
 case h_2=>exact h.elim
 rename_i j;split at h
 case h_2=>exact h.elim
 rename_i own z t hj;split at h
 case isFalse=>exact h.elim
 rename_i hz;have hz:=Yq.1 hz;subst hz;split at h
 case h_2=>exact h.elim
 rename_i M;obtain⟨hQ,h0,h1⟩:=h;have hkj:=dY hj (by simp)
 have hjl:=aN hkj;have hres:eA (kH 0 (dz [(j,false)])) res [(j,false)]= [.ro (.arr own 163 (.ob M))]:=by simp[eA,hj,ga]
 refine ai.frame (pl:= [(j,false)]) (args0:= .sa 0::m x) (K0:=yV (chg M x) (L1 M x) (F M x)) (KP0:=fun _ _=>False) (by simp[ez,cV.2 hkj]) (by simpa[gO,dz,nz]using hjl) ?_ ?_ (fun v r hv=>?_) (fun _ _ h=>h.elim)
 ·exact jN (by simp[fm,kH,idxOf,dz]) (jc _ (hid x))
 ·rw[hres];exact ai.WG (hcl M x hQ)
 ·obtain⟨p,bs,rfl,hb,hv⟩:=Q4 hv;rcases hv with⟨rfl,hc⟩|⟨hp,hc,hrp⟩
  ·have hm:merge [(j,false)] [] r res=res:=by simp[merge,eM,fI]
   refine⟨[],.tp (.sa j::F M x),rfl,by simp[jQ],rfl,B2 (by simp[back,vV]) (hF M x) hb,by rw[hm];exact h0 hc⟩
  ·have hpl:p<r.length:=aN (by rw[hrp];simp)
   have hm:merge [(j,false)] [p] r res=res++ [.arr (some tO) 163 (.ob (L1 M x))]:=by simp[merge,eM,hrp,ga,fI]
   refine⟨[p],.tp (.sa res.length::F M x),by simpa[gO,nz]using⟨hp,hpl⟩,by simp[jQ],by simp[lW,hrp,iP],B2 ?_ (hF M x) hb,by rw[hm];exact h1 hc⟩
   unfold back;rw[qZ _ _ (by simpa using hp)]
   simp[idxOf]
def WQ {α:Type} (B:List V->Option α) (R:α->Prop) (Q:List Obj->α->Prop) (F:List Obj->α->V) (M:List Obj->α->List Obj):kJ:=fun args res K=>
 match args with
 |a::l=>match B l with
  |some x=>R x/\match a with
   | .nl v=>match v with
     | .pointer none=>K (F [] x) res
     |_=>False
   | .lp k off=>if off==0 then match az res k with
     | .store t e L=>if t==tS&&e==eS then Q L x/\K (F L x) (cc res k (.store tS eS (M L x)))else False
     | .blk t c=>if t==tS&&Ww c then K (F [] x) res else False
     |_=>False
     else False
   |_=>False
  |none=>False
 |_=>False
theorem Nk {P:Program} {f:Nat} {α:Type} {B:List V->Option α} {m:α->List V} {R:α->Prop} {Q:List Obj->α->Prop} {F:List Obj->α->V} {M:List Obj->α->List Obj} (hB:∀l x,B l=some x->eh l (m x)) (hid:∀x,kK (m x)=true) (hF:∀L x,j6 (F L x)=true)
  (h0:∀x,R x->ai P f (lh::m x) [] (mG (F [] x)) (fun _ _=>False)) (hz:∀x,R x->ai P f (.lp 0 0::m x) [.ro (.blk tS WW)] (mG (F [] x)) (fun _ _=>False))
  (h1:∀L x,Q L x->ai P f (.lp 0 0::m x) [.store tS eS L] (B8 (F L x) (M L x)) (fun _ _=>False)):lG P f (WQ B R Q F M):=by
 intro args res K KP h;unfold WQ at h;split at h
 case h_2=>exact h.elim
 split at h
 case h_2=>exact h.elim
 rename_i x hx;obtain⟨hR,h⟩:=h;refine ai.args (eh.iZ (hB _ _ hx)) ?_;split at h
 ·split at h
  ·exact ai.pure (by simp only[kK,j6,Bool.true_and];exact hid x) (hF _ _) ((h0 x hR).mono (fun _ _ h=>du h) fun _ _ h=>h) h
  ·exact h.elim
 ·split at h
  ·rename_i hoff;have hoff:=Yq.1 hoff;subst hoff;split at h
   ·rename_i hr;split at h
    ·rename_i hc;simp only[Yo,Yq]at hc;obtain⟨rfl,rfl⟩:=hc;exact ai.Bd hr (hid x) (hF _ _) ((h1 _ x h.1).mono (fun v r hv=>FM hv |> fun⟨a,b⟩=>⟨fun J K=>a J K,b⟩) fun _ _ h=>h) h.2
    ·exact h.elim
   ·rename_i hr;split at h
    ·rename_i hc;simp only[Yo,Yq]at hc;obtain⟨rfl,hz'⟩:=hc;have:=yd hz';subst this;exact ai.JA (r0:= .blk tS WW) (by unfold dc;rw[hr];rfl) (by simp) (fun κ=>rfl) (hid x) (hF _ _) ((hz x hR).mono (fun _ _ h=>du h) fun _ _ h=>h) h
    ·exact h.elim
   ·exact h.elim
  ·exact h.elim
 ·exact h.elim
def cI (n:Int):Key:=⟨1,0,0,0,0,n⟩
theorem dW {L:List Obj} (h:aq L) (j:Nat) (hj:j<L.length):bT (ah L j free) (L.length:Int)=true:=(fj.1 h).2.2 j hj
theorem kG {L:List Obj} (h:aq L):1<=L.length/\L.length<=64:=⟨(fj.1 h).1,(fj.1 h).2.1⟩
theorem Is {L M:List Obj} (h:aq L) (hl:M.length=L.length) (hm:∀j,j<L.length->bT (ah M j free) (L.length:Int)=true):aq M:=by
 obtain⟨a,b⟩:=kG h;unfold aq;rw[fj,hl];exact⟨a,b,hm⟩
theorem m5 {L:List Obj} {i:Nat} {x:Obj} (h:aq L) (hx:bT x (L.length:Int)=true):aq (cC L i x):=by
 by_cases hi:i<L.length
 ·refine Is h jD fun j hj=>?_
  rw[gp hi];split
  ·exact hx
  ·exact dW h j hj
 ·rw[show cC L i x=L from List.set_eq_of_length_le (by omega)];exact h
theorem nn {L:List Obj} {i:Int} {x:Obj} (h0:0<=i) (h1:i<(L.length:Int)) (hx:bT x (L.length:Int)=true):cW L i x=cC L i.toNat x/\eU L i x=0:=by
 have e:cR L i=0:=kx.2 ⟨h0,h1⟩;have e2:cG x (aj L:Int)=0:=by unfold cG;exact Yv hx
 exact⟨(tt e e2).2,(tt e e2).1⟩
theorem ON {n:Int} {s:cQ} {k:Key} {j:Nat} (hj:j<16) (h:∀i,i<16->fL n (s.at i)) (hk:fL n k) (i:Nat) (hi:i<16):fL n ((s.put j k).at i):=by
 rw[cQ.gL _ _ _ _ hj];split
 ·exact hk
 ·exact h i hi
theorem wG {n:Int} (hn:0<=n) (x:Int):fL n (cI x):=by
 refine⟨by simp[cI,aT,eP,jZ,dG,gd,fG],?_⟩
 unfold aY;rw[show dG (cI x).kind=false by simp[cI,dG]]
 simp;omega
theorem uX {o:Obj} {n:Int} (h:bT o n=true) (hk:o.kind=1) (i:Nat) (hi:i<16):fL n (o.slots.at i):=by
 obtain⟨a1,a2,a3,a4,a5,a6,a7,a8,a9,a10,a11⟩:=fg.1 h;have:=a10 i hi;rw[hk]at this;exact KM.1 this
end Go.Sx
