import Derived.Test.YtghpaegglbbocaaGreatKO
import Derived.Test.YtghpaegglbbocaaGreatSxF
namespace Go.Sx
def bC (L:List Obj):Bool:=decide (ai L=0)
def cQ (L:List Obj) (oid:Int):Int:=if ai L=0 then 1 else if oid<0\/(ai L:Int)<=oid then 4 else 0
def aR (L:List Obj) (oid:Int):Obj:=if cQ L oid=0 then ah L oid.toNat free else free
def an (L:List Obj):Int:=(ai L:Int)
def aU (L:List Obj) (k:Key):Bool:=bf k&&decide (cQ L k.oid=0)&&cc k (ah L k.oid.toNat free)
def aa (L:List Obj) (k:Key):Obj:=if aU L k then ah L k.oid.toNat free else free
def ae (L:List Obj) (k:Key):Key:=if bC L|| !aT k||(bf k&& !aU L k)then void else k
def iL (n:Int):Bool:=decide (1<=n)&&decide (n<=64)
def hJ (n:Int):List Obj:=List.replicate n.toNat free
def cW (L:List Obj) (i:Int) (o:Obj):List Obj:=if cQ L i=0/\cG o (ai L:Int)=0 then cB L i.toNat o else L
def eU (L:List Obj) (i:Int) (o:Obj):Int:=if cQ L i=0 then cG o (ai L:Int)else cQ L i
def fb (l:List Obj):Bool:=decide (1<=ai l)&&decide (ai l<=64)&&(List.range (ai l)).all fun i=>bT (ah l i free) (ai l:Int)
def jq (l:List Obj) (g:Int):List Obj:=l.take g.toNat++List.replicate (l.length-g.toNat) free
def pQ (l:List Obj) (g:Int):Prop:=0<=g/\g<=(ai l:Int)/\∀j:Nat,(j:Int)<g->bT (ah l j free) (ai l:Int)=true
def AA (n i:Int):Prop:=0<=i/\i<=n
abbrev tS:Nat:=40
abbrev eS:Nat:=75
def RZ (c:Bool) (M:List Obj) (v:V) (r:List aI):Prop:=
 match v with
 | .tp l=>match l with
   | [a,b]=>match a with
     | .nl p=>match p with
       | .pointer none=>c=false/\mS (.ci .i64 2) b r
       |_=>False
     | .lp j off=>match Cw r j with
       |some (t,e,L)=>if off==0&&t==tS&&e==eS then c=true/\mS (.ci .i64 0) b r/\L=M else False
       |none=>False
     |_=>False
   |_=>False
 |_=>False
def Xl (n:Int):V->List aI->Prop:=RZ (iL n) (hJ n)
def WR (l:List Obj) (v:V) (r:List aI):Prop:=
 match az r 0 with
 | .ro _=>RZ (fb l) l v r
 |_=>False
theorem Gu {l:List Obj} {v:V} {r:List aI} (h:WR l v r):RZ (fb l) l v r/\Cw r 0=none:=by
 unfold WR at h;split at h
 ·rename_i hr;refine⟨h,?_⟩;unfold Cw CW;rw[hr]
 ·exact h.elim
def WK (x:V) (M:List Obj) (v:V) (r:List aI):Prop:=
 match CW r 0 with
 |some (t,e,_,L)=>if t==tS&&e==eS then mS x v r/\L=M else False
 |none=>False
def RM:kH:=fun args res K=>
 match args with
 | [a]=>match rI .i64 a with
   |some n=>(iL n=false->K (.tp [lg,.ci .i64 2]) res)/\(iL n=true->K (.tp [.lp res.length 0,.ci .i64 0]) (res++ [.store tS eS (hJ n)]))
   |none=>False
 |_=>False
def Vj (c:V):Bool:=
 match c with
 | .ag l=>match l with
   | [x]=>match x with
     | .nl v=>match v with
       | .slice none 0 0=>true
       |_=>false
     |_=>false
   |_=>false
 |_=>false
theorem yt {c:V} (h:Vj c=true):c= .ag [.nl (.slice none 0 0)]:=by
 unfold Vj at h;split at h
 ·split at h
  ·split at h
   ·split at h
    ·rfl
    ·simp at h
   ·simp at h
  ·simp at h
 ·simp at h
def R5:kH:=fun args res K=>
 match args with
 | [a,b,c]=>match rI .i64 b with
   |some i=>match rO c with
    |some o=>match a with
     | .nl v=>match v with
       | .pointer none=>K (.it .i64 (eU [] i o)) res
       |_=>False
     | .lp k off=>if off==0 then match az res k with
       | .store t e L=>if t==tS&&e==eS then K (.it .i64 (eU L i o)) (cj res k (.store tS eS (cW L i o)))else False
       | .blk t c=>if t==tS&&Vj c then K (.it .i64 (eU [] i o)) res else False
       |_=>False
       else False
     |_=>False
    |none=>False
   |none=>False
 |_=>False
structure XJ where
 puts:Bool
 oid:Int
 ob:Obj
def XJ.wf (x:XJ):Prop:=bY .i64 x.oid/\x.ob.wf
def OO:Ct:=UX (.bo true)
def ev (L M:List Obj):Bool:=decide (L=M)
def oS (L M:List Obj) (g:Int):Prop:=0<=g/\g<=(ai L:Int)/\g<=(ai M:Int)/\∀j:Nat,(j:Int)<g->ah L j free=ah M j free
def Tf:Ct:=SV tS eS fun L M=> .bo (ev L M)
def gJ (L M:List Obj) (g:Int):List Int:=((List.range g.toNat).filter fun j=> !CZ (ah L j free) (ah M j free)).map Int.ofNat
def jl (L M:List Obj):Bool:=bC L||bC M|| !decide ((ai L:Int)=(ai M:Int))
def dc (L M:List Obj):List Int:=gJ L M (ai L:Int)
def kU (L:List Obj) (g:Int):List Obj:=L.take g.toNat
def o8 (L:List Obj) (g:Int):Prop:=0<=g/\g<=(ai L:Int)
abbrev UN:V:= .nl (.slice none 0 0)
abbrev tI:Nat:=3
def Cd (L:List Obj) (v:V) (r:List aI):Prop:=
 match v with
 | .nl p=>match p with
   | .pointer none=>bC L=true
   |_=>False
 | .lp j off=>match Cw r j with
   |some (t,e,M)=>if off==0&&t==tS&&e==eS&&Nat.ble 1 j then bC L=false/\M=L else False
   |none=>False
 |_=>False
def NF (L M:List Obj) (v:V) (r:List aI):Prop:=
 match v with
 | .nl p=>match p with
   | .slice none 0 0=>jl L M=true
   |_=>False
 | .sa j=>match az r j with
   | .arr own esz l=>match own with
     |some e=>match l with
      | .it k l=>match k with
        | .i64=>if e==tI&&esz==1&&Nat.ble 2 j then jl L M=false/\l=dc L M else False
        |_=>False
      |_=>False
     |none=>False
   |_=>False
 |_=>False
def Ke:kH:=fun args res K=>
 match args with
 | [a]=>match a with
   | .nl v=>match v with
     | .pointer none=>K lg res
     |_=>False
   | .lp k off=>if off==0 then match de res k with
     | .store t e L=>if t==tS&&e==eS then ai L<=1000/\(bC L=true->K lg res)/\(bC L=false->K (.lp res.length 0) (res++ [.store tS eS L]))else False
     |_=>False
     else False
   |_=>False
 |_=>False
def Sc:kH:=fun args res K=>
 match args with
 | [a,b]=>match b with
   | .lp j off=>if off==0 then match de res j with
     | .store t e M=>if t==tS&&e==eS then match a with
       | .nl v=>match v with
         | .pointer none=>K UN res
         |_=>False
       | .lp k off'=>if off'==0&& !(k==j)then match de res k with
         | .store t e L=>if t==tS&&e==eS then ai L<=1000/\(jl L M=true->K UN res)/\(jl L M=false->K (.sa res.length) (res++ [.arr (some tI) 1 (.it .i64 (dc L M))]))else False
         |_=>False
         else False
       |_=>False
       else False
     |_=>False
     else False
   |_=>False
 |_=>False
def E0:Ct:=fun res nid xs=>match xs with
 | [a]=>match rS tS eS res a with
   |some (o,L)=>match o with
    |none=>some (none,.cb true,[])
    |some _=>some (none,.bo (bC L),[])
   |none=>none
 |_=>none
theorem gr {α:Type} (l:List α):b9 (ai l)=(l.length:Int):=rfl
theorem lj {α:Type} (l:List α):((ai l:Nat):Int)=(l.length:Int):=rfl
def Vn:kH:=fun args res K=>
 match args with
 | [a]=>match a with
   | .sa k=>match de res k with
     | .arr _ e l=>if e==163 then match l with
       | .ob l=>(fb l=false->K (.tp [lg,.ci .i64 2]) res)/\(fb l=true->K (.tp [.lp res.length 0,.ci .i64 0]) (res++ [.store tS eS l]))
       |_=>False
       else False
     |_=>False
   |_=>False
 |_=>False
def Ox:Ct:=Xx fun l=> .bo (fb l)
def GI:Ct:=Px rK fun l k=> .bo (aU l k)
def OI:Ct:=Px rK fun l k=> .key (ae l k)
def Eu:Ct:=Tm tS eS fun L=> .bo (bC L)
def V6:Ct:=GD tS eS (rI .i64) fun L i=> .it .i64 (cQ L i)
def Wj:Ct:=GD tS eS (rI .i64) fun L i=> .tp [.ob (aR L i),.it .i64 (cQ L i)]
def Et:Ct:=Tm tS eS fun L=> .it .i64 (an L)
def Qa:Ct:=GD tS eS rK fun L k=> .tp [.ob (aa L k),.bo (aU L k)]
def SB:Ct:=GD tS eS rK fun L k=> .key (ae L k)
theorem Fh {n:Nat} (h:n<1000):vY n 8:=by unfold vY;simp only[maxLen];omega
theorem KT {L:List Obj} {g:Int} (h0:0<=g) (h1:g<(L.length:Int)):iM (kU L g) (ah L g.toNat free)=kU L (g+1):=by
 unfold iM kU ah;rw[show(g+1).toNat=g.toNat+1 by omega,List.take_add_one,Yo,List.getElem?_eq_getElem (by omega)];rfl
theorem La {L:List Obj} {g:Int} (h:(L.length:Int)<=g):kU L g=L:=by unfold kU;rw[List.take_of_length_le (by omega)]
theorem MR {L:List Obj} {g:Int}:ai (kU L g)<=g.toNat:=by unfold ai kU;rw[List.length_take];omega
theorem It {L M:List Obj} {g:Int}:ai (gJ L M g)<=g.toNat:=by
 unfold ai gJ;rw[List.length_map];exact Nat.le_trans (List.length_filter_le _ _) (by rw[List.length_range];omega)
theorem JU {L M:List Obj} {g:Int} (h0:0<=g) (h:(!CZ (ah L g.toNat free) (ah M g.toNat free))=true):iM (gJ L M g) g=gJ L M (g+1):=by
 unfold iM gJ;rw[show(g+1).toNat=g.toNat+1 by omega,List.range_succ,List.filter_append,List.map_append]
 simp only[List.filter_cons,h,if_true,List.filter_nil,List.map_cons,List.map_nil];congr 2
 show g=((g.toNat:Nat):Int)
 omega
theorem Ob {L M:List Obj} {g:Int} (h0:0<=g) (h:(!CZ (ah L g.toNat free) (ah M g.toNat free))=false):gJ L M g=gJ L M (g+1):=by
 unfold gJ;rw[show(g+1).toNat=g.toNat+1 by omega,List.range_succ,List.filter_append,List.map_append]
 simp only[List.filter_cons,h,Bool.false_eq_true,if_false,List.filter_nil,List.map_nil,List.append_nil]
theorem qG:bC []=true:=rfl
theorem zg {L:List Obj}:bC L=true↔L= []:=by
 unfold bC ai;simp[List.length_eq_zero_iff]
theorem rh (i:Int):cQ [] i=1:=rfl
theorem Ki {L:List Obj} (h:bC L=false) (i:Int):cQ L i=if i<0\/(L.length:Int)<=i then 4 else 0:=by
 have:L≠ []:=fun e=>by rw[e]at h;simp[qG]at h
 unfold cQ ai;rw[Yp (by simpa[List.length_eq_zero_iff]using this)]
theorem ki {L:List Obj} {i:Int}:cQ L i=0↔0<=i/\i<(L.length:Int):=by
 unfold cQ ai;split
 ·omega
 ·split<;>omega
theorem zr (L:List Obj) (k:Key):((!bf k)=true->free=aa L k/\false=aU L k)/\
  ((!bf k)=false->
    ((!decide (cQ L (cS k)=0)|| !cc k (aR L (cS k)))=true->
      free=aa L k/\false=aU L k)/\
      ((!decide (cQ L (cS k)=0)|| !cc k (aR L (cS k)))=false->
        aR L (cS k)=aa L k/\true=aU L k)):=by
 have fin:∀b,aU L k=b->(b=false->free=aa L k)/\b=aU L k:=fun b h=>⟨fun hb=>by unfold aa;rw[h,hb];rfl,h.symm⟩
 refine⟨fun h=>?_,fun h=>?_⟩
 ·have h:bf k=false:=by simpa using h
  have:=fin false (by unfold aU;rw[h];rfl)
  exact⟨this.1 rfl,this.2⟩
 ·have h:bf k=true:=by simpa using h
  have ho:cS k=k.oid:=by unfold cS;rw[Yq h]
  rw[ho];by_cases hh:cQ L k.oid=0
  ·have hg:aR L k.oid=ah L k.oid.toNat free:=by unfold aR;rw[Yq hh]
   rw[hg];have e:aU L k=cc k (ah L k.oid.toNat free):=by unfold aU;simp[h,hh]
   refine⟨fun hc=>?_,fun hc=>?_⟩
   ·have hc:cc k (ah L k.oid.toNat free)=false:=by simpa[hh]using hc
    have:=fin false (by rw[e,hc])
    exact⟨this.1 rfl,this.2⟩
   ·have hc:cc k (ah L k.oid.toNat free)=true:=by simpa[hh]using hc
    have:=fin true (by rw[e,hc])
    refine⟨?_,this.2⟩;unfold aa;rw[e,hc];rfl
  ·have:=fin false (by unfold aU;simp[hh])
   exact⟨fun _=>⟨this.1 rfl,this.2⟩,fun hc=>by simp[hh]at hc⟩
theorem Dx (L:List Obj) (k:Key):((bC L|| !decide (bD k=0))=true->void=ae L k)/\
  ((bC L|| !decide (bD k=0))=false->
    ((bf k&& !aU L k)=true->void=ae L k)/\((bf k&& !aU L k)=false->k=ae L k)):=by
 have hc:(!decide (bD k=0))= !aT k:=by unfold bD;cases aT k<;>simp
 rw[hc];unfold ae;refine⟨fun h=>?_,fun h=>⟨fun h2=>?_,fun h2=>?_⟩⟩
 ·rw[Yq];simp only[h,Bool.true_or]
 ·rw[Yq];simp only[h2,Bool.or_true]
 ·rw[Yp];simp only[h,h2];simp
theorem qH {n:Int}:iL n=true↔1<=n/\n<=64:=by simp[iL]
theorem Q7 {g:Int} (h:0<=g):iM (hJ g) free=hJ (g+1):=by
 unfold iM hJ;rw[show(g+1).toNat=g.toNat+1 by omega,List.replicate_succ']
theorem FR {i:Int} {o:Obj}:eU [] i o=1:=by unfold eU;rw[rh];rfl
theorem Qr {L:List Obj} {i:Int} {o:Obj} (h:cQ L i≠0):eU L i o=cQ L i/\cW L i o=L:=by
 unfold eU cW;rw[Yp h,Yp (fun hh=>h hh.1)];exact⟨rfl,rfl⟩
theorem TK {L:List Obj} {i:Int} {o:Obj} (h:cQ L i=0) (h2:cG o (ai L:Int)≠0):eU L i o=cG o (ai L:Int)/\cW L i o=L:=by
 unfold eU cW;rw[Yq h,Yp (fun hh=>h2 hh.2)];exact⟨rfl,rfl⟩
theorem sO {L:List Obj} {i:Int} {o:Obj} (h:cQ L i=0) (h2:cG o (ai L:Int)=0):eU L i o=0/\cW L i o=cB L i.toNat o:=by
 unfold eU cW;rw[Yq h,Yq ⟨h,h2⟩];exact⟨h2,rfl⟩
theorem Nk {c:Bool} {M:List Obj} (hn:c=false) {v:V} {r:List aI} (h:RZ c M v r):yU (.tp [lg,.ci .i64 2]) v []:=by
 unfold RZ at h;split at h
 ·split at h
  ·split at h
   ·split at h
    ·exact Qz (dr h.2)
    ·exact h.elim
   ·split at h
    ·split at h
     ·rw[hn]at h;simp at h
     ·exact h.elim
    ·exact h.elim
   ·exact h.elim
  ·exact h.elim
 ·exact h.elim
theorem Qg {c:Bool} {M:List Obj} (hn:c=true) {v:V} {r:List aI} (h:RZ c M v r):∃j b,v= .tp [.lp j 0,b]/\yU (.ci .i64 0) b []/\Cw r j=some (tS,eS,M):=by
 unfold RZ at h;split at h
 ·split at h
  ·split at h
   ·split at h
    ·rw[hn]at h;simp at h
    ·exact h.elim
   ·split at h
    ·rename_i hst;split at h
     ·rename_i hc;simp only[Yj,Yl]at hc;obtain⟨⟨rfl,rfl⟩,rfl⟩:=hc;obtain⟨_,h2,rfl⟩:=h;exact⟨_,_,rfl,dr h2,hst⟩
     ·exact h.elim
    ·exact h.elim
   ·exact h.elim
  ·exact h.elim
 ·exact h.elim
theorem FV {c:Bool} {M:List Obj} (hn:c=true) {v:V} {r:List aI} (h:RZ c M v r):∃j r',Cw r j=some (tS,eS,M)/\(r'=r\/tn r j=some r')/\az r' j= .store tS eS M/\∀(κ:Nat->Option Nat) (i:Nat),κ j=some i->iI κ v (.tp [.lp i 0,.ci .i64 0]):=by
 obtain⟨j,b,rfl,hb,hst⟩:=Qg hn h
 have ht:∀(κ:Nat->Option Nat) (i:Nat),κ j=some i->iI κ (.tp [.lp j 0,b]) (.tp [.lp i 0,.ci .i64 0]):=fun κ i hi ρ2 ρ3 N N' hv hN hk=>by
  obtain⟨s1,s2,_⟩:=hb ρ2 N;refine⟨?_,hN j i hi hk.1,by simp[ok,bY],trivial⟩
  simp only[den,bq,(hv j i hi).1,s1]
 rcases Dq hst with h1|⟨r',h1,h2⟩
 ·exact⟨j,r,hst,.inl rfl,h1,ht⟩
 ·exact⟨j,r',hst,.inr h1,h2,ht⟩
theorem QV {x:V} {M:List Obj} {v:V} {r:List aI} (h:WK x M v r):∃t,CW r 0=some (tS,eS,t,M)/\yU x v r:=by
 unfold WK at h;split at h
 ·rename_i hst;split at h
  ·rename_i hc;simp only[Yj,Yl]at hc;obtain⟨rfl,rfl⟩:=hc;obtain⟨h1,rfl⟩:=h;exact⟨_,hst,dr h1⟩
  ·exact h.elim
 ·exact h.elim
theorem Xt {P:Program} {f:Nat} {rest:List V} {res:List aI} {K KP:V->List aI->Prop} {k:Nat} {L M:List Obj} {x:V} (hr:az res k= .store tS eS L) (hid:kL rest=true) (hx:j3 x=true)
  (h:(∀o∈L,o.wf)->L.length<=9223372036854775807->aj P f (.lp 0 0::rest) [.blk tS (.ag [.sa 1]),.obs eS 2 L,.gen 1] (WK x M) (fun _ _=>False)) (hK:K x (cj res k (.store tS eS M))):aj P f (.lp k 0::rest) res K KP:=by
 refine aj.AF hr hid hx ?_ hK;refine aj.fact (k:=0) rfl fun w1 w2=>?_
 refine aj.jH (k:=0) rfl ?_;refine aj.shut (h w1 w2) fun v r hv=>?_
 obtain⟨t,h1,h2⟩:=QV hv;obtain⟨r',g1,g2⟩:=zs h1;exact .inr ⟨0,r',g1,fun J K=>h2 J K,g2⟩
theorem fj {l:List Obj}:fb l=true↔1<=l.length/\l.length<=64/\∀i,i<l.length->bT (ah l i free) (l.length:Int)=true:=by
 unfold fb ai;simp only[Yj,Yk,List.all_eq_true,List.mem_range,and_assoc]
theorem tq {l:List Obj} (h:¬(1<=l.length/\l.length<=64/\∀i,i<l.length->bT (ah l i free) (l.length:Int)=true)):fb l=false:=by
 cases hr:fb l with
 |false=>rfl
 |true=>exact absurd (fj.1 hr) h
theorem wz {l:List Obj} {g:Int} (h1:g<=(l.length:Int)):(jq l g).length=l.length:=by
 unfold jq;simp only[List.length_append,List.length_take,List.length_replicate];omega
theorem Kr {l:List Obj}:hJ (l.length:Int)=jq l 0:=by unfold hJ jq;simp
theorem P3 {l:List Obj} {g:Int} (h:(l.length:Int)<=g):jq l g=l:=by
 unfold jq;rw[List.take_of_length_le (by omega),show l.length-g.toNat=0 by omega];simp
theorem OQ {l:List Obj} {g:Int} (h0:0<=g) (h1:g<(l.length:Int)):cB (jq l g) g.toNat (ah l g.toNat free)=jq l (g+1):=by
 unfold cB jq ah;obtain⟨n,rfl⟩:=Int.eq_ofNat_of_zero_le h0;have hn:n<l.length:=by omega
 have e1:((n:Int)+1).toNat=n+1:=by omega
 have e2:((n:Int)).toNat=n:=by omega
 rw[e1,e2];apply List.ext_getElem?
 intro i;rw[List.getElem?_set];have hlt:(List.take n l++List.replicate (l.length-n) free).length=l.length:=by simp;omega
 have htl:(List.take n l).length=n:=by simp;omega
 have htl1:(List.take (n+1) l).length=n+1:=by simp;omega
 by_cases hi:n=i
 ·subst hi;rw[Yq rfl,Yq (by rw[hlt];exact hn),List.getElem?_append_left (by rw[htl1];omega),List.getElem?_take,Yq (by omega),Yo,List.getElem?_eq_getElem hn];rfl
 ·rw[Yp hi];by_cases hl:i<n
  ·rw[List.getElem?_append_left (by rw[htl];exact hl),List.getElem?_append_left (by rw[htl1];omega),List.getElem?_take,List.getElem?_take,Yq hl,Yq (by omega)]
  ·rw[List.getElem?_append_right (by rw[htl];omega),List.getElem?_append_right (by rw[htl1];omega),htl,htl1,List.getElem?_replicate,List.getElem?_replicate]
   by_cases hb:i<l.length
   ·rw[Yq (by omega),Yq (by omega)]
   ·rw[Yp (by omega),Yp (by omega)]
theorem Tg {l:List Obj} {g:Int} (h0:0<=g) (h1:g<(l.length:Int)) (x:Obj):eU (jq l g) g x=cG x (l.length:Int):=by
 have hh:cQ (jq l g) g=0:=ki.2 (by rw[wz (by omega)];exact⟨h0,h1⟩)
 unfold eU ai;rw[Yq hh,wz (by omega)]
theorem P5 {l:List Obj} {g:Int} (h0:0<=g) (h1:g<(l.length:Int)) (hx:cG (ah l g.toNat free) (l.length:Int)=0):cW (jq l g) g (ah l g.toNat free)=jq l (g+1):=by
 have hh:cQ (jq l g) g=0:=ki.2 (by rw[wz (by omega)];exact⟨h0,h1⟩)
 unfold cW ai;rw[Yq ⟨hh,by rw[wz (by omega)];exact hx⟩]
 exact OQ h0 h1
theorem sb (o:Obj) (n:Int):(cG o n=0/\bT o n=true)\/(cG o n=2/\bT o n=false):=by
 unfold cG;cases bT o n<;>simp
theorem jY (k:Key):(bf k=true/\aX k=k.oid/\0<=k.oid)\/(bf k=false/\aX k= -1):=by
 have h:aX k=if bf k then k.oid else -1:=rfl
 cases hn:bf k
 ·exact .inr ⟨rfl,by rw[h,hn];rfl⟩
 ·refine .inl ⟨rfl,by rw[h,hn];rfl,?_⟩
  unfold bf at hn;simp only[Yj]at hn;have:=hn.1;simp only[aT,fG,hn.2,if_true,Yj,Yk]at this;omega
theorem Co (l:List Obj) (k:Key) (hl:l.length<=9223372036854775807):((decide (0<=aX k)&&decide (aX k<b9 (ai l)))=true->aG IntKind.i64 (b9 (ai l)-1))/\
  ((decide (0<=aX k)&&decide (aX k<b9 (ai l)))=true->
    0<=kI (aX k) (b9 (ai l)-1)/\kI (aX k) (b9 (ai l)-1)< ↑(ai l))/\
    ((decide (0<=aX k)&&decide (aX k<b9 (ai l)))=true->
      (kI (aX k) (b9 (ai l)-1)).toNat<ai l)/\
      (decide (0<=aX k)&&decide (aX k<b9 (ai l))&&
        cc k (ah l (kI (aX k) (b9 (ai l)-1)).toNat free))=
       aU l k:=by
 unfold b9 ai
 have hm:0<=aX k->aX k<(l.length:Int)->kI (aX k) ((l.length:Int)-1)=aX k:=fun h1 h2=>by
  unfold kI;rw[Yp (by omega)]
 simp only[Yj,Yk];refine⟨fun h=>by simp only[aG,bY];omega,fun h=>by rw[hm h.1 h.2];exact h,fun h=>by rw[hm h.1 h.2];omega,?_⟩
 rcases jY k with⟨h1,h2,h3⟩|⟨h1,h2⟩
 ·by_cases hh:k.oid<(l.length:Int)
  ·rw[hm (by omega) (by omega),h2]
   have h0:cQ l k.oid=0:=ki.2 ⟨h3,hh⟩;unfold aU;simp[h1,h0,h3,hh]
  ·have h0:¬cQ l k.oid=0:=fun h=>hh (ki.1 h).2
   unfold aU;rw[h2];simp[h0,hh]
 ·unfold aU;simp[h1,h2]
theorem HC (l:List Obj) (k:Key):((decide (b9 (ai l)=0)|| !decide (bD k=0)||decide (0<=aX k)&& !aU l k)=true->void=ae l k)/\
  ((decide (b9 (ai l)=0)|| !decide (bD k=0)||decide (0<=aX k)&& !aU l k)=false->k=ae l k):=by
 have hc:(!decide (bD k=0))= !aT k:=by unfold bD;cases aT k<;>simp
 have hd:decide (0<=aX k)=bf k:=by
  rcases jY k with⟨h1,h2,h3⟩|⟨h1,h2⟩
  ·rw[h1,h2];simpa using h3
  ·rw[h1,h2];simp
 have he:decide (b9 (ai l)=0)=bC l:=by
  unfold bC b9;rw[decide_eq_decide];omega
 rw[hc,hd,he];unfold ae;exact⟨fun h=>by rw[h];rfl,fun h=>by rw[h];rfl⟩
theorem yj {l:List Obj} {k:Key} (h:aU l k=true):0<=aX k/\aX k<(l.length:Int)/\aa l k=ah l (aX k).toNat free:=by
 have h':=h;unfold aU at h;simp only[Yj,Yk]at h;have hb:=ki.1 h.1.2;rcases jY k with⟨h1,h2,h3⟩|⟨h1,h2⟩
 ·rw[h2];exact⟨hb.1,hb.2,by unfold aa;rw[h',Yq rfl]⟩
 ·rw[h1]at h;simp at h
theorem pU {L M:List Obj} (h:L.length=M.length) (h2:∀j:Nat,j<L.length->ah L j free=ah M j free):L=M:=by
 apply List.ext_getElem h
 intro i h3 h4;have:=h2 i h3;unfold ah at this;simpa[Yo,h3,h4]using this
theorem MP {L M:List Obj} {g:Int} (hg:oS L M g) (hge:(ai L:Int)<=g):(decide (g=b9 (ai M))&&decide (an L=g))=ev L M:=by
 obtain⟨g0,g1,g2,g3⟩:=hg;have e:g=(L.length:Int):=by unfold ai at *;omega
 subst e;unfold ev an b9 ai;cases hd:decide (L=M)with
 |true=>
  have:=Yn hd;subst this;simp
 |false=>
  have hne:=Ym hd;simp only[decide_true,Bool.and_true,decide_eq_false_iff_not];intro hl;exact hne (pU (by omega) fun j hj=>g3 j (by omega))
end Go.Sx
namespace Go.Proofs.YtghpaegglbbocaaGreat
open Go.Sx
set_option maxRecDepth 100000
theorem IM:
 true=bC []:=by
 rfl
theorem IL (L:List Sx.Obj):
 decide (b9 (ai L)=0)=bC L:=by
 unfold bC b9 ai;rw[decide_eq_decide];omega
theorem oV:ck Tryz.prog 34 Eu:=
 Jk (fun _=>rfl) (aV (inl:=bp) (ann:=aP) ak IM (by kernel_rfl)) (fun L _ _=>aV (inl:=bp) (ann:=aP) ak (IL L) (by kernel_rfl))
theorem QK (i:Int):
 (bC []=true->1=cQ [] i)/\
  (bC []=false->((!decide (i<0))=true->False)/\((!decide (i<0))=false->4=cQ [] i)):=by
 exact⟨fun _=>rfl,fun h=>by simp[qG]at h⟩
theorem Oc (L:List Sx.Obj) (i:Int):
 (bC L=true->1=cQ L i)/\
  (bC L=false->
   ((decide (i<0)||decide (b9 (ai L)<=i))=true->4=cQ L i)/\
     ((decide (i<0)||decide (b9 (ai L)<=i))=false->0=cQ L i)):=by
 refine⟨fun h=>?_,fun h=>?_⟩
 ·rw[zg.1 h];rfl
 ·rw[Ki h];unfold b9 ai;refine⟨fun h1=>?_,fun h1=>?_⟩
  ·simp only[Bool.or_eq_true,Yk]at h1;rw[Yq h1]
  ·simp only[Bool.or_eq_false_iff,decide_eq_false_iff_not]at h1;rw[Yp (by omega)]
theorem xQ:ck Tryz.prog 27 V6:=
 wg (fy .i64) (fun _ _=>rfl) (fun x _=>aV (inl:=bp) (ann:=aP) (ab oV ak) (QK x) (by kernel_rfl)) (fun L x _ _ _=>aV (inl:=bp) (ann:=aP) (ab oV ak) (Oc L x) (by kernel_rfl)) fun _=>rfl
theorem J5:
 (bC []=true->0=an [])/\(bC []=false->False):=by
 exact⟨fun _=>rfl,fun h=>by simp[qG]at h⟩
theorem LD (L:List Sx.Obj):
 (bC L=true->0=an L)/\(bC L=false->b9 (ai L)=an L):=by
 exact⟨fun h=>by rw[zg.1 h];rfl,fun _=>rfl⟩
theorem bB:ck Tryz.prog 23 Et:=
 Jk (fun _=>rfl) (aV (inl:=bp) (ann:=aP) (ab oV ak) J5 (by kernel_rfl)) (fun L _ _=>aV (inl:=bp) (ann:=aP) (ab oV ak) (LD L) (by kernel_rfl))
theorem Pg (i:Int):
 ((!decide (cQ [] i=0))=true->free=aR [] i/\cQ [] i=cQ [] i)/\
   ((!decide (cQ [] i=0))=false->False):=by
 exact⟨fun _=>⟨rfl,rfl⟩,fun h=>by simp[rh]at h⟩
theorem Oj (L:List Sx.Obj) (i:Int):
 ((!decide (cQ L i=0))=true->free=aR L i/\cQ L i=cQ L i)/\
   ((!decide (cQ L i=0))=false->
     (0<=i/\i< ↑(ai L))/\i.toNat<ai L/\i.toNat<ai L/\ah L i.toNat free=aR L i/\0=cQ L i):=by
 refine⟨fun h=>⟨?_,rfl⟩,fun h=>?_⟩
 ·unfold aR;rw[Yp (by simpa using h)]
 ·have h:cQ L i=0:=by simpa using h
  have hb:=ki.1 h;unfold aR ai;rw[Yq h,h];exact⟨hb,by omega,by omega,rfl,rfl⟩
theorem gY:ck Tryz.prog 14 Wj:=
 wg (fy .i64) (fun _ _=>rfl) (fun x _=>aV (inl:=bp) (ann:=aP) (ab xQ ak) (Pg x) (by kernel_rfl)) (fun L x _ _ _=>aV (inl:=bp) (ann:=aP) (ab xQ ak) (Oj L x) (by kernel_rfl)) fun _=>rfl
theorem HY (k:Key):
 ((!bf k)=true->free=aa [] k/\false=aU [] k)/\
   ((!bf k)=false->
     ((!decide (cQ [] (cS k)=0)|| !cc k (aR [] (cS k)))=true->
       free=aa [] k/\false=aU [] k)/\
       ((!decide (cQ [] (cS k)=0)|| !cc k (aR [] (cS k)))=false->
         aR [] (cS k)=aa [] k/\true=aU [] k)):=by
 exact zr [] k
theorem Hu (L:List Sx.Obj) (k:Key):
 ((!bf k)=true->free=aa L k/\false=aU L k)/\
   ((!bf k)=false->
     ((!decide (cQ L (cS k)=0)|| !cc k (aR L (cS k)))=true->
       free=aa L k/\false=aU L k)/\
       ((!decide (cQ L (cS k)=0)|| !cc k (aR L (cS k)))=false->
         aR L (cS k)=aa L k/\true=aU L k)):=by
 exact zr L k
theorem bL:ck Tryz.prog 35 Qa:=
 wg fz (fun _ _=>rfl) (fun x _=>aV (inl:=bp) (ann:=aP) (ab eY (ab gY (ab wV ak))) (HY x) (by kernel_rfl)) (fun L x _ _ _=>aV (inl:=bp) (ann:=aP) (ab eY (ab gY (ab wV ak))) (Hu L x) (by kernel_rfl)) fun _=>rfl
end Go.Proofs.YtghpaegglbbocaaGreat
namespace Go.Proofs.YtghpaegglbbocaaGreat
open Go.Sx
set_option maxRecDepth 100000
theorem SL (n:Int):
 ((decide (n<1)||decide (64<n))=true->iL n=false/\True)/\
   ((decide (n<1)||decide (64<n))=false->
     (∃g,AA n g/\Value.pointer none=Value.pointer none/\n=n/\0=g/\ []=hJ g)/\
      ∀(g:Int),
       AA n g->
        (decide (g<n)=true->
          vY (ai (hJ g)) 8/\
           aG IntKind.i64 (g+1)/\
            ∃g',
             AA n g'/\
              (n-g').toNat<(n-g).toNat/\
               Value.pointer none=Value.pointer none/\
                n=n/\g+1=g'/\iM (hJ g) free=hJ g')/\
         (decide (g<n)=false->iL n=true/\True/\hJ g=hJ n)):=by
 refine⟨fun h=>⟨?_,trivial⟩,fun h=>⟨⟨0,?_,rfl,rfl,rfl,rfl⟩,fun g hg=>⟨fun hlt=>?_,fun hge=>?_⟩⟩⟩
 ·simp only[Bool.or_eq_true,Yk]at h;unfold iL;rw[Bool.and_eq_false_iff,decide_eq_false_iff_not,decide_eq_false_iff_not];omega
 ·simp only[Bool.or_eq_false_iff,decide_eq_false_iff_not]at h;exact⟨by omega,by omega⟩
 ·simp only[Bool.or_eq_false_iff,decide_eq_false_iff_not]at h;obtain⟨g0,g1⟩:=hg;have hlt:=Yn hlt;refine⟨?_,?_,g+1,⟨by omega,by omega⟩,by omega,rfl,rfl,rfl,Q7 g0⟩
  ·unfold vY ai hJ;simp only[List.length_replicate,maxLen];omega
  ·simp only[aG,bY];omega
 ·simp only[Bool.or_eq_false_iff,decide_eq_false_iff_not]at h;obtain⟨g0,g1⟩:=hg;have hge:=Ym hge;exact⟨qH.2 (by omega),trivial,by rw[show g=n by omega]⟩
theorem Jv (n:Int):aj Tryz.prog 20 [.it .i64 n] [] (Xl n) (fun _ _=>False):=aV (inl:=bp) (ann:=(iB [(20,5,XT [2,3,4,13] (fun g=> [(14,.it .i64 g)]) 0 tS eS hJ (AA n) n)])) ak (SL n) (by kernel_rfl)
theorem Nt:lA Tryz.prog 20 RM:=by
 intro args res K KP h;unfold RM at h;split at h
 ·split at h
  ·rename_i n hn;refine aj.args (ee.rd (fy .i64) hn ee.nil) ?_;cases hb:iL n with
   |false=>exact aj.pure rfl rfl ((Jv n).mono (fun v r hv=>Nk hb hv) fun _ _ h=>h) (h.1 hb)
   |true=>
    refine aj.QB (F:=fun j=> .tp [.lp j 0,.ci .i64 0]) rfl ?_ (h.2 hb)
    refine aj.shut (Jv n) fun v r hv=>?_
    obtain⟨j,r',_,h1,h2,h3⟩:=FV hb hv;rcases h1 with rfl|h1
    ·exact .inl ⟨j,h2,h3⟩
    ·exact .inr ⟨j,r',h1,j,h2,h3⟩
  ·exact h.elim
 ·exact h.elim
theorem Qx (i:Int) (o:Sx.Obj):
 ((!decide (cQ [] i=0))=true->cQ [] i=eU [] i o)/\((!decide (cQ [] i=0))=false->False):=by
 refine⟨fun _=>?_,fun h=>by simp[rh]at h⟩
 rw[FR,rh]
theorem Ro (i:Int) (o:Sx.Obj):aj Tryz.prog 41 [lg,.it .i64 i,.ob o] [] (mS (.it .i64 (eU [] i o))) (fun _ _=>False):=aV (inl:=bp) (ann:=aP) (ab xQ (ab Br ak)) (Qx i o) (by kernel_rfl)
theorem PK (L:List Sx.Obj) (i:Int) (o:Sx.Obj):
 ((!decide (cQ L i=0))=true->cQ L i=eU L i o/\L=cW L i o)/\
   ((!decide (cQ L i=0))=false->
     ((!decide (cG o (b9 (ai L))=0))=true->cG o (b9 (ai L))=eU L i o/\L=cW L i o)/\
       ((!decide (cG o (b9 (ai L))=0))=false->
         (0<=i/\i< ↑(ai L))/\i.toNat<ai L/\0=eU L i o/\cB L i.toNat o=cW L i o)):=by
 refine⟨fun h=>?_,fun h=>⟨fun h2=>?_,fun h2=>?_⟩⟩
 ·obtain⟨a,b⟩:=Qr (o:=o) (show cQ L i≠0 by simpa using h)
  rw[a,b];exact⟨rfl,rfl⟩
 ·obtain⟨a,b⟩:=TK (o:=o) (show cQ L i=0 by simpa using h) (show cG o (ai L:Int)≠0 by unfold b9 at h2;simpa using h2)
  rw[a,b];exact⟨rfl,rfl⟩
 ·have h:=(show cQ L i=0 by simpa using h)
  have hb:=ki.1 h;obtain⟨a,b⟩:=sO (o:=o) h (show cG o (ai L:Int)=0 by unfold b9 at h2;simpa using h2)
  rw[a,b];exact⟨hb,by unfold ai;omega,rfl,rfl⟩
theorem O5 (L:List Sx.Obj) (i:Int) (o:Sx.Obj):aj Tryz.prog 41 [.lp 0 0,.it .i64 i,.ob o] [.blk tS (.ag [.sa 1]),.obs eS 2 L,.gen 1] (WK (.it .i64 (eU L i o)) (cW L i o)) (fun _ _=>False):=aV (inl:=bp) (ann:=aP) (ab xQ (ab Br ak)) (PK L i o) (by kernel_rfl)
theorem PT (i:Int) (o:Sx.Obj):
 ((!decide (cQ [] i=0))=true->cQ [] i=eU [] i o)/\
   ((!decide (cQ [] i=0))=false->
     ((!decide (cG o 0=0))=true->cG o 0=eU [] i o)/\((!decide (cG o 0=0))=false->False)):=by
 refine⟨fun _=>?_,fun h=>by simp[rh]at h⟩
 rw[FR,rh]
theorem Rz (i:Int) (o:Sx.Obj):aj Tryz.prog 41 [.lp 0 0,.it .i64 i,.ob o] [.ro (.blk tS (.ag [.nl (.slice none 0 0)]))] (mS (.it .i64 (eU [] i o))) (fun _ _=>False):=aV (inl:=bp) (ann:=aP) (ab xQ (ab Br ak)) (PT i o) (by kernel_rfl)
theorem dO:lA Tryz.prog 41 R5:=by
 intro args res K KP h;unfold R5 at h;split at h
 ·split at h
  ·rename_i i hi;split at h
   ·rename_i o ho;refine aj.args (ee.iW (ee.rd (fy .i64) hi (ee.rd yR ho ee.nil))) ?_;split at h
    ·split at h
     ·exact aj.pure rfl rfl ((Ro i o).mono (fun _ _ h=>dr h) fun _ _ h=>h) h
     ·exact h.elim
    ·split at h
     ·rename_i hoff;have hoff:=Yl.1 hoff;subst hoff;split at h
      ·rename_i hr;split at h
       ·rename_i hc;simp only[Yj,Yl]at hc;obtain⟨rfl,rfl⟩:=hc;exact Xt hr rfl rfl (fun _ _=>O5 _ i o) h
       ·exact h.elim
      ·rename_i hr;split at h
       ·rename_i hc;simp only[Yj,Yl]at hc;obtain⟨rfl,hz⟩:=hc;have:=yt hz;subst this;refine aj.NC (r0:= .blk tS (.ag [.nl (.slice none 0 0)])) (by unfold de;rw[hr]) (by simp) (fun κ=>rfl) rfl rfl ((Rz i o).mono (fun _ _ h=>dr h) fun _ _ h=>h) h
       ·exact h.elim
      ·exact h.elim
     ·exact h.elim
    ·exact h.elim
   ·exact h.elim
  ·exact h.elim
 ·exact h.elim
theorem Kl (l:List Sx.Obj) (hl:l.length<=9223372036854775807):
 ((decide (b9 (ai l)<1)||decide (64<b9 (ai l)))=true->false=fb l)/\
   ((decide (b9 (ai l)<1)||decide (64<b9 (ai l)))=false->
     (∃g,pQ l g/\false=false/\0=g/\l=l)/\
      ∀(g:Int),
       pQ l g->
        (decide (g<b9 (ai l))=true->
          (0<=g/\g< ↑(ai l))/\
           g.toNat<ai l/\
            ((!decide (cG (ah l g.toNat free) (b9 (ai l))=0))=true->false=fb l)/\
              ((!decide (cG (ah l g.toNat free) (b9 (ai l))=0))=false->
                aG IntKind.i64 (g+1)/\
                 ∃g',
                  pQ l g'/\
                   (b9 (ai l)-g').toNat<(b9 (ai l)-g).toNat/\
                    false=false/\g+1=g'/\l=l))/\
         (decide (g<b9 (ai l))=false->true=fb l)):=by
 refine⟨fun h=>?_,fun h=>⟨⟨0,⟨by omega,by omega,fun j hj=>by omega⟩,rfl,rfl,rfl⟩,fun g hg=>⟨fun hlt=>?_,fun hge=>?_⟩⟩⟩
 ·simp only[Bool.or_eq_true,Yk]at h;simp only[gr]at h;exact(tq fun hh=>by have h1:=hh.1;have h2:=hh.2.1;omega).symm
 ·obtain⟨g0,g1,g2⟩:=hg;have hlt:=Yn hlt;unfold b9 at *;refine⟨⟨g0,hlt⟩,by omega,fun hb=>(tq fun hh=>?_).symm,fun hb=>⟨?_,g+1,⟨by omega,by omega,fun j hj=>?_⟩,by omega,rfl,rfl,rfl⟩⟩
  ·have:=hh.2.2 g.toNat (by unfold ai at hlt;omega)
   unfold cG ai at hb;rw[this]at hb;simp at hb
  ·simp only[aG,bY];unfold ai at *;omega
  ·by_cases e:(j:Int)<g
   ·exact g2 j e
   ·have:j=g.toNat:=by omega
    subst this;rcases sb (ah l g.toNat free) (ai l:Int)with⟨h1,h2⟩|⟨h1,h2⟩
    ·exact h2
    ·rw[h1]at hb;simp at hb
 ·obtain⟨g0,g1,g2⟩:=hg;have hge:=Ym hge;have hle:=lj l;simp only[Bool.or_eq_false_iff,decide_eq_false_iff_not]at h;simp only[gr]at h hge;exact(fj.2 ⟨by omega,by omega,fun i hi=>g2 i (by omega)⟩).symm
theorem Il:ck Tryz.prog 25 Ox:=T1 (fun _=>rfl) fun l _ hl=>aV (inl:=bp) (ann:=(iB [(25,4,Rk [0,2] (fun g=> [(3,.it .i64 g)]) (pQ l) (b9 (ai l)))])) (ab MU ak) (Kl l hl) (by kernel_rfl)
theorem EU (l:List Sx.Obj) (k:Key) (hl:l.length<=9223372036854775807):
 ((decide (0<=aX k)&&decide (aX k<b9 (ai l)))=true->aG IntKind.i64 (b9 (ai l)-1))/\
   ((decide (0<=aX k)&&decide (aX k<b9 (ai l)))=true->
     0<=kI (aX k) (b9 (ai l)-1)/\kI (aX k) (b9 (ai l)-1)< ↑(ai l))/\
     ((decide (0<=aX k)&&decide (aX k<b9 (ai l)))=true->
       (kI (aX k) (b9 (ai l)-1)).toNat<ai l)/\
       (decide (0<=aX k)&&decide (aX k<b9 (ai l))&&
         cc k (ah l (kI (aX k) (b9 (ai l)-1)).toNat free))=
        aU l k:=by
 exact Co l k hl
theorem mC:ck Tryz.prog 109 GI:=Ff fz (fun _ _=>rfl) (fun l k _ hl _=>aV (inl:=bp) (ann:=aP) (ab me (ab Ep ak)) (EU l k hl) (by kernel_rfl)) fun _=>rfl
theorem Vo (l:List Sx.Obj) (hl:l.length<=9223372036854775807):
 true=true/\
  (iL (b9 (ai l))=false->fb l=false/\True)/\
   (iL (b9 (ai l))=true->
    (∃g,
      pQ l g/\
       Value.pointer none=Value.pointer none/\
        b9 (ai l)=b9 (ai l)/\0=g/\l=l/\hJ (b9 (ai l))=jq l g)/\
     ∀(g:Int),
      pQ l g->
       (decide (g<b9 (ai l))=true->
         (0<=g/\g< ↑(ai l))/\
          g.toNat<ai l/\
           true=true/\
            ((!decide (eU (jq l g) g (ah l g.toNat free)=0))=true->
              fb l=false/\eU (jq l g) g (ah l g.toNat free)=2)/\
              ((!decide (eU (jq l g) g (ah l g.toNat free)=0))=false->
                aG IntKind.i64 (g+1)/\
                 ∃g',
                  pQ l g'/\
                   (b9 (ai l)-g').toNat<(b9 (ai l)-g).toNat/\
                    Value.pointer none=Value.pointer none/\
                     b9 (ai l)=b9 (ai l)/\
                      g+1=g'/\l=l/\cW (jq l g) g (ah l g.toNat free)=jq l g'))/\
        (decide (g<b9 (ai l))=false->fb l=true/\True/\jq l g=l)):=by
 refine⟨rfl,fun h=>⟨tq fun hh=>?_,trivial⟩,fun h=>⟨⟨0,⟨by omega,by omega,fun j hj=>by omega⟩,rfl,rfl,rfl,rfl,Kr⟩,fun g hg=>⟨fun hlt=>?_,fun hge=>?_⟩⟩⟩
 ·have:iL (b9 (ai l))=true:=qH.2 (by unfold b9 ai;omega)
  rw[this]at h;simp at h
 ·obtain⟨g0,g1,g2⟩:=hg;have hlt:=Yn hlt;have h:=qH.1 h;have hle:=lj l;simp only[gr]at *;rw[Tg g0 hlt];refine⟨⟨g0,hlt⟩,by omega,trivial,fun hb=>⟨tq fun hh=>?_,?_⟩,fun hb=>⟨?_,g+1,⟨by omega,by omega,fun j hj=>?_⟩,by omega,trivial,trivial,rfl,trivial,P5 g0 hlt (by simpa using hb)⟩⟩
  ·have:=hh.2.2 g.toNat (by omega)
   unfold cG at hb;rw[this]at hb;simp at hb
  ·rcases sb (ah l g.toNat free) (l.length:Int)with⟨h1,h2⟩|⟨h1,h2⟩
   ·rw[h1]at hb;simp at hb
   ·exact h1
  ·simp only[aG,bY];omega
  ·by_cases e:(j:Int)<g
   ·exact g2 j e
   ·have:j=g.toNat:=by omega
    subst this;rcases sb (ah l g.toNat free) (l.length:Int)with⟨h1,h2⟩|⟨h1,h2⟩
    ·exact h2
    ·rw[h1]at hb;simp at hb
 ·obtain⟨g0,g1,g2⟩:=hg;have hge:=Ym hge;have h:=qH.1 h;have hle:=lj l;simp only[gr]at *;exact⟨fj.2 ⟨by omega,by omega,fun i hi=>g2 i (by omega)⟩,trivial,P3 (by omega)⟩
theorem RN (l:List Sx.Obj) (own:Option Nat):aj Tryz.prog 26 [.sa 0] [.ro (.arr own 163 (.ob l))] (WR l) (fun _ _=>False):=
 aj.VN (aj.BW (k:=0) rfl fun _ hl=>(bn (inl:=bp) (ann:=(iB [(26,5,UJ [0,2,3,4,5,18,19] (fun g=> [(20,.it .i64 g)]) 1 (fun g=> .store tS eS (jq l g)) (pQ l) (b9 (ai l)))])) ak (aD Nt (aD dO aC)) (Vo l hl) (by kernel_rfl):aj Tryz.prog 26 [.sa 0] [.ro (.arr none 163 (.ob l))] (WR l) (fun _ _=>False)))
theorem VU:lA Tryz.prog 26 Vn:=by
 intro args res K KP h;unfold Vn at h;split at h
 ·split at h
  ·split at h
   ·rename_i hr;split at h
    ·rename_i he;have he:=Yl.1 he;subst he;split at h
     ·rename_i l;cases hb:fb l with
      |false=>exact aj.Vb hr rfl rfl ((RN l _).mono (fun v r hv=>Nk hb (Gu hv).1) fun _ _ h=>h) (h.1 hb)
      |true=>
       refine aj.Nq (F:=fun j=> .tp [.lp j 0,.ci .i64 0]) hr rfl ?_ (h.2 hb)
       refine aj.shut (RN l _) fun v r hv=>?_
       obtain⟨hv,h0⟩:=Gu hv;obtain⟨j,r',hs,h1,h2,h3⟩:=FV hb hv
       have hj:1<=j:=by
        rcases Nat.eq_zero_or_pos j with rfl|hj
        ·rw[h0]at hs;simp at hs
        ·exact hj
       rcases h1 with rfl|h1
       ·exact .inl ⟨j,hj,h2,h3⟩
       ·exact .inr ⟨j,r',h1,j,hj,h2,h3⟩
     ·exact h.elim
    ·exact h.elim
   ·exact h.elim
  ·exact h.elim
 ·exact h.elim
end Go.Proofs.YtghpaegglbbocaaGreat
namespace Go.Sx
def fW (r b:Int):Bool:=decide ((r.tdiv b).tmod 2=1)
def fQ (r m g:Int):Int:=(if 2<=g/\(fW r 1||fW m 1)=true then 1 else 0)+(if 4<=g/\(fW r 2||fW m 2)=true then 2 else 0)+(if 8<=g/\(fW r 4||fW m 4)=true then 4 else 0)
def gw (r m:Int):Int:=fQ r m 8
def jS (g:Int):Prop:=g=1\/g=2\/g=4\/g=8
def cM (k:Key) (r:Int):Key:= {k with rights:=r}
def jU (k:Key):Key:=if k.kind=2 then cM k (gw k.rights 3)else if k.kind=3 then cM k 1 else if k.kind=1\/k.kind=8 then k else void
def gC (k:Key):Key:=if aT k then jU k else void
def Q4:Ct:=PF (rI .i64) (rI .i64) fun r m=> .it .i64 (gw r m)
def PQ:Ct:=NP rK fun k=> .key (jU k)
def Iq:Ct:=NP rK fun k=> .tp [.key (gC k),.it .i64 (bD k)]
def ay (L:List Obj) (k:Key) (kind:Int) (c:Bool):Int:=if ai L=0 then 1 else if(!aU L k|| !decide (k.kind=kind))=true then 190 else if(c&& !decide (k.rights.tmod 4=0))=true then 191 else 0
def qP (k:Key):Bool:=decide ((k.rights.tdiv 2).tmod 2=1)
def iC (L:List Obj) (o:Obj) (k:Key) (i:Int):Key:=if qP k then jU (ae L (o.slots.at i.toNat))else ae L (o.slots.at i.toNat)
def cK (L:List Obj) (k:Key) (i:Int):Key:=iC L (ah L k.oid.toNat free) k i
def nz (k:Key) (i:Int):Prop:=0<=i/\i<16/\aT k=true
def m9 (L:List Obj) (k:Key) (i:Int):Prop:=0<=i/\i<16/\0<=k.oid/\k.oid<(ai L:Int)
def ju (i:Int):Bool:=decide (0<=i)&&decide (i<16)
def bI (L:List Obj) (k:Key) (i:Int):Int:=if ay L k 2 false=0 then(if ju i then 0 else 4)else ay L k 2 false
def aF (L:List Obj) (k:Key) (i:Int):Key:=if bI L k i=0 then cK L k i else void
def cZ (L:List Obj) (v:Key):Bool:=aT v&&decide (aX v<(ai L:Int))
def ba (L:List Obj) (k:Key) (i:Int) (v:Key):Int:=if ay L k 2 true=0 then(if ju i then(if cZ L v then 0 else 2)else 4)else ay L k 2 true
def cy (L:List Obj) (k:Key) (i:Int) (v:Key):Key:=if ba L k i v=0 then cK L k i else void
def ep (o:Obj) (s:cR):Obj:= {o with slots:=s}
def su (L:List Obj) (k:Key) (s:cR):List Obj:=cB L k.oid.toNat (ep (ah L k.oid.toNat free) s)
def b6 (L:List Obj) (k:Key) (i:Int) (v:Key):List Obj:=if ba L k i v=0 then su L k ((ah L k.oid.toNat free).slots.put i.toNat (ae L v))else L
def eT (L:List Obj) (k:Key):List Obj:=if ay L k 2 true=0 then su L k fY else L
def bG (L:List Obj) (t f:Key):Int:=if ay L t 2 true=0 then ay L f 2 false else ay L t 2 true
def cX (L:List Obj) (t f:Key) (g:Int):cR:=(List.range g.toNat).foldl (fun s (j:Nat)=>s.put j (cK L f (j:Int))) (ah L t.oid.toNat free).slots
def dZ (L:List Obj) (t f:Key):List Obj:=if bG L t f=0 then su L t (cX L t f 16)else L
def aq (L:List Obj):Prop:=fb L=true
def kx (g:Int):Prop:=0<=g/\g<=16
def kA:Arg Key:=EE rK V.key
def iA:Arg Int:=EE (rI .i64) (V.it .i64)
def bA:Arg Bool:=EE toBool V.bo
def oA:Arg Obj:=EE rO V.ob
def sA:Arg (Option (List Obj)):=WM tS eS
def DJ (o:Option (List Obj)):List Obj:=match o with
 |none=> []
 |some L=>L
def nB:lz (Obj×Option (List Obj)×Key×Unit):=bk oA (bk sA (bk kA iw))
def Ua:Ct:=sF (bk (WV nB) (bk iA iw)) (fun x=>some (nz x.1.2.2.1 x.2.1)) fun x=> .key (iC (DJ x.1.2.1) x.1.1 x.1.2.2.1 x.2.1)
def Q3:Ct:=sF (bk BI (bk kA (bk iA (bk bA iw)))) (fun _=>none) fun x=> .it .i64 (ay x.1 x.2.1 x.2.2.1 x.2.2.2.1)
def TV:Ct:=sF (bk BI (bk kA (bk iA iw))) (fun x=>some (m9 x.1 x.2.1 x.2.2.1)) fun x=> .key (cK x.1 x.2.1 x.2.2.1)
def VP:Ct:=sF (bk BI (bk kA iw)) (fun _=>none) fun x=> .bo (cZ x.1 x.2.1)
def T7:Ct:=sF (bk sA (bk kA (bk iA iw))) (fun _=>none) fun x=> .tp [.key (aF (DJ x.1) x.2.1 x.2.2.1),.it .i64 (bI (DJ x.1) x.2.1 x.2.2.1)]
def dR (L:List Obj) (i:Int):Prop:=0<=i/\i<(ai L:Int)/\ai L<=1000
def tO:Nat:=48
def S9:Ct:=Sz (bk BI (bk iA (bk oA iw))) (fun x=>some (dR x.1 x.2.1)) (fun _ n=> .sa n) fun x _=> [.arr (some tO) 163 (.ob (cB x.1 (oY x.2.1) x.2.2.1))]
theorem sG {r g:Int} (hr:bY .i64 r) (hg:g=1\/g=2\/g=4\/g=8):bY .i64 (r.tdiv g):=by
 simp only[bY]at *;rcases Int.le_total 0 r with h|h
 ·rw[Int.tdiv_eq_ediv_of_nonneg h];rcases hg with rfl|rfl|rfl|rfl<;>omega
 ·obtain⟨s,rfl⟩:∃s,r= -s:=⟨-r,by omega⟩
  rw[Int.neg_tdiv,Int.tdiv_eq_ediv_of_nonneg (by omega)]
  rcases hg with rfl|rfl|rfl|rfl<;>omega
theorem nO (x:Int):bY .i64 (x.tmod 2):=by
 have h1:=Int.tmod_lt_of_pos x (show(0:Int)<2 by omega)
 have h2:=Int.lt_tmod_of_pos x (show(0:Int)<2 by omega)
 simp only[bY];omega
theorem Ck {r m g:Int}:0<=fQ r m g/\fQ r m g<=7:=by
 unfold fQ;repeat' split
 all_goals omega
theorem ND {r:Int} (h0:0<=r) (h1:r<=7):bc .or .i64 r 3=gw r 3:=by
 have:r=0\/r=1\/r=2\/r=3\/r=4\/r=5\/r=6\/r=7:=by omega
 rcases this with rfl|rfl|rfl|rfl|rfl|rfl|rfl|rfl<;>decide
theorem Df {r:Int} (h0:0<=r) (h1:r<=1):bc .or .i64 r 1=1:=by
 have:r=0\/r=1:=by omega
 rcases this with rfl|rfl<;>decide
theorem gT {k:Key} (h:aT k=true):0<=k.rights/\k.rights<=eK k.kind:=by
 simp only[aT,Yj,Yk]at h;omega
theorem pb:aT void=true:=by decide
theorem ou (L:List Obj) (k:Key):aT (ae L k)=true:=by
 unfold ae;split
 ·exact pb
 ·rename_i h;simp only[Bool.or_eq_true,not_or,Bool.not_eq_true,Bool.not_eq_false']at h;exact h.1.2
theorem DE (L:List Obj) (k:Key):gC (ae L k)=jU (ae L k):=by unfold gC;rw[ou,Yq rfl]
theorem Xj {r:Int} (h0:0<=r) (h1:r<=7):decide (bc .and .i64 r 2=0)= !decide ((r.tdiv 2).tmod 2=1):=by
 have:r=0\/r=1\/r=2\/r=3\/r=4\/r=5\/r=6\/r=7:=by omega
 rcases this with rfl|rfl|rfl|rfl|rfl|rfl|rfl|rfl<;>decide
theorem N5 {r:Int} (h0:0<=r) (h1:r<=7):decide (bc .and .i64 r 3=0)=decide (r.tmod 4=0):=by
 have:r=0\/r=1\/r=2\/r=3\/r=4\/r=5\/r=6\/r=7:=by omega
 rcases this with rfl|rfl|rfl|rfl|rfl|rfl|rfl|rfl<;>decide
theorem Of (n:Int):eK n<=7:=by unfold eK;split<;>(try split)<;>omega
theorem oq {k:Key} (h:aT k=true):0<=k.rights/\k.rights<=7:=by
 have:=gT h;have:=Of k.kind;omega
theorem dz {L:List Obj} {k:Key} (h:aU L k=true):aT k=true/\0<=k.oid/\k.oid<(L.length:Int)/\aa L k=ah L k.oid.toNat free/\(ah L k.oid.toNat free).kind=fM k:=by
 have h':=h;unfold aU at h;simp only[Yj,Yk]at h;obtain⟨⟨h1,h2⟩,h3⟩:=h;have hb:=ki.1 h2;have hn:0<=aX k:=(yj h').1;simp only[cc,Yj,Bool.or_eq_true,Yk]at h3;refine⟨h3.1,hb.1,hb.2,by unfold aa;rw[h',Yq rfl],?_⟩
 rcases h3.2 with h|h
 ·omega
 ·exact h.1.1
theorem Gl {L:List Obj} {o:Obj} {k:Key} {i:Int} (hq:nz k i):(0<=i/\i< ↑16)/\
  ((!decide (bc BinOp.and IntKind.i64 k.rights 2=0))=true->gC (ae L (o.slots.at i.toNat))=iC L o k i)/\
    ((!decide (bc BinOp.and IntKind.i64 k.rights 2=0))=false->ae L (o.slots.at i.toNat)=iC L o k i):=by
 obtain⟨h0,h1,h2⟩:=hq;have hr:=oq h2;rw[Xj hr.1 hr.2,DE];unfold iC qP;refine⟨⟨h0,by omega⟩,fun h=>?_,fun h=>?_⟩
 ·rw[Yq (by simpa using h)]
 ·rw[Yp (by simpa using h)]
theorem fH {L:List Obj} {k:Key} {d:Int} {c:Bool} (h:ay L k d c=0):aU L k=true/\k.kind=d/\(c=true->k.rights.tmod 4=0):=by
 unfold ay at h;split at h
 ·omega
 ·split at h
  ·omega
  ·rename_i h2;simp only[Bool.or_eq_true,Bool.not_eq_true',decide_eq_false_iff_not,not_or,Bool.not_eq_false,Decidable.not_not]at h2;split at h
   ·omega
   ·rename_i h3;refine⟨h2.1,h2.2,fun hc=>?_⟩
    simpa[hc]using h3
theorem gQ:nK kA:=ue fz (fun _=>rfl) fun v x h=>Vg h
theorem R6:nK oA:=ue yR (fun _=>rfl) fun v x h=>by cases v<;>simp[rO]at h;rfl
theorem Gs:nK bA:=ue I7 (fun _=>rfl) fun v x h=>by cases v<;>simp[toBool]at h<;>rfl
theorem fm:nK iA:=ue (fy .i64) (fun _=>rfl) fun v x h=>by cases v<;>simp[rI,toInt]at h<;>rfl
theorem sZ:nK sA:=SI _ _
theorem VA:iu nB:=aJ R6 (aJ sZ (aJ gQ cF))
def Cn (x:V) (M:List Obj) (v:V) (r:List aI):Prop:=
 match az r 0 with
 | .store t e L=>if t==tS&&e==eS then mS x v r/\L=M else False
 |_=>False
theorem E8 {x:V} {M:List Obj} {v:V} {r:List aI} (h:Cn x M v r):yU x v r/\az r 0= .store tS eS M:=by
 unfold Cn at h;split at h
 ·rename_i hr;split at h
  ·rename_i hc;simp only[Yj,Yl]at hc;obtain⟨rfl,rfl⟩:=hc;obtain⟨h1,rfl⟩:=h;exact⟨dr h1,hr⟩
  ·exact h.elim
 ·exact h.elim
def HN {α:Type} (B:List V->Option α) (Q:List Obj->α->Prop) (F:List Obj->α->V) (M:List Obj->α->List Obj):kH:=fun args res K=>
 match args with
 |a::l=>match B l with
  |some x=>match a with
   | .nl v=>match v with
     | .pointer none=>K (F [] x) res
     |_=>False
   | .lp k off=>if off==0 then match az res k with
     | .store t e L=>if t==tS&&e==eS then Q L x/\K (F L x) (cj res k (.store tS eS (M L x)))else False
     | .blk t c=>if t==tS&&Vj c then K (F [] x) res else False
     |_=>False
     else False
   |_=>False
  |none=>False
 |_=>False
def WL:V:= .ag [.nl (.slice none 0 0)]
theorem mD {P:Program} {f:Nat} {α:Type} {B:List V->Option α} {m:α->List V} {Q:List Obj->α->Prop} {F:List Obj->α->V} {M:List Obj->α->List Obj} (hB:∀l x,B l=some x->ee l (m x)) (hid:∀x,kL (m x)=true) (hF:∀L x,j3 (F L x)=true)
  (h0:∀x,aj P f (lg::m x) [] (mS (F [] x)) (fun _ _=>False)) (hz:∀x,aj P f (.lp 0 0::m x) [.ro (.blk tS WL)] (mS (F [] x)) (fun _ _=>False))
  (h1:∀L x,Q L x->(∀o∈L,o.wf)->L.length<=9223372036854775807->aj P f (.lp 0 0::m x) [.store tS eS L] (Cn (F L x) (M L x)) (fun _ _=>False)):lA P f (HN B Q F M):=by
 intro args res K KP h;unfold HN at h;split at h
 case h_2=>exact h.elim
 split at h
 case h_2=>exact h.elim
 rename_i x hx;refine aj.args (ee.iW (hB _ _ hx)) ?_;split at h
 ·split at h
  ·exact aj.pure (by simp only[kL,j3,Bool.true_and];exact hid x) (hF _ _) ((h0 x).mono (fun _ _ h=>dr h) fun _ _ h=>h) h
  ·exact h.elim
 ·split at h
  ·rename_i hoff;have hoff:=Yl.1 hoff;subst hoff;split at h
   ·rename_i hr;split at h
    ·rename_i hc;simp only[Yj,Yl]at hc;obtain⟨rfl,rfl⟩:=hc;refine aj.AF hr (hid x) (hF _ _) (aj.fact (k:=0) rfl fun w1 w2=>(h1 _ x h.1 w1 w2).mono (fun v r hv=>E8 hv |> fun⟨a,b⟩=>⟨fun J K=>a J K,b⟩) fun _ _ h=>h) h.2
    ·exact h.elim
   ·rename_i hr;split at h
    ·rename_i hc;simp only[Yj,Yl]at hc;obtain⟨rfl,hz'⟩:=hc;have:=yt hz';subst this;exact aj.NC (r0:= .blk tS WL) (by unfold de;rw[hr];rfl) (by simp) (fun κ=>rfl) (hid x) (hF _ _) ((hz x).mono (fun _ _ h=>dr h) fun _ _ h=>h) h
    ·exact h.elim
   ·exact h.elim
  ·exact h.elim
 ·exact h.elim
def WO (l:List V):Option Key:=match l with
 | [a]=>rK a
 |_=>none
def OY (l:List V):Option (Key×Key):=match l with
 | [a,b]=>match rK a with
   |some k=>match rK b with
    |some k'=>some (k,k')
    |none=>none
   |none=>none
 |_=>none
def KX (l:List V):Option (Key×Int×Key):=match l with
 | [a,b,c]=>match rK a with
   |some k=>match rI .i64 b with
    |some i=>match rK c with
     |some k'=>some (k,i,k')
     |none=>none
    |none=>none
   |none=>none
 |_=>none
theorem KZ:∀l x,WO l=some x->ee l [.key x]:=fun l x h=>by
 unfold WO at h;split at h
 ·exact ee.rd fz h ee.nil
 ·simp at h
theorem Gm:∀l x,OY l=some x->ee l [.key x.1,.key x.2]:=fun l x h=>by
 unfold OY at h;split at h
 ·split at h
  ·rename_i h1;split at h<;>simp only[Yh,reduceCtorEq]at h
   rename_i h2;subst h;exact ee.rd fz h1 (ee.rd fz h2 ee.nil)
  ·simp at h
 ·simp at h
theorem K8:∀l x,KX l=some x->ee l [.key x.1,.it .i64 x.2.1,.key x.2.2]:=fun l x h=>by
 unfold KX at h;split at h
 ·split at h
  ·rename_i h1;split at h
   ·rename_i h2;split at h<;>simp only[Yh,reduceCtorEq]at h
    rename_i h3;subst h;exact ee.rd fz h1 (ee.rd (fy .i64) h2 (ee.rd fz h3 ee.nil))
   ·simp at h
  ·simp at h
 ·simp at h
def tK:Nat:=25
def nI (g:Int):Nat:=(16-g).toNat
def T5:kH:=HN KX (fun L _=>aq L) (fun L x=> .tp [.key (cy L x.1 x.2.1 x.2.2),.it .i64 (ba L x.1 x.2.1 x.2.2)]) fun L x=>b6 L x.1 x.2.1 x.2.2
def UD:kH:=HN WO (fun L _=>aq L) (fun L x=> .it .i64 (ay L x 2 true)) fun L x=>eT L x
def Tj:kH:=HN OY (fun L _=>aq L) (fun L x=> .it .i64 (bG L x.1 x.2)) fun L x=>dZ L x.1 x.2
theorem IU {L:List Obj} {k:Key} {d:Int} {c:Bool} (h:(!decide (0<an L))=true):ay L k d c=1:=by
 unfold ay;unfold an at h;rw[Yq (by simp at h;omega)]
theorem He {L:List Obj} {k:Key} {d:Int} {c:Bool} (h:(!decide (0<an L))=false) (h2:(!(aU L k&&decide (k.kind=d)))=true):ay L k d c=190:=by
 unfold ay;unfold an at h;rw[Yp (by simp at h;omega),Yq (by simpa using h2)]
theorem mB {L:List Obj} {k:Key} {d:Int} (h2:(!(aU L k&&decide (k.kind=d)))=false):aU L k=true/\k.kind=d:=by simpa using h2
theorem Ur {L:List Obj} {k:Key} {d:Int} (h:(!decide (0<an L))=false) (h2:(!(aU L k&&decide (k.kind=d)))=false) (h3:(!decide (bc BinOp.and IntKind.i64 k.rights 3=0))=true):ay L k d true=191:=by
 have hr:=oq (dz (mB h2).1).1;rw[N5 hr.1 hr.2]at h3;unfold ay;unfold an at h;rw[Yp (by simp at h;omega),Yp (by simpa using h2),Yq (by simpa using h3)]
theorem G6 {L:List Obj} {k:Key} {d:Int} (h:(!decide (0<an L))=false) (h2:(!(aU L k&&decide (k.kind=d)))=false) (h3:(!decide (bc BinOp.and IntKind.i64 k.rights 3=0))=false):ay L k d true=0:=by
 have hr:=oq (dz (mB h2).1).1;rw[N5 hr.1 hr.2]at h3;unfold ay;unfold an at h;rw[Yp (by simp at h;omega),Yp (by simpa using h2),Yp (by simpa using h3)]
theorem F3 {L:List Obj} {k:Key} {d:Int} (h:(!decide (0<an L))=false) (h2:(!(aU L k&&decide (k.kind=d)))=false):ay L k d false=0:=by
 unfold ay;unfold an at h;rw[Yp (by simp at h;omega),Yp (by simpa using h2),Yp (by simp)]
def fK (n:Int) (k:Key):Prop:=aT k=true/\aX k<n
theorem LS {n:Int} {k:Key}:ib 1 n k=true↔fK n k:=by simp[ib,fK]
theorem LO (r:Int):0<=gw r 3/\gw r 3<=7:=Ck
theorem Lp {n:Int} (hn:0<=n) {k:Key} (h:fK n k):fK n (jU k):=by
 obtain⟨h1,h2⟩:=h;have hv:fK n void:=⟨pb,by have:=oz.2;omega⟩
 unfold jU;split
 ·rename_i e;have hw:=LO k.rights
  have h1':aT (cM k (gw k.rights 3))=true:=by
   simp only[aT,cM,e,Yj,Yk]at h1⊢;have:eK 2=7:=rfl;grind
  refine⟨h1',?_⟩;unfold aX at h2⊢;rw[h1'];rw[h1]at h2;exact h2
 ·split
  ·rename_i e
   have h1':aT (cM k 1)=true:=by
    simp only[aT,cM,e,Yj,Yk]at h1⊢;have:eK 3=1:=rfl;grind
   refine⟨h1',?_⟩;unfold aX at h2⊢;rw[h1'];rw[h1]at h2;exact h2
  ·split
   ·exact⟨h1,h2⟩
   ·exact hv
theorem yN {L:List Obj} (hL:0<L.length) (k:Key):fK (L.length:Int) (ae L k):=by
 have hv:fK (L.length:Int) void:=⟨pb,by have:=oz.2;omega⟩
 unfold ae;split
 ·exact hv
 ·rename_i h;simp only[Bool.or_eq_true,not_or,Bool.not_eq_true,Bool.not_eq_false',Bool.and_eq_false_imp]at h;refine⟨h.1.2,?_⟩;rcases jY k with⟨a,b,c⟩|⟨a,b⟩
  ·rw[b];exact(dz (h.2 a)).2.2.1
  ·omega
theorem Pz {L:List Obj} (hL:0<L.length) (k:Key) (i:Int):fK (L.length:Int) (cK L k i):=by
 unfold cK iC;split
 ·exact Lp (by omega) (yN hL _)
 ·exact yN hL _
theorem Ax {o:Obj} {n:Int} {s:cR} (h:bT o n=true) (hk:o.kind=1) (hs:∀i,i<16->fK n (s.at i)):bT (ep o s) n=true:=by
 rw[fg]at h⊢;simp only[ep];obtain⟨a1,a2,a3,a4,a5,a6,a7,a8,a9,a10,a11⟩:=h;exact⟨a1,a2,a3,a4,a5,a6,a7,a8,a9,fun i hi=>by rw[hk];exact LS.2 (hs i hi),fun i hi=> .inl (.inl hk)⟩
theorem Ad {L:List Obj} {k:Key} (h:aU L k=true) (h2:k.kind=2):(ah L k.oid.toNat free).kind=1:=by
 rw[(dz h).2.2.2.2];unfold fM;rw[Yp (by have:=(yj h).1;omega),Yp (by omega)]
theorem sB {L:List Obj} {k:Key} (hL:aq L) (h:aU L k=true) (h2:k.kind=2):∀i,i<16->fK (L.length:Int) ((ah L k.oid.toNat free).slots.at i):=fun i hi=>by
 obtain⟨_,b2,b3,_⟩:=dz h;have:=(fj.1 hL).2.2 k.oid.toNat (by omega)
 have:=(fg.1 this).2.2.2.2.2.2.2.2.2.1 i hi;rw[Ad h h2]at this;exact LS.1 this
theorem oi {L:List Obj} {k:Key} {s:cR} (hL:aq L) (h:aU L k=true) (h2:k.kind=2) (hs:∀i,i<16->fK (L.length:Int) (s.at i)):cW L k.oid (ep (aa L k) s)=su L k s/\aq (su L k s):=by
 obtain⟨b1,b2,b3,b4,_⟩:=dz h;have hr:=fj.1 hL;have ho:=Ax (hr.2.2 k.oid.toNat (by omega)) (Ad h h2) hs
 refine⟨?_,?_⟩
 ·rw[b4];exact(sO (ki.2 ⟨b2,b3⟩) (pC ho).symm).2
 ·refine fj.2 ?_;unfold su;have hl:(cB L k.oid.toNat (ep (ah L k.oid.toNat free) s)).length=L.length:=by simp[cB]
  rw[hl];refine⟨hr.1,hr.2.1,fun i hi=>?_⟩
  by_cases e:i=k.oid.toNat
  ·subst e;rw[show ah (cB L k.oid.toNat (ep (ah L k.oid.toNat free) s)) k.oid.toNat free=ep (ah L k.oid.toNat free) s by simp[ah,cB,Yo,hi]]
   exact ho
  ·rw[show ah (cB L k.oid.toNat (ep (ah L k.oid.toNat free) s)) i free=ah L i free by simp[ah,cB,Yo,List.getElem?_set,Ne.symm e]]
   exact hr.2.2 i hi
theorem Ce {L:List Obj} {k:Key} {i:Int} {v:Key} (hL:aq L) (h:aU L k=true) (h2:k.kind=2) (h0:0<=i) (h1:i<16):∀j,j<16->fK (L.length:Int) (((ah L k.oid.toNat free).slots.put i.toNat (ae L v)).at j):=fun j hj=>by
 rw[cR.gL _ _ _ _ (by omega)]
 split
 ·exact yN (fj.1 hL).1 v
 ·exact sB hL h h2 j hj
theorem FC {n:Int} (hn:0<=n):∀j,j<16->fK n (fY.at j):=fun j hj=>by
 rw[F9.1 rfl j hj];exact⟨pb,by have:=oz.2;omega⟩
theorem Ba (L:List Obj) (v:Key):(decide (bD v=0)&&(!bf v||decide (cS v<an L)))=cZ L v:=by
 unfold cZ bD cS an;rcases jY v with⟨a,b,c⟩|⟨a,b⟩
 ·rw[a,b];cases aT v<;>simp
 ·rw[a,b];have:(-1:Int)<(ai L:Int):=by omega
  cases aT v<;>simp[this]
theorem zi {L:List Obj} {t f:Key} {g:Int} (h0:0<=g):cX L t f (g+1)=(cX L t f g).put g.toNat (cK L f g):=by
 unfold cX;rw[show(g+1).toNat=g.toNat+1 by omega,List.range_succ,List.foldl_append]
 simp only[List.foldl_cons,List.foldl_nil];rw[show((g.toNat:Nat):Int)=g by omega]
theorem Di {L:List Obj} {t f:Key} (h:aa L t=ah L t.oid.toNat free):aa L t=ep (aa L t) (cX L t f 0):=by
 unfold cX ep;simp[h]
theorem CE {L:List Obj} {t f:Key} {g:Int} (h0:0<=g) (h:aa L f=ah L f.oid.toNat free) (o:Obj) (s:cR):({kind:=(ep o (cX L t f g)).kind,count:=(ep o (cX L t f g)).count,calls:=(ep o (cX L t f g)).calls,slots:=(ep o (cX L t f g)).slots.put g.toNat (iC L (aa L f) f g),bytes:=(ep o (cX L t f g)).bytes}:Obj)=ep o (cX L t f (g+1)):=by
 rw[zi h0];unfold cK;rw[h];rfl
theorem w8 {L:List Obj} {t f:Key} (hL:aq L) (h:aU L t=true) (h2:t.kind=2):∀n:Nat,n<=16->∀j,j<16->fK (L.length:Int) ((cX L t f n).at j)
 |0,_,j,hj=>by
  unfold cX;exact sB hL h h2 j hj
 |n+1,hn,j,hj=>by
  rw[show((n+1:Nat):Int)=(n:Int)+1 by omega,zi (by omega),cR.gL _ _ _ _ (by omega)]
  split
  ·exact Pz (fj.1 hL).1 _ _
  ·exact w8 hL h h2 n (by omega) j hj
theorem zF {L M:List Obj} {g:Int} (hg:oS L M g) (hge:(ai L:Int)<=g):decide (g=b9 (ai M))=ev L M:=by
 have:=MP hg hge
 have e:an L=g:=by
  have:=hg.2.1;unfold an;omega
 rw[decide_eq_true e,Bool.and_true]at this;exact this
structure Wg where
 kind:Int
 slot:Int
 key:Key
 other:Key
def fE (l:List Obj):Bool:=decide ((ai l:Int)<=20)&&fb l
def TQ:kH:=UP (bk BI iw) (fun _=>True) (fun x=>fE x.1) (fun _=>lg) (fun _ n=> .lp n 0) (fun x=> .store tS eS x.1)
def yb (L:List Obj) (a:Wg):Bool:=
 if a.kind=1 then false else if a.kind=2 then decide (ba L a.key a.slot a.other=0)else if a.kind=3 then decide (ay L a.key 2 true=0)else if a.kind=4 then decide (bG L a.key a.other=0)else false
def Gt (L:List Obj) (a:Wg):List Obj:=
 if a.kind=1 then L else if a.kind=2 then b6 L a.key a.slot a.other else if a.kind=3 then eT L a.key else if a.kind=4 then dZ L a.key a.other else L
def V7 (c:Bool) (L0 L1:List Obj) (v:V) (r:List aI):Prop:=
 match v with
 | .tp l=>match l with
   | [a,b]=>match a with
     | .sa p=>match az r 0 with
       | .store t e L=>if t==tS&&e==eS then
         if p==1 then mS (.bo true) b r/\c=false/\L=L0
         else if Nat.ble 2 p then match az r p with
          | .arr o z l=>match o with
            |some e'=>match l with
             | .ob M=>if e'==tO&&z==163 then mS (.bo true) b r/\c=true/\L=L1/\M=L1 else False
             |_=>False
            |none=>False
          |_=>False
         else False
         else False
       |_=>False
     |_=>False
   |_=>False
 |_=>False
theorem MV {L:List Obj} {k:Key} {i:Int} (h:ay L k 2 false≠0):bI L k i=ay L k 2 false/\aF L k i=void:=by
 have:bI L k i=ay L k 2 false:=by unfold bI;rw[Yp h]
 exact⟨this,by unfold aF;rw[this,Yp h]⟩
theorem JF {L:List Obj} {k:Key} {i:Int} (h:ay L k 2 false=0) (hr:i<0\/15<i):bI L k i=4/\aF L k i=void:=by
 have:bI L k i=4:=by
  unfold bI ju;rw[Yq h,Yp (by simp;omega)]
 exact⟨this,by unfold aF;rw[this];rfl⟩
theorem N6 {L:List Obj} {k:Key} {i:Int} (h:ay L k 2 false=0) (hr:¬(i<0\/15<i)):bI L k i=0/\aF L k i=cK L k i:=by
 have:bI L k i=0:=by
  unfold bI ju;rw[Yq h,Yq (by simp;omega)]
 exact⟨this,by unfold aF;rw[this];rfl⟩
theorem A0 {L:List Obj} {k:Key} {i:Int} {v:Key} {e:Int} (h:ba L k i v=e) (he:e≠0):ba L k i v=e/\cy L k i v=void/\b6 L k i v=L:=⟨h,by unfold cy;rw[h,Yp he],by unfold b6;rw[h,Yp he]⟩
theorem Jw {L:List Obj} {k:Key} {i:Int} {v:Key} (h:ay L k 2 true≠0):ba L k i v=ay L k 2 true/\cy L k i v=void/\b6 L k i v=L:=A0 (by unfold ba;rw[Yp h]) h
theorem IZ {L:List Obj} {k:Key} {i:Int} {v:Key} (h:ay L k 2 true=0) (hr:i<0\/15<i):ba L k i v=4/\cy L k i v=void/\b6 L k i v=L:=
 A0 (by unfold ba ju;rw[Yq h,Yp (by simp;omega)]) (by omega)
theorem Nc {L:List Obj} {k:Key} {i:Int} {v:Key} (h:ay L k 2 true=0) (hr:¬(i<0\/15<i)) (hm:cZ L v=false):ba L k i v=2/\cy L k i v=void/\b6 L k i v=L:=
 A0 (by unfold ba ju;rw[Yq h,Yq (by simp;omega),hm];rfl) (by omega)
theorem Qj {L:List Obj} {k:Key} {i:Int} {v:Key} (h:ay L k 2 true=0) (hr:¬(i<0\/15<i)) (hm:cZ L v=true):
  ba L k i v=0/\cy L k i v=cK L k i/\b6 L k i v=su L k ((ah L k.oid.toNat free).slots.put i.toNat (ae L v)):=by
 have:ba L k i v=0:=by unfold ba ju;rw[Yq h,Yq (by simp;omega),hm];rfl
 exact⟨this,by unfold cy;rw[this];rfl,by unfold b6;rw[this];rfl⟩
theorem tJ {L:List Obj} {k:Key} (hL:aq L) (h:aU L k=true):dR L k.oid/\0<=k.oid/\k.oid<(ai L:Int)/\k.oid.toNat<ai L:=by
 obtain⟨_,b2,b3,_⟩:=dz h;have:=(fj.1 hL).2.1;exact⟨⟨b2,b3,by unfold ai;omega⟩,b2,b3,by unfold ai;omega⟩
theorem yx (k:Key):tR k k=true:=by simp[tR]
def Wg.wf (x:Wg):Prop:=bY .i64 x.kind/\bY .i64 x.slot/\x.key.wf/\x.other.wf
theorem iq (L:List Obj):ev L L=true:=by unfold ev;simp
theorem Ef {L:List Obj} {k:Key} {i:Int} {v:Key} (h:ba L k i v=0):ay L k 2 true=0/\0<=i/\i<16:=by
 unfold ba ju at h;split at h
 ·rename_i h1;split at h
  ·rename_i h2;simp at h2;exact⟨h1,h2.1,h2.2⟩
  ·omega
 ·rename_i h1;exact absurd h h1
theorem xc {L:List Obj} {a:Wg} (hL:aq L) (h:yb L a=true):aq (Gt L a):=by
 unfold yb at h;unfold Gt;split at h
 ·simp at h
 ·rename_i h1;rw[Yp h1];split at h
  ·rename_i h2;rw[Yq h2];have h:=Yn h;obtain⟨e1,e2,e3⟩:=Ef h;obtain⟨a1,a2,_⟩:=fH e1;unfold b6;rw[Yq h];exact(oi hL a1 a2 (Ce hL a1 a2 e2 e3)).2
  ·rename_i h2;rw[Yp h2];split at h
   ·rename_i h3;rw[Yq h3];have h:=Yn h;obtain⟨a1,a2,_⟩:=fH h;unfold eT;rw[Yq h];exact(oi hL a1 a2 (FC (by omega))).2
   ·rename_i h3;rw[Yp h3];split at h
    ·rename_i h4;rw[Yq h4];have h:=Yn h;have h':=h;unfold bG at h';split at h'
     ·rename_i h5;obtain⟨a1,a2,_⟩:=fH h5;unfold dZ;rw[Yq h];exact(oi hL a1 a2 (w8 hL a1 a2 16 (by omega))).2
     ·rename_i h5;exact absurd h' h5
    ·simp at h
theorem wR {l:List Obj} (h:fE l=true):aq l/\l.length<=20:=by
 unfold fE at h;simp only[Yj,Yk]at h;unfold ai at h;exact⟨h.2,by omega⟩
section
variable {L:List Obj} {k:Key} {s:cR} (h0:0<=k.oid) (h1:k.oid<(L.length:Int))
include h0 h1
end
theorem gE {L:List Obj} {j:Int} (h0:0<=j) (h1:j<(L.length:Int)):aR L j=ah L j.toNat free:=by
 unfold aR;rw[Yq (ki.2 ⟨h0,h1⟩)]
theorem gm {L:List Obj} {i:Nat} {x:Obj} (hi:i<L.length) (j:Nat):ah (cB L i x) j free=if j=i then x else ah L j free:=by
 by_cases e:j=i
 ·subst e;rw[Yq rfl];simp[ah,cB,Yo,hi]
 ·rw[Yp e];simp[ah,cB,Yo,List.getElem?_set,Ne.symm e]
theorem jz {L:List Obj} {i:Nat} {x:Obj}:(cB L i x).length=L.length:=by simp[cB]
end Go.Sx
set_option maxRecDepth 100000
namespace Go.Sx
def Xp {α:Type} (rd:V->Option α) (Q:List Obj->α->Prop) (chg:List Obj->α->Bool) (L1:List Obj->α->List Obj):kH:=fun args res K=>
 match args with
 | [a,b,c]=>match rd c with
   |some x=>match a with
    | .lp k off=>if off==0 then match az res k with
      | .store t e L=>if t==tS&&e==eS then match b with
        | .sa j=>match de res j with
          | .arr _ z l=>if z==163 then match l with
            | .ob M=>M=L/\Q L x/\(chg L x=false->K (.tp [.sa j,.bo true]) (cj res k (.store tS eS L)))/\
              (chg L x=true->K (.tp [.sa res.length,.bo true]) (cj res k (.store tS eS (L1 L x))++ [.arr (some tO) 163 (.ob (L1 L x))]))
            |_=>False
            else False
          |_=>False
        |_=>False
        else False
      |_=>False
      else False
    |_=>False
   |none=>False
 |_=>False
theorem jO {κ:Nat->Option Nat} {x a:V} {l m:List V} (h1:ft κ x=some a) (h2:eO κ l=some m):eO κ (x::l)=some (a::m):=by
 simp only[eO];rw[h1];simp only;rw[h2]
theorem ON {c:Bool} {L0 L1:List Obj} {v:V} {r:List aI} (h:V7 c L0 L1 v r):∃b,mS (.bo true) b r/\((v= .tp [.sa 1,b]/\c=false/\az r 0= .store tS eS L0)\/
  ∃p,2<=p/\v= .tp [.sa p,b]/\c=true/\az r 0= .store tS eS L1/\az r p= .arr (some tO) 163 (.ob L1)):=by
 unfold V7 at h;split at h
 case h_2=>exact h.elim
 split at h
 case h_2=>exact h.elim
 rename_i a b;split at h
 case h_2=>exact h.elim
 rename_i p;split at h
 case h_2=>exact h.elim
 rename_i t e L hr;split at h
 case isFalse=>exact h.elim
 rename_i hc;simp only[Yj,Yl]at hc;obtain⟨rfl,rfl⟩:=hc;split at h
 ·rename_i hp;have hp:=Yl.1 hp;subst hp;obtain⟨h1,h2,rfl⟩:=h;exact⟨b,h1,.inl ⟨rfl,h2,hr⟩⟩
 ·split at h
  case isFalse=>exact h.elim
  rename_i hp;have hp:2<=p:=by simpa using hp
  split at h
  case h_2=>exact h.elim
  rename_i o z l hrp;split at h
  case h_2=>exact h.elim
  rename_i e';split at h
  case h_2=>exact h.elim
  rename_i M;split at h
  case isFalse=>exact h.elim
  rename_i hc;simp only[Yj,Yl]at hc;obtain⟨rfl,rfl⟩:=hc;obtain⟨h1,h2,rfl,rfl⟩:=h;exact⟨b,h1,.inr ⟨p,hp,rfl,h2,hr,hrp⟩⟩
theorem TP {b:V} {c:Bool} {r:List aI} (h:mS (.bo c) b r):(∀κ,ft κ b=some b)/\∀J N,p5 J N b (.bo c):=by
 refine⟨fun κ=>?_,fun J N=>dr h J N⟩
 unfold mS at h;cases b<;>first|rfl| (simp[vm]at h)
theorem aj.VF {P:Program} {f:Nat} {args:List V} {K KP:V->List aI->Prop} {own:Option Nat} {z t e:Nat} {l:TL} {L:List Obj} (h:aj P f args [.store t e L,.ro (.arr none z l)] K KP):aj P f args [.store t e L,.ro (.arr own z l)] K KP:=by
 have hk:∀i (own:Option Nat),known [.store t e L,.ro (.arr own z l)] i↔i<2:=fun i own=>by
  unfold known;match i with
  |0=>simp[az]
  |1=>simp[az]
  |i+2=>simp[az]
 refine h.um fun J fps w0 F0 w hH=>⟨J,fps,hH.weaken fun i hi=>⟨(hk i _).2 ((hk i _).1 hi),fun fp hh=>?_⟩,Env.bz.refl _ _,fun i hi=>(hk i _).2 ((hk i _).1 hi)⟩
 match i,(hk i _).1 hi with
 |0,_=>exact hh
 |1,_=>
  obtain⟨fp',g1,g2⟩:=hh;exact⟨fp',yH g1,g2⟩
theorem Sm {P:Program} {f:Nat} {α:Type} {rd:V->Option α} {m:α->V} {Q:List Obj->α->Prop} {chg:List Obj->α->Bool} {L1:List Obj->α->List Obj} (hrd:pz rd m) (hid:∀x,j3 (m x)=true)
  (hcl:∀L x,Q L x->aj P f [.lp 0 0,.sa 1,m x] [.store tS eS L,.ro (.arr none 163 (.ob L))] (V7 (chg L x) L (L1 L x)) (fun _ _=>False)):lA P f (Xp rd Q chg L1):=by
 intro args res K KP h;unfold Xp at h;split at h
 case h_2=>exact h.elim
 split at h
 case h_2=>exact h.elim
 rename_i x hx;refine aj.args (ee.iW (ee.iW (ee.rd hrd hx ee.nil))) ?_;split at h
 case h_2=>exact h.elim
 rename_i k off;split at h
 case isFalse=>exact h.elim
 rename_i hoff;have hoff:=Yl.1 hoff;subst hoff;split at h
 case h_2=>exact h.elim
 rename_i t e L hr;split at h
 case isFalse=>exact h.elim
 rename_i hc;simp only[Yj,Yl]at hc;obtain⟨rfl,rfl⟩:=hc;split at h
 case h_2=>exact h.elim
 rename_i j;split at h
 case h_2=>exact h.elim
 rename_i own z l hj;split at h
 case isFalse=>exact h.elim
 rename_i hz;have hz:=Yl.1 hz;subst hz;split at h
 case h_2=>exact h.elim
 rename_i M;obtain⟨rfl,hL,h0,h1⟩:=h;have hk:known res k:=by unfold known;rw[hr];simp
 have hkj:=dX hj (by simp)
 have hkl:=aN hk;have hjl:=aN hkj
 have hne:k≠j:=fun e=>by
  subst e;unfold de at hj;rw[hr]at hj;simp at hj
 have hres:ez (kG 0 (dv [(k,true),(j,false)])) res [(k,true),(j,false)]= [.store tS eS M,.ro (.arr own 163 (.ob M))]:=by simp[ez,hr,hj,ga]
 refine aj.frame (pl:= [(k,true),(j,false)]) (args0:= [.lp 0 0,.sa 1,m x]) (K0:=V7 (chg M x) M (L1 M x)) (KP0:=fun _ _=>False) (by simp[ew,cV.2 hk,cV.2 hkj]) (by simpa[gN,dv,np]using⟨⟨hkl,Ne.symm hne⟩,hjl⟩) ?_ ?_ (fun v r hv=>?_) (fun _ _ h=>h.elim)
 ·exact jO (by simp[ft,kG,idxOf,dv]) (jO (by simp[ft,kG,idxOf,dv,hne]) (jk _ (by simp only[kL,hid,Bool.and_true])))
 ·rw[hres];exact aj.VF (hcl M x hL)
 ·obtain⟨b,hb,hv⟩:=ON hv;obtain⟨b1,b2⟩:=TP hb;rcases hv with⟨rfl,hc,hr0⟩|⟨p,hp,rfl,hc,hr0,hrp⟩
  ·have hm:merge [(k,true),(j,false)] [] r res=cj res k (.store tS eS M):=by simp[merge,eL,hr0,ga,fO]
   refine⟨[],.tp [.sa j,.bo true],rfl,by simp[jR,hr0,iP],rfl,iI.XN (v2:= .tp [.sa j,b]) (by simp[ft,eO,back,vO,b1]) (fun J N=>?_),by rw[hm];exact h0 hc⟩
   obtain⟨s1,s2,_⟩:=b2 J N;exact⟨by simp only[den,bq,s1],fun hk=>⟨hk.1,s2 hk.2.1,trivial⟩,rfl⟩
  ·have hpl:p<r.length:=aN (by rw[hrp];simp)
   have hm:merge [(k,true),(j,false)] [p] r res=cj res k (.store tS eS (L1 M x))++ [.arr (some tO) 163 (.ob (L1 M x))]:=by simp[merge,eL,hr0,hrp,ga,fO]
   refine⟨[p],.tp [.sa res.length,.bo true],by simpa[gN,np]using⟨hp,hpl⟩,by simp[jR,hr0,iP],by simp[lV,hrp,iP],iI.XN (v2:= .tp [.sa res.length,b]) ?_ (fun J N=>?_),by rw[hm];exact h1 hc⟩
   ·have:back [(k,true),(j,false)] [p] res.length p=some res.length:=by
     unfold back;rw[qO _ _ (by simpa using hp)]
     simp[idxOf]
    simp[ft,eO,this,b1]
   ·obtain⟨s1,s2,_⟩:=b2 J N;exact⟨by simp only[den,bq,s1],fun hk=>⟨hk.1,s2 hk.2.1,trivial⟩,rfl⟩
end Go.Sx
set_option maxRecDepth 100000
namespace Go.Sx
def wc {α:Type} (B:lz α) (l:List V):Option α:=match B.rd [] l with
 |some p=>match p.1 with
  | []=>some p.2
  |_=>none
 |none=>none
theorem gf {α:Type} {B:lz α} (hB:iu B) (hid:∀a,kL (B.cn a 0)=true):∀l x,wc B l=some x->ee l (B.cn x 0):=fun l x h=>by
 unfold wc at h;split at h
 case h_2=>simp at h
 rename_i p hp;obtain⟨pls,a⟩:=p;split at h
 case h_2=>simp at h
 rename_i h1;simp only at h1;subst h1;simp only[Yh]at h;subst h;obtain⟨_,_,_,b4⟩:=hB _ _ _ _ hp;obtain⟨c1,c2⟩:=b4 [] [];intro J K hk;have e1:=(c1 J K hk).1;have e2:=c2 K hk;have e3:fw (fun _=>False) (B.cn a 0):=m7 _ (hid a) e2
 refine⟨?_,m7 _ (hid a) e2⟩;rw[<-e1];exact fA (N:=fun _=>False) (fun _ h=>h.elim) _ e3
def An {α:Type} (B:List V->Option α) (Q:List Obj->α->Prop) (chg:List Obj->α->Bool) (L1:List Obj->α->List Obj) (F:List Obj->α->List V):kH:=fun args res K=>
 match args with
 |b::l=>match B l with
  |some x=>match b with
   | .sa j=>match de res j with
     | .arr _ z t=>if z==163 then match t with
       | .ob M=>Q M x/\(chg M x=false->K (.tp (.sa j::F M x)) res)/\(chg M x=true->K (.tp (.sa res.length::F M x)) (res++ [.arr (some tO) 163 (.ob (L1 M x))]))
       |_=>False
       else False
     |_=>False
   |_=>False
  |none=>False
 |_=>False
def yT (c:Bool) (L1:List Obj) (F:List V) (v:V) (r:List aI):Prop:=
 match v with
 | .tp l=>match l with
   |a::bs=>match a with
    | .sa p=>if p==0 then c=false/\mS (.tp F) (.tp bs) r else if Nat.ble 1 p then match az r p with
      | .arr own z t=>match own with
        |some e=>match t with
         | .ob M=>if z==163&&e==tO then c=true/\mS (.tp F) (.tp bs) r/\M=L1 else False
         |_=>False
        |none=>False
      |_=>False
      else False
    |_=>False
   | []=>False
 |_=>False
theorem Qv {c:Bool} {L1:List Obj} {F:List V} {v:V} {r:List aI} (h:yT c L1 F v r):∃p bs,v= .tp (.sa p::bs)/\mS (.tp F) (.tp bs) r/\((p=0/\c=false)\/(1<=p/\c=true/\az r p= .arr (some tO) 163 (.ob L1))):=by
 unfold yT at h;split at h
 case h_2=>exact h.elim
 split at h
 case h_2=>exact h.elim
 split at h
 case h_2=>exact h.elim
 rename_i p;split at h
 ·rename_i e;have e:=Yl.1 e;exact⟨p,_,rfl,h.2,.inl ⟨e,h.1⟩⟩
 ·split at h
  case isFalse=>exact h.elim
  rename_i hp;have hp:1<=p:=by simpa using hp
  split at h
  case h_2=>exact h.elim
  rename_i hrp;split at h
  case h_2=>exact h.elim
  split at h
  case h_2=>exact h.elim
  split at h
  case isFalse=>exact h.elim
  rename_i hc;simp only[Yj,Yl]at hc;obtain⟨rfl,rfl⟩:=hc;obtain⟨h1,h2,rfl⟩:=h;exact⟨p,_,rfl,h2,.inr ⟨hp,h1,hrp⟩⟩
theorem aj.VK {P:Program} {f:Nat} {args:List V} {K KP:V->List aI->Prop} {own:Option Nat} {z:Nat} {l:TL} (h:aj P f args [.ro (.arr none z l)] K KP):aj P f args [.ro (.arr own z l)] K KP:=by
 have hk:∀i (own:Option Nat),known [.ro (.arr own z l)] i↔i<1:=fun i own=>by
  unfold known;match i with
  |0=>simp[az]
  |i+1=>simp[az]
 refine h.um fun J fps w0 F0 w hH=>⟨J,fps,hH.weaken fun i hi=>⟨(hk i _).2 ((hk i _).1 hi),fun fp hh=>?_⟩,Env.bz.refl _ _,fun i hi=>(hk i _).2 ((hk i _).1 hi)⟩
 match i,(hk i _).1 hi with
 |0,_=>
  obtain⟨fp',g1,g2⟩:=hh;exact⟨fp',yH g1,g2⟩
theorem CK {κ:Nat->Option Nat} {p j:Nat} {bs F:List V} {r:List aI} (hκ:κ p=some j) (hF:kL F=true) (hb:mS (.tp F) (.tp bs) r):iI κ (.tp (.sa p::bs)) (.tp (.sa j::F)):=by
 intro ρ2 ρ3 N N' h1 h2 hv;obtain⟨hp,hbs⟩:=hv;obtain⟨e1,e2,_⟩:=dr hb ρ2 N;obtain⟨a1,a2,a3,a4,a5,a6⟩:=h1 p j hκ;have hFN:fw N F:=e2 hbs;have hF0:fw (fun _=>False) F:=m7 _ hF hFN
 have e3:bq ρ3 F=bq ρ2 F:=fA (N:=fun _=>False) (fun _ h=>h.elim) _ hF0
 simp only[den,Value.tuple.injEq]at e1;have e1:bq ρ2 bs=bq ρ2 F:=by simpa using e1
 refine⟨?_,h2 p j hκ hp,m7 _ hF hFN⟩;simp only[den,bq,e3,e1,a2,a4,a5]
theorem iy {P:Program} {f:Nat} {α:Type} {B:List V->Option α} {m:α->List V} {Q:List Obj->α->Prop} {chg:List Obj->α->Bool} {L1:List Obj->α->List Obj} {F:List Obj->α->List V} (hB:∀l x,B l=some x->ee l (m x)) (hid:∀x,kL (m x)=true)
  (hF:∀L x,kL (F L x)=true) (hcl:∀L x,Q L x->aj P f (.sa 0::m x) [.ro (.arr none 163 (.ob L))] (yT (chg L x) (L1 L x) (F L x)) (fun _ _=>False)):lA P f (An B Q chg L1 F):=by
 intro args res K KP h;unfold An at h;split at h
 case h_2=>exact h.elim
 split at h
 case h_2=>exact h.elim
 rename_i x hx;refine aj.args (ee.iW (hB _ _ hx)) ?_;split at h
 case h_2=>exact h.elim
 rename_i j;split at h
 case h_2=>exact h.elim
 rename_i own z t hj;split at h
 case isFalse=>exact h.elim
 rename_i hz;have hz:=Yl.1 hz;subst hz;split at h
 case h_2=>exact h.elim
 rename_i M;obtain⟨hQ,h0,h1⟩:=h;have hkj:=dX hj (by simp)
 have hjl:=aN hkj;have hres:ez (kG 0 (dv [(j,false)])) res [(j,false)]= [.ro (.arr own 163 (.ob M))]:=by simp[ez,hj,ga]
 refine aj.frame (pl:= [(j,false)]) (args0:= .sa 0::m x) (K0:=yT (chg M x) (L1 M x) (F M x)) (KP0:=fun _ _=>False) (by simp[ew,cV.2 hkj]) (by simpa[gN,dv,np]using hjl) ?_ ?_ (fun v r hv=>?_) (fun _ _ h=>h.elim)
 ·exact jO (by simp[ft,kG,idxOf,dv]) (jk _ (hid x))
 ·rw[hres];exact aj.VK (hcl M x hQ)
 ·obtain⟨p,bs,rfl,hb,hv⟩:=Qv hv;rcases hv with⟨rfl,hc⟩|⟨hp,hc,hrp⟩
  ·have hm:merge [(j,false)] [] r res=res:=by simp[merge,eL,fO]
   refine⟨[],.tp (.sa j::F M x),rfl,by simp[jR],rfl,CK (by simp[back,vO]) (hF M x) hb,by rw[hm];exact h0 hc⟩
  ·have hpl:p<r.length:=aN (by rw[hrp];simp)
   have hm:merge [(j,false)] [p] r res=res++ [.arr (some tO) 163 (.ob (L1 M x))]:=by simp[merge,eL,hrp,ga,fO]
   refine⟨[p],.tp (.sa res.length::F M x),by simpa[gN,np]using⟨hp,hpl⟩,by simp[jR],by simp[lV,hrp,iP],CK ?_ (hF M x) hb,by rw[hm];exact h1 hc⟩
   unfold back;rw[qO _ _ (by simpa using hp)]
   simp[idxOf]
def WT {α:Type} (B:List V->Option α) (R:α->Prop) (Q:List Obj->α->Prop) (F:List Obj->α->V) (M:List Obj->α->List Obj):kH:=fun args res K=>
 match args with
 |a::l=>match B l with
  |some x=>R x/\match a with
   | .nl v=>match v with
     | .pointer none=>K (F [] x) res
     |_=>False
   | .lp k off=>if off==0 then match az res k with
     | .store t e L=>if t==tS&&e==eS then Q L x/\K (F L x) (cj res k (.store tS eS (M L x)))else False
     | .blk t c=>if t==tS&&Vj c then K (F [] x) res else False
     |_=>False
     else False
   |_=>False
  |none=>False
 |_=>False
theorem Ip {P:Program} {f:Nat} {α:Type} {B:List V->Option α} {m:α->List V} {R:α->Prop} {Q:List Obj->α->Prop} {F:List Obj->α->V} {M:List Obj->α->List Obj} (hB:∀l x,B l=some x->ee l (m x)) (hid:∀x,kL (m x)=true) (hF:∀L x,j3 (F L x)=true)
  (h0:∀x,R x->aj P f (lg::m x) [] (mS (F [] x)) (fun _ _=>False)) (hz:∀x,R x->aj P f (.lp 0 0::m x) [.ro (.blk tS WL)] (mS (F [] x)) (fun _ _=>False))
  (h1:∀L x,Q L x->aj P f (.lp 0 0::m x) [.store tS eS L] (Cn (F L x) (M L x)) (fun _ _=>False)):lA P f (WT B R Q F M):=by
 intro args res K KP h;unfold WT at h;split at h
 case h_2=>exact h.elim
 split at h
 case h_2=>exact h.elim
 rename_i x hx;obtain⟨hR,h⟩:=h;refine aj.args (ee.iW (hB _ _ hx)) ?_;split at h
 ·split at h
  ·exact aj.pure (by simp only[kL,j3,Bool.true_and];exact hid x) (hF _ _) ((h0 x hR).mono (fun _ _ h=>dr h) fun _ _ h=>h) h
  ·exact h.elim
 ·split at h
  ·rename_i hoff;have hoff:=Yl.1 hoff;subst hoff;split at h
   ·rename_i hr;split at h
    ·rename_i hc;simp only[Yj,Yl]at hc;obtain⟨rfl,rfl⟩:=hc;exact aj.AF hr (hid x) (hF _ _) ((h1 _ x h.1).mono (fun v r hv=>E8 hv |> fun⟨a,b⟩=>⟨fun J K=>a J K,b⟩) fun _ _ h=>h) h.2
    ·exact h.elim
   ·rename_i hr;split at h
    ·rename_i hc;simp only[Yj,Yl]at hc;obtain⟨rfl,hz'⟩:=hc;have:=yt hz';subst this;exact aj.NC (r0:= .blk tS WL) (by unfold de;rw[hr];rfl) (by simp) (fun κ=>rfl) (hid x) (hF _ _) ((hz x hR).mono (fun _ _ h=>dr h) fun _ _ h=>h) h
    ·exact h.elim
   ·exact h.elim
  ·exact h.elim
 ·exact h.elim
def cH (n:Int):Key:=⟨1,0,0,0,0,n⟩
theorem dY {L:List Obj} (h:aq L) (j:Nat) (hj:j<L.length):bT (ah L j free) (L.length:Int)=true:=(fj.1 h).2.2 j hj
theorem kz {L:List Obj} (h:aq L):1<=L.length/\L.length<=64:=⟨(fj.1 h).1,(fj.1 h).2.1⟩
theorem Ju {L M:List Obj} (h:aq L) (hl:M.length=L.length) (hm:∀j,j<L.length->bT (ah M j free) (L.length:Int)=true):aq M:=by
 obtain⟨a,b⟩:=kz h;unfold aq;rw[fj,hl];exact⟨a,b,hm⟩
theorem nf {L:List Obj} {i:Nat} {x:Obj} (h:aq L) (hx:bT x (L.length:Int)=true):aq (cB L i x):=by
 by_cases hi:i<L.length
 ·refine Ju h jz fun j hj=>?_
  rw[gm hi];split
  ·exact hx
  ·exact dY h j hj
 ·rw[show cB L i x=L from List.set_eq_of_length_le (by omega)];exact h
theorem nw {L:List Obj} {i:Int} {x:Obj} (h0:0<=i) (h1:i<(L.length:Int)) (hx:bT x (L.length:Int)=true):cW L i x=cB L i.toNat x/\eU L i x=0:=by
 have e:cQ L i=0:=ki.2 ⟨h0,h1⟩;have e2:cG x (ai L:Int)=0:=by unfold cG;exact Yq hx
 exact⟨(sO e e2).2,(sO e e2).1⟩
theorem N8 {n:Int} {s:cR} {k:Key} {j:Nat} (hj:j<16) (h:∀i,i<16->fK n (s.at i)) (hk:fK n k) (i:Nat) (hi:i<16):fK n ((s.put j k).at i):=by
 rw[cR.gL _ _ _ _ hj];split
 ·exact hk
 ·exact h i hi
theorem wT {n:Int} (hn:0<=n) (x:Int):fK n (cH x):=by
 refine⟨by simp[cH,aT,eK,j6,dG,gd,fG],?_⟩
 unfold aX;rw[show dG (cH x).kind=false by simp[cH,dG]]
 simp;omega
theorem uY {o:Obj} {n:Int} (h:bT o n=true) (hk:o.kind=1) (i:Nat) (hi:i<16):fK n (o.slots.at i):=by
 obtain⟨a1,a2,a3,a4,a5,a6,a7,a8,a9,a10,a11⟩:=fg.1 h;have:=a10 i hi;rw[hk]at this;exact LS.1 this
end Go.Sx
