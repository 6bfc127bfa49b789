import Derived.Test.YtghpaegglbbocaaGreatKO
import Derived.Test.YtghpaegglbbocaaGreatSxF
set_option linter.unusedSimpArgs false
set_option linter.unusedVariables false
namespace Go.Sx
def bg (L:List Obj):Bool:=decide (aE L=0)
def cj (L:List Obj) (oid:Int):Int:=if aE L=0 then 1 else if oid<0\/(aE L:Int)<=oid then 4 else 0
def aH (L:List Obj) (oid:Int):Obj:=if cj L oid=0 then aq L oid.toNat free else free
def ah (L:List Obj):Int:=(aE L:Int)
def aM (L:List Obj) (k:Key):Bool:=aU k&&decide (cj L k.oid=0)&&ca k (aq L k.oid.toNat free)
def aa (L:List Obj) (k:Key):Obj:=if aM L k then aq L k.oid.toNat free else free
def ae (L:List Obj) (k:Key):Key:=if bg L|| !aB k||(aU k&& !aM L k)then void else k
def gF (n:Int):Bool:=decide (1<=n)&&decide (n<=64)
def gu (n:Int):List Obj:=List.replicate n.toNat free
def cc (L:List Obj) (i:Int) (o:Obj):List Obj:=if cj L i=0/\bL o (aE L:Int)=0 then cX L i.toNat o else L
def dT (L:List Obj) (i:Int) (o:Obj):Int:=if cj L i=0 then bL o (aE L:Int)else cj L i
def ee (l:List Obj):Bool:=decide (1<=aE l)&&decide (aE l<=64)&&(List.range (aE l)).all fun i=>bx (aq l i free) (aE l:Int)
def ij (l:List Obj) (g:Int):List Obj:=l.take g.toNat++List.replicate (l.length-g.toNat) free
def ot (l:List Obj) (g:Int):Prop:=0<=g/\g<=(aE l:Int)/\∀j:Nat,(j:Int)<g->bx (aq l j free) (aE l:Int)=true
def yq (n i:Int):Prop:=0<=i/\i<=n
abbrev tS:Nat:=40
abbrev eS:Nat:=75
def M4 (c:Bool) (M:List Obj) (v:V) (r:List aw):Prop:=
 match v with
 | .tp l=>match l with
   | [a,b]=>match a with
     | .nl p=>match p with
       | .pointer none=>c=false/\rm (.ci .i64 2) b r
       |_=>False
     | .lp j off=>match Aj r j with
       |some (t,e,L)=>if off==0&&t==tS&&e==eS then c=true/\rm (.ci .i64 0) b r/\L=M else False
       |none=>False
     |_=>False
   |_=>False
 |_=>False
def Si (n:Int):V->List aw->Prop:=M4 (gF n) (gu n)
def RT (l:List Obj) (v:V) (r:List aw):Prop:=
 match aj r 0 with
 | .ro _=>M4 (ee l) l v r
 |_=>False
theorem CQ {l:List Obj} {v:V} {r:List aw} (h:RT l v r):M4 (ee l) l v r/\Aj r 0=none:=by
 unfold RT at h;split at h
 ·rename_i hr;refine⟨h,?_⟩;unfold Aj A6;rw[hr]
 ·exact h.elim
def RI (x:V) (M:List Obj) (v:V) (r:List aw):Prop:=
 match A6 r 0 with
 |some (t,e,_,L)=>if t==tS&&e==eS then rm x v r/\L=M else False
 |none=>False
def MZ:nD:=fun args res K=>
 match args with
 | [a]=>match rI .i64 a with
   |some n=>(gF n=false->K (.tp [kS,.ci .i64 2]) res)/\(gF n=true->K (.tp [.lp res.length 0,.ci .i64 0]) (res++ [.store tS eS (gu n)]))
   |none=>False
 |_=>False
def Ri (c:V):Bool:=
 match c with
 | .ag l=>match l with
   | [x]=>match x with
     | .nl v=>match v with
       | .slice none 0 0=>true
       |_=>false
     |_=>false
   |_=>false
 |_=>false
theorem uY {c:V} (h:Ri c=true):c= .ag [.nl (.slice none 0 0)]:=by
 unfold Ri at h;split at h
 ·split at h
  ·split at h
   ·split at h
    ·rfl
    ·simp at h
   ·simp at h
  ·simp at h
 ·simp at h
def M6:nD:=fun args res K=>
 match args with
 | [a,b,c]=>match rI .i64 b with
   |some i=>match rO c with
    |some o=>match a with
     | .nl v=>match v with
       | .pointer none=>K (.it .i64 (dT [] i o)) res
       |_=>False
     | .lp k off=>if off==0 then match aj res k with
       | .store t e L=>if t==tS&&e==eS then K (.it .i64 (dT L i o)) (bG res k (.store tS eS (cc L i o)))else False
       | .blk t c=>if t==tS&&Ri c then K (.it .i64 (dT [] i o)) res else False
       |_=>False
       else False
     |_=>False
    |none=>False
   |none=>False
 |_=>False
structure SW where
 puts:Bool
 oid:Int
 ob:Obj
def SW.wf (x:SW):Prop:=cy .i64 x.oid/\x.ob.wf
def MM:Ct:=PO (.bo true)
def fN (L M:List Obj) (g:Int):List Int:=((List.range g.toNat).filter fun j=> !AE (aq L j free) (aq M j free)).map Int.ofNat
def ie (L M:List Obj):Bool:=bg L||bg M|| !decide ((aE L:Int)=(aE M:Int))
def cz (L M:List Obj):List Int:=fN L M (aE L:Int)
def jC (L:List Obj) (g:Int):List Obj:=L.take g.toNat
def nh (L:List Obj) (g:Int):Prop:=0<=g/\g<=(aE L:Int)
abbrev PW:V:= .nl (.slice none 0 0)
abbrev tI:Nat:=3
def zV (L:List Obj) (v:V) (r:List aw):Prop:=
 match v with
 | .nl p=>match p with
   | .pointer none=>bg L=true
   |_=>False
 | .lp j off=>match Aj r j with
   |some (t,e,M)=>if off==0&&t==tS&&e==eS&&Nat.ble 1 j then bg L=false/\M=L else False
   |none=>False
 |_=>False
def Gz (L M:List Obj) (v:V) (r:List aw):Prop:=
 match v with
 | .nl p=>match p with
   | .slice none 0 0=>ie L M=true
   |_=>False
 | .sa j=>match aj r j with
   | .arr own esz l=>match own with
     |some e=>match l with
      | .it k l=>match k with
        | .i64=>if e==tI&&esz==1&&Nat.ble 2 j then ie L M=false/\l=cz L M else False
        |_=>False
      |_=>False
     |none=>False
   |_=>False
 |_=>False
def H8:nD:=fun args res K=>
 match args with
 | [a]=>match a with
   | .nl v=>match v with
     | .pointer none=>K kS res
     |_=>False
   | .lp k off=>if off==0 then match cN res k with
     | .store t e L=>if t==tS&&e==eS then aE L<=1000/\(bg L=true->K kS res)/\(bg L=false->K (.lp res.length 0) (res++ [.store tS eS L]))else False
     |_=>False
     else False
   |_=>False
 |_=>False
def Nd:nD:=fun args res K=>
 match args with
 | [a,b]=>match b with
   | .lp j off=>if off==0 then match cN res j with
     | .store t e M=>if t==tS&&e==eS then match a with
       | .nl v=>match v with
         | .pointer none=>K PW res
         |_=>False
       | .lp k off'=>if off'==0&& !(k==j)then match cN res k with
         | .store t e L=>if t==tS&&e==eS then aE L<=1000/\(ie L M=true->K PW res)/\(ie L M=false->K (.sa res.length) (res++ [.arr (some tI) 1 (.it .i64 (cz L M))]))else False
         |_=>False
         else False
       |_=>False
       else False
     |_=>False
     else False
   |_=>False
 |_=>False
def CB:Ct:=fun res nid xs=>match xs with
 | [a]=>match rS tS eS res a with
   |some (o,L)=>match o with
    |none=>some (none,.cb true,[])
    |some _=>some (none,.bo (bg L),[])
   |none=>none
 |_=>none
theorem jd {α:Type} (l:List α):en (aE l)=(l.length:Int):=rfl
theorem mr {α:Type} (l:List α):((aE l:Nat):Int)=(l.length:Int):=rfl
def Qo:nD:=fun args res K=>
 match args with
 | [a]=>match a with
   | .sa k=>match cN res k with
     | .arr _ e l=>if e==163 then match l with
       | .ob l=>(ee l=false->K (.tp [kS,.ci .i64 2]) res)/\(ee l=true->K (.tp [.lp res.length 0,.ci .i64 0]) (res++ [.store tS eS l]))
       |_=>False
       else False
     |_=>False
   |_=>False
 |_=>False
def Kx:Ct:=R6 fun l=> .bo (ee l)
def Cb:Ct:=N5 tS eS fun L=> .bo (bg L)
def QH:Ct:=EG tS eS (rI .i64) fun L i=> .it .i64 (cj L i)
def Qg:Ct:=EG tS eS (rI .i64) fun L i=> .tp [.ob (aH L i),.it .i64 (cj L i)]
def BP:Ct:=N5 tS eS fun L=> .it .i64 (ah L)
def Mt:Ct:=EG tS eS rK fun L k=> .tp [.ob (aa L k),.bo (aM L k)]
def PB:Ct:=EG tS eS rK fun L k=> .key (ae L k)
theorem DI {n:Nat} (h:n<1000):tP n 8:=by unfold tP;simp only[maxLen];omega
theorem G3 {L:List Obj} {g:Int} (h0:0<=g) (h1:g<(L.length:Int)):gL (jC L g) (aq L g.toNat free)=jC L (g+1):=by
 unfold gL jC aq;rw[show(g+1).toNat=g.toNat+1 by omega,List.take_add_one,Tm,List.getElem?_eq_getElem (by omega)];rfl
theorem FB {L:List Obj} {g:Int} (h:(L.length:Int)<=g):jC L g=L:=by unfold jC;rw[List.take_of_length_le (by omega)]
theorem Fc {L:List Obj} {g:Int}:aE (jC L g)<=g.toNat:=by unfold aE jC;rw[List.length_take];omega
theorem Je {L M:List Obj} {g:Int}:aE (fN L M g)<=g.toNat:=by
 unfold aE fN;rw[List.length_map];exact Nat.le_trans (List.length_filter_le _ _) (by rw[List.length_range];omega)
theorem HL {L M:List Obj} {g:Int} (h0:0<=g) (h:(!AE (aq L g.toNat free) (aq M g.toNat free))=true):gL (fN L M g) g=fN L M (g+1):=by
 unfold gL fN;rw[show(g+1).toNat=g.toNat+1 by omega,List.range_succ,List.filter_append,List.map_append]
 simp only[List.filter_cons,h,if_true,List.filter_nil,List.map_cons,List.map_nil];congr 2
 show g=((g.toNat:Nat):Int)
 omega
theorem Ls {L M:List Obj} {g:Int} (h0:0<=g) (h:(!AE (aq L g.toNat free) (aq M g.toNat free))=false):fN L M g=fN L M (g+1):=by
 unfold fN;rw[show(g+1).toNat=g.toNat+1 by omega,List.range_succ,List.filter_append,List.map_append]
 simp only[List.filter_cons,h,Bool.false_eq_true,if_false,List.filter_nil,List.map_nil,List.append_nil]
theorem oX:bg []=true:=rfl
theorem xN {L:List Obj}:bg L=true↔L= []:=by
 unfold bg aE;simp[List.length_eq_zero_iff]
theorem o0 (i:Int):cj [] i=1:=rfl
theorem JP {L:List Obj} (h:bg L=false) (i:Int):cj L i=if i<0\/(L.length:Int)<=i then 4 else 0:=by
 have:L≠ []:=fun e=>by rw[e]at h;simp[oX]at h
 unfold cj aE;rw[Tn (by simpa[List.length_eq_zero_iff]using this)]
theorem jZ {L:List Obj} {i:Int}:cj L i=0↔0<=i/\i<(L.length:Int):=by
 unfold cj aE;split
 ·omega
 ·split<;>omega
theorem xM (L:List Obj) (k:Key):((!aU k)=true->free=aa L k/\false=aM L k)/\
  ((!aU k)=false->
    ((!decide (cj L (bW k)=0)|| !ca k (aH L (bW k)))=true->
      free=aa L k/\false=aM L k)/\
      ((!decide (cj L (bW k)=0)|| !ca k (aH L (bW k)))=false->
        aH L (bW k)=aa L k/\true=aM L k)):=by
 have fin:∀b,aM L k=b->(b=false->free=aa L k)/\b=aM L k:=fun b h=>⟨fun hb=>by unfold aa;rw[h,hb];rfl,h.symm⟩
 refine⟨fun h=>?_,fun h=>?_⟩
 ·have h:aU k=false:=by simpa using h
  have:=fin false (by unfold aM;rw[h];rfl)
  exact⟨this.1 rfl,this.2⟩
 ·have h:aU k=true:=by simpa using h
  have ho:bW k=k.oid:=by unfold bW;rw[To h]
  rw[ho];by_cases hh:cj L k.oid=0
  ·have hg:aH L k.oid=aq L k.oid.toNat free:=by unfold aH;rw[To hh]
   rw[hg];have e:aM L k=ca k (aq L k.oid.toNat free):=by unfold aM;simp[h,hh]
   refine⟨fun hc=>?_,fun hc=>?_⟩
   ·have hc:ca k (aq L k.oid.toNat free)=false:=by simpa[hh]using hc
    have:=fin false (by rw[e,hc])
    exact⟨this.1 rfl,this.2⟩
   ·have hc:ca k (aq L k.oid.toNat free)=true:=by simpa[hh]using hc
    have:=fin true (by rw[e,hc])
    refine⟨?_,this.2⟩;unfold aa;rw[e,hc];rfl
  ·have:=fin false (by unfold aM;simp[hh])
   exact⟨fun _=>⟨this.1 rfl,this.2⟩,fun hc=>by simp[hh]at hc⟩
theorem Ac (L:List Obj) (k:Key):((bg L|| !decide (bf k=0))=true->void=ae L k)/\
  ((bg L|| !decide (bf k=0))=false->
    ((aU k&& !aM L k)=true->void=ae L k)/\((aU k&& !aM L k)=false->k=ae L k)):=by
 have hc:(!decide (bf k=0))= !aB k:=by unfold bf;cases aB k<;>simp
 rw[hc];unfold ae;refine⟨fun h=>?_,fun h=>⟨fun h2=>?_,fun h2=>?_⟩⟩
 ·rw[To];simp only[h,Bool.true_or]
 ·rw[To];simp only[h2,Bool.or_true]
 ·rw[Tn];simp only[h,h2];simp
theorem oU {n:Int}:gF n=true↔1<=n/\n<=64:=by simp[gF]
theorem K5 {g:Int} (h:0<=g):gL (gu g) free=gu (g+1):=by
 unfold gL gu;rw[show(g+1).toNat=g.toNat+1 by omega,List.replicate_succ']
theorem C5 {i:Int} {o:Obj}:dT [] i o=1:=by unfold dT;rw[o0];rfl
theorem KB {L:List Obj} {i:Int} {o:Obj} (h:cj L i≠0):dT L i o=cj L i/\cc L i o=L:=by
 unfold dT cc;rw[Tn h,Tn (fun hh=>h hh.1)];exact⟨rfl,rfl⟩
theorem Px {L:List Obj} {i:Int} {o:Obj} (h:cj L i=0) (h2:bL o (aE L:Int)≠0):dT L i o=bL o (aE L:Int)/\cc L i o=L:=by
 unfold dT cc;rw[To h,Tn (fun hh=>h2 hh.2)];exact⟨rfl,rfl⟩
theorem qo {L:List Obj} {i:Int} {o:Obj} (h:cj L i=0) (h2:bL o (aE L:Int)=0):dT L i o=0/\cc L i o=cX L i.toNat o:=by
 unfold dT cc;rw[To h,To ⟨h,h2⟩];exact⟨h2,rfl⟩
theorem FV {c:Bool} {M:List Obj} (hn:c=false) {v:V} {r:List aw} (h:M4 c M v r):wh (.tp [kS,.ci .i64 2]) v []:=by
 unfold M4 at h;split at h
 ·split at h
  ·split at h
   ·split at h
    ·exact ME (dB h.2)
    ·exact h.elim
   ·split at h
    ·split at h
     ·rw[hn]at h;simp at h
     ·exact h.elim
    ·exact h.elim
   ·exact h.elim
  ·exact h.elim
 ·exact h.elim
theorem L8 {c:Bool} {M:List Obj} (hn:c=true) {v:V} {r:List aw} (h:M4 c M v r):∃j b,v= .tp [.lp j 0,b]/\wh (.ci .i64 0) b []/\Aj r j=some (tS,eS,M):=by
 unfold M4 at h;split at h
 ·split at h
  ·split at h
   ·split at h
    ·rw[hn]at h;simp at h
    ·exact h.elim
   ·split at h
    ·rename_i hst;split at h
     ·rename_i hc;simp only[Th,Tj]at hc;obtain⟨⟨rfl,rfl⟩,rfl⟩:=hc;obtain⟨_,h2,rfl⟩:=h;exact⟨_,_,rfl,dB h2,hst⟩
     ·exact h.elim
    ·exact h.elim
   ·exact h.elim
  ·exact h.elim
 ·exact h.elim
theorem De {c:Bool} {M:List Obj} (hn:c=true) {v:V} {r:List aw} (h:M4 c M v r):∃j r',Aj r j=some (tS,eS,M)/\(r'=r\/qH r j=some r')/\aj r' j= .store tS eS M/\∀(κ:Nat->Option Nat) (i:Nat),κ j=some i->jn κ v (.tp [.lp i 0,.ci .i64 0]):=by
 obtain⟨j,b,rfl,hb,hst⟩:=L8 hn h
 have ht:∀(κ:Nat->Option Nat) (i:Nat),κ j=some i->jn κ (.tp [.lp j 0,b]) (.tp [.lp i 0,.ci .i64 0]):=fun κ i hi ρ2 ρ3 N N' hv hN hk=>by
  obtain⟨s1,s2,_⟩:=hb ρ2 N;refine⟨?_,hN j i hi hk.1,by simp[ok,cy],trivial⟩
  simp only[den,ba,(hv j i hi).1,s1]
 rcases Ad hst with h1|⟨r',h1,h2⟩
 ·exact⟨j,r,hst,.inl rfl,h1,ht⟩
 ·exact⟨j,r',hst,.inr h1,h2,ht⟩
theorem ML {x:V} {M:List Obj} {v:V} {r:List aw} (h:RI x M v r):∃t,A6 r 0=some (tS,eS,t,M)/\wh x v r:=by
 unfold RI at h;split at h
 ·rename_i hst;split at h
  ·rename_i hc;simp only[Th,Tj]at hc;obtain⟨rfl,rfl⟩:=hc;obtain⟨h1,rfl⟩:=h;exact⟨_,hst,dB h1⟩
  ·exact h.elim
 ·exact h.elim
theorem Su {P:Program} {f:Nat} {rest:List V} {res:List aw} {K KP:V->List aw->Prop} {k:Nat} {L M:List Obj} {x:V} (hr:aj res k= .store tS eS L) (hid:km rest=true) (hx:jr x=true)
  (h:(∀o∈L,o.wf)->L.length<=9223372036854775807->ai P f (.lp 0 0::rest) [.blk tS (.ag [.sa 1]),.obs eS 2 L,.gen 1] (RI x M) (fun _ _=>False)) (hK:K x (bG res k (.store tS eS M))):ai P f (.lp k 0::rest) res K KP:=by
 refine ai.zo hr hid hx ?_ hK;refine ai.fact (k:=0) rfl fun w1 w2=>?_
 refine ai.iF (k:=0) rfl ?_;refine ai.shut (h w1 w2) fun v r hv=>?_
 obtain⟨t,h1,h2⟩:=ML hv;obtain⟨r',g1,g2⟩:=xH h1;exact .inr ⟨0,r',g1,fun J K=>h2 J K,g2⟩
theorem eD {l:List Obj}:ee l=true↔1<=l.length/\l.length<=64/\∀i,i<l.length->bx (aq l i free) (l.length:Int)=true:=by
 unfold ee aE;simp only[Th,Ti,List.all_eq_true,List.mem_range,and_assoc]
theorem rM {l:List Obj} (h:¬(1<=l.length/\l.length<=64/\∀i,i<l.length->bx (aq l i free) (l.length:Int)=true)):ee l=false:=by
 cases hr:ee l with
 |false=>rfl
 |true=>exact absurd (eD.1 hr) h
theorem uv {l:List Obj} {g:Int} (h1:g<=(l.length:Int)):(ij l g).length=l.length:=by
 unfold ij;simp only[List.length_append,List.length_take,List.length_replicate];omega
theorem H6 {l:List Obj}:gu (l.length:Int)=ij l 0:=by unfold gu ij;simp
theorem MT {l:List Obj} {g:Int} (h:(l.length:Int)<=g):ij l g=l:=by
 unfold ij;rw[List.take_of_length_le (by omega),show l.length-g.toNat=0 by omega];simp
theorem Lf {l:List Obj} {g:Int} (h0:0<=g) (h1:g<(l.length:Int)):cX (ij l g) g.toNat (aq l g.toNat free)=ij l (g+1):=by
 unfold cX ij aq;obtain⟨n,rfl⟩:=Int.eq_ofNat_of_zero_le h0;have hn:n<l.length:=by omega
 have e1:((n:Int)+1).toNat=n+1:=by omega
 have e2:((n:Int)).toNat=n:=by omega
 rw[e1,e2];apply List.ext_getElem?
 intro i;rw[List.getElem?_set];have hlt:(List.take n l++List.replicate (l.length-n) free).length=l.length:=by simp;omega
 have htl:(List.take n l).length=n:=by simp;omega
 have htl1:(List.take (n+1) l).length=n+1:=by simp;omega
 by_cases hi:n=i
 ·subst hi;rw[To rfl,To (by rw[hlt];exact hn),List.getElem?_append_left (by rw[htl1];omega),List.getElem?_take,To (by omega),Tm,List.getElem?_eq_getElem hn];rfl
 ·rw[Tn hi];by_cases hl:i<n
  ·rw[List.getElem?_append_left (by rw[htl];exact hl),List.getElem?_append_left (by rw[htl1];omega),List.getElem?_take,List.getElem?_take,To hl,To (by omega)]
  ·rw[List.getElem?_append_right (by rw[htl];omega),List.getElem?_append_right (by rw[htl1];omega),htl,htl1,List.getElem?_replicate,List.getElem?_replicate]
   by_cases hb:i<l.length
   ·rw[To (by omega),To (by omega)]
   ·rw[Tn (by omega),Tn (by omega)]
theorem OU {l:List Obj} {g:Int} (h0:0<=g) (h1:g<(l.length:Int)) (x:Obj):dT (ij l g) g x=bL x (l.length:Int):=by
 have hh:cj (ij l g) g=0:=jZ.2 (by rw[uv (by omega)];exact⟨h0,h1⟩)
 unfold dT aE;rw[To hh,uv (by omega)]
theorem LI {l:List Obj} {g:Int} (h0:0<=g) (h1:g<(l.length:Int)) (hx:bL (aq l g.toNat free) (l.length:Int)=0):cc (ij l g) g (aq l g.toNat free)=ij l (g+1):=by
 have hh:cj (ij l g) g=0:=jZ.2 (by rw[uv (by omega)];exact⟨h0,h1⟩)
 unfold cc aE;rw[To ⟨hh,by rw[uv (by omega)];exact hx⟩]
 exact Lf h0 h1
theorem qa (o:Obj) (n:Int):(bL o n=0/\bx o n=true)\/(bL o n=2/\bx o n=false):=by
 unfold bL;cases bx o n<;>simp
theorem lC (k:Key):(aU k=true/\bn k=k.oid/\0<=k.oid)\/(aU k=false/\bn k= -1):=by
 have h:bn k=if aU k then k.oid else -1:=rfl
 cases hn:aU k
 ·exact .inr ⟨rfl,by rw[h,hn];rfl⟩
 ·refine .inl ⟨rfl,by rw[h,hn];rfl,?_⟩
  unfold aU at hn;simp only[Th]at hn;have:=hn.1;simp only[aB,dV,hn.2,if_true,Th,Ti]at this;omega
theorem u0 {l:List Obj} {k:Key} (h:aM l k=true):0<=bn k/\bn k<(l.length:Int)/\aa l k=aq l (bn k).toNat free:=by
 have h':=h;unfold aM at h;simp only[Th,Ti]at h;have hb:=jZ.1 h.1.2;rcases lC k with⟨h1,h2,h3⟩|⟨h1,h2⟩
 ·rw[h2];exact⟨hb.1,hb.2,by unfold aa;rw[h',To rfl]⟩
 ·rw[h1]at h;simp at h
theorem rB {L M:List Obj} (h:L.length=M.length) (h2:∀j:Nat,j<L.length->aq L j free=aq M j free):L=M:=by
 apply List.ext_getElem h
 intro i h3 h4;have:=h2 i h3;unfold aq at this;simpa[Tm,h3,h4]using this
end Go.Sx
namespace Go.Proofs.YtghpaegglbbocaaGreat
open Go.Sx
set_option maxRecDepth 100000
theorem Hz:
 true=bg []:=by
 rfl
theorem FK (L:List Sx.Obj):
 decide (en (aE L)=0)=bg L:=by
 unfold bg en aE;rw[decide_eq_decide];omega
theorem mO:cW Tryz.prog 34 Cb:=
 GM (fun _=>rfl) (bh (inl:=bM) (ann:=aL) ak Hz (by kernel_rfl)) (fun L _ _=>bh (inl:=bM) (ann:=aL) ak (FK L) (by kernel_rfl))
theorem Lr (i:Int):
 (bg []=true->1=cj [] i)/\
  (bg []=false->((!decide (i<0))=true->False)/\((!decide (i<0))=false->4=cj [] i)):=by
 exact⟨fun _=>rfl,fun h=>by simp[oX]at h⟩
theorem Ln (L:List Sx.Obj) (i:Int):
 (bg L=true->1=cj L i)/\
  (bg L=false->
   ((decide (i<0)||decide (en (aE L)<=i))=true->4=cj L i)/\
     ((decide (i<0)||decide (en (aE L)<=i))=false->0=cj L i)):=by
 refine⟨fun h=>?_,fun h=>?_⟩
 ·rw[xN.1 h];rfl
 ·rw[JP h];unfold en aE;refine⟨fun h1=>?_,fun h1=>?_⟩
  ·simp only[Bool.or_eq_true,Ti]at h1;rw[To h1]
  ·simp only[Bool.or_eq_false_iff,decide_eq_false_iff_not]at h1;rw[Tn (by omega)]
theorem wa:cW Tryz.prog 27 QH:=
 tQ (fF .i64) (fun _ _=>rfl) (fun x _=>bh (inl:=bM) (ann:=aL) (ab mO ak) (Lr x) (by kernel_rfl)) (fun L x _ _ _=>bh (inl:=bM) (ann:=aL) (ab mO ak) (Ln L x) (by kernel_rfl)) fun _=>rfl
theorem I9:
 (bg []=true->0=ah [])/\(bg []=false->False):=by
 exact⟨fun _=>rfl,fun h=>by simp[oX]at h⟩
theorem FQ (L:List Sx.Obj):
 (bg L=true->0=ah L)/\(bg L=false->en (aE L)=ah L):=by
 exact⟨fun h=>by rw[xN.1 h];rfl,fun _=>rfl⟩
theorem aX:cW Tryz.prog 23 BP:=
 GM (fun _=>rfl) (bh (inl:=bM) (ann:=aL) (ab mO ak) I9 (by kernel_rfl)) (fun L _ _=>bh (inl:=bM) (ann:=aL) (ab mO ak) (FQ L) (by kernel_rfl))
theorem Kt (i:Int):
 ((!decide (cj [] i=0))=true->free=aH [] i/\cj [] i=cj [] i)/\
   ((!decide (cj [] i=0))=false->False):=by
 exact⟨fun _=>⟨rfl,rfl⟩,fun h=>by simp[o0]at h⟩
theorem LJ (L:List Sx.Obj) (i:Int):
 ((!decide (cj L i=0))=true->free=aH L i/\cj L i=cj L i)/\
   ((!decide (cj L i=0))=false->
     (0<=i/\i< ↑(aE L))/\i.toNat<aE L/\i.toNat<aE L/\aq L i.toNat free=aH L i/\0=cj L i):=by
 refine⟨fun h=>⟨?_,rfl⟩,fun h=>?_⟩
 ·unfold aH;rw[Tn (by simpa using h)]
 ·have h:cj L i=0:=by simpa using h
  have hb:=jZ.1 h;unfold aH aE;rw[To h,h];exact⟨hb,by omega,by omega,rfl,rfl⟩
theorem fM:cW Tryz.prog 14 Qg:=
 tQ (fF .i64) (fun _ _=>rfl) (fun x _=>bh (inl:=bM) (ann:=aL) (ab wa ak) (Kt x) (by kernel_rfl)) (fun L x _ _ _=>bh (inl:=bM) (ann:=aL) (ab wa ak) (LJ L x) (by kernel_rfl)) fun _=>rfl
theorem DX (k:Key):
 ((!aU k)=true->free=aa [] k/\false=aM [] k)/\
   ((!aU k)=false->
     ((!decide (cj [] (bW k)=0)|| !ca k (aH [] (bW k)))=true->
       free=aa [] k/\false=aM [] k)/\
       ((!decide (cj [] (bW k)=0)|| !ca k (aH [] (bW k)))=false->
         aH [] (bW k)=aa [] k/\true=aM [] k)):=by
 exact xM [] k
theorem D2 (L:List Sx.Obj) (k:Key):
 ((!aU k)=true->free=aa L k/\false=aM L k)/\
   ((!aU k)=false->
     ((!decide (cj L (bW k)=0)|| !ca k (aH L (bW k)))=true->
       free=aa L k/\false=aM L k)/\
       ((!decide (cj L (bW k)=0)|| !ca k (aH L (bW k)))=false->
         aH L (bW k)=aa L k/\true=aM L k)):=by
 exact xM L k
theorem bp:cW Tryz.prog 35 Mt:=
 tQ fO (fun _ _=>rfl) (fun x _=>bh (inl:=bM) (ann:=aL) (ab dX (ab fM (ab vW ak))) (DX x) (by kernel_rfl)) (fun L x _ _ _=>bh (inl:=bM) (ann:=aL) (ab dX (ab fM (ab vW ak))) (D2 L x) (by kernel_rfl)) fun _=>rfl
end Go.Proofs.YtghpaegglbbocaaGreat
namespace Go.Proofs.YtghpaegglbbocaaGreat
open Go.Sx
set_option maxRecDepth 100000
theorem OW (n:Int):
 ((decide (n<1)||decide (64<n))=true->gF n=false/\True)/\
   ((decide (n<1)||decide (64<n))=false->
     (∃g,yq n g/\Value.pointer none=Value.pointer none/\n=n/\0=g/\ []=gu g)/\
      ∀(g:Int),
       yq n g->
        (decide (g<n)=true->
          tP (aE (gu g)) 8/\
           aQ IntKind.i64 (g+1)/\
            ∃g',
             yq n g'/\
              (n-g').toNat<(n-g).toNat/\
               Value.pointer none=Value.pointer none/\
                n=n/\g+1=g'/\gL (gu g) free=gu g')/\
         (decide (g<n)=false->gF n=true/\True/\gu g=gu n)):=by
 refine⟨fun h=>⟨?_,trivial⟩,fun h=>⟨⟨0,?_,rfl,rfl,rfl,rfl⟩,fun g hg=>⟨fun hlt=>?_,fun hge=>?_⟩⟩⟩
 ·simp only[Bool.or_eq_true,Ti]at h;unfold gF;rw[Bool.and_eq_false_iff,decide_eq_false_iff_not,decide_eq_false_iff_not];omega
 ·simp only[Bool.or_eq_false_iff,decide_eq_false_iff_not]at h;exact⟨by omega,by omega⟩
 ·simp only[Bool.or_eq_false_iff,decide_eq_false_iff_not]at h;obtain⟨g0,g1⟩:=hg;have hlt:=Tl hlt;refine⟨?_,?_,g+1,⟨by omega,by omega⟩,by omega,rfl,rfl,rfl,K5 g0⟩
  ·unfold tP aE gu;simp only[List.length_replicate,maxLen];omega
  ·simp only[aQ,cy];omega
 ·simp only[Bool.or_eq_false_iff,decide_eq_false_iff_not]at h;obtain⟨g0,g1⟩:=hg;have hge:=Tk hge;exact⟨oU.2 (by omega),trivial,by rw[show g=n by omega]⟩
theorem F7 (n:Int):ai Tryz.prog 20 [.it .i64 n] [] (Si n) (fun _ _=>False):=bh (inl:=bM) (ann:=(me [(20,5,SQ [2,3,4,13] (fun g=> [(14,.it .i64 g)]) 0 tS eS gu (yq n) n)])) ak (OW n) (by kernel_rfl)
theorem Gp:ql Tryz.prog 20 MZ:=by
 intro args res K KP h;unfold MZ at h;split at h
 ·split at h
  ·rename_i n hn;refine ai.args (eh.rd (fF .i64) hn eh.nil) ?_;cases hb:gF n with
   |false=>exact ai.pure rfl rfl ((F7 n).mono (fun v r hv=>FV hb hv) fun _ _ h=>h) (h.1 hb)
   |true=>
    refine ai.LV (F:=fun j=> .tp [.lp j 0,.ci .i64 0]) rfl ?_ (h.2 hb)
    refine ai.shut (F7 n) fun v r hv=>?_
    obtain⟨j,r',_,h1,h2,h3⟩:=De hb hv;rcases h1 with rfl|h1
    ·exact .inl ⟨j,h2,h3⟩
    ·exact .inr ⟨j,r',h1,j,h2,h3⟩
  ·exact h.elim
 ·exact h.elim
theorem Md (i:Int) (o:Sx.Obj):
 ((!decide (cj [] i=0))=true->cj [] i=dT [] i o)/\((!decide (cj [] i=0))=false->False):=by
 refine⟨fun _=>?_,fun h=>by simp[o0]at h⟩
 rw[C5,o0]
theorem KH (i:Int) (o:Sx.Obj):ai Tryz.prog 41 [kS,.it .i64 i,.ob o] [] (rm (.it .i64 (dT [] i o))) (fun _ _=>False):=bh (inl:=bM) (ann:=aL) (ab wa (ab yg ak)) (Md i o) (by kernel_rfl)
theorem LR (L:List Sx.Obj) (i:Int) (o:Sx.Obj):
 ((!decide (cj L i=0))=true->cj L i=dT L i o/\L=cc L i o)/\
   ((!decide (cj L i=0))=false->
     ((!decide (bL o (en (aE L))=0))=true->bL o (en (aE L))=dT L i o/\L=cc L i o)/\
       ((!decide (bL o (en (aE L))=0))=false->
         (0<=i/\i< ↑(aE L))/\i.toNat<aE L/\0=dT L i o/\cX L i.toNat o=cc L i o)):=by
 refine⟨fun h=>?_,fun h=>⟨fun h2=>?_,fun h2=>?_⟩⟩
 ·obtain⟨a,b⟩:=KB (o:=o) (show cj L i≠0 by simpa using h)
  rw[a,b];exact⟨rfl,rfl⟩
 ·obtain⟨a,b⟩:=Px (o:=o) (show cj L i=0 by simpa using h) (show bL o (aE L:Int)≠0 by unfold en at h2;simpa using h2)
  rw[a,b];exact⟨rfl,rfl⟩
 ·have h:=(show cj L i=0 by simpa using h)
  have hb:=jZ.1 h;obtain⟨a,b⟩:=qo (o:=o) h (show bL o (aE L:Int)=0 by unfold en at h2;simpa using h2)
  rw[a,b];exact⟨hb,by unfold aE;omega,rfl,rfl⟩
theorem KC (L:List Sx.Obj) (i:Int) (o:Sx.Obj):ai Tryz.prog 41 [.lp 0 0,.it .i64 i,.ob o] [.blk tS (.ag [.sa 1]),.obs eS 2 L,.gen 1] (RI (.it .i64 (dT L i o)) (cc L i o)) (fun _ _=>False):=bh (inl:=bM) (ann:=aL) (ab wa (ab yg ak)) (LR L i o) (by kernel_rfl)
theorem Kj (i:Int) (o:Sx.Obj):
 ((!decide (cj [] i=0))=true->cj [] i=dT [] i o)/\
   ((!decide (cj [] i=0))=false->
     ((!decide (bL o 0=0))=true->bL o 0=dT [] i o)/\((!decide (bL o 0=0))=false->False)):=by
 refine⟨fun _=>?_,fun h=>by simp[o0]at h⟩
 rw[C5,o0]
theorem Lk (i:Int) (o:Sx.Obj):ai Tryz.prog 41 [.lp 0 0,.it .i64 i,.ob o] [.ro (.blk tS (.ag [.nl (.slice none 0 0)]))] (rm (.it .i64 (dT [] i o))) (fun _ _=>False):=bh (inl:=bM) (ann:=aL) (ab wa (ab yg ak)) (Kj i o) (by kernel_rfl)
theorem c9:ql Tryz.prog 41 M6:=by
 intro args res K KP h;unfold M6 at h;split at h
 ·split at h
  ·rename_i i hi;split at h
   ·rename_i o ho;refine ai.args (eh.k7 (eh.rd (fF .i64) hi (eh.rd xt ho eh.nil))) ?_;split at h
    ·split at h
     ·exact ai.pure rfl rfl ((KH i o).mono (fun _ _ h=>dB h) fun _ _ h=>h) h
     ·exact h.elim
    ·split at h
     ·rename_i hoff;have hoff:=Tj.1 hoff;subst hoff;split at h
      ·rename_i hr;split at h
       ·rename_i hc;simp only[Th,Tj]at hc;obtain⟨rfl,rfl⟩:=hc;exact Su hr rfl rfl (fun _ _=>KC _ i o) h
       ·exact h.elim
      ·rename_i hr;split at h
       ·rename_i hc;simp only[Th,Tj]at hc;obtain⟨rfl,hz⟩:=hc;have:=uY hz;subst this;refine ai.Fz (r0:= .blk tS (.ag [.nl (.slice none 0 0)])) (by unfold cN;rw[hr]) (by simp) (fun κ=>rfl) rfl rfl ((Lk i o).mono (fun _ _ h=>dB h) fun _ _ h=>h) h
       ·exact h.elim
      ·exact h.elim
     ·exact h.elim
    ·exact h.elim
   ·exact h.elim
  ·exact h.elim
 ·exact h.elim
theorem JH (l:List Sx.Obj) (hl:l.length<=9223372036854775807):
 ((decide (en (aE l)<1)||decide (64<en (aE l)))=true->false=ee l)/\
   ((decide (en (aE l)<1)||decide (64<en (aE l)))=false->
     (∃g,ot l g/\false=false/\0=g/\l=l)/\
      ∀(g:Int),
       ot l g->
        (decide (g<en (aE l))=true->
          (0<=g/\g< ↑(aE l))/\
           g.toNat<aE l/\
            ((!decide (bL (aq l g.toNat free) (en (aE l))=0))=true->false=ee l)/\
              ((!decide (bL (aq l g.toNat free) (en (aE l))=0))=false->
                aQ IntKind.i64 (g+1)/\
                 ∃g',
                  ot l g'/\
                   (en (aE l)-g').toNat<(en (aE l)-g).toNat/\
                    false=false/\g+1=g'/\l=l))/\
         (decide (g<en (aE l))=false->true=ee l)):=by
 refine⟨fun h=>?_,fun h=>⟨⟨0,⟨by omega,by omega,fun j hj=>by omega⟩,rfl,rfl,rfl⟩,fun g hg=>⟨fun hlt=>?_,fun hge=>?_⟩⟩⟩
 ·simp only[Bool.or_eq_true,Ti]at h;simp only[jd]at h;exact(rM fun hh=>by have h1:=hh.1;have h2:=hh.2.1;omega).symm
 ·obtain⟨g0,g1,g2⟩:=hg;have hlt:=Tl hlt;unfold en at *;refine⟨⟨g0,hlt⟩,by omega,fun hb=>(rM fun hh=>?_).symm,fun hb=>⟨?_,g+1,⟨by omega,by omega,fun j hj=>?_⟩,by omega,rfl,rfl,rfl⟩⟩
  ·have:=hh.2.2 g.toNat (by unfold aE at hlt;omega)
   unfold bL aE at hb;rw[this]at hb;simp at hb
  ·simp only[aQ,cy];unfold aE at *;omega
  ·by_cases e:(j:Int)<g
   ·exact g2 j e
   ·have:j=g.toNat:=by omega
    subst this;rcases qa (aq l g.toNat free) (aE l:Int)with⟨h1,h2⟩|⟨h1,h2⟩
    ·exact h2
    ·rw[h1]at hb;simp at hb
 ·obtain⟨g0,g1,g2⟩:=hg;have hge:=Tk hge;have hle:=mr l;simp only[Bool.or_eq_false_iff,decide_eq_false_iff_not]at h;simp only[jd]at h hge;exact(eD.2 ⟨by omega,by omega,fun i hi=>g2 i (by omega)⟩).symm
theorem GR:cW Tryz.prog 25 Kx:=Py (fun _=>rfl) fun l _ hl=>bh (inl:=bM) (ann:=(me [(25,4,PX [0,2] (fun g=> [(3,.it .i64 g)]) (ot l) (en (aE l)))])) (ab Jc ak) (JH l hl) (by kernel_rfl)
theorem P7 (l:List Sx.Obj) (hl:l.length<=9223372036854775807):
 true=true/\
  (gF (en (aE l))=false->ee l=false/\True)/\
   (gF (en (aE l))=true->
    (∃g,
      ot l g/\
       Value.pointer none=Value.pointer none/\
        en (aE l)=en (aE l)/\0=g/\l=l/\gu (en (aE l))=ij l g)/\
     ∀(g:Int),
      ot l g->
       (decide (g<en (aE l))=true->
         (0<=g/\g< ↑(aE l))/\
          g.toNat<aE l/\
           true=true/\
            ((!decide (dT (ij l g) g (aq l g.toNat free)=0))=true->
              ee l=false/\dT (ij l g) g (aq l g.toNat free)=2)/\
              ((!decide (dT (ij l g) g (aq l g.toNat free)=0))=false->
                aQ IntKind.i64 (g+1)/\
                 ∃g',
                  ot l g'/\
                   (en (aE l)-g').toNat<(en (aE l)-g).toNat/\
                    Value.pointer none=Value.pointer none/\
                     en (aE l)=en (aE l)/\
                      g+1=g'/\l=l/\cc (ij l g) g (aq l g.toNat free)=ij l g'))/\
        (decide (g<en (aE l))=false->ee l=true/\True/\ij l g=l)):=by
 refine⟨rfl,fun h=>⟨rM fun hh=>?_,trivial⟩,fun h=>⟨⟨0,⟨by omega,by omega,fun j hj=>by omega⟩,rfl,rfl,rfl,rfl,H6⟩,fun g hg=>⟨fun hlt=>?_,fun hge=>?_⟩⟩⟩
 ·have:gF (en (aE l))=true:=oU.2 (by unfold en aE;omega)
  rw[this]at h;simp at h
 ·obtain⟨g0,g1,g2⟩:=hg;have hlt:=Tl hlt;have h:=oU.1 h;have hle:=mr l;simp only[jd]at *;rw[OU g0 hlt];refine⟨⟨g0,hlt⟩,by omega,trivial,fun hb=>⟨rM fun hh=>?_,?_⟩,fun hb=>⟨?_,g+1,⟨by omega,by omega,fun j hj=>?_⟩,by omega,trivial,trivial,rfl,trivial,LI g0 hlt (by simpa using hb)⟩⟩
  ·have:=hh.2.2 g.toNat (by omega)
   unfold bL at hb;rw[this]at hb;simp at hb
  ·rcases qa (aq l g.toNat free) (l.length:Int)with⟨h1,h2⟩|⟨h1,h2⟩
   ·rw[h1]at hb;simp at hb
   ·exact h1
  ·simp only[aQ,cy];omega
  ·by_cases e:(j:Int)<g
   ·exact g2 j e
   ·have:j=g.toNat:=by omega
    subst this;rcases qa (aq l g.toNat free) (l.length:Int)with⟨h1,h2⟩|⟨h1,h2⟩
    ·exact h2
    ·rw[h1]at hb;simp at hb
 ·obtain⟨g0,g1,g2⟩:=hg;have hge:=Tk hge;have h:=oU.1 h;have hle:=mr l;simp only[jd]at *;exact⟨eD.2 ⟨by omega,by omega,fun i hi=>g2 i (by omega)⟩,trivial,MT (by omega)⟩
theorem M8 (l:List Sx.Obj) (own:Option Nat):ai Tryz.prog 26 [.sa 0] [.ro (.arr own 163 (.ob l))] (RT l) (fun _ _=>False):=
 ai.QS (ai.Na (k:=0) rfl fun _ hl=>(cg (inl:=bM) (ann:=(me [(26,5,RJ [0,2,3,4,5,18,19] (fun g=> [(20,.it .i64 g)]) 1 (fun g=> .store tS eS (ij l g)) (ot l) (en (aE l)))])) ak (aG Gp (aG c9 aA)) (P7 l hl) (by kernel_rfl):ai Tryz.prog 26 [.sa 0] [.ro (.arr none 163 (.ob l))] (RT l) (fun _ _=>False)))
theorem QN:ql Tryz.prog 26 Qo:=by
 intro args res K KP h;unfold Qo at h;split at h
 ·split at h
  ·split at h
   ·rename_i hr;split at h
    ·rename_i he;have he:=Tj.1 he;subst he;split at h
     ·rename_i l;cases hb:ee l with
      |false=>exact ai.QQ hr rfl rfl ((M8 l _).mono (fun v r hv=>FV hb (CQ hv).1) fun _ _ h=>h) (h.1 hb)
      |true=>
       refine ai.FJ (F:=fun j=> .tp [.lp j 0,.ci .i64 0]) hr rfl ?_ (h.2 hb)
       refine ai.shut (M8 l _) fun v r hv=>?_
       obtain⟨hv,h0⟩:=CQ hv;obtain⟨j,r',hs,h1,h2,h3⟩:=De hb hv
       have hj:1<=j:=by
        rcases Nat.eq_zero_or_pos j with rfl|hj
        ·rw[h0]at hs;simp at hs
        ·exact hj
       rcases h1 with rfl|h1
       ·exact .inl ⟨j,hj,h2,h3⟩
       ·exact .inr ⟨j,r',h1,j,hj,h2,h3⟩
     ·exact h.elim
    ·exact h.elim
   ·exact h.elim
  ·exact h.elim
 ·exact h.elim
end Go.Proofs.YtghpaegglbbocaaGreat
namespace Go.Sx
def ff (r b:Int):Bool:=decide ((r.tdiv b).tmod 2=1)
def eQ (r m g:Int):Int:=(if 2<=g/\(ff r 1||ff m 1)=true then 1 else 0)+(if 4<=g/\(ff r 2||ff m 2)=true then 2 else 0)+(if 8<=g/\(ff r 4||ff m 4)=true then 4 else 0)
def cx (r m:Int):Int:=eQ r m 8
def sf (g:Int):Prop:=g=1\/g=2\/g=4\/g=8
def bR (k:Key) (r:Int):Key:= {k with rights:=r}
def mU (k:Key):Key:=if k.kind=2 then bR k (cx k.rights 3)else if k.kind=3 then bR k 1 else if k.kind=1\/k.kind=8 then k else void
def fK (k:Key):Key:=if aB k then mU k else void
def Mi:Ct:=MX (rI .i64) (rI .i64) fun r m=> .it .i64 (cx r m)
def Ht:Ct:=Nn rK fun k=> .tp [.key (fK k),.it .i64 (bf k)]
def aJ (L:List Obj) (k:Key) (kind:Int) (c:Bool):Int:=if aE L=0 then 1 else if(!aM L k|| !decide (k.kind=kind))=true then 190 else if(c&& !decide (k.rights.tmod 4=0))=true then 191 else 0
def xL (k:Key):Bool:=decide ((k.rights.tdiv 2).tmod 2=1)
def gW (L:List Obj) (o:Obj) (k:Key) (i:Int):Key:=if xL k then mU (ae L (o.slots.at i.toNat))else ae L (o.slots.at i.toNat)
def cM (L:List Obj) (k:Key) (i:Int):Key:=gW L (aq L k.oid.toNat free) k i
def lS (k:Key) (i:Int):Prop:=0<=i/\i<16/\aB k=true
def jS (i:Int):Bool:=decide (0<=i)&&decide (i<16)
def bF (L:List Obj) (k:Key) (i:Int):Int:=if aJ L k 2 false=0 then(if jS i then 0 else 4)else aJ L k 2 false
def aC (L:List Obj) (k:Key) (i:Int):Key:=if bF L k i=0 then cM L k i else void
def eH (L:List Obj) (v:Key):Bool:=aB v&&decide (bn v<(aE L:Int))
def bk (L:List Obj) (k:Key) (i:Int) (v:Key):Int:=if aJ L k 2 true=0 then(if jS i then(if eH L v then 0 else 2)else 4)else aJ L k 2 true
def c8 (L:List Obj) (k:Key) (i:Int) (v:Key):Key:=if bk L k i v=0 then cM L k i else void
def gp (o:Obj) (s:bV):Obj:= {o with slots:=s}
def sO (L:List Obj) (k:Key) (s:bV):List Obj:=cX L k.oid.toNat (gp (aq L k.oid.toNat free) s)
def cG (L:List Obj) (k:Key) (i:Int) (v:Key):List Obj:=if bk L k i v=0 then sO L k ((aq L k.oid.toNat free).slots.put i.toNat (ae L v))else L
def fe (L:List Obj) (k:Key):List Obj:=if aJ L k 2 true=0 then sO L k fH else L
def bZ (L:List Obj) (t f:Key):Int:=if aJ L t 2 true=0 then aJ L f 2 false else aJ L t 2 true
def eZ (L:List Obj) (t f:Key) (g:Int):bV:=(List.range g.toNat).foldl (fun s (j:Nat)=>s.put j (cM L f (j:Int))) (aq L t.oid.toNat free).slots
def eA (L:List Obj) (t f:Key):List Obj:=if bZ L t f=0 then sO L t (eZ L t f 16)else L
def an (L:List Obj):Prop:=ee L=true
def tU (g:Int):Prop:=0<=g/\g<=16
def kA:Arg Key:=Co rK V.key
def iA:Arg Int:=Co (rI .i64) (V.it .i64)
def bA:Arg Bool:=Co toBool V.bo
def oA:Arg Obj:=Co rO V.ob
def sA:Arg (Option (List Obj)):=RD tS eS
def BK (o:Option (List Obj)):List Obj:=match o with
 |none=> []
 |some L=>L
def nB:my (Obj×Option (List Obj)×Key×Unit):=cO oA (cO sA (cO kA na))
def OI:Ct:=EY (cO (RV nB) (cO iA na)) (fun x=>some (lS x.1.2.2.1 x.2.1)) fun x=> .key (gW (BK x.1.2.1) x.1.1 x.1.2.2.1 x.2.1)
def OT:Ct:=EY (cO sA (cO kA (cO iA na))) (fun _=>none) fun x=> .tp [.key (aC (BK x.1) x.2.1 x.2.2.1),.it .i64 (bF (BK x.1) x.2.1 x.2.2.1)]
theorem DS {r g:Int} (hr:cy .i64 r) (hg:g=1\/g=2\/g=4\/g=8):cy .i64 (r.tdiv g):=by
 simp only[cy]at *;rcases Int.le_total 0 r with h|h
 ·rw[Int.tdiv_eq_ediv_of_nonneg h];rcases hg with rfl|rfl|rfl|rfl<;>omega
 ·obtain⟨s,rfl⟩:∃s,r= -s:=⟨-r,by omega⟩
  rw[Int.neg_tdiv,Int.tdiv_eq_ediv_of_nonneg (by omega)]
  rcases hg with rfl|rfl|rfl|rfl<;>omega
theorem Au (x:Int):cy .i64 (x.tmod 2):=by
 have h1:=Int.tmod_lt_of_pos x (show(0:Int)<2 by omega)
 have h2:=Int.lt_tmod_of_pos x (show(0:Int)<2 by omega)
 simp only[cy];omega
theorem uU {r m g:Int}:0<=eQ r m g/\eQ r m g<=7:=by
 unfold eQ;repeat' split
 all_goals omega
theorem Gb {r:Int} (h0:0<=r) (h1:r<=7):aO .or .i64 r 3=cx r 3:=by
 have:r=0\/r=1\/r=2\/r=3\/r=4\/r=5\/r=6\/r=7:=by omega
 rcases this with rfl|rfl|rfl|rfl|rfl|rfl|rfl|rfl<;>decide
theorem zK {r:Int} (h0:0<=r) (h1:r<=1):aO .or .i64 r 1=1:=by
 have:r=0\/r=1:=by omega
 rcases this with rfl|rfl<;>decide
theorem eR {k:Key} (h:aB k=true):0<=k.rights/\k.rights<=cm k.kind:=by
 simp only[aB,Th,Ti]at h;omega
theorem gM:aB void=true:=by decide
theorem mG (L:List Obj) (k:Key):aB (ae L k)=true:=by
 unfold ae;split
 ·exact gM
 ·rename_i h;simp only[Bool.or_eq_true,not_or,Bool.not_eq_true,Bool.not_eq_false']at h;exact h.1.2
theorem AH (L:List Obj) (k:Key):fK (ae L k)=mU (ae L k):=by unfold fK;rw[mG,To rfl]
theorem SN {r:Int} (h0:0<=r) (h1:r<=7):decide (aO .and .i64 r 2=0)= !decide ((r.tdiv 2).tmod 2=1):=by
 have:r=0\/r=1\/r=2\/r=3\/r=4\/r=5\/r=6\/r=7:=by omega
 rcases this with rfl|rfl|rfl|rfl|rfl|rfl|rfl|rfl<;>decide
theorem K4 {r:Int} (h0:0<=r) (h1:r<=7):decide (aO .and .i64 r 3=0)=decide (r.tmod 4=0):=by
 have:r=0\/r=1\/r=2\/r=3\/r=4\/r=5\/r=6\/r=7:=by omega
 rcases this with rfl|rfl|rfl|rfl|rfl|rfl|rfl|rfl<;>decide
theorem Lu (n:Int):cm n<=7:=by unfold cm;split<;>(try split)<;>omega
theorem nJ {k:Key} (h:aB k=true):0<=k.rights/\k.rights<=7:=by
 have:=eR h;have:=Lu k.kind;omega
theorem ea {L:List Obj} {k:Key} (h:aM L k=true):aB k=true/\0<=k.oid/\k.oid<(L.length:Int)/\aa L k=aq L k.oid.toNat free/\(aq L k.oid.toNat free).kind=gZ k:=by
 have h':=h;unfold aM at h;simp only[Th,Ti]at h;obtain⟨⟨h1,h2⟩,h3⟩:=h;have hb:=jZ.1 h2;have hn:0<=bn k:=(u0 h').1;simp only[ca,Th,Bool.or_eq_true,Ti]at h3;refine⟨h3.1,hb.1,hb.2,by unfold aa;rw[h',To rfl],?_⟩
 rcases h3.2 with h|h
 ·omega
 ·exact h.1.1
theorem CY {L:List Obj} {o:Obj} {k:Key} {i:Int} (hq:lS k i):(0<=i/\i< ↑16)/\
  ((!decide (aO BinOp.and IntKind.i64 k.rights 2=0))=true->fK (ae L (o.slots.at i.toNat))=gW L o k i)/\
    ((!decide (aO BinOp.and IntKind.i64 k.rights 2=0))=false->ae L (o.slots.at i.toNat)=gW L o k i):=by
 obtain⟨h0,h1,h2⟩:=hq;have hr:=nJ h2;rw[SN hr.1 hr.2,AH];unfold gW xL;refine⟨⟨h0,by omega⟩,fun h=>?_,fun h=>?_⟩
 ·rw[To (by simpa using h)]
 ·rw[Tn (by simpa using h)]
theorem iz {L:List Obj} {k:Key} {d:Int} {c:Bool} (h:aJ L k d c=0):aM L k=true/\k.kind=d/\(c=true->k.rights.tmod 4=0):=by
 unfold aJ at h;split at h
 ·omega
 ·split at h
  ·omega
  ·rename_i h2;simp only[Bool.or_eq_true,Bool.not_eq_true',decide_eq_false_iff_not,not_or,Bool.not_eq_false,Decidable.not_not]at h2;split at h
   ·omega
   ·rename_i h3;refine⟨h2.1,h2.2,fun hc=>?_⟩
    simpa[hc]using h3
theorem mF:nL kA:=rF fO (fun _=>rfl) fun v x h=>Qn h
theorem Rh:nL oA:=rF xt (fun _=>rfl) fun v x h=>by cases v<;>simp[rO]at h;rfl
theorem QI:nL bA:=rF Ho (fun _=>rfl) fun v x h=>by cases v<;>simp[toBool]at h<;>rfl
theorem j6:nL iA:=rF (fF .i64) (fun _=>rfl) fun v x h=>by cases v<;>simp[rI,toInt]at h<;>rfl
theorem rf:nL sA:=PA _ _
theorem Ra:ji nB:=aY Rh (aY rf (aY mF fz))
def zO (x:V) (M:List Obj) (v:V) (r:List aw):Prop:=
 match aj r 0 with
 | .store t e L=>if t==tS&&e==eS then rm x v r/\L=M else False
 |_=>False
theorem Di {x:V} {M:List Obj} {v:V} {r:List aw} (h:zO x M v r):wh x v r/\aj r 0= .store tS eS M:=by
 unfold zO at h;split at h
 ·rename_i hr;split at h
  ·rename_i hc;simp only[Th,Tj]at hc;obtain⟨rfl,rfl⟩:=hc;obtain⟨h1,rfl⟩:=h;exact⟨dB h1,hr⟩
  ·exact h.elim
 ·exact h.elim
def ET {α:Type} (B:List V->Option α) (Q:List Obj->α->Prop) (F:List Obj->α->V) (M:List Obj->α->List Obj):nD:=fun args res K=>
 match args with
 |a::l=>match B l with
  |some x=>match a with
   | .nl v=>match v with
     | .pointer none=>K (F [] x) res
     |_=>False
   | .lp k off=>if off==0 then match aj res k with
     | .store t e L=>if t==tS&&e==eS then Q L x/\K (F L x) (bG res k (.store tS eS (M L x)))else False
     | .blk t c=>if t==tS&&Ri c then K (F [] x) res else False
     |_=>False
     else False
   |_=>False
  |none=>False
 |_=>False
def RQ:V:= .ag [.nl (.slice none 0 0)]
theorem lh {P:Program} {f:Nat} {α:Type} {B:List V->Option α} {m:α->List V} {Q:List Obj->α->Prop} {F:List Obj->α->V} {M:List Obj->α->List Obj} (hB:∀l x,B l=some x->eh l (m x)) (hid:∀x,km (m x)=true) (hF:∀L x,jr (F L x)=true)
  (h0:∀x,ai P f (kS::m x) [] (rm (F [] x)) (fun _ _=>False)) (hz:∀x,ai P f (.lp 0 0::m x) [.ro (.blk tS RQ)] (rm (F [] x)) (fun _ _=>False))
  (h1:∀L x,Q L x->(∀o∈L,o.wf)->L.length<=9223372036854775807->ai P f (.lp 0 0::m x) [.store tS eS L] (zO (F L x) (M L x)) (fun _ _=>False)):ql P f (ET B Q F M):=by
 intro args res K KP h;unfold ET at h;split at h
 case h_2=>exact h.elim
 split at h
 case h_2=>exact h.elim
 rename_i x hx;refine ai.args (eh.k7 (hB _ _ hx)) ?_;split at h
 ·split at h
  ·exact ai.pure (by simp only[km,jr,Bool.true_and];exact hid x) (hF _ _) ((h0 x).mono (fun _ _ h=>dB h) fun _ _ h=>h) h
  ·exact h.elim
 ·split at h
  ·rename_i hoff;have hoff:=Tj.1 hoff;subst hoff;split at h
   ·rename_i hr;split at h
    ·rename_i hc;simp only[Th,Tj]at hc;obtain⟨rfl,rfl⟩:=hc;refine ai.zo hr (hid x) (hF _ _) (ai.fact (k:=0) rfl fun w1 w2=>(h1 _ x h.1 w1 w2).mono (fun v r hv=>Di hv |> fun⟨a,b⟩=>⟨fun J K=>a J K,b⟩) fun _ _ h=>h) h.2
    ·exact h.elim
   ·rename_i hr;split at h
    ·rename_i hc;simp only[Th,Tj]at hc;obtain⟨rfl,hz'⟩:=hc;have:=uY hz';subst this;exact ai.Fz (r0:= .blk tS RQ) (by unfold cN;rw[hr];rfl) (by simp) (fun κ=>rfl) (hid x) (hF _ _) ((hz x).mono (fun _ _ h=>dB h) fun _ _ h=>h) h
    ·exact h.elim
   ·exact h.elim
  ·exact h.elim
 ·exact h.elim
def RM (l:List V):Option Key:=match l with
 | [a]=>rK a
 |_=>none
def KJ (l:List V):Option (Key×Key):=match l with
 | [a,b]=>match rK a with
   |some k=>match rK b with
    |some k'=>some (k,k')
    |none=>none
   |none=>none
 |_=>none
def GS (l:List V):Option (Key×Int×Key):=match l with
 | [a,b,c]=>match rK a with
   |some k=>match rI .i64 b with
    |some i=>match rK c with
     |some k'=>some (k,i,k')
     |none=>none
    |none=>none
   |none=>none
 |_=>none
theorem Jn:∀l x,RM l=some x->eh l [.key x]:=fun l x h=>by
 unfold RM at h;split at h
 ·exact eh.rd fO h eh.nil
 ·simp at h
theorem Du:∀l x,KJ l=some x->eh l [.key x.1,.key x.2]:=fun l x h=>by
 unfold KJ at h;split at h
 ·split at h
  ·rename_i h1;split at h<;>simp only[Tf,reduceCtorEq]at h
   rename_i h2;subst h;exact eh.rd fO h1 (eh.rd fO h2 eh.nil)
  ·simp at h
 ·simp at h
theorem Hj:∀l x,GS l=some x->eh l [.key x.1,.it .i64 x.2.1,.key x.2.2]:=fun l x h=>by
 unfold GS at h;split at h
 ·split at h
  ·rename_i h1;split at h
   ·rename_i h2;split at h<;>simp only[Tf,reduceCtorEq]at h
    rename_i h3;subst h;exact eh.rd fO h1 (eh.rd (fF .i64) h2 (eh.rd fO h3 eh.nil))
   ·simp at h
  ·simp at h
 ·simp at h
def yV (g:Int):Nat:=(16-g).toNat
def Pf:nD:=ET GS (fun L _=>an L) (fun L x=> .tp [.key (c8 L x.1 x.2.1 x.2.2),.it .i64 (bk L x.1 x.2.1 x.2.2)]) fun L x=>cG L x.1 x.2.1 x.2.2
def N1:nD:=ET RM (fun L _=>an L) (fun L x=> .it .i64 (aJ L x 2 true)) fun L x=>fe L x
def Pq:nD:=ET KJ (fun L _=>an L) (fun L x=> .it .i64 (bZ L x.1 x.2)) fun L x=>eA L x.1 x.2
theorem Jl {L:List Obj} {k:Key} {d:Int} {c:Bool} (h:(!decide (0<ah L))=true):aJ L k d c=1:=by
 unfold aJ;unfold ah at h;rw[To (by simp at h;omega)]
theorem ED {L:List Obj} {k:Key} {d:Int} {c:Bool} (h:(!decide (0<ah L))=false) (h2:(!(aM L k&&decide (k.kind=d)))=true):aJ L k d c=190:=by
 unfold aJ;unfold ah at h;rw[Tn (by simp at h;omega),To (by simpa using h2)]
theorem kQ {L:List Obj} {k:Key} {d:Int} (h2:(!(aM L k&&decide (k.kind=d)))=false):aM L k=true/\k.kind=d:=by simpa using h2
theorem N3 {L:List Obj} {k:Key} {d:Int} (h:(!decide (0<ah L))=false) (h2:(!(aM L k&&decide (k.kind=d)))=false) (h3:(!decide (aO BinOp.and IntKind.i64 k.rights 3=0))=true):aJ L k d true=191:=by
 have hr:=nJ (ea (kQ h2).1).1;rw[K4 hr.1 hr.2]at h3;unfold aJ;unfold ah at h;rw[Tn (by simp at h;omega),Tn (by simpa using h2),To (by simpa using h3)]
theorem Eb {L:List Obj} {k:Key} {d:Int} (h:(!decide (0<ah L))=false) (h2:(!(aM L k&&decide (k.kind=d)))=false) (h3:(!decide (aO BinOp.and IntKind.i64 k.rights 3=0))=false):aJ L k d true=0:=by
 have hr:=nJ (ea (kQ h2).1).1;rw[K4 hr.1 hr.2]at h3;unfold aJ;unfold ah at h;rw[Tn (by simp at h;omega),Tn (by simpa using h2),Tn (by simpa using h3)]
theorem DU {L:List Obj} {k:Key} {d:Int} (h:(!decide (0<ah L))=false) (h2:(!(aM L k&&decide (k.kind=d)))=false):aJ L k d false=0:=by
 unfold aJ;unfold ah at h;rw[Tn (by simp at h;omega),Tn (by simpa using h2),Tn (by simp)]
def eN (n:Int) (k:Key):Prop:=aB k=true/\bn k<n
theorem I5 {n:Int} {k:Key}:gk 1 n k=true↔eN n k:=by simp[gk,eN]
theorem zP (r:Int):0<=cx r 3/\cx r 3<=7:=uU
theorem GD {n:Int} (hn:0<=n) {k:Key} (h:eN n k):eN n (mU k):=by
 obtain⟨h1,h2⟩:=h;have hv:eN n void:=⟨gM,by have:=nm.2;omega⟩
 unfold mU;split
 ·rename_i e;have hw:=zP k.rights
  have h1':aB (bR k (cx k.rights 3))=true:=by
   simp only[aB,bR,e,Th,Ti]at h1⊢;have:cm 2=7:=rfl;grind
  refine⟨h1',?_⟩;unfold bn at h2⊢;rw[h1'];rw[h1]at h2;exact h2
 ·split
  ·rename_i e
   have h1':aB (bR k 1)=true:=by
    simp only[aB,bR,e,Th,Ti]at h1⊢;have:cm 3=1:=rfl;grind
   refine⟨h1',?_⟩;unfold bn at h2⊢;rw[h1'];rw[h1]at h2;exact h2
  ·split
   ·exact⟨h1,h2⟩
   ·exact hv
theorem uX {L:List Obj} (hL:0<L.length) (k:Key):eN (L.length:Int) (ae L k):=by
 have hv:eN (L.length:Int) void:=⟨gM,by have:=nm.2;omega⟩
 unfold ae;split
 ·exact hv
 ·rename_i h;simp only[Bool.or_eq_true,not_or,Bool.not_eq_true,Bool.not_eq_false',Bool.and_eq_false_imp]at h;refine⟨h.1.2,?_⟩;rcases lC k with⟨a,b,c⟩|⟨a,b⟩
  ·rw[b];exact(ea (h.2 a)).2.2.1
  ·omega
theorem DO {L:List Obj} (hL:0<L.length) (k:Key) (i:Int):eN (L.length:Int) (cM L k i):=by
 unfold cM gW;split
 ·exact GD (by omega) (uX hL _)
 ·exact uX hL _
theorem yn {o:Obj} {n:Int} {s:bV} (h:bx o n=true) (hk:o.kind=1) (hs:∀i,i<16->eN n (s.at i)):bx (gp o s) n=true:=by
 rw[dJ]at h⊢;simp only[gp];obtain⟨a1,a2,a3,a4,a5,a6,a7,a8,a9,a10,a11⟩:=h;exact⟨a1,a2,a3,a4,a5,a6,a7,a8,a9,fun i hi=>by rw[hk];exact I5.2 (hs i hi),fun i hi=> .inl (.inl hk)⟩
theorem wO {L:List Obj} {k:Key} (h:aM L k=true) (h2:k.kind=2):(aq L k.oid.toNat free).kind=1:=by
 rw[(ea h).2.2.2.2];unfold gZ;rw[Tn (by have:=(u0 h).1;omega),Tn (by omega)]
theorem pY {L:List Obj} {k:Key} (hL:an L) (h:aM L k=true) (h2:k.kind=2):∀i,i<16->eN (L.length:Int) ((aq L k.oid.toNat free).slots.at i):=fun i hi=>by
 obtain⟨_,b2,b3,_⟩:=ea h;have:=(eD.1 hL).2.2 k.oid.toNat (by omega)
 have:=(dJ.1 this).2.2.2.2.2.2.2.2.2.1 i hi;rw[wO h h2]at this;exact I5.1 this
theorem mD {L:List Obj} {k:Key} {s:bV} (hL:an L) (h:aM L k=true) (h2:k.kind=2) (hs:∀i,i<16->eN (L.length:Int) (s.at i)):cc L k.oid (gp (aa L k) s)=sO L k s/\an (sO L k s):=by
 obtain⟨b1,b2,b3,b4,_⟩:=ea h;have hr:=eD.1 hL;have ho:=yn (hr.2.2 k.oid.toNat (by omega)) (wO h h2) hs
 refine⟨?_,?_⟩
 ·rw[b4];exact(qo (jZ.2 ⟨b2,b3⟩) (oM ho).symm).2
 ·refine eD.2 ?_;unfold sO;have hl:(cX L k.oid.toNat (gp (aq L k.oid.toNat free) s)).length=L.length:=by simp[cX]
  rw[hl];refine⟨hr.1,hr.2.1,fun i hi=>?_⟩
  by_cases e:i=k.oid.toNat
  ·subst e;rw[show aq (cX L k.oid.toNat (gp (aq L k.oid.toNat free) s)) k.oid.toNat free=gp (aq L k.oid.toNat free) s by simp[aq,cX,Tm,hi]]
   exact ho
  ·rw[show aq (cX L k.oid.toNat (gp (aq L k.oid.toNat free) s)) i free=aq L i free by simp[aq,cX,Tm,List.getElem?_set,Ne.symm e]]
   exact hr.2.2 i hi
theorem AZ {L:List Obj} {k:Key} {i:Int} {v:Key} (hL:an L) (h:aM L k=true) (h2:k.kind=2) (h0:0<=i) (h1:i<16):∀j,j<16->eN (L.length:Int) (((aq L k.oid.toNat free).slots.put i.toNat (ae L v)).at j):=fun j hj=>by
 rw[bV.gi _ _ _ _ (by omega)]
 split
 ·exact uX (eD.1 hL).1 v
 ·exact pY hL h h2 j hj
theorem CZ {n:Int} (hn:0<=n):∀j,j<16->eN n (fH.at j):=fun j hj=>by
 rw[CD.1 rfl j hj];exact⟨gM,by have:=nm.2;omega⟩
theorem yy (L:List Obj) (v:Key):(decide (bf v=0)&&(!aU v||decide (bW v<ah L)))=eH L v:=by
 unfold eH bf bW ah;rcases lC v with⟨a,b,c⟩|⟨a,b⟩
 ·rw[a,b];cases aB v<;>simp
 ·rw[a,b];have:(-1:Int)<(aE L:Int):=by omega
  cases aB v<;>simp[this]
theorem xG {L:List Obj} {t f:Key} {g:Int} (h0:0<=g):eZ L t f (g+1)=(eZ L t f g).put g.toNat (cM L f g):=by
 unfold eZ;rw[show(g+1).toNat=g.toNat+1 by omega,List.range_succ,List.foldl_append]
 simp only[List.foldl_cons,List.foldl_nil];rw[show((g.toNat:Nat):Int)=g by omega]
theorem JL {L:List Obj} {t f:Key} (h:aa L t=aq L t.oid.toNat free):aa L t=gp (aa L t) (eZ L t f 0):=by
 unfold eZ gp;simp[h]
theorem HV {L:List Obj} {t f:Key} {g:Int} (h0:0<=g) (h:aa L f=aq L f.oid.toNat free) (o:Obj) (s:bV):({kind:=(gp o (eZ L t f g)).kind,count:=(gp o (eZ L t f g)).count,calls:=(gp o (eZ L t f g)).calls,slots:=(gp o (eZ L t f g)).slots.put g.toNat (gW L (aa L f) f g),bytes:=(gp o (eZ L t f g)).bytes}:Obj)=gp o (eZ L t f (g+1)):=by
 rw[xG h0];unfold cM;rw[h];rfl
theorem vm {L:List Obj} {t f:Key} (hL:an L) (h:aM L t=true) (h2:t.kind=2):∀n:Nat,n<=16->∀j,j<16->eN (L.length:Int) ((eZ L t f n).at j)
 |0,_,j,hj=>by
  unfold eZ;exact pY hL h h2 j hj
 |n+1,hn,j,hj=>by
  rw[show((n+1:Nat):Int)=(n:Int)+1 by omega,xG (by omega),bV.gi _ _ _ _ (by omega)]
  split
  ·exact DO (eD.1 hL).1 _ _
  ·exact vm hL h h2 n (by omega) j hj
structure QJ where
 kind:Int
 slot:Int
 key:Key
 other:Key
def kR (l:List Obj):Bool:=decide ((aE l:Int)<=20)&&ee l
def OH:nD:=PV (cO RK na) (fun _=>True) (fun x=>kR x.1) (fun _=>kS) (fun _ n=> .lp n 0) (fun x=> .store tS eS x.1)
def vI (L:List Obj) (a:QJ):Bool:=
 if a.kind=1 then false else if a.kind=2 then decide (bk L a.key a.slot a.other=0)else if a.kind=3 then decide (aJ L a.key 2 true=0)else if a.kind=4 then decide (bZ L a.key a.other=0)else false
def DR (L:List Obj) (a:QJ):List Obj:=
 if a.kind=1 then L else if a.kind=2 then cG L a.key a.slot a.other else if a.kind=3 then fe L a.key else if a.kind=4 then eA L a.key a.other else L
theorem Gi {L:List Obj} {k:Key} {i:Int} (h:aJ L k 2 false≠0):bF L k i=aJ L k 2 false/\aC L k i=void:=by
 have:bF L k i=aJ L k 2 false:=by unfold bF;rw[Tn h]
 exact⟨this,by unfold aC;rw[this,Tn h]⟩
theorem JK {L:List Obj} {k:Key} {i:Int} (h:aJ L k 2 false=0) (hr:i<0\/15<i):bF L k i=4/\aC L k i=void:=by
 have:bF L k i=4:=by
  unfold bF jS;rw[To h,Tn (by simp;omega)]
 exact⟨this,by unfold aC;rw[this];rfl⟩
theorem rj (k:Key):tF k k=true:=by simp[tF]
def QJ.wf (x:QJ):Prop:=cy .i64 x.kind/\cy .i64 x.slot/\x.key.wf/\x.other.wf
theorem vP {L:List Obj} {k:Key} {i:Int} {v:Key} (h:bk L k i v=0):aJ L k 2 true=0/\0<=i/\i<16:=by
 unfold bk jS at h;split at h
 ·rename_i h1;split at h
  ·rename_i h2;simp at h2;exact⟨h1,h2.1,h2.2⟩
  ·omega
 ·rename_i h1;exact absurd h h1
theorem vq {L:List Obj} {a:QJ} (hL:an L) (h:vI L a=true):an (DR L a):=by
 unfold vI at h;unfold DR;split at h
 ·simp at h
 ·rename_i h1;rw[Tn h1];split at h
  ·rename_i h2;rw[To h2];have h:=Tl h;obtain⟨e1,e2,e3⟩:=vP h;obtain⟨a1,a2,_⟩:=iz e1;unfold cG;rw[To h];exact(mD hL a1 a2 (AZ hL a1 a2 e2 e3)).2
  ·rename_i h2;rw[Tn h2];split at h
   ·rename_i h3;rw[To h3];have h:=Tl h;obtain⟨a1,a2,_⟩:=iz h;unfold fe;rw[To h];exact(mD hL a1 a2 (CZ (by omega))).2
   ·rename_i h3;rw[Tn h3];split at h
    ·rename_i h4;rw[To h4];have h:=Tl h;have h':=h;unfold bZ at h';split at h'
     ·rename_i h5;obtain⟨a1,a2,_⟩:=iz h5;unfold eA;rw[To h];exact(mD hL a1 a2 (vm hL a1 a2 16 (by omega))).2
     ·rename_i h5;exact absurd h' h5
    ·simp at h
theorem J2 {l:List Obj} (h:kR l=true):an l/\l.length<=20:=by
 unfold kR at h;simp only[Th,Ti]at h;unfold aE at h;exact⟨h.2,by omega⟩
section
variable {L:List Obj} {k:Key} {s:bV} (h0:0<=k.oid) (h1:k.oid<(L.length:Int))
include h0 h1
end
theorem gw {L:List Obj} {j:Int} (h0:0<=j) (h1:j<(L.length:Int)):aH L j=aq L j.toNat free:=by
 unfold aH;rw[To (jZ.2 ⟨h0,h1⟩)]
theorem eV {L:List Obj} {i:Nat} {x:Obj} (hi:i<L.length) (j:Nat):aq (cX L i x) j free=if j=i then x else aq L j free:=by
 by_cases e:j=i
 ·subst e;rw[To rfl];simp[aq,cX,Tm,hi]
 ·rw[Tn e];simp[aq,cX,Tm,List.getElem?_set,Ne.symm e]
theorem jc {L:List Obj} {i:Nat} {x:Obj}:(cX L i x).length=L.length:=by simp[cX]
end Go.Sx
set_option maxRecDepth 100000
namespace Go.Sx
theorem mQ {κ:Nat->Option Nat} {x a:V} {l m:List V} (h1:fh κ x=some a) (h2:ef κ l=some m):ef κ (x::l)=some (a::m):=by
 simp only[ef];rw[h1];simp only;rw[h2]
end Go.Sx
set_option maxRecDepth 100000
namespace Go.Sx
def Np {α:Type} (B:my α) (l:List V):Option α:=match B.rd [] l with
 |some p=>match p.1 with
  | []=>some p.2
  |_=>none
 |none=>none
theorem rX {α:Type} {B:my α} (hB:ji B) (hid:∀a,km (B.cn a 0)=true):∀l x,Np B l=some x->eh l (B.cn x 0):=fun l x h=>by
 unfold Np at h;split at h
 case h_2=>simp at h
 rename_i p hp;obtain⟨pls,a⟩:=p;split at h
 case h_2=>simp at h
 rename_i h1;simp only at h1;subst h1;simp only[Tf]at h;subst h;obtain⟨_,_,_,b4⟩:=hB _ _ _ _ hp;obtain⟨c1,c2⟩:=b4 [] [];intro J K hk;have e1:=(c1 J K hk).1;have e2:=c2 K hk;have e3:eE (fun _=>False) (B.cn a 0):=pd _ (hid a) e2
 refine⟨?_,pd _ (hid a) e2⟩;rw[<-e1];exact fc (N:=fun _=>False) (fun _ h=>h.elim) _ e3
def RU {α:Type} (B:List V->Option α) (R:α->Prop) (Q:List Obj->α->Prop) (F:List Obj->α->V) (M:List Obj->α->List Obj):nD:=fun args res K=>
 match args with
 |a::l=>match B l with
  |some x=>R x/\match a with
   | .nl v=>match v with
     | .pointer none=>K (F [] x) res
     |_=>False
   | .lp k off=>if off==0 then match aj res k with
     | .store t e L=>if t==tS&&e==eS then Q L x/\K (F L x) (bG res k (.store tS eS (M L x)))else False
     | .blk t c=>if t==tS&&Ri c then K (F [] x) res else False
     |_=>False
     else False
   |_=>False
  |none=>False
 |_=>False
theorem Jk {P:Program} {f:Nat} {α:Type} {B:List V->Option α} {m:α->List V} {R:α->Prop} {Q:List Obj->α->Prop} {F:List Obj->α->V} {M:List Obj->α->List Obj} (hB:∀l x,B l=some x->eh l (m x)) (hid:∀x,km (m x)=true) (hF:∀L x,jr (F L x)=true)
  (h0:∀x,R x->ai P f (kS::m x) [] (rm (F [] x)) (fun _ _=>False)) (hz:∀x,R x->ai P f (.lp 0 0::m x) [.ro (.blk tS RQ)] (rm (F [] x)) (fun _ _=>False))
  (h1:∀L x,Q L x->ai P f (.lp 0 0::m x) [.store tS eS L] (zO (F L x) (M L x)) (fun _ _=>False)):ql P f (RU B R Q F M):=by
 intro args res K KP h;unfold RU at h;split at h
 case h_2=>exact h.elim
 split at h
 case h_2=>exact h.elim
 rename_i x hx;obtain⟨hR,h⟩:=h;refine ai.args (eh.k7 (hB _ _ hx)) ?_;split at h
 ·split at h
  ·exact ai.pure (by simp only[km,jr,Bool.true_and];exact hid x) (hF _ _) ((h0 x hR).mono (fun _ _ h=>dB h) fun _ _ h=>h) h
  ·exact h.elim
 ·split at h
  ·rename_i hoff;have hoff:=Tj.1 hoff;subst hoff;split at h
   ·rename_i hr;split at h
    ·rename_i hc;simp only[Th,Tj]at hc;obtain⟨rfl,rfl⟩:=hc;exact ai.zo hr (hid x) (hF _ _) ((h1 _ x h.1).mono (fun v r hv=>Di hv |> fun⟨a,b⟩=>⟨fun J K=>a J K,b⟩) fun _ _ h=>h) h.2
    ·exact h.elim
   ·rename_i hr;split at h
    ·rename_i hc;simp only[Th,Tj]at hc;obtain⟨rfl,hz'⟩:=hc;have:=uY hz';subst this;exact ai.Fz (r0:= .blk tS RQ) (by unfold cN;rw[hr];rfl) (by simp) (fun κ=>rfl) (hid x) (hF _ _) ((hz x hR).mono (fun _ _ h=>dB h) fun _ _ h=>h) h
    ·exact h.elim
   ·exact h.elim
  ·exact h.elim
 ·exact h.elim
def dv (n:Int):Key:=⟨1,0,0,0,0,n⟩
theorem dt {L:List Obj} (h:an L) (j:Nat) (hj:j<L.length):bx (aq L j free) (L.length:Int)=true:=(eD.1 h).2.2 j hj
theorem lE {L:List Obj} (h:an L):1<=L.length/\L.length<=64:=⟨(eD.1 h).1,(eD.1 h).2.1⟩
theorem IX {L M:List Obj} (h:an L) (hl:M.length=L.length) (hm:∀j,j<L.length->bx (aq M j free) (L.length:Int)=true):an M:=by
 obtain⟨a,b⟩:=lE h;unfold an;rw[eD,hl];exact⟨a,b,hm⟩
theorem lr {L:List Obj} {i:Nat} {x:Obj} (h:an L) (hx:bx x (L.length:Int)=true):an (cX L i x):=by
 by_cases hi:i<L.length
 ·refine IX h jc fun j hj=>?_
  rw[eV hi];split
  ·exact hx
  ·exact dt h j hj
 ·rw[show cX L i x=L from List.set_eq_of_length_le (by omega)];exact h
theorem lQ {L:List Obj} {i:Int} {x:Obj} (h0:0<=i) (h1:i<(L.length:Int)) (hx:bx x (L.length:Int)=true):cc L i x=cX L i.toNat x/\dT L i x=0:=by
 have e:cj L i=0:=jZ.2 ⟨h0,h1⟩;have e2:bL x (aE L:Int)=0:=by unfold bL;exact To hx
 exact⟨(qo e e2).2,(qo e e2).1⟩
theorem Ms {n:Int} {s:bV} {k:Key} {j:Nat} (hj:j<16) (h:∀i,i<16->eN n (s.at i)) (hk:eN n k) (i:Nat) (hi:i<16):eN n ((s.put j k).at i):=by
 rw[bV.gi _ _ _ _ hj];split
 ·exact hk
 ·exact h i hi
theorem uf {n:Int} (hn:0<=n) (x:Int):eN n (dv x):=by
 refine⟨by simp[dv,aB,cm,gY,cA,eI,dV],?_⟩
 unfold bn;rw[show cA (dv x).kind=false by simp[dv,cA]]
 simp;omega
theorem sd {o:Obj} {n:Int} (h:bx o n=true) (hk:o.kind=1) (i:Nat) (hi:i<16):eN n (o.slots.at i):=by
 obtain⟨a1,a2,a3,a4,a5,a6,a7,a8,a9,a10,a11⟩:=dJ.1 h;have:=a10 i hi;rw[hk]at this;exact I5.1 this
theorem HR (o:Obj):AE o o=true:=by simp[AE]
end Go.Sx
