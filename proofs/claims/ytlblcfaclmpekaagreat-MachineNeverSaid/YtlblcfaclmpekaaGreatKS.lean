import Derived.Test.YtlblcfaclmpekaaGreatKO
import Derived.Test.YtlblcfaclmpekaaGreatSxF
set_option linter.unusedSimpArgs false
set_option linter.unusedVariables false
namespace Go.Sx
def aP (L:List Obj):Bool:=decide (ak L=0)
def cj (L:List Obj) (oid:Int):Int:=if ak L=0 then 1 else if oid<0\/(ak L:Int)<=oid then 4 else 0
def au (L:List Obj) (oid:Int):Obj:=if cj L oid=0 then ai L oid.toNat free else free
def ah (L:List Obj):Int:=(ak L:Int)
def aI (L:List Obj) (k:Key):Bool:=aR k&&decide (cj L k.oid=0)&&bL k (ai L k.oid.toNat free)
def aa (L:List Obj) (k:Key):Obj:=if aI L k then ai L k.oid.toNat free else free
def ae (L:List Obj) (k:Key):Key:=if aP L|| !aN k||(aR k&& !aI L k)then void else k
def ib (n:Int):Bool:=decide (1<=n)&&decide (n<=64)
def kK (n:Int):List Obj:=List.replicate n.toNat free
def bN (L:List Obj) (i:Int) (o:Obj):List Obj:=if cj L i=0/\bU o (ak L:Int)=0 then bX L i.toNat o else L
def ei (L:List Obj) (i:Int) (o:Obj):Int:=if cj L i=0 then bU o (ak L:Int)else cj L i
def eE (l:List Obj):Bool:=decide (1<=ak l)&&decide (ak l<=64)&&(List.range (ak l)).all fun i=>bf (ai l i free) (ak l:Int)
def iZ (l:List Obj) (g:Int):List Obj:=l.take g.toNat++List.replicate (l.length-g.toNat) free
def pC (l:List Obj) (g:Int):Prop:=0<=g/\g<=(ak l:Int)/\∀j:Nat,(j:Int)<g->bf (ai l j free) (ak l:Int)=true
def AG (n i:Int):Prop:=0<=i/\i<=n
abbrev tS:Nat:=102
abbrev eS:Nat:=106
def Qr (c:Bool) (M:List Obj) (v:V) (r:List aA):Prop:=
 match v with
 | .tp l=>match l with
   | [a,b]=>match a with
     | .nl p=>match p with
       | .pointer none=>c=false/\oR (.ci .i64 2) b r
       |_=>False
     | .lp j off=>match CI r j with
       |some (t,e,L)=>if off==0&&t==tS&&e==eS then c=true/\oR (.ci .i64 0) b r/\L=M else False
       |none=>False
     |_=>False
   |_=>False
 |_=>False
def Wu (n:Int):V->List aA->Prop:=Qr (ib n) (kK n)
def Ve (l:List Obj) (v:V) (r:List aA):Prop:=
 match ar r 0 with
 | .ro _=>Qr (eE l) l v r
 |_=>False
theorem Fp {l:List Obj} {v:V} {r:List aA} (h:Ve l v r):Qr (eE l) l v r/\CI r 0=none:=by
 unfold Ve at h;split at h
 ·rename_i hr;refine⟨h,?_⟩;unfold CI BX;rw[hr]
 ·exact h.elim
def Vq (x:V) (M:List Obj) (v:V) (r:List aA):Prop:=
 match BX r 0 with
 |some (t,e,_,L)=>if t==tS&&e==eS then oR x v r/\L=M else False
 |none=>False
def P6:ng:=fun args res K=>
 match args with
 | [a]=>match rI .i64 a with
   |some n=>(ib n=false->K (.tp [gJ,.ci .i64 2]) res)/\(ib n=true->K (.tp [.lp res.length 0,.ci .i64 0]) (res++ [.store tS eS (kK n)]))
   |none=>False
 |_=>False
def Uh (c:V):Bool:=
 match c with
 | .ag l=>match l with
   | [x]=>match x with
     | .nl v=>match v with
       | .slice none 0 0=>true
       |_=>false
     |_=>false
   |_=>false
 |_=>false
theorem wY {c:V} (h:Uh c=true):c= .ag [.nl (.slice none 0 0)]:=by
 unfold Uh at h;split at h
 ·split at h
  ·split at h
   ·split at h
    ·rfl
    ·simp at h
   ·simp at h
  ·simp at h
 ·simp at h
def Qh:ng:=fun args res K=>
 match args with
 | [a,b,c]=>match rI .i64 b with
   |some i=>match rO c with
    |some o=>match a with
     | .nl v=>match v with
       | .pointer none=>K (.it .i64 (ei [] i o)) res
       |_=>False
     | .lp k off=>if off==0 then match ar res k with
       | .store t e L=>if t==tS&&e==eS then K (.it .i64 (ei L i o)) (bD res k (.store tS eS (bN L i o)))else False
       | .blk t c=>if t==tS&&Uh c then K (.it .i64 (ei [] i o)) res else False
       |_=>False
       else False
     |_=>False
    |none=>False
   |none=>False
 |_=>False
structure W4 where
 puts:Bool
 oid:Int
 ob:Obj
def W4.wf (x:W4):Prop:=cg .i64 x.oid/\x.ob.wf
def PS:Ct:=Tn (.bo true)
def eA (L M:List Obj):Bool:=decide (L=M)
def eg (L M:List Obj) (g:Int):List Int:=((List.range g.toNat).filter fun j=> !vk (ai L j free) (ai M j free)).map Int.ofNat
def iT (L M:List Obj):Bool:=aP L||aP M|| !decide ((ak L:Int)=(ak M:Int))
def cy (L M:List Obj):List Int:=eg L M (ak L:Int)
def kc (L:List Obj) (g:Int):List Obj:=L.take g.toNat
def j4 (L:List Obj) (g:Int):Prop:=0<=g/\g<=(ak L:Int)
abbrev Tm:V:= .nl (.slice none 0 0)
abbrev tI:Nat:=3
def CA (L:List Obj) (v:V) (r:List aA):Prop:=
 match v with
 | .nl p=>match p with
   | .pointer none=>aP L=true
   |_=>False
 | .lp j off=>match CI r j with
   |some (t,e,M)=>if off==0&&t==tS&&e==eS&&Nat.ble 1 j then aP L=false/\M=L else False
   |none=>False
 |_=>False
def Mo (L M:List Obj) (v:V) (r:List aA):Prop:=
 match v with
 | .nl p=>match p with
   | .slice none 0 0=>iT L M=true
   |_=>False
 | .sa j=>match ar r j with
   | .arr own esz l=>match own with
     |some e=>match l with
      | .it k l=>match k with
        | .i64=>if e==tI&&esz==1&&Nat.ble 2 j then iT L M=false/\l=cy L M else False
        |_=>False
      |_=>False
     |none=>False
   |_=>False
 |_=>False
def Kj:ng:=fun args res K=>
 match args with
 | [a]=>match a with
   | .nl v=>match v with
     | .pointer none=>K gJ res
     |_=>False
   | .lp k off=>if off==0 then match cR res k with
     | .store t e L=>if t==tS&&e==eS then ak L<=1000/\(aP L=true->K gJ res)/\(aP L=false->K (.lp res.length 0) (res++ [.store tS eS L]))else False
     |_=>False
     else False
   |_=>False
 |_=>False
def Qe:ng:=fun args res K=>
 match args with
 | [a,b]=>match b with
   | .lp j off=>if off==0 then match cR res j with
     | .store t e M=>if t==tS&&e==eS then match a with
       | .nl v=>match v with
         | .pointer none=>K Tm res
         |_=>False
       | .lp k off'=>if off'==0&& !(k==j)then match cR res k with
         | .store t e L=>if t==tS&&e==eS then ak L<=1000/\(iT L M=true->K Tm res)/\(iT L M=false->K (.sa res.length) (res++ [.arr (some tI) 1 (.it .i64 (cy L M))]))else False
         |_=>False
         else False
       |_=>False
       else False
     |_=>False
     else False
   |_=>False
 |_=>False
def EV:Ct:=fun res nid xs=>match xs with
 | [a]=>match rS tS eS res a with
   |some (o,L)=>match o with
    |none=>some (none,.cb true,[])
    |some _=>some (none,.bo (aP L),[])
   |none=>none
 |_=>none
def oX (L:List Obj):Prop:=ak L<=1000
def Np:Ct:=RP tS eS (fun L M=>oX L/\oX M) fun L M=> .bo (eA L M)
theorem gA {α:Type} (l:List α):bH (ak l)=(l.length:Int):=rfl
theorem kL {α:Type} (l:List α):((ak l:Nat):Int)=(l.length:Int):=rfl
def U2:ng:=fun args res K=>
 match args with
 | [a]=>match a with
   | .sa k=>match cR res k with
     | .arr _ e l=>if e==163 then match l with
       | .ob l=>(eE l=false->K (.tp [gJ,.ci .i64 2]) res)/\(eE l=true->K (.tp [.lp res.length 0,.ci .i64 0]) (res++ [.store tS eS l]))
       |_=>False
       else False
     |_=>False
   |_=>False
 |_=>False
def Ph:Ct:=Wf fun l=> .bo (eE l)
def Df:Ct:=Sc tS eS fun L=> .bo (aP L)
def TW:Ct:=Hg tS eS (rI .i64) fun L i=> .it .i64 (cj L i)
def UB:Ct:=Hg tS eS (rI .i64) fun L i=> .tp [.ob (au L i),.it .i64 (cj L i)]
def Dp:Ct:=Sc tS eS fun L=> .it .i64 (ah L)
def PA:Ct:=Hg tS eS rK fun L k=> .tp [.ob (aa L k),.bo (aI L k)]
def Rd:Ct:=Hg tS eS rK fun L k=> .key (ae L k)
theorem Ao {n:Nat} (h:n<1000):qN n 8:=by unfold qN;simp only[maxLen];omega
theorem Mu {L:List Obj} {g:Int} (h0:0<=g) (h1:g<(L.length:Int)):gD (kc L g) (ai L g.toNat free)=kc L (g+1):=by
 unfold gD kc ai;rw[show(g+1).toNat=g.toNat+1 by omega,List.take_add_one,Xt,List.getElem?_eq_getElem (by omega)];rfl
theorem I9 {L:List Obj} {g:Int} (h:(L.length:Int)<=g):kc L g=L:=by unfold kc;rw[List.take_of_length_le (by omega)]
theorem Is {L:List Obj} {g:Int}:ak (kc L g)<=g.toNat:=by unfold ak kc;rw[List.length_take];omega
theorem BR {L M:List Obj} {g:Int}:ak (eg L M g)<=g.toNat:=by
 unfold ak eg;rw[List.length_map];exact Nat.le_trans (List.length_filter_le _ _) (by rw[List.length_range];omega)
theorem BJ {L M:List Obj} {g:Int} (h0:0<=g) (h:(!vk (ai L g.toNat free) (ai M g.toNat free))=true):gD (eg L M g) g=eg L M (g+1):=by
 unfold gD eg;rw[show(g+1).toNat=g.toNat+1 by omega,List.range_succ,List.filter_append,List.map_append]
 simp only[List.filter_cons,h,if_true,List.filter_nil,List.map_cons,List.map_nil];congr 2
 show g=((g.toNat:Nat):Int)
 omega
theorem ET {L M:List Obj} {g:Int} (h0:0<=g) (h:(!vk (ai L g.toNat free) (ai M g.toNat free))=false):eg L M g=eg L M (g+1):=by
 unfold eg;rw[show(g+1).toNat=g.toNat+1 by omega,List.range_succ,List.filter_append,List.map_append]
 simp only[List.filter_cons,h,Bool.false_eq_true,if_false,List.filter_nil,List.map_nil,List.append_nil]
theorem Od {L M:List Obj} (h:L.length=M.length):cy L M= []↔L=M:=by
 unfold cy eg;rw[List.map_eq_nil_iff,List.filter_eq_nil_iff];simp only[List.mem_range,Bool.not_eq_true',Bool.not_eq_false];constructor
 ·intro hh;refine List.ext_getElem h fun i h1 h2=>?_
  have:=hh i (by unfold ak;omega)
  simp only[vk,Xp,ai,Xt,List.getElem?_eq_getElem h1,List.getElem?_eq_getElem h2,Option.getD_some]at this;exact this
 ·rintro rfl i _
  simp[vk]
theorem jD:aP []=true:=rfl
theorem jM {L:List Obj}:aP L=true↔L= []:=by
 unfold aP ak;simp[List.length_eq_zero_iff]
theorem qy (i:Int):cj [] i=1:=rfl
theorem L6 {L:List Obj} (h:aP L=false) (i:Int):cj L i=if i<0\/(L.length:Int)<=i then 4 else 0:=by
 have:L≠ []:=fun e=>by rw[e]at h;simp[jD]at h
 unfold cj ak;rw[Xu (by simpa[List.length_eq_zero_iff]using this)]
theorem k9 {L:List Obj} {i:Int}:cj L i=0↔0<=i/\i<(L.length:Int):=by
 unfold cj ak;split
 ·omega
 ·split<;>omega
theorem yC (L:List Obj) (k:Key):((!aR k)=true->free=aa L k/\false=aI L k)/\
  ((!aR k)=false->
    ((!decide (cj L (bG k)=0)|| !bL k (au L (bG k)))=true->
      free=aa L k/\false=aI L k)/\
      ((!decide (cj L (bG k)=0)|| !bL k (au L (bG k)))=false->
        au L (bG k)=aa L k/\true=aI L k)):=by
 have fin:∀b,aI L k=b->(b=false->free=aa L k)/\b=aI L k:=fun b h=>⟨fun hb=>by unfold aa;rw[h,hb];rfl,h.symm⟩
 refine⟨fun h=>?_,fun h=>?_⟩
 ·have h:aR k=false:=by simpa using h
  have:=fin false (by unfold aI;rw[h];rfl)
  exact⟨this.1 rfl,this.2⟩
 ·have h:aR k=true:=by simpa using h
  have ho:bG k=k.oid:=by unfold bG;rw[Xv h]
  rw[ho];by_cases hh:cj L k.oid=0
  ·have hg:au L k.oid=ai L k.oid.toNat free:=by unfold au;rw[Xv hh]
   rw[hg];have e:aI L k=bL k (ai L k.oid.toNat free):=by unfold aI;simp[h,hh]
   refine⟨fun hc=>?_,fun hc=>?_⟩
   ·have hc:bL k (ai L k.oid.toNat free)=false:=by simpa[hh]using hc
    have:=fin false (by rw[e,hc])
    exact⟨this.1 rfl,this.2⟩
   ·have hc:bL k (ai L k.oid.toNat free)=true:=by simpa[hh]using hc
    have:=fin true (by rw[e,hc])
    refine⟨?_,this.2⟩;unfold aa;rw[e,hc];rfl
  ·have:=fin false (by unfold aI;simp[hh])
   exact⟨fun _=>⟨this.1 rfl,this.2⟩,fun hc=>by simp[hh]at hc⟩
theorem B6 (L:List Obj) (k:Key):((aP L|| !decide (bg k=0))=true->void=ae L k)/\
  ((aP L|| !decide (bg k=0))=false->
    ((aR k&& !aI L k)=true->void=ae L k)/\((aR k&& !aI L k)=false->k=ae L k)):=by
 have hc:(!decide (bg k=0))= !aN k:=by unfold bg;cases aN k<;>simp
 rw[hc];unfold ae;refine⟨fun h=>?_,fun h=>⟨fun h2=>?_,fun h2=>?_⟩⟩
 ·rw[Xv];simp only[h,Bool.true_or]
 ·rw[Xv];simp only[h2,Bool.or_true]
 ·rw[Xu];simp only[h,h2];simp
theorem qs {n:Int}:ib n=true↔1<=n/\n<=64:=by simp[ib]
theorem PK {g:Int} (h:0<=g):gD (kK g) free=kK (g+1):=by
 unfold gD kK;rw[show(g+1).toNat=g.toNat+1 by omega,List.replicate_succ']
theorem FD {i:Int} {o:Obj}:ei [] i o=1:=by unfold ei;rw[qy];rfl
theorem Nm {L:List Obj} {i:Int} {o:Obj} (h:cj L i≠0):ei L i o=cj L i/\bN L i o=L:=by
 unfold ei bN;rw[Xu h,Xu (fun hh=>h hh.1)];exact⟨rfl,rfl⟩
theorem SQ {L:List Obj} {i:Int} {o:Obj} (h:cj L i=0) (h2:bU o (ak L:Int)≠0):ei L i o=bU o (ak L:Int)/\bN L i o=L:=by
 unfold ei bN;rw[Xv h,Xu (fun hh=>h2 hh.2)];exact⟨rfl,rfl⟩
theorem sQ {L:List Obj} {i:Int} {o:Obj} (h:cj L i=0) (h2:bU o (ak L:Int)=0):ei L i o=0/\bN L i o=bX L i.toNat o:=by
 unfold ei bN;rw[Xv h,Xv ⟨h,h2⟩];exact⟨h2,rfl⟩
theorem Jn {c:Bool} {M:List Obj} (hn:c=false) {v:V} {r:List aA} (h:Qr c M v r):vi (.tp [gJ,.ci .i64 2]) v []:=by
 unfold Qr at h;split at h
 ·split at h
  ·split at h
   ·split at h
    ·exact Pr (cK h.2)
    ·exact h.elim
   ·split at h
    ·split at h
     ·rw[hn]at h;simp at h
     ·exact h.elim
    ·exact h.elim
   ·exact h.elim
  ·exact h.elim
 ·exact h.elim
theorem N0 {c:Bool} {M:List Obj} (hn:c=true) {v:V} {r:List aA} (h:Qr c M v r):∃j b,v= .tp [.lp j 0,b]/\vi (.ci .i64 0) b []/\CI r j=some (tS,eS,M):=by
 unfold Qr at h;split at h
 ·split at h
  ·split at h
   ·split at h
    ·rw[hn]at h;simp at h
    ·exact h.elim
   ·split at h
    ·rename_i hst;split at h
     ·rename_i hc;simp only[Xo,Xq]at hc;obtain⟨⟨rfl,rfl⟩,rfl⟩:=hc;obtain⟨_,h2,rfl⟩:=h;exact⟨_,_,rfl,cK h2,hst⟩
     ·exact h.elim
    ·exact h.elim
   ·exact h.elim
  ·exact h.elim
 ·exact h.elim
theorem Eh {c:Bool} {M:List Obj} (hn:c=true) {v:V} {r:List aA} (h:Qr c M v r):∃j r',CI r j=some (tS,eS,M)/\(r'=r\/sS r j=some r')/\ar r' j= .store tS eS M/\∀(κ:Nat->Option Nat) (i:Nat),κ j=some i->jA κ v (.tp [.lp i 0,.ci .i64 0]):=by
 obtain⟨j,b,rfl,hb,hst⟩:=N0 hn h
 have ht:∀(κ:Nat->Option Nat) (i:Nat),κ j=some i->jA κ (.tp [.lp j 0,b]) (.tp [.lp i 0,.ci .i64 0]):=fun κ i hi ρ2 ρ3 N N' hv hN hk=>by
  obtain⟨s1,s2,_⟩:=hb ρ2 N;refine⟨?_,hN j i hi hk.1,by simp[ok,cg],trivial⟩
  simp only[den,bc,(hv j i hi).1,s1]
 rcases CC hst with h1|⟨r',h1,h2⟩
 ·exact⟨j,r,hst,.inl rfl,h1,ht⟩
 ·exact⟨j,r',hst,.inr h1,h2,ht⟩
theorem OQ {x:V} {M:List Obj} {v:V} {r:List aA} (h:Vq x M v r):∃t,BX r 0=some (tS,eS,t,M)/\vi x v r:=by
 unfold Vq at h;split at h
 ·rename_i hst;split at h
  ·rename_i hc;simp only[Xo,Xq]at hc;obtain⟨rfl,rfl⟩:=hc;obtain⟨h1,rfl⟩:=h;exact⟨_,hst,cK h1⟩
  ·exact h.elim
 ·exact h.elim
theorem WC {P:Program} {f:Nat} {rest:List V} {res:List aA} {K KP:V->List aA->Prop} {k:Nat} {L M:List Obj} {x:V} (hr:ar res k= .store tS eS L) (hid:kY rest=true) (hx:jJ x=true)
  (h:(∀o∈L,o.wf)->L.length<=9223372036854775807->aj P f (.lp 0 0::rest) [.blk tS (.ag [.sa 1]),.obs eS 2 L,.gen 1] (Vq x M) (fun _ _=>False)) (hK:K x (bD res k (.store tS eS M))):aj P f (.lp k 0::rest) res K KP:=by
 refine aj.zW hr hid hx ?_ hK;refine aj.fact (k:=0) rfl fun w1 w2=>?_
 refine aj.je (k:=0) rfl ?_;refine aj.shut (h w1 w2) fun v r hv=>?_
 obtain⟨t,h1,h2⟩:=OQ hv;obtain⟨r',g1,g2⟩:=yd h1;exact .inr ⟨0,r',g1,fun J K=>h2 J K,g2⟩
theorem eV {l:List Obj}:eE l=true↔1<=l.length/\l.length<=64/\∀i,i<l.length->bf (ai l i free) (l.length:Int)=true:=by
 unfold eE ak;simp only[Xo,Xp,List.all_eq_true,List.mem_range,and_assoc]
theorem sU {l:List Obj} (h:¬(1<=l.length/\l.length<=64/\∀i,i<l.length->bf (ai l i free) (l.length:Int)=true)):eE l=false:=by
 cases hr:eE l with
 |false=>rfl
 |true=>exact absurd (eV.1 hr) h
theorem vT {l:List Obj} {g:Int} (h1:g<=(l.length:Int)):(iZ l g).length=l.length:=by
 unfold iZ;simp only[List.length_append,List.length_take,List.length_replicate];omega
theorem KE {l:List Obj}:kK (l.length:Int)=iZ l 0:=by unfold kK iZ;simp
theorem MI {l:List Obj} {g:Int} (h:(l.length:Int)<=g):iZ l g=l:=by
 unfold iZ;rw[List.take_of_length_le (by omega),show l.length-g.toNat=0 by omega];simp
theorem N4 {l:List Obj} {g:Int} (h0:0<=g) (h1:g<(l.length:Int)):bX (iZ l g) g.toNat (ai l g.toNat free)=iZ l (g+1):=by
 unfold bX iZ ai;obtain⟨n,rfl⟩:=Int.eq_ofNat_of_zero_le h0;have hn:n<l.length:=by omega
 have e1:((n:Int)+1).toNat=n+1:=by omega
 have e2:((n:Int)).toNat=n:=by omega
 rw[e1,e2];apply List.ext_getElem?
 intro i;rw[List.getElem?_set];have hlt:(List.take n l++List.replicate (l.length-n) free).length=l.length:=by simp;omega
 have htl:(List.take n l).length=n:=by simp;omega
 have htl1:(List.take (n+1) l).length=n+1:=by simp;omega
 by_cases hi:n=i
 ·subst hi;rw[Xv rfl,Xv (by rw[hlt];exact hn),List.getElem?_append_left (by rw[htl1];omega),List.getElem?_take,Xv (by omega),Xt,List.getElem?_eq_getElem hn];rfl
 ·rw[Xu hi];by_cases hl:i<n
  ·rw[List.getElem?_append_left (by rw[htl];exact hl),List.getElem?_append_left (by rw[htl1];omega),List.getElem?_take,List.getElem?_take,Xv hl,Xv (by omega)]
  ·rw[List.getElem?_append_right (by rw[htl];omega),List.getElem?_append_right (by rw[htl1];omega),htl,htl1,List.getElem?_replicate,List.getElem?_replicate]
   by_cases hb:i<l.length
   ·rw[Xv (by omega),Xv (by omega)]
   ·rw[Xu (by omega),Xu (by omega)]
theorem R0 {l:List Obj} {g:Int} (h0:0<=g) (h1:g<(l.length:Int)) (x:Obj):ei (iZ l g) g x=bU x (l.length:Int):=by
 have hh:cj (iZ l g) g=0:=k9.2 (by rw[vT (by omega)];exact⟨h0,h1⟩)
 unfold ei ak;rw[Xv hh,vT (by omega)]
theorem Ox {l:List Obj} {g:Int} (h0:0<=g) (h1:g<(l.length:Int)) (hx:bU (ai l g.toNat free) (l.length:Int)=0):bN (iZ l g) g (ai l g.toNat free)=iZ l (g+1):=by
 have hh:cj (iZ l g) g=0:=k9.2 (by rw[vT (by omega)];exact⟨h0,h1⟩)
 unfold bN ak;rw[Xv ⟨hh,by rw[vT (by omega)];exact hx⟩]
 exact N4 h0 h1
theorem rD (o:Obj) (n:Int):(bU o n=0/\bf o n=true)\/(bU o n=2/\bf o n=false):=by
 unfold bU;cases bf o n<;>simp
theorem iM (k:Key):(aR k=true/\bF k=k.oid/\0<=k.oid)\/(aR k=false/\bF k= -1):=by
 have h:bF k=if aR k then k.oid else -1:=rfl
 cases hn:aR k
 ·exact .inr ⟨rfl,by rw[h,hn];rfl⟩
 ·refine .inl ⟨rfl,by rw[h,hn];rfl,?_⟩
  unfold aR at hn;simp only[Xo]at hn;have:=hn.1;simp only[aN,eO,hn.2,if_true,Xo,Xp]at this;omega
theorem wU {l:List Obj} {k:Key} (h:aI l k=true):0<=bF k/\bF k<(l.length:Int)/\aa l k=ai l (bF k).toNat free:=by
 have h':=h;unfold aI at h;simp only[Xo,Xp]at h;have hb:=k9.1 h.1.2;rcases iM k with⟨h1,h2,h3⟩|⟨h1,h2⟩
 ·rw[h2];exact⟨hb.1,hb.2,by unfold aa;rw[h',Xv rfl]⟩
 ·rw[h1]at h;simp at h
theorem sK {L M:List Obj} (h:L.length=M.length) (h2:∀j:Nat,j<L.length->ai L j free=ai M j free):L=M:=by
 apply List.ext_getElem h
 intro i h3 h4;have:=h2 i h3;unfold ai at this;simpa[Xt,h3,h4]using this
end Go.Sx
namespace Go.Proofs.YtlblcfaclmpekaaGreat
open Go.Sx
set_option maxRecDepth 100000
theorem Jb:
 true=aP []:=by
 rfl
theorem I8 (L:List Sx.Obj):
 decide (bH (ak L)=0)=aP L:=by
 unfold aP bH ak;rw[decide_eq_decide];omega
theorem nS:cV Tryz.prog 42 Df:=
 LJ (fun _=>rfl) (bd (inl:=bS) (ann:=aO) an Jb (by kernel_rfl)) (fun L _ _=>bd (inl:=bS) (ann:=aO) an (I8 L) (by kernel_rfl))
theorem Nb (i:Int):
 (aP []=true->1=cj [] i)/\
  (aP []=false->((!decide (i<0))=true->False)/\((!decide (i<0))=false->4=cj [] i)):=by
 exact⟨fun _=>rfl,fun h=>by simp[jD]at h⟩
theorem MM (L:List Sx.Obj) (i:Int):
 (aP L=true->1=cj L i)/\
  (aP L=false->
   ((decide (i<0)||decide (bH (ak L)<=i))=true->4=cj L i)/\
     ((decide (i<0)||decide (bH (ak L)<=i))=false->0=cj L i)):=by
 refine⟨fun h=>?_,fun h=>?_⟩
 ·rw[jM.1 h];rfl
 ·rw[L6 h];unfold bH ak;refine⟨fun h1=>?_,fun h1=>?_⟩
  ·simp only[Bool.or_eq_true,Xp]at h1;rw[Xv h1]
  ·simp only[Bool.or_eq_false_iff,decide_eq_false_iff_not]at h1;rw[Xu (by omega)]
theorem xH:cV Tryz.prog 45 TW:=
 vI (gi .i64) (fun _ _=>rfl) (fun x _=>bd (inl:=bS) (ann:=aO) (ab nS an) (Nb x) (by kernel_rfl)) (fun L x _ _ _=>bd (inl:=bS) (ann:=aO) (ab nS an) (MM L x) (by kernel_rfl)) fun _=>rfl
theorem JX:
 (aP []=true->0=ah [])/\(aP []=false->False):=by
 exact⟨fun _=>rfl,fun h=>by simp[jD]at h⟩
theorem Mp (L:List Sx.Obj):
 (aP L=true->0=ah L)/\(aP L=false->bH (ak L)=ah L):=by
 exact⟨fun h=>by rw[jM.1 h];rfl,fun _=>rfl⟩
theorem aY:cV Tryz.prog 36 Dp:=
 LJ (fun _=>rfl) (bd (inl:=bS) (ann:=aO) (ab nS an) JX (by kernel_rfl)) (fun L _ _=>bd (inl:=bS) (ann:=aO) (ab nS an) (Mp L) (by kernel_rfl))
theorem OU (i:Int):
 ((!decide (cj [] i=0))=true->free=au [] i/\cj [] i=cj [] i)/\
   ((!decide (cj [] i=0))=false->False):=by
 exact⟨fun _=>⟨rfl,rfl⟩,fun h=>by simp[qy]at h⟩
theorem O8 (L:List Sx.Obj) (i:Int):
 ((!decide (cj L i=0))=true->free=au L i/\cj L i=cj L i)/\
   ((!decide (cj L i=0))=false->
     (0<=i/\i< ↑(ak L))/\i.toNat<ak L/\i.toNat<ak L/\ai L i.toNat free=au L i/\0=cj L i):=by
 refine⟨fun h=>⟨?_,rfl⟩,fun h=>?_⟩
 ·unfold au;rw[Xu (by simpa using h)]
 ·have h:cj L i=0:=by simpa using h
  have hb:=k9.1 h;unfold au ak;rw[Xv h,h];exact⟨hb,by omega,by omega,rfl,rfl⟩
theorem eG:cV Tryz.prog 25 UB:=
 vI (gi .i64) (fun _ _=>rfl) (fun x _=>bd (inl:=bS) (ann:=aO) (ab xH an) (OU x) (by kernel_rfl)) (fun L x _ _ _=>bd (inl:=bS) (ann:=aO) (ab xH an) (O8 L x) (by kernel_rfl)) fun _=>rfl
theorem GQ (k:Key):
 ((!aR k)=true->free=aa [] k/\false=aI [] k)/\
   ((!aR k)=false->
     ((!decide (cj [] (bG k)=0)|| !bL k (au [] (bG k)))=true->
       free=aa [] k/\false=aI [] k)/\
       ((!decide (cj [] (bG k)=0)|| !bL k (au [] (bG k)))=false->
         au [] (bG k)=aa [] k/\true=aI [] k)):=by
 exact yC [] k
theorem He (L:List Sx.Obj) (k:Key):
 ((!aR k)=true->free=aa L k/\false=aI L k)/\
   ((!aR k)=false->
     ((!decide (cj L (bG k)=0)|| !bL k (au L (bG k)))=true->
       free=aa L k/\false=aI L k)/\
       ((!decide (cj L (bG k)=0)|| !bL k (au L (bG k)))=false->
         au L (bG k)=aa L k/\true=aI L k)):=by
 exact yC L k
theorem bk:cV Tryz.prog 26 PA:=
 vI gW (fun _ _=>rfl) (fun x _=>bd (inl:=bS) (ann:=aO) (ab cF (ab eG (ab wD an))) (GQ x) (by kernel_rfl)) (fun L x _ _ _=>bd (inl:=bS) (ann:=aO) (ab cF (ab eG (ab wD an))) (He L x) (by kernel_rfl)) fun _=>rfl
end Go.Proofs.YtlblcfaclmpekaaGreat
namespace Go.Proofs.YtlblcfaclmpekaaGreat
open Go.Sx
set_option maxRecDepth 100000
theorem R7 (n:Int):
 ((decide (n<1)||decide (64<n))=true->ib n=false/\True)/\
   ((decide (n<1)||decide (64<n))=false->
     (∃g,AG n g/\Value.pointer none=Value.pointer none/\n=n/\0=g/\ []=kK g)/\
      ∀(g:Int),
       AG n g->
        (decide (g<n)=true->
          qN (ak (kK g)) 8/\
           aL IntKind.i64 (g+1)/\
            ∃g',
             AG n g'/\
              (n-g').toNat<(n-g).toNat/\
               Value.pointer none=Value.pointer none/\
                n=n/\g+1=g'/\gD (kK g) free=kK g')/\
         (decide (g<n)=false->ib n=true/\True/\kK g=kK n)):=by
 refine⟨fun h=>⟨?_,trivial⟩,fun h=>⟨⟨0,?_,rfl,rfl,rfl,rfl⟩,fun g hg=>⟨fun hlt=>?_,fun hge=>?_⟩⟩⟩
 ·simp only[Bool.or_eq_true,Xp]at h;unfold ib;rw[Bool.and_eq_false_iff,decide_eq_false_iff_not,decide_eq_false_iff_not];omega
 ·simp only[Bool.or_eq_false_iff,decide_eq_false_iff_not]at h;exact⟨by omega,by omega⟩
 ·simp only[Bool.or_eq_false_iff,decide_eq_false_iff_not]at h;obtain⟨g0,g1⟩:=hg;have hlt:=Xs hlt;refine⟨?_,?_,g+1,⟨by omega,by omega⟩,by omega,rfl,rfl,rfl,PK g0⟩
  ·unfold qN ak kK;simp only[List.length_replicate,maxLen];omega
  ·simp only[aL,cg];omega
 ·simp only[Bool.or_eq_false_iff,decide_eq_false_iff_not]at h;obtain⟨g0,g1⟩:=hg;have hge:=Xr hge;exact⟨qs.2 (by omega),trivial,by rw[show g=n by omega]⟩
theorem LC (n:Int):aj Tryz.prog 28 [.it .i64 n] [] (Wu n) (fun _ _=>False):=bd (inl:=bS) (ann:=(kg [(28,5,W0 [2,3,4,13] (fun g=> [(14,.it .i64 g)]) 0 tS eS kK (AG n) n)])) an (R7 n) (by kernel_rfl)
theorem JP:oU Tryz.prog 28 P6:=by
 intro args res K KP h;unfold P6 at h;split at h
 ·split at h
  ·rename_i n hn;refine aj.args (ev.rd (gi .i64) hn ev.nil) ?_;cases hb:ib n with
   |false=>exact aj.pure rfl rfl ((LC n).mono (fun v r hv=>Jn hb hv) fun _ _ h=>h) (h.1 hb)
   |true=>
    refine aj.PC (F:=fun j=> .tp [.lp j 0,.ci .i64 0]) rfl ?_ (h.2 hb)
    refine aj.shut (LC n) fun v r hv=>?_
    obtain⟨j,r',_,h1,h2,h3⟩:=Eh hb hv;rcases h1 with rfl|h1
    ·exact .inl ⟨j,h2,h3⟩
    ·exact .inr ⟨j,r',h1,j,h2,h3⟩
  ·exact h.elim
 ·exact h.elim
theorem PJ (i:Int) (o:Sx.Obj):
 ((!decide (cj [] i=0))=true->cj [] i=ei [] i o)/\((!decide (cj [] i=0))=false->False):=by
 refine⟨fun _=>?_,fun h=>by simp[qy]at h⟩
 rw[FD,qy]
theorem PM (i:Int) (o:Sx.Obj):aj Tryz.prog 30 [gJ,.it .i64 i,.ob o] [] (oR (.it .i64 (ei [] i o))) (fun _ _=>False):=bd (inl:=bS) (ann:=aO) (ab xH (ab AP an)) (PJ i o) (by kernel_rfl)
theorem PR (L:List Sx.Obj) (i:Int) (o:Sx.Obj):
 ((!decide (cj L i=0))=true->cj L i=ei L i o/\L=bN L i o)/\
   ((!decide (cj L i=0))=false->
     ((!decide (bU o (bH (ak L))=0))=true->bU o (bH (ak L))=ei L i o/\L=bN L i o)/\
       ((!decide (bU o (bH (ak L))=0))=false->
         (0<=i/\i< ↑(ak L))/\i.toNat<ak L/\0=ei L i o/\bX L i.toNat o=bN L i o)):=by
 refine⟨fun h=>?_,fun h=>⟨fun h2=>?_,fun h2=>?_⟩⟩
 ·obtain⟨a,b⟩:=Nm (o:=o) (show cj L i≠0 by simpa using h)
  rw[a,b];exact⟨rfl,rfl⟩
 ·obtain⟨a,b⟩:=SQ (o:=o) (show cj L i=0 by simpa using h) (show bU o (ak L:Int)≠0 by unfold bH at h2;simpa using h2)
  rw[a,b];exact⟨rfl,rfl⟩
 ·have h:=(show cj L i=0 by simpa using h)
  have hb:=k9.1 h;obtain⟨a,b⟩:=sQ (o:=o) h (show bU o (ak L:Int)=0 by unfold bH at h2;simpa using h2)
  rw[a,b];exact⟨hb,by unfold ak;omega,rfl,rfl⟩
theorem Nn (L:List Sx.Obj) (i:Int) (o:Sx.Obj):aj Tryz.prog 30 [.lp 0 0,.it .i64 i,.ob o] [.blk tS (.ag [.sa 1]),.obs eS 2 L,.gen 1] (Vq (.it .i64 (ei L i o)) (bN L i o)) (fun _ _=>False):=bd (inl:=bS) (ann:=aO) (ab xH (ab AP an)) (PR L i o) (by kernel_rfl)
theorem PZ (i:Int) (o:Sx.Obj):
 ((!decide (cj [] i=0))=true->cj [] i=ei [] i o)/\
   ((!decide (cj [] i=0))=false->
     ((!decide (bU o 0=0))=true->bU o 0=ei [] i o)/\((!decide (bU o 0=0))=false->False)):=by
 refine⟨fun _=>?_,fun h=>by simp[qy]at h⟩
 rw[FD,qy]
theorem OH (i:Int) (o:Sx.Obj):aj Tryz.prog 30 [.lp 0 0,.it .i64 i,.ob o] [.ro (.blk tS (.ag [.nl (.slice none 0 0)]))] (oR (.it .i64 (ei [] i o))) (fun _ _=>False):=bd (inl:=bS) (ann:=aO) (ab xH (ab AP an)) (PZ i o) (by kernel_rfl)
theorem cw:oU Tryz.prog 30 Qh:=by
 intro args res K KP h;unfold Qh at h;split at h
 ·split at h
  ·rename_i i hi;split at h
   ·rename_i o ho;refine aj.args (ev.kb (ev.rd (gi .i64) hi (ev.rd zo ho ev.nil))) ?_;split at h
    ·split at h
     ·exact aj.pure rfl rfl ((PM i o).mono (fun _ _ h=>cK h) fun _ _ h=>h) h
     ·exact h.elim
    ·split at h
     ·rename_i hoff;have hoff:=Xq.1 hoff;subst hoff;split at h
      ·rename_i hr;split at h
       ·rename_i hc;simp only[Xo,Xq]at hc;obtain⟨rfl,rfl⟩:=hc;exact WC hr rfl rfl (fun _ _=>Nn _ i o) h
       ·exact h.elim
      ·rename_i hr;split at h
       ·rename_i hc;simp only[Xo,Xq]at hc;obtain⟨rfl,hz⟩:=hc;have:=wY hz;subst this;refine aj.LP (r0:= .blk tS (.ag [.nl (.slice none 0 0)])) (by unfold cR;rw[hr]) (by simp) (fun κ=>rfl) rfl rfl ((OH i o).mono (fun _ _ h=>cK h) fun _ _ h=>h) h
       ·exact h.elim
      ·exact h.elim
     ·exact h.elim
    ·exact h.elim
   ·exact h.elim
  ·exact h.elim
 ·exact h.elim
theorem K9 (l:List Sx.Obj) (hl:l.length<=9223372036854775807):
 ((decide (bH (ak l)<1)||decide (64<bH (ak l)))=true->false=eE l)/\
   ((decide (bH (ak l)<1)||decide (64<bH (ak l)))=false->
     (∃g,pC l g/\false=false/\0=g/\l=l)/\
      ∀(g:Int),
       pC l g->
        (decide (g<bH (ak l))=true->
          (0<=g/\g< ↑(ak l))/\
           g.toNat<ak l/\
            ((!decide (bU (ai l g.toNat free) (bH (ak l))=0))=true->false=eE l)/\
              ((!decide (bU (ai l g.toNat free) (bH (ak l))=0))=false->
                aL IntKind.i64 (g+1)/\
                 ∃g',
                  pC l g'/\
                   (bH (ak l)-g').toNat<(bH (ak l)-g).toNat/\
                    false=false/\g+1=g'/\l=l))/\
         (decide (g<bH (ak l))=false->true=eE l)):=by
 refine⟨fun h=>?_,fun h=>⟨⟨0,⟨by omega,by omega,fun j hj=>by omega⟩,rfl,rfl,rfl⟩,fun g hg=>⟨fun hlt=>?_,fun hge=>?_⟩⟩⟩
 ·simp only[Bool.or_eq_true,Xp]at h;simp only[gA]at h;exact(sU fun hh=>by have h1:=hh.1;have h2:=hh.2.1;omega).symm
 ·obtain⟨g0,g1,g2⟩:=hg;have hlt:=Xs hlt;unfold bH at *;refine⟨⟨g0,hlt⟩,by omega,fun hb=>(sU fun hh=>?_).symm,fun hb=>⟨?_,g+1,⟨by omega,by omega,fun j hj=>?_⟩,by omega,rfl,rfl,rfl⟩⟩
  ·have:=hh.2.2 g.toNat (by unfold ak at hlt;omega)
   unfold bU ak at hb;rw[this]at hb;simp at hb
  ·simp only[aL,cg];unfold ak at *;omega
  ·by_cases e:(j:Int)<g
   ·exact g2 j e
   ·have:j=g.toNat:=by omega
    subst this;rcases rD (ai l g.toNat free) (ak l:Int)with⟨h1,h2⟩|⟨h1,h2⟩
    ·exact h2
    ·rw[h1]at hb;simp at hb
 ·obtain⟨g0,g1,g2⟩:=hg;have hge:=Xr hge;have hle:=kL l;simp only[Bool.or_eq_false_iff,decide_eq_false_iff_not]at h;simp only[gA]at h hge;exact(eV.2 ⟨by omega,by omega,fun i hi=>g2 i (by omega)⟩).symm
theorem Lx:cV Tryz.prog 40 Ph:=SK (fun _=>rfl) fun l _ hl=>bd (inl:=bS) (ann:=(kg [(40,4,Uz [0,2] (fun g=> [(3,.it .i64 g)]) (pC l) (bH (ak l)))])) (ab Lr an) (K9 l hl) (by kernel_rfl)
theorem UU (l:List Sx.Obj) (hl:l.length<=9223372036854775807):
 true=true/\
  (ib (bH (ak l))=false->eE l=false/\True)/\
   (ib (bH (ak l))=true->
    (∃g,
      pC l g/\
       Value.pointer none=Value.pointer none/\
        bH (ak l)=bH (ak l)/\0=g/\l=l/\kK (bH (ak l))=iZ l g)/\
     ∀(g:Int),
      pC l g->
       (decide (g<bH (ak l))=true->
         (0<=g/\g< ↑(ak l))/\
          g.toNat<ak l/\
           true=true/\
            ((!decide (ei (iZ l g) g (ai l g.toNat free)=0))=true->
              eE l=false/\ei (iZ l g) g (ai l g.toNat free)=2)/\
              ((!decide (ei (iZ l g) g (ai l g.toNat free)=0))=false->
                aL IntKind.i64 (g+1)/\
                 ∃g',
                  pC l g'/\
                   (bH (ak l)-g').toNat<(bH (ak l)-g).toNat/\
                    Value.pointer none=Value.pointer none/\
                     bH (ak l)=bH (ak l)/\
                      g+1=g'/\l=l/\bN (iZ l g) g (ai l g.toNat free)=iZ l g'))/\
        (decide (g<bH (ak l))=false->eE l=true/\True/\iZ l g=l)):=by
 refine⟨rfl,fun h=>⟨sU fun hh=>?_,trivial⟩,fun h=>⟨⟨0,⟨by omega,by omega,fun j hj=>by omega⟩,rfl,rfl,rfl,rfl,KE⟩,fun g hg=>⟨fun hlt=>?_,fun hge=>?_⟩⟩⟩
 ·have:ib (bH (ak l))=true:=qs.2 (by unfold bH ak;omega)
  rw[this]at h;simp at h
 ·obtain⟨g0,g1,g2⟩:=hg;have hlt:=Xs hlt;have h:=qs.1 h;have hle:=kL l;simp only[gA]at *;rw[R0 g0 hlt];refine⟨⟨g0,hlt⟩,by omega,trivial,fun hb=>⟨sU fun hh=>?_,?_⟩,fun hb=>⟨?_,g+1,⟨by omega,by omega,fun j hj=>?_⟩,by omega,trivial,trivial,rfl,trivial,Ox g0 hlt (by simpa using hb)⟩⟩
  ·have:=hh.2.2 g.toNat (by omega)
   unfold bU at hb;rw[this]at hb;simp at hb
  ·rcases rD (ai l g.toNat free) (l.length:Int)with⟨h1,h2⟩|⟨h1,h2⟩
   ·rw[h1]at hb;simp at hb
   ·exact h1
  ·simp only[aL,cg];omega
  ·by_cases e:(j:Int)<g
   ·exact g2 j e
   ·have:j=g.toNat:=by omega
    subst this;rcases rD (ai l g.toNat free) (l.length:Int)with⟨h1,h2⟩|⟨h1,h2⟩
    ·exact h2
    ·rw[h1]at hb;simp at hb
 ·obtain⟨g0,g1,g2⟩:=hg;have hge:=Xr hge;have h:=qs.1 h;have hle:=kL l;simp only[gA]at *;exact⟨eV.2 ⟨by omega,by omega,fun i hi=>g2 i (by omega)⟩,trivial,MI (by omega)⟩
theorem Qf (l:List Sx.Obj) (own:Option Nat):aj Tryz.prog 41 [.sa 0] [.ro (.arr own 163 (.ob l))] (Ve l) (fun _ _=>False):=
 aj.US (aj.P9 (k:=0) rfl fun _ hl=>(bK (inl:=bS) (ann:=(kg [(41,5,VB [0,2,3,4,5,18,19] (fun g=> [(20,.it .i64 g)]) 1 (fun g=> .store tS eS (iZ l g)) (pC l) (bH (ak l)))])) an (aC JP (aC cw az)) (UU l hl) (by kernel_rfl):aj Tryz.prog 41 [.sa 0] [.ro (.arr none 163 (.ob l))] (Ve l) (fun _ _=>False)))
theorem UG:oU Tryz.prog 41 U2:=by
 intro args res K KP h;unfold U2 at h;split at h
 ·split at h
  ·split at h
   ·rename_i hr;split at h
    ·rename_i he;have he:=Xq.1 he;subst he;split at h
     ·rename_i l;cases hb:eE l with
      |false=>exact aj.U0 hr rfl rfl ((Qf l _).mono (fun v r hv=>Jn hb (Fp hv).1) fun _ _ h=>h) (h.1 hb)
      |true=>
       refine aj.Ig (F:=fun j=> .tp [.lp j 0,.ci .i64 0]) hr rfl ?_ (h.2 hb)
       refine aj.shut (Qf l _) fun v r hv=>?_
       obtain⟨hv,h0⟩:=Fp hv;obtain⟨j,r',hs,h1,h2,h3⟩:=Eh hb hv
       have hj:1<=j:=by
        rcases Nat.eq_zero_or_pos j with rfl|hj
        ·rw[h0]at hs;simp at hs
        ·exact hj
       rcases h1 with rfl|h1
       ·exact .inl ⟨j,hj,h2,h3⟩
       ·exact .inr ⟨j,r',h1,j,hj,h2,h3⟩
     ·exact h.elim
    ·exact h.elim
   ·exact h.elim
  ·exact h.elim
 ·exact h.elim
end Go.Proofs.YtlblcfaclmpekaaGreat
namespace Go.Sx
def ju (r b:Int):Bool:=decide ((r.tdiv b).tmod 2=1)
def vn (r m g:Int):Int:=(if 2<=g/\(ju r 1||ju m 1)=true then 1 else 0)+(if 4<=g/\(ju r 2||ju m 2)=true then 2 else 0)+(if 8<=g/\(ju r 4||ju m 4)=true then 4 else 0)
def jx (r m:Int):Int:=vn r m 8
def cC (k:Key) (r:Int):Key:= {k with rights:=r}
def tJ (k:Key):Key:=if k.kind=2 then cC k (jx k.rights 3)else if k.kind=3 then cC k 1 else if k.kind=1\/k.kind=8 then k else void
def gh (k:Key):Key:=if aN k then tJ k else void
def JW:Ct:=Qk rK fun k=> .tp [.key (gh k),.it .i64 (bg k)]
def aQ (L:List Obj) (k:Key) (kind:Int) (c:Bool):Int:=if ak L=0 then 1 else if(!aI L k|| !decide (k.kind=kind))=true then 190 else if(c&& !decide (k.rights.tmod 4=0))=true then 191 else 0
def yr (k:Key):Bool:=decide ((k.rights.tdiv 2).tmod 2=1)
def jb (L:List Obj) (o:Obj) (k:Key) (i:Int):Key:=if yr k then tJ (ae L (o.slots.at i.toNat))else ae L (o.slots.at i.toNat)
def ef (L:List Obj) (k:Key) (i:Int):Key:=jb L (ai L k.oid.toNat free) k i
def mX (k:Key) (i:Int):Prop:=0<=i/\i<16/\aN k=true
def my (i:Int):Bool:=decide (0<=i)&&decide (i<16)
def cG (L:List Obj) (k:Key) (i:Int):Int:=if aQ L k 2 false=0 then(if my i then 0 else 4)else aQ L k 2 false
def aH (L:List Obj) (k:Key) (i:Int):Key:=if cG L k i=0 then ef L k i else void
def bQ (L:List Obj) (v:Key):Bool:=aN v&&decide (bF v<(ak L:Int))
def bx (L:List Obj) (k:Key) (i:Int) (v:Key):Int:=if aQ L k 2 true=0 then(if my i then(if bQ L v then 0 else 2)else 4)else aQ L k 2 true
def eC (L:List Obj) (k:Key) (i:Int) (v:Key):Key:=if bx L k i v=0 then ef L k i else void
def fH (o:Obj) (s:bJ):Obj:= {o with slots:=s}
def ru (L:List Obj) (k:Key) (s:bJ):List Obj:=bX L k.oid.toNat (fH (ai L k.oid.toNat free) s)
def dg (L:List Obj) (k:Key) (i:Int) (v:Key):List Obj:=if bx L k i v=0 then ru L k ((ai L k.oid.toNat free).slots.put i.toNat (ae L v))else L
def fF (L:List Obj) (k:Key):List Obj:=if aQ L k 2 true=0 then ru L k fD else L
def cq (L:List Obj) (t f:Key):Int:=if aQ L t 2 true=0 then aQ L f 2 false else aQ L t 2 true
def fB (L:List Obj) (t f:Key) (g:Int):bJ:=(List.range g.toNat).foldl (fun s (j:Nat)=>s.put j (ef L f (j:Int))) (ai L t.oid.toNat free).slots
def eY (L:List Obj) (t f:Key):List Obj:=if cq L t f=0 then ru L t (fB L t f 16)else L
def aq (L:List Obj):Prop:=eE L=true
def vC (g:Int):Prop:=0<=g/\g<=16
def kA:Arg Key:=BW rK V.key
def iA:Arg Int:=BW (rI .i64) (V.it .i64)
def bA:Arg Bool:=BW toBool V.bo
def oA:Arg Obj:=BW rO V.ob
def sA:Arg (Option (List Obj)):=Vd tS eS
def AX (o:Option (List Obj)):List Obj:=match o with
 |none=> []
 |some L=>L
def nB:mh (Obj×Option (List Obj)×Key×Unit):=bE oA (bE sA (bE kA kz))
def Tb:Ct:=CP (bE (Tg nB) (bE iA kz)) (fun x=>some (mX x.1.2.2.1 x.2.1)) fun x=> .key (jb (AX x.1.2.1) x.1.1 x.1.2.2.1 x.2.1)
def R2:Ct:=CP (bE sA (bE kA (bE iA kz))) (fun _=>none) fun x=> .tp [.key (aH (AX x.1) x.2.1 x.2.2.1),.it .i64 (cG (AX x.1) x.2.1 x.2.2.1)]
theorem JA {r m g:Int}:0<=vn r m g/\vn r m g<=7:=by
 unfold vn;repeat' split
 all_goals omega
theorem Ly {r:Int} (h0:0<=r) (h1:r<=7):aT .or .i64 r 3=jx r 3:=by
 have:r=0\/r=1\/r=2\/r=3\/r=4\/r=5\/r=6\/r=7:=by omega
 rcases this with rfl|rfl|rfl|rfl|rfl|rfl|rfl|rfl<;>decide
theorem A5 {r:Int} (h0:0<=r) (h1:r<=1):aT .or .i64 r 1=1:=by
 have:r=0\/r=1:=by omega
 rcases this with rfl|rfl<;>decide
theorem gL {k:Key} (h:aN k=true):0<=k.rights/\k.rights<=ec k.kind:=by
 simp only[aN,Xo,Xp]at h;omega
theorem nR:aN void=true:=by decide
theorem oi (L:List Obj) (k:Key):aN (ae L k)=true:=by
 unfold ae;split
 ·exact nR
 ·rename_i h;simp only[Bool.or_eq_true,not_or,Bool.not_eq_true,Bool.not_eq_false']at h;exact h.1.2
theorem BA (L:List Obj) (k:Key):gh (ae L k)=tJ (ae L k):=by unfold gh;rw[oi,Xv rfl]
theorem Wj {r:Int} (h0:0<=r) (h1:r<=7):decide (aT .and .i64 r 2=0)= !decide ((r.tdiv 2).tmod 2=1):=by
 have:r=0\/r=1\/r=2\/r=3\/r=4\/r=5\/r=6\/r=7:=by omega
 rcases this with rfl|rfl|rfl|rfl|rfl|rfl|rfl|rfl<;>decide
theorem PO {r:Int} (h0:0<=r) (h1:r<=7):decide (aT .and .i64 r 3=0)=decide (r.tmod 4=0):=by
 have:r=0\/r=1\/r=2\/r=3\/r=4\/r=5\/r=6\/r=7:=by omega
 rcases this with rfl|rfl|rfl|rfl|rfl|rfl|rfl|rfl<;>decide
theorem Ot (n:Int):ec n<=7:=by unfold ec;split<;>(try split)<;>omega
theorem pt {k:Key} (h:aN k=true):0<=k.rights/\k.rights<=7:=by
 have:=gL h;have:=Ot k.kind;omega
theorem ej {L:List Obj} {k:Key} (h:aI L k=true):aN k=true/\0<=k.oid/\k.oid<(L.length:Int)/\aa L k=ai L k.oid.toNat free/\(ai L k.oid.toNat free).kind=gK k:=by
 have h':=h;unfold aI at h;simp only[Xo,Xp]at h;obtain⟨⟨h1,h2⟩,h3⟩:=h;have hb:=k9.1 h2;have hn:0<=bF k:=(wU h').1;simp only[bL,Xo,Bool.or_eq_true,Xp]at h3;refine⟨h3.1,hb.1,hb.2,by unfold aa;rw[h',Xv rfl],?_⟩
 rcases h3.2 with h|h
 ·omega
 ·exact h.1.1
theorem Ft {L:List Obj} {o:Obj} {k:Key} {i:Int} (hq:mX k i):(0<=i/\i< ↑16)/\
  ((!decide (aT BinOp.and IntKind.i64 k.rights 2=0))=true->gh (ae L (o.slots.at i.toNat))=jb L o k i)/\
    ((!decide (aT BinOp.and IntKind.i64 k.rights 2=0))=false->ae L (o.slots.at i.toNat)=jb L o k i):=by
 obtain⟨h0,h1,h2⟩:=hq;have hr:=pt h2;rw[Wj hr.1 hr.2,BA];unfold jb yr;refine⟨⟨h0,by omega⟩,fun h=>?_,fun h=>?_⟩
 ·rw[Xv (by simpa using h)]
 ·rw[Xu (by simpa using h)]
theorem kR {L:List Obj} {k:Key} {d:Int} {c:Bool} (h:aQ L k d c=0):aI L k=true/\k.kind=d/\(c=true->k.rights.tmod 4=0):=by
 unfold aQ at h;split at h
 ·omega
 ·split at h
  ·omega
  ·rename_i h2;simp only[Bool.or_eq_true,Bool.not_eq_true',decide_eq_false_iff_not,not_or,Bool.not_eq_false,Decidable.not_not]at h2;split at h
   ·omega
   ·rename_i h3;refine⟨h2.1,h2.2,fun hc=>?_⟩
    simpa[hc]using h3
theorem mL:lg kA:=qm gW (fun _=>rfl) fun v x h=>TR h
theorem Qg:lg oA:=qm zo (fun _=>rfl) fun v x h=>by cases v<;>simp[rO]at h;rfl
theorem QB:lg bA:=qm KD (fun _=>rfl) fun v x h=>by cases v<;>simp[toBool]at h<;>rfl
theorem fP:lg iA:=qm (gi .i64) (fun _=>rfl) fun v x h=>by cases v<;>simp[rI,toInt]at h<;>rfl
theorem qQ:lg sA:=QO _ _
theorem T4:iO nB:=aM Qg (aM qQ (aM mL dM))
def AA (x:V) (M:List Obj) (v:V) (r:List aA):Prop:=
 match ar r 0 with
 | .store t e L=>if t==tS&&e==eS then oR x v r/\L=M else False
 |_=>False
theorem Ex {x:V} {M:List Obj} {v:V} {r:List aA} (h:AA x M v r):vi x v r/\ar r 0= .store tS eS M:=by
 unfold AA at h;split at h
 ·rename_i hr;split at h
  ·rename_i hc;simp only[Xo,Xq]at hc;obtain⟨rfl,rfl⟩:=hc;obtain⟨h1,rfl⟩:=h;exact⟨cK h1,hr⟩
  ·exact h.elim
 ·exact h.elim
def Gu {α:Type} (B:List V->Option α) (Q:List Obj->α->Prop) (F:List Obj->α->V) (M:List Obj->α->List Obj):ng:=fun args res K=>
 match args with
 |a::l=>match B l with
  |some x=>match a with
   | .nl v=>match v with
     | .pointer none=>K (F [] x) res
     |_=>False
   | .lp k off=>if off==0 then match ar res k with
     | .store t e L=>if t==tS&&e==eS then Q L x/\K (F L x) (bD res k (.store tS eS (M L x)))else False
     | .blk t c=>if t==tS&&Uh c then K (F [] x) res else False
     |_=>False
     else False
   |_=>False
  |none=>False
 |_=>False
def VE:V:= .ag [.nl (.slice none 0 0)]
theorem lW {P:Program} {f:Nat} {α:Type} {B:List V->Option α} {m:α->List V} {Q:List Obj->α->Prop} {F:List Obj->α->V} {M:List Obj->α->List Obj} (hB:∀l x,B l=some x->ev l (m x)) (hid:∀x,kY (m x)=true) (hF:∀L x,jJ (F L x)=true)
  (h0:∀x,aj P f (gJ::m x) [] (oR (F [] x)) (fun _ _=>False)) (hz:∀x,aj P f (.lp 0 0::m x) [.ro (.blk tS VE)] (oR (F [] x)) (fun _ _=>False))
  (h1:∀L x,Q L x->(∀o∈L,o.wf)->L.length<=9223372036854775807->aj P f (.lp 0 0::m x) [.store tS eS L] (AA (F L x) (M L x)) (fun _ _=>False)):oU P f (Gu B Q F M):=by
 intro args res K KP h;unfold Gu at h;split at h
 case h_2=>exact h.elim
 split at h
 case h_2=>exact h.elim
 rename_i x hx;refine aj.args (ev.kb (hB _ _ hx)) ?_;split at h
 ·split at h
  ·exact aj.pure (by simp only[kY,jJ,Bool.true_and];exact hid x) (hF _ _) ((h0 x).mono (fun _ _ h=>cK h) fun _ _ h=>h) h
  ·exact h.elim
 ·split at h
  ·rename_i hoff;have hoff:=Xq.1 hoff;subst hoff;split at h
   ·rename_i hr;split at h
    ·rename_i hc;simp only[Xo,Xq]at hc;obtain⟨rfl,rfl⟩:=hc;refine aj.zW hr (hid x) (hF _ _) (aj.fact (k:=0) rfl fun w1 w2=>(h1 _ x h.1 w1 w2).mono (fun v r hv=>Ex hv |> fun⟨a,b⟩=>⟨fun J K=>a J K,b⟩) fun _ _ h=>h) h.2
    ·exact h.elim
   ·rename_i hr;split at h
    ·rename_i hc;simp only[Xo,Xq]at hc;obtain⟨rfl,hz'⟩:=hc;have:=wY hz';subst this;exact aj.LP (r0:= .blk tS VE) (by unfold cR;rw[hr];rfl) (by simp) (fun κ=>rfl) (hid x) (hF _ _) ((hz x).mono (fun _ _ h=>cK h) fun _ _ h=>h) h
    ·exact h.elim
   ·exact h.elim
  ·exact h.elim
 ·exact h.elim
def Va (l:List V):Option Key:=match l with
 | [a]=>rK a
 |_=>none
def Pj (l:List V):Option (Key×Key):=match l with
 | [a,b]=>match rK a with
   |some k=>match rK b with
    |some k'=>some (k,k')
    |none=>none
   |none=>none
 |_=>none
def JR (l:List V):Option (Key×Int×Key):=match l with
 | [a,b,c]=>match rK a with
   |some k=>match rI .i64 b with
    |some i=>match rK c with
     |some k'=>some (k,i,k')
     |none=>none
    |none=>none
   |none=>none
 |_=>none
theorem HF:∀l x,Va l=some x->ev l [.key x]:=fun l x h=>by
 unfold Va at h;split at h
 ·exact ev.rd gW h ev.nil
 ·simp at h
theorem E6:∀l x,Pj l=some x->ev l [.key x.1,.key x.2]:=fun l x h=>by
 unfold Pj at h;split at h
 ·split at h
  ·rename_i h1;split at h<;>simp only[Xm,reduceCtorEq]at h
   rename_i h2;subst h;exact ev.rd gW h1 (ev.rd gW h2 ev.nil)
  ·simp at h
 ·simp at h
theorem IE:∀l x,JR l=some x->ev l [.key x.1,.it .i64 x.2.1,.key x.2.2]:=fun l x h=>by
 unfold JR at h;split at h
 ·split at h
  ·rename_i h1;split at h
   ·rename_i h2;split at h<;>simp only[Xm,reduceCtorEq]at h
    rename_i h3;subst h;exact ev.rd gW h1 (ev.rd (gi .i64) h2 (ev.rd gW h3 ev.nil))
   ·simp at h
  ·simp at h
 ·simp at h
def tK:Nat:=44
def zV (g:Int):Nat:=(16-g).toNat
def SX:ng:=Gu JR (fun L _=>aq L) (fun L x=> .tp [.key (eC L x.1 x.2.1 x.2.2),.it .i64 (bx L x.1 x.2.1 x.2.2)]) fun L x=>dg L x.1 x.2.1 x.2.2
def Sy:ng:=Gu Va (fun L _=>aq L) (fun L x=> .it .i64 (aQ L x 2 true)) fun L x=>fF L x
def Rw:ng:=Gu Pj (fun L _=>aq L) (fun L x=> .it .i64 (cq L x.1 x.2)) fun L x=>eY L x.1 x.2
theorem KF {L:List Obj} {k:Key} {d:Int} {c:Bool} (h:(!decide (0<ah L))=true):aQ L k d c=1:=by
 unfold aQ;unfold ah at h;rw[Xv (by simp at h;omega)]
theorem G7 {L:List Obj} {k:Key} {d:Int} {c:Bool} (h:(!decide (0<ah L))=false) (h2:(!(aI L k&&decide (k.kind=d)))=true):aQ L k d c=190:=by
 unfold aQ;unfold ah at h;rw[Xu (by simp at h;omega),Xv (by simpa using h2)]
theorem mE {L:List Obj} {k:Key} {d:Int} (h2:(!(aI L k&&decide (k.kind=d)))=false):aI L k=true/\k.kind=d:=by simpa using h2
theorem SN {L:List Obj} {k:Key} {d:Int} (h:(!decide (0<ah L))=false) (h2:(!(aI L k&&decide (k.kind=d)))=false) (h3:(!decide (aT BinOp.and IntKind.i64 k.rights 3=0))=true):aQ L k d true=191:=by
 have hr:=pt (ej (mE h2).1).1;rw[PO hr.1 hr.2]at h3;unfold aQ;unfold ah at h;rw[Xu (by simp at h;omega),Xu (by simpa using h2),Xv (by simpa using h3)]
theorem Gd {L:List Obj} {k:Key} {d:Int} (h:(!decide (0<ah L))=false) (h2:(!(aI L k&&decide (k.kind=d)))=false) (h3:(!decide (aT BinOp.and IntKind.i64 k.rights 3=0))=false):aQ L k d true=0:=by
 have hr:=pt (ej (mE h2).1).1;rw[PO hr.1 hr.2]at h3;unfold aQ;unfold ah at h;rw[Xu (by simp at h;omega),Xu (by simpa using h2),Xu (by simpa using h3)]
theorem FA {L:List Obj} {k:Key} {d:Int} (h:(!decide (0<ah L))=false) (h2:(!(aI L k&&decide (k.kind=d)))=false):aQ L k d false=0:=by
 unfold aQ;unfold ah at h;rw[Xu (by simp at h;omega),Xu (by simpa using h2),Xu (by simp)]
def cA (n:Int) (k:Key):Prop:=aN k=true/\bF k<n
theorem Kl {n:Int} {k:Key}:gk 1 n k=true↔cA n k:=by simp[gk,cA]
theorem KO (r:Int):0<=jx r 3/\jx r 3<=7:=JA
theorem LO {n:Int} (hn:0<=n) {k:Key} (h:cA n k):cA n (tJ k):=by
 obtain⟨h1,h2⟩:=h;have hv:cA n void:=⟨nR,by have:=lv.2;omega⟩
 unfold tJ;split
 ·rename_i e;have hw:=KO k.rights
  have h1':aN (cC k (jx k.rights 3))=true:=by
   simp only[aN,cC,e,Xo,Xp]at h1⊢;have:ec 2=7:=rfl;grind
  refine⟨h1',?_⟩;unfold bF at h2⊢;rw[h1'];rw[h1]at h2;exact h2
 ·split
  ·rename_i e
   have h1':aN (cC k 1)=true:=by
    simp only[aN,cC,e,Xo,Xp]at h1⊢;have:ec 3=1:=rfl;grind
   refine⟨h1',?_⟩;unfold bF at h2⊢;rw[h1'];rw[h1]at h2;exact h2
  ·split
   ·exact⟨h1,h2⟩
   ·exact hv
theorem nt {L:List Obj} (hL:0<L.length) (k:Key):cA (L.length:Int) (ae L k):=by
 have hv:cA (L.length:Int) void:=⟨nR,by have:=lv.2;omega⟩
 unfold ae;split
 ·exact hv
 ·rename_i h;simp only[Bool.or_eq_true,not_or,Bool.not_eq_true,Bool.not_eq_false',Bool.and_eq_false_imp]at h;refine⟨h.1.2,?_⟩;rcases iM k with⟨a,b,c⟩|⟨a,b⟩
  ·rw[b];exact(ej (h.2 a)).2.2.1
  ·omega
theorem Pw {L:List Obj} (hL:0<L.length) (k:Key) (i:Int):cA (L.length:Int) (ef L k i):=by
 unfold ef jb;split
 ·exact LO (by omega) (nt hL _)
 ·exact nt hL _
theorem xm {o:Obj} {n:Int} {s:bJ} (h:bf o n=true) (hk:o.kind=1) (hs:∀i,i<16->cA n (s.at i)):bf (fH o s) n=true:=by
 rw[cO]at h⊢;simp only[fH];obtain⟨a1,a2,a3,a4,a5,a6,a7,a8,a9,a10,a11⟩:=h;exact⟨a1,a2,a3,a4,a5,a6,a7,a8,a9,fun i hi=>by rw[hk];exact Kl.2 (hs i hi),fun i hi=> .inl (.inl hk)⟩
theorem yi {L:List Obj} {k:Key} (h:aI L k=true) (h2:k.kind=2):(ai L k.oid.toNat free).kind=1:=by
 rw[(ej h).2.2.2.2];unfold gK;rw[Xu (by have:=(wU h).1;omega),Xu (by omega)]
theorem xt {L:List Obj} {k:Key} (hL:aq L) (h:aI L k=true) (h2:k.kind=2):∀i,i<16->cA (L.length:Int) ((ai L k.oid.toNat free).slots.at i):=fun i hi=>by
 obtain⟨_,b2,b3,_⟩:=ej h;have:=(eV.1 hL).2.2 k.oid.toNat (by omega)
 have:=(cO.1 this).2.2.2.2.2.2.2.2.2.1 i hi;rw[yi h h2]at this;exact Kl.1 this
theorem nq {L:List Obj} {k:Key} {s:bJ} (hL:aq L) (h:aI L k=true) (h2:k.kind=2) (hs:∀i,i<16->cA (L.length:Int) (s.at i)):bN L k.oid (fH (aa L k) s)=ru L k s/\aq (ru L k s):=by
 obtain⟨b1,b2,b3,b4,_⟩:=ej h;have hr:=eV.1 hL;have ho:=xm (hr.2.2 k.oid.toNat (by omega)) (yi h h2) hs
 refine⟨?_,?_⟩
 ·rw[b4];exact(sQ (k9.2 ⟨b2,b3⟩) (pI ho).symm).2
 ·refine eV.2 ?_;unfold ru;have hl:(bX L k.oid.toNat (fH (ai L k.oid.toNat free) s)).length=L.length:=by simp[bX]
  rw[hl];refine⟨hr.1,hr.2.1,fun i hi=>?_⟩
  by_cases e:i=k.oid.toNat
  ·subst e;rw[show ai (bX L k.oid.toNat (fH (ai L k.oid.toNat free) s)) k.oid.toNat free=fH (ai L k.oid.toNat free) s by simp[ai,bX,Xt,hi]]
   exact ho
  ·rw[show ai (bX L k.oid.toNat (fH (ai L k.oid.toNat free) s)) i free=ai L i free by simp[ai,bX,Xt,List.getElem?_set,Ne.symm e]]
   exact hr.2.2 i hi
theorem Bj {L:List Obj} {k:Key} {i:Int} {v:Key} (hL:aq L) (h:aI L k=true) (h2:k.kind=2) (h0:0<=i) (h1:i<16):∀j,j<16->cA (L.length:Int) (((ai L k.oid.toNat free).slots.put i.toNat (ae L v)).at j):=fun j hj=>by
 rw[bJ.fb _ _ _ _ (by omega)]
 split
 ·exact nt (eV.1 hL).1 v
 ·exact xt hL h h2 j hj
theorem Fy {n:Int} (hn:0<=n):∀j,j<16->cA n (fD.at j):=fun j hj=>by
 rw[Et.1 rfl j hj];exact⟨nR,by have:=lv.2;omega⟩
theorem rQ (L:List Obj) (v:Key):(decide (bg v=0)&&(!aR v||decide (bG v<ah L)))=bQ L v:=by
 unfold bQ bg bG ah;rcases iM v with⟨a,b,c⟩|⟨a,b⟩
 ·rw[a,b];cases aN v<;>simp
 ·rw[a,b];have:(-1:Int)<(ak L:Int):=by omega
  cases aN v<;>simp[this]
theorem ze {L:List Obj} {t f:Key} {g:Int} (h0:0<=g):fB L t f (g+1)=(fB L t f g).put g.toNat (ef L f g):=by
 unfold fB;rw[show(g+1).toNat=g.toNat+1 by omega,List.range_succ,List.foldl_append]
 simp only[List.foldl_cons,List.foldl_nil];rw[show((g.toNat:Nat):Int)=g by omega]
theorem KK {L:List Obj} {t f:Key} (h:aa L t=ai L t.oid.toNat free):aa L t=fH (aa L t) (fB L t f 0):=by
 unfold fB fH;simp[h]
theorem Kk {L:List Obj} {t f:Key} {g:Int} (h0:0<=g) (h:aa L f=ai L f.oid.toNat free) (o:Obj) (s:bJ):({kind:=(fH o (fB L t f g)).kind,count:=(fH o (fB L t f g)).count,calls:=(fH o (fB L t f g)).calls,slots:=(fH o (fB L t f g)).slots.put g.toNat (jb L (aa L f) f g),bytes:=(fH o (fB L t f g)).bytes}:Obj)=fH o (fB L t f (g+1)):=by
 rw[ze h0];unfold ef;rw[h];rfl
theorem wG {L:List Obj} {t f:Key} (hL:aq L) (h:aI L t=true) (h2:t.kind=2):∀n:Nat,n<=16->∀j,j<16->cA (L.length:Int) ((fB L t f n).at j)
 |0,_,j,hj=>by
  unfold fB;exact xt hL h h2 j hj
 |n+1,hn,j,hj=>by
  rw[show((n+1:Nat):Int)=(n:Int)+1 by omega,ze (by omega),bJ.fb _ _ _ _ (by omega)]
  split
  ·exact Pw (eV.1 hL).1 _ _
  ·exact wG hL h h2 n (by omega) j hj
structure TQ where
 kind:Int
 slot:Int
 key:Key
 other:Key
def lP (l:List Obj):Bool:=decide ((ak l:Int)<=20)&&eE l
def Si:ng:=Ry (bE Vy kz) (fun _=>True) (fun x=>lP x.1) (fun _=>gJ) (fun _ n=> .lp n 0) (fun x=> .store tS eS x.1)
def wJ (L:List Obj) (a:TQ):Bool:=
 if a.kind=1 then false else if a.kind=2 then decide (bx L a.key a.slot a.other=0)else if a.kind=3 then decide (aQ L a.key 2 true=0)else if a.kind=4 then decide (cq L a.key a.other=0)else false
def ER (L:List Obj) (a:TQ):List Obj:=
 if a.kind=1 then L else if a.kind=2 then dg L a.key a.slot a.other else if a.kind=3 then fF L a.key else if a.kind=4 then eY L a.key a.other else L
theorem sV (k:Key):BC k k=true:=by simp[BC]
def TQ.wf (x:TQ):Prop:=cg .i64 x.kind/\cg .i64 x.slot/\x.key.wf/\x.other.wf
theorem nD (L:List Obj):eA L L=true:=by unfold eA;simp
theorem CV {L:List Obj} {k:Key} {i:Int} {v:Key} (h:bx L k i v=0):aQ L k 2 true=0/\0<=i/\i<16:=by
 unfold bx my at h;split at h
 ·rename_i h1;split at h
  ·rename_i h2;simp at h2;exact⟨h1,h2.1,h2.2⟩
  ·omega
 ·rename_i h1;exact absurd h h1
theorem we {L:List Obj} {a:TQ} (hL:aq L) (h:wJ L a=true):aq (ER L a):=by
 unfold wJ at h;unfold ER;split at h
 ·simp at h
 ·rename_i h1;rw[Xu h1];split at h
  ·rename_i h2;rw[Xv h2];have h:=Xs h;obtain⟨e1,e2,e3⟩:=CV h;obtain⟨a1,a2,_⟩:=kR e1;unfold dg;rw[Xv h];exact(nq hL a1 a2 (Bj hL a1 a2 e2 e3)).2
  ·rename_i h2;rw[Xu h2];split at h
   ·rename_i h3;rw[Xv h3];have h:=Xs h;obtain⟨a1,a2,_⟩:=kR h;unfold fF;rw[Xv h];exact(nq hL a1 a2 (Fy (by omega))).2
   ·rename_i h3;rw[Xu h3];split at h
    ·rename_i h4;rw[Xv h4];have h:=Xs h;have h':=h;unfold cq at h';split at h'
     ·rename_i h5;obtain⟨a1,a2,_⟩:=kR h5;unfold eY;rw[Xv h];exact(nq hL a1 a2 (wG hL a1 a2 16 (by omega))).2
     ·rename_i h5;exact absurd h' h5
    ·simp at h
theorem NM {l:List Obj} (h:lP l=true):aq l/\l.length<=20:=by
 unfold lP at h;simp only[Xo,Xp]at h;unfold ak at h;exact⟨h.2,by omega⟩
section
variable {L:List Obj} {k:Key} {s:bJ} (h0:0<=k.oid) (h1:k.oid<(L.length:Int))
include h0 h1
end
theorem fu {L:List Obj} {j:Int} (h0:0<=j) (h1:j<(L.length:Int)):au L j=ai L j.toNat free:=by
 unfold au;rw[Xv (k9.2 ⟨h0,h1⟩)]
theorem dA {L:List Obj} {i:Nat} {x:Obj} (hi:i<L.length) (j:Nat):ai (bX L i x) j free=if j=i then x else ai L j free:=by
 by_cases e:j=i
 ·subst e;rw[Xv rfl];simp[ai,bX,Xt,hi]
 ·rw[Xu e];simp[ai,bX,Xt,List.getElem?_set,Ne.symm e]
theorem eT {L:List Obj} {i:Nat} {x:Obj}:(bX L i x).length=L.length:=by simp[bX]
end Go.Sx
set_option maxRecDepth 100000
namespace Go.Sx
theorem oG {κ:Nat->Option Nat} {x a:V} {l m:List V} (h1:fh κ x=some a) (h2:ee κ l=some m):ee κ (x::l)=some (a::m):=by
 simp only[ee];rw[h1];simp only;rw[h2]
end Go.Sx
set_option maxRecDepth 100000
namespace Go.Sx
def HN {α:Type} (B:mh α) (l:List V):Option α:=match B.rd [] l with
 |some p=>match p.1 with
  | []=>some p.2
  |_=>none
 |none=>none
theorem nM {α:Type} {B:mh α} (hB:iO B) (hid:∀a,kY (B.cn a 0)=true):∀l x,HN B l=some x->ev l (B.cn x 0):=fun l x h=>by
 unfold HN at h;split at h
 case h_2=>simp at h
 rename_i p hp;obtain⟨pls,a⟩:=p;split at h
 case h_2=>simp at h
 rename_i h1;simp only at h1;subst h1;simp only[Xm]at h;subst h;obtain⟨_,_,_,b4⟩:=hB _ _ _ _ hp;obtain⟨c1,c2⟩:=b4 [] [];intro J K hk;have e1:=(c1 J K hk).1;have e2:=c2 K hk;have e3:eM (fun _=>False) (B.cn a 0):=qh _ (hid a) e2
 refine⟨?_,qh _ (hid a) e2⟩;rw[<-e1];exact fy (N:=fun _=>False) (fun _ h=>h.elim) _ e3
def Tk {α:Type} (B:List V->Option α) (R:α->Prop) (Q:List Obj->α->Prop) (F:List Obj->α->V) (M:List Obj->α->List Obj):ng:=fun args res K=>
 match args with
 |a::l=>match B l with
  |some x=>R x/\match a with
   | .nl v=>match v with
     | .pointer none=>K (F [] x) res
     |_=>False
   | .lp k off=>if off==0 then match ar res k with
     | .store t e L=>if t==tS&&e==eS then Q L x/\K (F L x) (bD res k (.store tS eS (M L x)))else False
     | .blk t c=>if t==tS&&Uh c then K (F [] x) res else False
     |_=>False
     else False
   |_=>False
  |none=>False
 |_=>False
theorem zO {P:Program} {f:Nat} {α:Type} {B:List V->Option α} {m:α->List V} {R:α->Prop} {Q:List Obj->α->Prop} {F:List Obj->α->V} {M:List Obj->α->List Obj} (hB:∀l x,B l=some x->ev l (m x)) (hid:∀x,kY (m x)=true) (hF:∀L x,jJ (F L x)=true)
  (h0:∀x,R x->aj P f (gJ::m x) [] (oR (F [] x)) (fun _ _=>False)) (hz:∀x,R x->aj P f (.lp 0 0::m x) [.ro (.blk tS VE)] (oR (F [] x)) (fun _ _=>False))
  (h1:∀L x,Q L x->aj P f (.lp 0 0::m x) [.store tS eS L] (AA (F L x) (M L x)) (fun _ _=>False)):oU P f (Tk B R Q F M):=by
 intro args res K KP h;unfold Tk at h;split at h
 case h_2=>exact h.elim
 split at h
 case h_2=>exact h.elim
 rename_i x hx;obtain⟨hR,h⟩:=h;refine aj.args (ev.kb (hB _ _ hx)) ?_;split at h
 ·split at h
  ·exact aj.pure (by simp only[kY,jJ,Bool.true_and];exact hid x) (hF _ _) ((h0 x hR).mono (fun _ _ h=>cK h) fun _ _ h=>h) h
  ·exact h.elim
 ·split at h
  ·rename_i hoff;have hoff:=Xq.1 hoff;subst hoff;split at h
   ·rename_i hr;split at h
    ·rename_i hc;simp only[Xo,Xq]at hc;obtain⟨rfl,rfl⟩:=hc;exact aj.zW hr (hid x) (hF _ _) ((h1 _ x h.1).mono (fun v r hv=>Ex hv |> fun⟨a,b⟩=>⟨fun J K=>a J K,b⟩) fun _ _ h=>h) h.2
    ·exact h.elim
   ·rename_i hr;split at h
    ·rename_i hc;simp only[Xo,Xq]at hc;obtain⟨rfl,hz'⟩:=hc;have:=wY hz';subst this;exact aj.LP (r0:= .blk tS VE) (by unfold cR;rw[hr];rfl) (by simp) (fun κ=>rfl) (hid x) (hF _ _) ((hz x hR).mono (fun _ _ h=>cK h) fun _ _ h=>h) h
    ·exact h.elim
   ·exact h.elim
  ·exact h.elim
 ·exact h.elim
def c8 (n:Int):Key:=⟨1,0,0,0,0,n⟩
theorem cm {L:List Obj} (h:aq L) (j:Nat) (hj:j<L.length):bf (ai L j free) (L.length:Int)=true:=(eV.1 h).2.2 j hj
theorem gf {L:List Obj} (h:aq L):1<=L.length/\L.length<=64:=⟨(eV.1 h).1,(eV.1 h).2.1⟩
theorem Ib {L M:List Obj} (h:aq L) (hl:M.length=L.length) (hm:∀j,j<L.length->bf (ai M j free) (L.length:Int)=true):aq M:=by
 obtain⟨a,b⟩:=gf h;unfold aq;rw[eV,hl];exact⟨a,b,hm⟩
theorem jS {L:List Obj} {i:Nat} {x:Obj} (h:aq L) (hx:bf x (L.length:Int)=true):aq (bX L i x):=by
 by_cases hi:i<L.length
 ·refine Ib h eT fun j hj=>?_
  rw[dA hi];split
  ·exact hx
  ·exact cm h j hj
 ·rw[show bX L i x=L from List.set_eq_of_length_le (by omega)];exact h
theorem ki {L:List Obj} {i:Int} {x:Obj} (h0:0<=i) (h1:i<(L.length:Int)) (hx:bf x (L.length:Int)=true):bN L i x=bX L i.toNat x/\ei L i x=0:=by
 have e:cj L i=0:=k9.2 ⟨h0,h1⟩;have e2:bU x (ak L:Int)=0:=by unfold bU;exact Xv hx
 exact⟨(sQ e e2).2,(sQ e e2).1⟩
theorem NV {n:Int} {s:bJ} {k:Key} {j:Nat} (hj:j<16) (h:∀i,i<16->cA n (s.at i)) (hk:cA n k) (i:Nat) (hi:i<16):cA n ((s.put j k).at i):=by
 rw[bJ.fb _ _ _ _ hj];split
 ·exact hk
 ·exact h i hi
theorem qz {n:Int} (hn:0<=n) (x:Int):cA n (c8 x):=by
 refine⟨by simp[c8,aN,ec,jl,c9,ft,eO],?_⟩
 unfold bF;rw[show c9 (c8 x).kind=false by simp[c8,c9]]
 simp;omega
theorem qu {o:Obj} {n:Int} (h:bf o n=true) (hk:o.kind=1) (i:Nat) (hi:i<16):cA n (o.slots.at i):=by
 obtain⟨a1,a2,a3,a4,a5,a6,a7,a8,a9,a10,a11⟩:=cO.1 h;have:=a10 i hi;rw[hk]at this;exact Kl.1 this
theorem pR (o:Obj):vk o o=true:=by simp[vk]
end Go.Sx
