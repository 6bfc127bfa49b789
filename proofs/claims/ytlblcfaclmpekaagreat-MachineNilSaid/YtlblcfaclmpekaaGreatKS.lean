import Derived.Test.YtlblcfaclmpekaaGreatKO
import Derived.Test.YtlblcfaclmpekaaGreatSxF
set_option linter.unusedSimpArgs false
set_option linter.unusedVariables false
namespace Go.Sx
def bc (L:List Obj):Bool:=decide (ar L=0)
def cC (L:List Obj) (oid:Int):Int:=if ar L=0 then 1 else if oid<0\/(ar L:Int)<=oid then 4 else 0
def az (L:List Obj) (oid:Int):Obj:=if cC L oid=0 then ai L oid.toNat free else free
def ah (L:List Obj):Int:=(ar L:Int)
def aO (L:List Obj) (k:Key):Bool:=aN k&&decide (cC L k.oid=0)&&b9 k (ai L k.oid.toNat free)
def aa (L:List Obj) (k:Key):Obj:=if aO L k then ai L k.oid.toNat free else free
def ae (L:List Obj) (k:Key):Key:=if bc L|| !aP k||(aN k&& !aO L k)then void else k
def fH (n:Int):Bool:=decide (1<=n)&&decide (n<=64)
def lX (n:Int):List Obj:=List.replicate n.toNat free
def bO (L:List Obj) (i:Int) (o:Obj):List Obj:=if cC L i=0/\dz o (ar L:Int)=0 then cS L i.toNat o else L
def eH (L:List Obj) (i:Int) (o:Obj):Int:=if cC L i=0 then dz o (ar L:Int)else cC L i
def zU (l:List Obj):Bool:=decide (1<=ar l)&&decide (ar l<=64)&&(List.range (ar l)).all fun i=>bu (ai l i free) (ar l:Int)
def yK (n i:Int):Prop:=0<=i/\i<=n
abbrev tS:Nat:=102
abbrev eS:Nat:=106
def Q5 (c:Bool) (M:List Obj) (v:V) (r:List aA):Prop:=
 match v with
 | .tp l=>match l with
   | [a,b]=>match a with
     | .nl p=>match p with
       | .pointer none=>c=false/\qU (.ci .i64 2) b r
       |_=>False
     | .lp j off=>match F5 r j with
       |some (t,e,L)=>if off==0&&t==tS&&e==eS then c=true/\qU (.ci .i64 0) b r/\L=M else False
       |none=>False
     |_=>False
   |_=>False
 |_=>False
def TI (n:Int):V->List aA->Prop:=Q5 (fH n) (lX n)
def SZ (x:V) (M:List Obj) (v:V) (r:List aA):Prop:=
 match Ck r 0 with
 |some (t,e,_,L)=>if t==tS&&e==eS then qU x v r/\L=M else False
 |none=>False
def Ol:nf:=fun args res K=>
 match args with
 | [a]=>match rI .i64 a with
   |some n=>(fH n=false->K (.tp [kz,.ci .i64 2]) res)/\(fH n=true->K (.tp [.lp res.length 0,.ci .i64 0]) (res++ [.store tS eS (lX n)]))
   |none=>False
 |_=>False
def Sh (c:V):Bool:=
 match c with
 | .ag l=>match l with
   | [x]=>match x with
     | .nl v=>match v with
       | .slice none 0 0=>true
       |_=>false
     |_=>false
   |_=>false
 |_=>false
theorem vW {c:V} (h:Sh c=true):c= .ag [.nl (.slice none 0 0)]:=by
 unfold Sh at h;split at h
 ·split at h
  ·split at h
   ·split at h
    ·rfl
    ·simp at h
   ·simp at h
  ·simp at h
 ·simp at h
def Of:nf:=fun args res K=>
 match args with
 | [a,b,c]=>match rI .i64 b with
   |some i=>match rO c with
    |some o=>match a with
     | .nl v=>match v with
       | .pointer none=>K (.it .i64 (eH [] i o)) res
       |_=>False
     | .lp k off=>if off==0 then match ak res k with
       | .store t e L=>if t==tS&&e==eS then K (.it .i64 (eH L i o)) (bC res k (.store tS eS (bO L i o)))else False
       | .blk t c=>if t==tS&&Sh c then K (.it .i64 (eH [] i o)) res else False
       |_=>False
       else False
     |_=>False
    |none=>False
   |none=>False
 |_=>False
structure Um where
 puts:Bool
 oid:Int
 ob:Obj
def Um.wf (x:Um):Prop:=b7 .i64 x.oid/\x.ob.wf
def Lm:Ct:=Rl (.bo true)
def JP (L M:List Obj):Bool:=decide (L=M)
def gf (L M:List Obj) (g:Int):List Int:=((List.range g.toNat).filter fun j=> !B7 (ai L j free) (ai M j free)).map Int.ofNat
def iF (L M:List Obj):Bool:=bc L||bc M|| !decide ((ar L:Int)=(ar M:Int))
def cB (L M:List Obj):List Int:=gf L M (ar L:Int)
def jU (L:List Obj) (g:Int):List Obj:=L.take g.toNat
def ni (L:List Obj) (g:Int):Prop:=0<=g/\g<=(ar L:Int)
abbrev Rg:V:= .nl (.slice none 0 0)
abbrev tI:Nat:=3
def Aa (L:List Obj) (v:V) (r:List aA):Prop:=
 match v with
 | .nl p=>match p with
   | .pointer none=>bc L=true
   |_=>False
 | .lp j off=>match F5 r j with
   |some (t,e,M)=>if off==0&&t==tS&&e==eS&&Nat.ble 1 j then bc L=false/\M=L else False
   |none=>False
 |_=>False
def HL (L M:List Obj) (v:V) (r:List aA):Prop:=
 match v with
 | .nl p=>match p with
   | .slice none 0 0=>iF L M=true
   |_=>False
 | .sa j=>match ak r j with
   | .arr own esz l=>match own with
     |some e=>match l with
      | .it k l=>match k with
        | .i64=>if e==tI&&esz==1&&Nat.ble 2 j then iF L M=false/\l=cB L M else False
        |_=>False
      |_=>False
     |none=>False
   |_=>False
 |_=>False
def Is:nf:=fun args res K=>
 match args with
 | [a]=>match a with
   | .nl v=>match v with
     | .pointer none=>K kz res
     |_=>False
   | .lp k off=>if off==0 then match dw res k with
     | .store t e L=>if t==tS&&e==eS then ar L<=1000/\(bc L=true->K kz res)/\(bc L=false->K (.lp res.length 0) (res++ [.store tS eS L]))else False
     |_=>False
     else False
   |_=>False
 |_=>False
def N4:nf:=fun args res K=>
 match args with
 | [a,b]=>match b with
   | .lp j off=>if off==0 then match dw res j with
     | .store t e M=>if t==tS&&e==eS then match a with
       | .nl v=>match v with
         | .pointer none=>K Rg res
         |_=>False
       | .lp k off'=>if off'==0&& !(k==j)then match dw res k with
         | .store t e L=>if t==tS&&e==eS then ar L<=1000/\(iF L M=true->K Rg res)/\(iF L M=false->K (.sa res.length) (res++ [.arr (some tI) 1 (.it .i64 (cB L M))]))else False
         |_=>False
         else False
       |_=>False
       else False
     |_=>False
     else False
   |_=>False
 |_=>False
def D4:Ct:=fun res nid xs=>match xs with
 | [a]=>match rS tS eS res a with
   |some (o,L)=>match o with
    |none=>some (none,.cb true,[])
    |some _=>some (none,.bo (bc L),[])
   |none=>none
 |_=>none
theorem pj {α:Type} (l:List α):dJ (ar l)=(l.length:Int):=rfl
theorem vV {α:Type} (l:List α):((ar l:Nat):Int)=(l.length:Int):=rfl
def CQ:Ct:=QY tS eS fun L=> .bo (bc L)
def Ry:Ct:=Fp tS eS (rI .i64) fun L i=> .it .i64 (cC L i)
def SI:Ct:=Fp tS eS (rI .i64) fun L i=> .tp [.ob (az L i),.it .i64 (cC L i)]
def Cx:Ct:=QY tS eS fun L=> .it .i64 (ah L)
def Mw:Ct:=Fp tS eS rK fun L k=> .tp [.ob (aa L k),.bo (aO L k)]
def Qb:Ct:=Fp tS eS rK fun L k=> .key (ae L k)
theorem D7 {n:Nat} (h:n<1000):qz n 8:=by unfold qz;simp only[maxLen];omega
theorem IZ {L:List Obj} {g:Int} (h0:0<=g) (h1:g<(L.length:Int)):gu (jU L g) (ai L g.toNat free)=jU L (g+1):=by
 unfold gu jU ai;rw[show(g+1).toNat=g.toNat+1 by omega,List.take_add_one,UY,List.getElem?_eq_getElem (by omega)];rfl
theorem Kq {L:List Obj} {g:Int} (h:(L.length:Int)<=g):jU L g=L:=by unfold jU;rw[List.take_of_length_le (by omega)]
theorem Jj {L:List Obj} {g:Int}:ar (jU L g)<=g.toNat:=by unfold ar jU;rw[List.length_take];omega
theorem JF {L M:List Obj} {g:Int}:ar (gf L M g)<=g.toNat:=by
 unfold ar gf;rw[List.length_map];exact Nat.le_trans (List.length_filter_le _ _) (by rw[List.length_range];omega)
theorem G8 {L M:List Obj} {g:Int} (h0:0<=g) (h:(!B7 (ai L g.toNat free) (ai M g.toNat free))=true):gu (gf L M g) g=gf L M (g+1):=by
 unfold gu gf;rw[show(g+1).toNat=g.toNat+1 by omega,List.range_succ,List.filter_append,List.map_append]
 simp only[List.filter_cons,h,if_true,List.filter_nil,List.map_cons,List.map_nil];congr 2
 show g=((g.toNat:Nat):Int)
 omega
theorem Mf {L M:List Obj} {g:Int} (h0:0<=g) (h:(!B7 (ai L g.toNat free) (ai M g.toNat free))=false):gf L M g=gf L M (g+1):=by
 unfold gf;rw[show(g+1).toNat=g.toNat+1 by omega,List.range_succ,List.filter_append,List.map_append]
 simp only[List.filter_cons,h,Bool.false_eq_true,if_false,List.filter_nil,List.map_nil,List.append_nil]
theorem pJ:bc []=true:=rfl
theorem yt {L:List Obj}:bc L=true↔L= []:=by
 unfold bc ar;simp[List.length_eq_zero_iff]
theorem pN (i:Int):cC [] i=1:=rfl
theorem Je {L:List Obj} (h:bc L=false) (i:Int):cC L i=if i<0\/(L.length:Int)<=i then 4 else 0:=by
 have:L≠ []:=fun e=>by rw[e]at h;simp[pJ]at h
 unfold cC ar;rw[UZ (by simpa[List.length_eq_zero_iff]using this)]
theorem mN {L:List Obj} {i:Int}:cC L i=0↔0<=i/\i<(L.length:Int):=by
 unfold cC ar;split
 ·omega
 ·split<;>omega
theorem xK (L:List Obj) (k:Key):((!aN k)=true->free=aa L k/\false=aO L k)/\
  ((!aN k)=false->
    ((!decide (cC L (bE k)=0)|| !b9 k (az L (bE k)))=true->
      free=aa L k/\false=aO L k)/\
      ((!decide (cC L (bE k)=0)|| !b9 k (az L (bE k)))=false->
        az L (bE k)=aa L k/\true=aO L k)):=by
 have fin:∀b,aO L k=b->(b=false->free=aa L k)/\b=aO L k:=fun b h=>⟨fun hb=>by unfold aa;rw[h,hb];rfl,h.symm⟩
 refine⟨fun h=>?_,fun h=>?_⟩
 ·have h:aN k=false:=by simpa using h
  have:=fin false (by unfold aO;rw[h];rfl)
  exact⟨this.1 rfl,this.2⟩
 ·have h:aN k=true:=by simpa using h
  have ho:bE k=k.oid:=by unfold bE;rw[U0 h]
  rw[ho];by_cases hh:cC L k.oid=0
  ·have hg:az L k.oid=ai L k.oid.toNat free:=by unfold az;rw[U0 hh]
   rw[hg];have e:aO L k=b9 k (ai L k.oid.toNat free):=by unfold aO;simp[h,hh]
   refine⟨fun hc=>?_,fun hc=>?_⟩
   ·have hc:b9 k (ai L k.oid.toNat free)=false:=by simpa[hh]using hc
    have:=fin false (by rw[e,hc])
    exact⟨this.1 rfl,this.2⟩
   ·have hc:b9 k (ai L k.oid.toNat free)=true:=by simpa[hh]using hc
    have:=fin true (by rw[e,hc])
    refine⟨?_,this.2⟩;unfold aa;rw[e,hc];rfl
  ·have:=fin false (by unfold aO;simp[hh])
   exact⟨fun _=>⟨this.1 rfl,this.2⟩,fun hc=>by simp[hh]at hc⟩
theorem BS (L:List Obj) (k:Key):((bc L|| !decide (bM k=0))=true->void=ae L k)/\
  ((bc L|| !decide (bM k=0))=false->
    ((aN k&& !aO L k)=true->void=ae L k)/\((aN k&& !aO L k)=false->k=ae L k)):=by
 have hc:(!decide (bM k=0))= !aP k:=by unfold bM;cases aP k<;>simp
 rw[hc];unfold ae;refine⟨fun h=>?_,fun h=>⟨fun h2=>?_,fun h2=>?_⟩⟩
 ·rw[U0];simp only[h,Bool.true_or]
 ·rw[U0];simp only[h2,Bool.or_true]
 ·rw[UZ];simp only[h,h2];simp
theorem E5 {n:Int}:fH n=true↔1<=n/\n<=64:=by simp[fH]
theorem Lv {g:Int} (h:0<=g):gu (lX g) free=lX (g+1):=by
 unfold gu lX;rw[show(g+1).toNat=g.toNat+1 by omega,List.replicate_succ']
theorem DV {i:Int} {o:Obj}:eH [] i o=1:=by unfold eH;rw[pN];rfl
theorem Nx {L:List Obj} {i:Int} {o:Obj} (h:cC L i≠0):eH L i o=cC L i/\bO L i o=L:=by
 unfold eH bO;rw[UZ h,UZ (fun hh=>h hh.1)];exact⟨rfl,rfl⟩
theorem OU {L:List Obj} {i:Int} {o:Obj} (h:cC L i=0) (h2:dz o (ar L:Int)≠0):eH L i o=dz o (ar L:Int)/\bO L i o=L:=by
 unfold eH bO;rw[U0 h,UZ (fun hh=>h2 hh.2)];exact⟨rfl,rfl⟩
theorem rL {L:List Obj} {i:Int} {o:Obj} (h:cC L i=0) (h2:dz o (ar L:Int)=0):eH L i o=0/\bO L i o=cS L i.toNat o:=by
 unfold eH bO;rw[U0 h,U0 ⟨h,h2⟩];exact⟨h2,rfl⟩
theorem Pf {c:Bool} {M:List Obj} (hn:c=false) {v:V} {r:List aA} (h:Q5 c M v r):vh (.tp [kz,.ci .i64 2]) v []:=by
 unfold Q5 at h;split at h
 ·split at h
  ·split at h
   ·split at h
    ·exact LG (dE h.2)
    ·exact h.elim
   ·split at h
    ·split at h
     ·rw[hn]at h;simp at h
     ·exact h.elim
    ·exact h.elim
   ·exact h.elim
  ·exact h.elim
 ·exact h.elim
theorem MJ {c:Bool} {M:List Obj} (hn:c=true) {v:V} {r:List aA} (h:Q5 c M v r):∃j b,v= .tp [.lp j 0,b]/\vh (.ci .i64 0) b []/\F5 r j=some (tS,eS,M):=by
 unfold Q5 at h;split at h
 ·split at h
  ·split at h
   ·split at h
    ·rw[hn]at h;simp at h
    ·exact h.elim
   ·split at h
    ·rename_i hst;split at h
     ·rename_i hc;simp only[US,UU]at hc;obtain⟨⟨rfl,rfl⟩,rfl⟩:=hc;obtain⟨_,h2,rfl⟩:=h;exact⟨_,_,rfl,dE h2,hst⟩
     ·exact h.elim
    ·exact h.elim
   ·exact h.elim
  ·exact h.elim
 ·exact h.elim
theorem L2 {c:Bool} {M:List Obj} (hn:c=true) {v:V} {r:List aA} (h:Q5 c M v r):∃j r',F5 r j=some (tS,eS,M)/\(r'=r\/rq r j=some r')/\ak r' j= .store tS eS M/\∀(κ:Nat->Option Nat) (i:Nat),κ j=some i->ke κ v (.tp [.lp i 0,.ci .i64 0]):=by
 obtain⟨j,b,rfl,hb,hst⟩:=MJ hn h
 have ht:∀(κ:Nat->Option Nat) (i:Nat),κ j=some i->ke κ (.tp [.lp j 0,b]) (.tp [.lp i 0,.ci .i64 0]):=fun κ i hi ρ2 ρ3 N N' hv hN hk=>by
  obtain⟨s1,s2,_⟩:=hb ρ2 N;refine⟨?_,hN j i hi hk.1,by simp[ok,b7],trivial⟩
  simp only[den,ba,(hv j i hi).1,s1]
 rcases As hst with h1|⟨r',h1,h2⟩
 ·exact⟨j,r,hst,.inl rfl,h1,ht⟩
 ·exact⟨j,r',hst,.inr h1,h2,ht⟩
theorem Nm {x:V} {M:List Obj} {v:V} {r:List aA} (h:SZ x M v r):∃t,Ck r 0=some (tS,eS,t,M)/\vh x v r:=by
 unfold SZ at h;split at h
 ·rename_i hst;split at h
  ·rename_i hc;simp only[US,UU]at hc;obtain⟨rfl,rfl⟩:=hc;obtain⟨h1,rfl⟩:=h;exact⟨_,hst,dE h1⟩
  ·exact h.elim
 ·exact h.elim
theorem TX {P:Program} {f:Nat} {rest:List V} {res:List aA} {K KP:V->List aA->Prop} {k:Nat} {L M:List Obj} {x:V} (hr:ak res k= .store tS eS L) (hid:lf rest=true) (hx:jM x=true)
  (h:(∀o∈L,o.wf)->L.length<=9223372036854775807->aj P f (.lp 0 0::rest) [.blk tS (.ag [.sa 1]),.obs eS 2 L,.gen 1] (SZ x M) (fun _ _=>False)) (hK:K x (bC res k (.store tS eS M))):aj P f (.lp k 0::rest) res K KP:=by
 refine aj.zS hr hid hx ?_ hK;refine aj.fact (k:=0) rfl fun w1 w2=>?_
 refine aj.iO (k:=0) rfl ?_;refine aj.shut (h w1 w2) fun v r hv=>?_
 obtain⟨t,h1,h2⟩:=Nm hv;obtain⟨r',g1,g2⟩:=xp h1;exact .inr ⟨0,r',g1,fun J K=>h2 J K,g2⟩
theorem gg {l:List Obj}:zU l=true↔1<=l.length/\l.length<=64/\∀i,i<l.length->bu (ai l i free) (l.length:Int)=true:=by
 unfold zU ar;simp only[US,UT,List.all_eq_true,List.mem_range,and_assoc]
theorem mh (k:Key):(aN k=true/\cF k=k.oid/\0<=k.oid)\/(aN k=false/\cF k= -1):=by
 have h:cF k=if aN k then k.oid else -1:=rfl
 cases hn:aN k
 ·exact .inr ⟨rfl,by rw[h,hn];rfl⟩
 ·refine .inl ⟨rfl,by rw[h,hn];rfl,?_⟩
  unfold aN at hn;simp only[US]at hn;have:=hn.1;simp only[aP,eT,hn.2,if_true,US,UT]at this;omega
theorem vY {l:List Obj} {k:Key} (h:aO l k=true):0<=cF k/\cF k<(l.length:Int)/\aa l k=ai l (cF k).toNat free:=by
 have h':=h;unfold aO at h;simp only[US,UT]at h;have hb:=mN.1 h.1.2;rcases mh k with⟨h1,h2,h3⟩|⟨h1,h2⟩
 ·rw[h2];exact⟨hb.1,hb.2,by unfold aa;rw[h',U0 rfl]⟩
 ·rw[h1]at h;simp at h
theorem ra {L M:List Obj} (h:L.length=M.length) (h2:∀j:Nat,j<L.length->ai L j free=ai M j free):L=M:=by
 apply List.ext_getElem h
 intro i h3 h4;have:=h2 i h3;unfold ai at this;simpa[UY,h3,h4]using this
end Go.Sx
namespace Go.Proofs.YtlblcfaclmpekaaGreat
open Go.Sx
set_option maxRecDepth 100000
theorem KQ:
 true=bc []:=by
 rfl
theorem Jy (L:List Sx.Obj):
 decide (dJ (ar L)=0)=bc L:=by
 unfold bc dJ ar;rw[decide_eq_decide];omega
theorem nR:dA Tryz.prog 42 CQ:=
 J4 (fun _=>rfl) (bx (inl:=cw) (ann:=aQ) aq KQ (by kernel_rfl)) (fun L _ _=>bx (inl:=cw) (ann:=aQ) aq (Jy L) (by kernel_rfl))
theorem LB (i:Int):
 (bc []=true->1=cC [] i)/\
  (bc []=false->((!decide (i<0))=true->False)/\((!decide (i<0))=false->4=cC [] i)):=by
 exact⟨fun _=>rfl,fun h=>by simp[pJ]at h⟩
theorem Nh (L:List Sx.Obj) (i:Int):
 (bc L=true->1=cC L i)/\
  (bc L=false->
   ((decide (i<0)||decide (dJ (ar L)<=i))=true->4=cC L i)/\
     ((decide (i<0)||decide (dJ (ar L)<=i))=false->0=cC L i)):=by
 refine⟨fun h=>?_,fun h=>?_⟩
 ·rw[yt.1 h];rfl
 ·rw[Je h];unfold dJ ar;refine⟨fun h1=>?_,fun h1=>?_⟩
  ·simp only[Bool.or_eq_true,UT]at h1;rw[U0 h1]
  ·simp only[Bool.or_eq_false_iff,decide_eq_false_iff_not]at h1;rw[UZ (by omega)]
theorem vB:dA Tryz.prog 45 Ry:=
 uM (gF .i64) (fun _ _=>rfl) (fun x _=>bx (inl:=cw) (ann:=aQ) (ab nR aq) (LB x) (by kernel_rfl)) (fun L x _ _ _=>bx (inl:=cw) (ann:=aQ) (ab nR aq) (Nh L x) (by kernel_rfl)) fun _=>rfl
theorem HA:
 (bc []=true->0=ah [])/\(bc []=false->False):=by
 exact⟨fun _=>rfl,fun h=>by simp[pJ]at h⟩
theorem Jq (L:List Sx.Obj):
 (bc L=true->0=ah L)/\(bc L=false->dJ (ar L)=ah L):=by
 exact⟨fun h=>by rw[yt.1 h];rfl,fun _=>rfl⟩
theorem aW:dA Tryz.prog 36 Cx:=
 J4 (fun _=>rfl) (bx (inl:=cw) (ann:=aQ) (ab nR aq) HA (by kernel_rfl)) (fun L _ _=>bx (inl:=cw) (ann:=aQ) (ab nR aq) (Jq L) (by kernel_rfl))
theorem LS (i:Int):
 ((!decide (cC [] i=0))=true->free=az [] i/\cC [] i=cC [] i)/\
   ((!decide (cC [] i=0))=false->False):=by
 exact⟨fun _=>⟨rfl,rfl⟩,fun h=>by simp[pN]at h⟩
theorem K4 (L:List Sx.Obj) (i:Int):
 ((!decide (cC L i=0))=true->free=az L i/\cC L i=cC L i)/\
   ((!decide (cC L i=0))=false->
     (0<=i/\i< ↑(ar L))/\i.toNat<ar L/\i.toNat<ar L/\ai L i.toNat free=az L i/\0=cC L i):=by
 refine⟨fun h=>⟨?_,rfl⟩,fun h=>?_⟩
 ·unfold az;rw[UZ (by simpa using h)]
 ·have h:cC L i=0:=by simpa using h
  have hb:=mN.1 h;unfold az ar;rw[U0 h,h];exact⟨hb,by omega,by omega,rfl,rfl⟩
theorem ez:dA Tryz.prog 25 SI:=
 uM (gF .i64) (fun _ _=>rfl) (fun x _=>bx (inl:=cw) (ann:=aQ) (ab vB aq) (LS x) (by kernel_rfl)) (fun L x _ _ _=>bx (inl:=cw) (ann:=aQ) (ab vB aq) (K4 L x) (by kernel_rfl)) fun _=>rfl
theorem E8 (k:Key):
 ((!aN k)=true->free=aa [] k/\false=aO [] k)/\
   ((!aN k)=false->
     ((!decide (cC [] (bE k)=0)|| !b9 k (az [] (bE k)))=true->
       free=aa [] k/\false=aO [] k)/\
       ((!decide (cC [] (bE k)=0)|| !b9 k (az [] (bE k)))=false->
         az [] (bE k)=aa [] k/\true=aO [] k)):=by
 exact xK [] k
theorem FC (L:List Sx.Obj) (k:Key):
 ((!aN k)=true->free=aa L k/\false=aO L k)/\
   ((!aN k)=false->
     ((!decide (cC L (bE k)=0)|| !b9 k (az L (bE k)))=true->
       free=aa L k/\false=aO L k)/\
       ((!decide (cC L (bE k)=0)|| !b9 k (az L (bE k)))=false->
         az L (bE k)=aa L k/\true=aO L k)):=by
 exact xK L k
theorem bj:dA Tryz.prog 26 Mw:=
 uM h9 (fun _ _=>rfl) (fun x _=>bx (inl:=cw) (ann:=aQ) (ab cy (ab ez (ab vE aq))) (E8 x) (by kernel_rfl)) (fun L x _ _ _=>bx (inl:=cw) (ann:=aQ) (ab cy (ab ez (ab vE aq))) (FC L x) (by kernel_rfl)) fun _=>rfl
end Go.Proofs.YtlblcfaclmpekaaGreat
namespace Go.Proofs.YtlblcfaclmpekaaGreat
open Go.Sx
set_option maxRecDepth 100000
theorem O2 (n:Int):
 ((decide (n<1)||decide (64<n))=true->fH n=false/\True)/\
   ((decide (n<1)||decide (64<n))=false->
     (∃g,yK n g/\Value.pointer none=Value.pointer none/\n=n/\0=g/\ []=lX g)/\
      ∀(g:Int),
       yK n g->
        (decide (g<n)=true->
          qz (ar (lX g)) 8/\
           aL IntKind.i64 (g+1)/\
            ∃g',
             yK n g'/\
              (n-g').toNat<(n-g).toNat/\
               Value.pointer none=Value.pointer none/\
                n=n/\g+1=g'/\gu (lX g) free=lX g')/\
         (decide (g<n)=false->fH n=true/\True/\lX g=lX n)):=by
 refine⟨fun h=>⟨?_,trivial⟩,fun h=>⟨⟨0,?_,rfl,rfl,rfl,rfl⟩,fun g hg=>⟨fun hlt=>?_,fun hge=>?_⟩⟩⟩
 ·simp only[Bool.or_eq_true,UT]at h;unfold fH;rw[Bool.and_eq_false_iff,decide_eq_false_iff_not,decide_eq_false_iff_not];omega
 ·simp only[Bool.or_eq_false_iff,decide_eq_false_iff_not]at h;exact⟨by omega,by omega⟩
 ·simp only[Bool.or_eq_false_iff,decide_eq_false_iff_not]at h;obtain⟨g0,g1⟩:=hg;have hlt:=UX hlt;refine⟨?_,?_,g+1,⟨by omega,by omega⟩,by omega,rfl,rfl,rfl,Lv g0⟩
  ·unfold qz ar lX;simp only[List.length_replicate,maxLen];omega
  ·simp only[aL,b7];omega
 ·simp only[Bool.or_eq_false_iff,decide_eq_false_iff_not]at h;obtain⟨g0,g1⟩:=hg;have hge:=UW hge;exact⟨E5.2 (by omega),trivial,by rw[show g=n by omega]⟩
theorem J1 (n:Int):aj Tryz.prog 28 [.it .i64 n] [] (TI n) (fun _ _=>False):=bx (inl:=cw) (ann:=(kW [(28,5,Uh [2,3,4,13] (fun g=> [(14,.it .i64 g)]) 0 tS eS lX (yK n) n)])) aq (O2 n) (by kernel_rfl)
theorem Cw:p5 Tryz.prog 28 Ol:=by
 intro args res K KP h;unfold Ol at h;split at h
 ·split at h
  ·rename_i n hn;refine aj.args (ee.rd (gF .i64) hn ee.nil) ?_;cases hb:fH n with
   |false=>exact aj.pure rfl rfl ((J1 n).mono (fun v r hv=>Pf hb hv) fun _ _ h=>h) (h.1 hb)
   |true=>
    refine aj.Lx (F:=fun j=> .tp [.lp j 0,.ci .i64 0]) rfl ?_ (h.2 hb)
    refine aj.shut (J1 n) fun v r hv=>?_
    obtain⟨j,r',_,h1,h2,h3⟩:=L2 hb hv;rcases h1 with rfl|h1
    ·exact .inl ⟨j,h2,h3⟩
    ·exact .inr ⟨j,r',h1,j,h2,h3⟩
  ·exact h.elim
 ·exact h.elim
theorem Ll (i:Int) (o:Sx.Obj):
 ((!decide (cC [] i=0))=true->cC [] i=eH [] i o)/\((!decide (cC [] i=0))=false->False):=by
 refine⟨fun _=>?_,fun h=>by simp[pN]at h⟩
 rw[DV,pN]
theorem Le (i:Int) (o:Sx.Obj):aj Tryz.prog 30 [kz,.it .i64 i,.ob o] [] (qU (.it .i64 (eH [] i o))) (fun _ _=>False):=bx (inl:=cw) (ann:=aQ) (ab vB (ab yU aq)) (Ll i o) (by kernel_rfl)
theorem ME (L:List Sx.Obj) (i:Int) (o:Sx.Obj):
 ((!decide (cC L i=0))=true->cC L i=eH L i o/\L=bO L i o)/\
   ((!decide (cC L i=0))=false->
     ((!decide (dz o (dJ (ar L))=0))=true->dz o (dJ (ar L))=eH L i o/\L=bO L i o)/\
       ((!decide (dz o (dJ (ar L))=0))=false->
         (0<=i/\i< ↑(ar L))/\i.toNat<ar L/\0=eH L i o/\cS L i.toNat o=bO L i o)):=by
 refine⟨fun h=>?_,fun h=>⟨fun h2=>?_,fun h2=>?_⟩⟩
 ·obtain⟨a,b⟩:=Nx (o:=o) (show cC L i≠0 by simpa using h)
  rw[a,b];exact⟨rfl,rfl⟩
 ·obtain⟨a,b⟩:=OU (o:=o) (show cC L i=0 by simpa using h) (show dz o (ar L:Int)≠0 by unfold dJ at h2;simpa using h2)
  rw[a,b];exact⟨rfl,rfl⟩
 ·have h:=(show cC L i=0 by simpa using h)
  have hb:=mN.1 h;obtain⟨a,b⟩:=rL (o:=o) h (show dz o (ar L:Int)=0 by unfold dJ at h2;simpa using h2)
  rw[a,b];exact⟨hb,by unfold ar;omega,rfl,rfl⟩
theorem NB (L:List Sx.Obj) (i:Int) (o:Sx.Obj):aj Tryz.prog 30 [.lp 0 0,.it .i64 i,.ob o] [.blk tS (.ag [.sa 1]),.obs eS 2 L,.gen 1] (SZ (.it .i64 (eH L i o)) (bO L i o)) (fun _ _=>False):=bx (inl:=cw) (ann:=aQ) (ab vB (ab yU aq)) (ME L i o) (by kernel_rfl)
theorem L3 (i:Int) (o:Sx.Obj):
 ((!decide (cC [] i=0))=true->cC [] i=eH [] i o)/\
   ((!decide (cC [] i=0))=false->
     ((!decide (dz o 0=0))=true->dz o 0=eH [] i o)/\((!decide (dz o 0=0))=false->False)):=by
 refine⟨fun _=>?_,fun h=>by simp[pN]at h⟩
 rw[DV,pN]
theorem LK (i:Int) (o:Sx.Obj):aj Tryz.prog 30 [.lp 0 0,.it .i64 i,.ob o] [.ro (.blk tS (.ag [.nl (.slice none 0 0)]))] (qU (.it .i64 (eH [] i o))) (fun _ _=>False):=bx (inl:=cw) (ann:=aQ) (ab vB (ab yU aq)) (L3 i o) (by kernel_rfl)
theorem bY:p5 Tryz.prog 30 Of:=by
 intro args res K KP h;unfold Of at h;split at h
 ·split at h
  ·rename_i i hi;split at h
   ·rename_i o ho;refine aj.args (ee.kN (ee.rd (gF .i64) hi (ee.rd Aq ho ee.nil))) ?_;split at h
    ·split at h
     ·exact aj.pure rfl rfl ((Le i o).mono (fun _ _ h=>dE h) fun _ _ h=>h) h
     ·exact h.elim
    ·split at h
     ·rename_i hoff;have hoff:=UU.1 hoff;subst hoff;split at h
      ·rename_i hr;split at h
       ·rename_i hc;simp only[US,UU]at hc;obtain⟨rfl,rfl⟩:=hc;exact TX hr rfl rfl (fun _ _=>NB _ i o) h
       ·exact h.elim
      ·rename_i hr;split at h
       ·rename_i hc;simp only[US,UU]at hc;obtain⟨rfl,hz⟩:=hc;have:=vW hz;subst this;refine aj.J9 (r0:= .blk tS (.ag [.nl (.slice none 0 0)])) (by unfold dw;rw[hr]) (by simp) (fun κ=>rfl) rfl rfl ((LK i o).mono (fun _ _ h=>dE h) fun _ _ h=>h) h
       ·exact h.elim
      ·exact h.elim
     ·exact h.elim
    ·exact h.elim
   ·exact h.elim
  ·exact h.elim
 ·exact h.elim
end Go.Proofs.YtlblcfaclmpekaaGreat
namespace Go.Sx
def jb (r b:Int):Bool:=decide ((r.tdiv b).tmod 2=1)
def u9 (r m g:Int):Int:=(if 2<=g/\(jb r 1||jb m 1)=true then 1 else 0)+(if 4<=g/\(jb r 2||jb m 2)=true then 2 else 0)+(if 8<=g/\(jb r 4||jb m 4)=true then 4 else 0)
def je (r m:Int):Int:=u9 r m 8
def cg (k:Key) (r:Int):Key:= {k with rights:=r}
def sK (k:Key):Key:=if k.kind=2 then cg k (je k.rights 3)else if k.kind=3 then cg k 1 else if k.kind=1\/k.kind=8 then k else void
def fU (k:Key):Key:=if aP k then sK k else void
def G9:Ct:=Rf rK fun k=> .tp [.key (fU k),.it .i64 (bM k)]
def aM (L:List Obj) (k:Key) (kind:Int) (c:Bool):Int:=if ar L=0 then 1 else if(!aO L k|| !decide (k.kind=kind))=true then 190 else if(c&& !decide (k.rights.tmod 4=0))=true then 191 else 0
def xm (k:Key):Bool:=decide ((k.rights.tdiv 2).tmod 2=1)
def iI (L:List Obj) (o:Obj) (k:Key) (i:Int):Key:=if xm k then sK (ae L (o.slots.at i.toNat))else ae L (o.slots.at i.toNat)
def dT (L:List Obj) (k:Key) (i:Int):Key:=iI L (ai L k.oid.toNat free) k i
def mB (k:Key) (i:Int):Prop:=0<=i/\i<16/\aP k=true
def lK (i:Int):Bool:=decide (0<=i)&&decide (i<16)
def cA (L:List Obj) (k:Key) (i:Int):Int:=if aM L k 2 false=0 then(if lK i then 0 else 4)else aM L k 2 false
def aH (L:List Obj) (k:Key) (i:Int):Key:=if cA L k i=0 then dT L k i else void
def bJ (L:List Obj) (v:Key):Bool:=aP v&&decide (cF v<(ar L:Int))
def bq (L:List Obj) (k:Key) (i:Int) (v:Key):Int:=if aM L k 2 true=0 then(if lK i then(if bJ L v then 0 else 2)else 4)else aM L k 2 true
def eh (L:List Obj) (k:Key) (i:Int) (v:Key):Key:=if bq L k i v=0 then dT L k i else void
def fu (o:Obj) (s:bN):Obj:= {o with slots:=s}
def s8 (L:List Obj) (k:Key) (s:bN):List Obj:=cS L k.oid.toNat (fu (ai L k.oid.toNat free) s)
def dC (L:List Obj) (k:Key) (i:Int) (v:Key):List Obj:=if bq L k i v=0 then s8 L k ((ai L k.oid.toNat free).slots.put i.toNat (ae L v))else L
def fS (L:List Obj) (k:Key):List Obj:=if aM L k 2 true=0 then s8 L k fT else L
def b6 (L:List Obj) (t f:Key):Int:=if aM L t 2 true=0 then aM L f 2 false else aM L t 2 true
def fe (L:List Obj) (t f:Key) (g:Int):bN:=(List.range g.toNat).foldl (fun s (j:Nat)=>s.put j (dT L f (j:Int))) (ai L t.oid.toNat free).slots
def fq (L:List Obj) (t f:Key):List Obj:=if b6 L t f=0 then s8 L t (fe L t f 16)else L
def an (L:List Obj):Prop:=zU L=true
def uF (g:Int):Prop:=0<=g/\g<=16
def kA:Arg Key:=BR rK V.key
def iA:Arg Int:=BR (rI .i64) (V.it .i64)
def bA:Arg Bool:=BR toBool V.bo
def oA:Arg Obj:=BR rO V.ob
def sA:Arg (Option (List Obj)):=Td tS eS
def zY (o:Option (List Obj)):List Obj:=match o with
 |none=> []
 |some L=>L
def nB:lQ (Obj×Option (List Obj)×Key×Unit):=bD oA (bD sA (bD kA kc))
def Pw:Ct:=BW (bD (Rd nB) (bD iA kc)) (fun x=>some (mB x.1.2.2.1 x.2.1)) fun x=> .key (iI (zY x.1.2.1) x.1.1 x.1.2.2.1 x.2.1)
def Qr:Ct:=BW (bD sA (bD kA (bD iA kc))) (fun _=>none) fun x=> .tp [.key (aH (zY x.1) x.2.1 x.2.2.1),.it .i64 (cA (zY x.1) x.2.1 x.2.2.1)]
theorem GS {r m g:Int}:0<=u9 r m g/\u9 r m g<=7:=by
 unfold u9;repeat' split
 all_goals omega
theorem Ki {r:Int} (h0:0<=r) (h1:r<=7):aS .or .i64 r 3=je r 3:=by
 have:r=0\/r=1\/r=2\/r=3\/r=4\/r=5\/r=6\/r=7:=by omega
 rcases this with rfl|rfl|rfl|rfl|rfl|rfl|rfl|rfl<;>decide
theorem AU {r:Int} (h0:0<=r) (h1:r<=1):aS .or .i64 r 1=1:=by
 have:r=0\/r=1:=by omega
 rcases this with rfl|rfl<;>decide
theorem gD {k:Key} (h:aP k=true):0<=k.rights/\k.rights<=dZ k.kind:=by
 simp only[aP,US,UT]at h;omega
theorem nP:aP void=true:=by decide
theorem nm (L:List Obj) (k:Key):aP (ae L k)=true:=by
 unfold ae;split
 ·exact nP
 ·rename_i h;simp only[Bool.or_eq_true,not_or,Bool.not_eq_true,Bool.not_eq_false']at h;exact h.1.2
theorem Bb (L:List Obj) (k:Key):fU (ae L k)=sK (ae L k):=by unfold fU;rw[nm,U0 rfl]
theorem T9 {r:Int} (h0:0<=r) (h1:r<=7):decide (aS .and .i64 r 2=0)= !decide ((r.tdiv 2).tmod 2=1):=by
 have:r=0\/r=1\/r=2\/r=3\/r=4\/r=5\/r=6\/r=7:=by omega
 rcases this with rfl|rfl|rfl|rfl|rfl|rfl|rfl|rfl<;>decide
theorem Mt {r:Int} (h0:0<=r) (h1:r<=7):decide (aS .and .i64 r 3=0)=decide (r.tmod 4=0):=by
 have:r=0\/r=1\/r=2\/r=3\/r=4\/r=5\/r=6\/r=7:=by omega
 rcases this with rfl|rfl|rfl|rfl|rfl|rfl|rfl|rfl<;>decide
theorem NP (n:Int):dZ n<=7:=by unfold dZ;split<;>(try split)<;>omega
theorem o7 {k:Key} (h:aP k=true):0<=k.rights/\k.rights<=7:=by
 have:=gD h;have:=NP k.kind;omega
theorem er {L:List Obj} {k:Key} (h:aO L k=true):aP k=true/\0<=k.oid/\k.oid<(L.length:Int)/\aa L k=ai L k.oid.toNat free/\(ai L k.oid.toNat free).kind=iE k:=by
 have h':=h;unfold aO at h;simp only[US,UT]at h;obtain⟨⟨h1,h2⟩,h3⟩:=h;have hb:=mN.1 h2;have hn:0<=cF k:=(vY h').1;simp only[b9,US,Bool.or_eq_true,UT]at h3;refine⟨h3.1,hb.1,hb.2,by unfold aa;rw[h',U0 rfl],?_⟩
 rcases h3.2 with h|h
 ·omega
 ·exact h.1.1
theorem Dt {L:List Obj} {o:Obj} {k:Key} {i:Int} (hq:mB k i):(0<=i/\i< ↑16)/\
  ((!decide (aS BinOp.and IntKind.i64 k.rights 2=0))=true->fU (ae L (o.slots.at i.toNat))=iI L o k i)/\
    ((!decide (aS BinOp.and IntKind.i64 k.rights 2=0))=false->ae L (o.slots.at i.toNat)=iI L o k i):=by
 obtain⟨h0,h1,h2⟩:=hq;have hr:=o7 h2;rw[T9 hr.1 hr.2,Bb];unfold iI xm;refine⟨⟨h0,by omega⟩,fun h=>?_,fun h=>?_⟩
 ·rw[U0 (by simpa using h)]
 ·rw[UZ (by simpa using h)]
theorem j9 {L:List Obj} {k:Key} {d:Int} {c:Bool} (h:aM L k d c=0):aO L k=true/\k.kind=d/\(c=true->k.rights.tmod 4=0):=by
 unfold aM at h;split at h
 ·omega
 ·split at h
  ·omega
  ·rename_i h2;simp only[Bool.or_eq_true,Bool.not_eq_true',decide_eq_false_iff_not,not_or,Bool.not_eq_false,Decidable.not_not]at h2;split at h
   ·omega
   ·rename_i h3;refine⟨h2.1,h2.2,fun hc=>?_⟩
    simpa[hc]using h3
theorem lZ:lB kA:=py h9 (fun _=>rfl) fun v x h=>RV h
theorem Oe:lB oA:=py Aq (fun _=>rfl) fun v x h=>by cases v<;>simp[rO]at h;rfl
theorem Oi:lB bA:=py Gy (fun _=>rfl) fun v x h=>by cases v<;>simp[toBool]at h<;>rfl
theorem fE:lB iA:=py (gF .i64) (fun _=>rfl) fun v x h=>by cases v<;>simp[rI,toInt]at h<;>rfl
theorem qs:lB sA:=PW _ _
theorem Si:ia nB:=aK Oe (aK qs (aK lZ dP))
def yZ (x:V) (M:List Obj) (v:V) (r:List aA):Prop:=
 match ak r 0 with
 | .store t e L=>if t==tS&&e==eS then qU x v r/\L=M else False
 |_=>False
theorem D9 {x:V} {M:List Obj} {v:V} {r:List aA} (h:yZ x M v r):vh x v r/\ak r 0= .store tS eS M:=by
 unfold yZ at h;split at h
 ·rename_i hr;split at h
  ·rename_i hc;simp only[US,UU]at hc;obtain⟨rfl,rfl⟩:=hc;obtain⟨h1,rfl⟩:=h;exact⟨dE h1,hr⟩
  ·exact h.elim
 ·exact h.elim
def Ft {α:Type} (B:List V->Option α) (Q:List Obj->α->Prop) (F:List Obj->α->V) (M:List Obj->α->List Obj):nf:=fun args res K=>
 match args with
 |a::l=>match B l with
  |some x=>match a with
   | .nl v=>match v with
     | .pointer none=>K (F [] x) res
     |_=>False
   | .lp k off=>if off==0 then match ak res k with
     | .store t e L=>if t==tS&&e==eS then Q L x/\K (F L x) (bC res k (.store tS eS (M L x)))else False
     | .blk t c=>if t==tS&&Sh c then K (F [] x) res else False
     |_=>False
     else False
   |_=>False
  |none=>False
 |_=>False
def S6:V:= .ag [.nl (.slice none 0 0)]
theorem lg {P:Program} {f:Nat} {α:Type} {B:List V->Option α} {m:α->List V} {Q:List Obj->α->Prop} {F:List Obj->α->V} {M:List Obj->α->List Obj} (hB:∀l x,B l=some x->ee l (m x)) (hid:∀x,lf (m x)=true) (hF:∀L x,jM (F L x)=true)
  (h0:∀x,aj P f (kz::m x) [] (qU (F [] x)) (fun _ _=>False)) (hz:∀x,aj P f (.lp 0 0::m x) [.ro (.blk tS S6)] (qU (F [] x)) (fun _ _=>False))
  (h1:∀L x,Q L x->(∀o∈L,o.wf)->L.length<=9223372036854775807->aj P f (.lp 0 0::m x) [.store tS eS L] (yZ (F L x) (M L x)) (fun _ _=>False)):p5 P f (Ft B Q F M):=by
 intro args res K KP h;unfold Ft at h;split at h
 case h_2=>exact h.elim
 split at h
 case h_2=>exact h.elim
 rename_i x hx;refine aj.args (ee.kN (hB _ _ hx)) ?_;split at h
 ·split at h
  ·exact aj.pure (by simp only[lf,jM,Bool.true_and];exact hid x) (hF _ _) ((h0 x).mono (fun _ _ h=>dE h) fun _ _ h=>h) h
  ·exact h.elim
 ·split at h
  ·rename_i hoff;have hoff:=UU.1 hoff;subst hoff;split at h
   ·rename_i hr;split at h
    ·rename_i hc;simp only[US,UU]at hc;obtain⟨rfl,rfl⟩:=hc;refine aj.zS hr (hid x) (hF _ _) (aj.fact (k:=0) rfl fun w1 w2=>(h1 _ x h.1 w1 w2).mono (fun v r hv=>D9 hv |> fun⟨a,b⟩=>⟨fun J K=>a J K,b⟩) fun _ _ h=>h) h.2
    ·exact h.elim
   ·rename_i hr;split at h
    ·rename_i hc;simp only[US,UU]at hc;obtain⟨rfl,hz'⟩:=hc;have:=vW hz';subst this;exact aj.J9 (r0:= .blk tS S6) (by unfold dw;rw[hr];rfl) (by simp) (fun κ=>rfl) (hid x) (hF _ _) ((hz x).mono (fun _ _ h=>dE h) fun _ _ h=>h) h
    ·exact h.elim
   ·exact h.elim
  ·exact h.elim
 ·exact h.elim
def S9 (l:List V):Option Key:=match l with
 | [a]=>rK a
 |_=>none
def NR (l:List V):Option (Key×Key):=match l with
 | [a,b]=>match rK a with
   |some k=>match rK b with
    |some k'=>some (k,k')
    |none=>none
   |none=>none
 |_=>none
def JB (l:List V):Option (Key×Int×Key):=match l with
 | [a,b,c]=>match rK a with
   |some k=>match rI .i64 b with
    |some i=>match rK c with
     |some k'=>some (k,i,k')
     |none=>none
    |none=>none
   |none=>none
 |_=>none
theorem J8:∀l x,S9 l=some x->ee l [.key x]:=fun l x h=>by
 unfold S9 at h;split at h
 ·exact ee.rd h9 h ee.nil
 ·simp at h
theorem DN:∀l x,NR l=some x->ee l [.key x.1,.key x.2]:=fun l x h=>by
 unfold NR at h;split at h
 ·split at h
  ·rename_i h1;split at h<;>simp only[UQ,reduceCtorEq]at h
   rename_i h2;subst h;exact ee.rd h9 h1 (ee.rd h9 h2 ee.nil)
  ·simp at h
 ·simp at h
theorem JG:∀l x,JB l=some x->ee l [.key x.1,.it .i64 x.2.1,.key x.2.2]:=fun l x h=>by
 unfold JB at h;split at h
 ·split at h
  ·rename_i h1;split at h
   ·rename_i h2;split at h<;>simp only[UQ,reduceCtorEq]at h
    rename_i h3;subst h;exact ee.rd h9 h1 (ee.rd (gF .i64) h2 (ee.rd h9 h3 ee.nil))
   ·simp at h
  ·simp at h
 ·simp at h
def tK:Nat:=44
def zq (g:Int):Nat:=(16-g).toNat
def PM:nf:=Ft JB (fun L _=>an L) (fun L x=> .tp [.key (eh L x.1 x.2.1 x.2.2),.it .i64 (bq L x.1 x.2.1 x.2.2)]) fun L x=>dC L x.1 x.2.1 x.2.2
def O0:nf:=Ft S9 (fun L _=>an L) (fun L x=> .it .i64 (aM L x 2 true)) fun L x=>fS L x
def Px:nf:=Ft NR (fun L _=>an L) (fun L x=> .it .i64 (b6 L x.1 x.2)) fun L x=>fq L x.1 x.2
theorem J0 {L:List Obj} {k:Key} {d:Int} {c:Bool} (h:(!decide (0<ah L))=true):aM L k d c=1:=by
 unfold aM;unfold ah at h;rw[U0 (by simp at h;omega)]
theorem FT {L:List Obj} {k:Key} {d:Int} {c:Bool} (h:(!decide (0<ah L))=false) (h2:(!(aO L k&&decide (k.kind=d)))=true):aM L k d c=190:=by
 unfold aM;unfold ah at h;rw[UZ (by simp at h;omega),U0 (by simpa using h2)]
theorem lr {L:List Obj} {k:Key} {d:Int} (h2:(!(aO L k&&decide (k.kind=d)))=false):aO L k=true/\k.kind=d:=by simpa using h2
theorem Pj {L:List Obj} {k:Key} {d:Int} (h:(!decide (0<ah L))=false) (h2:(!(aO L k&&decide (k.kind=d)))=false) (h3:(!decide (aS BinOp.and IntKind.i64 k.rights 3=0))=true):aM L k d true=191:=by
 have hr:=o7 (er (lr h2).1).1;rw[Mt hr.1 hr.2]at h3;unfold aM;unfold ah at h;rw[UZ (by simp at h;omega),UZ (by simpa using h2),U0 (by simpa using h3)]
theorem F3 {L:List Obj} {k:Key} {d:Int} (h:(!decide (0<ah L))=false) (h2:(!(aO L k&&decide (k.kind=d)))=false) (h3:(!decide (aS BinOp.and IntKind.i64 k.rights 3=0))=false):aM L k d true=0:=by
 have hr:=o7 (er (lr h2).1).1;rw[Mt hr.1 hr.2]at h3;unfold aM;unfold ah at h;rw[UZ (by simp at h;omega),UZ (by simpa using h2),UZ (by simpa using h3)]
theorem Ee {L:List Obj} {k:Key} {d:Int} (h:(!decide (0<ah L))=false) (h2:(!(aO L k&&decide (k.kind=d)))=false):aM L k d false=0:=by
 unfold aM;unfold ah at h;rw[UZ (by simp at h;omega),UZ (by simpa using h2),UZ (by simp)]
def cc (n:Int) (k:Key):Prop:=aP k=true/\cF k<n
theorem JO {n:Int} {k:Key}:j8 1 n k=true↔cc n k:=by simp[j8,cc]
theorem Ko (r:Int):0<=je r 3/\je r 3<=7:=GS
theorem Gv {n:Int} (hn:0<=n) {k:Key} (h:cc n k):cc n (sK k):=by
 obtain⟨h1,h2⟩:=h;have hv:cc n void:=⟨nP,by have:=kY.2;omega⟩
 unfold sK;split
 ·rename_i e;have hw:=Ko k.rights
  have h1':aP (cg k (je k.rights 3))=true:=by
   simp only[aP,cg,e,US,UT]at h1⊢;have:dZ 2=7:=rfl;grind
  refine⟨h1',?_⟩;unfold cF at h2⊢;rw[h1'];rw[h1]at h2;exact h2
 ·split
  ·rename_i e
   have h1':aP (cg k 1)=true:=by
    simp only[aP,cg,e,US,UT]at h1⊢;have:dZ 3=1:=rfl;grind
   refine⟨h1',?_⟩;unfold cF at h2⊢;rw[h1'];rw[h1]at h2;exact h2
  ·split
   ·exact⟨h1,h2⟩
   ·exact hv
theorem nc {L:List Obj} (hL:0<L.length) (k:Key):cc (L.length:Int) (ae L k):=by
 have hv:cc (L.length:Int) void:=⟨nP,by have:=kY.2;omega⟩
 unfold ae;split
 ·exact hv
 ·rename_i h;simp only[Bool.or_eq_true,not_or,Bool.not_eq_true,Bool.not_eq_false',Bool.and_eq_false_imp]at h;refine⟨h.1.2,?_⟩;rcases mh k with⟨a,b,c⟩|⟨a,b⟩
  ·rw[b];exact(er (h.2 a)).2.2.1
  ·omega
theorem M8 {L:List Obj} (hL:0<L.length) (k:Key) (i:Int):cc (L.length:Int) (dT L k i):=by
 unfold dT iI;split
 ·exact Gv (by omega) (nc hL _)
 ·exact nc hL _
theorem wU {o:Obj} {n:Int} {s:bN} (h:bu o n=true) (hk:o.kind=1) (hs:∀i,i<16->cc n (s.at i)):bu (fu o s) n=true:=by
 rw[ec]at h⊢;simp only[fu];obtain⟨a1,a2,a3,a4,a5,a6,a7,a8,a9,a10,a11⟩:=h;exact⟨a1,a2,a3,a4,a5,a6,a7,a8,a9,fun i hi=>by rw[hk];exact JO.2 (hs i hi),fun i hi=> .inl (.inl hk)⟩
theorem yx {L:List Obj} {k:Key} (h:aO L k=true) (h2:k.kind=2):(ai L k.oid.toNat free).kind=1:=by
 rw[(er h).2.2.2.2];unfold iE;rw[UZ (by have:=(vY h).1;omega),UZ (by omega)]
theorem wz {L:List Obj} {k:Key} (hL:an L) (h:aO L k=true) (h2:k.kind=2):∀i,i<16->cc (L.length:Int) ((ai L k.oid.toNat free).slots.at i):=fun i hi=>by
 obtain⟨_,b2,b3,_⟩:=er h;have:=(gg.1 hL).2.2 k.oid.toNat (by omega)
 have:=(ec.1 this).2.2.2.2.2.2.2.2.2.1 i hi;rw[yx h h2]at this;exact JO.1 this
theorem mV {L:List Obj} {k:Key} {s:bN} (hL:an L) (h:aO L k=true) (h2:k.kind=2) (hs:∀i,i<16->cc (L.length:Int) (s.at i)):bO L k.oid (fu (aa L k) s)=s8 L k s/\an (s8 L k s):=by
 obtain⟨b1,b2,b3,b4,_⟩:=er h;have hr:=gg.1 hL;have ho:=wU (hr.2.2 k.oid.toNat (by omega)) (yx h h2) hs
 refine⟨?_,?_⟩
 ·rw[b4];exact(rL (mN.2 ⟨b2,b3⟩) (sr ho).symm).2
 ·refine gg.2 ?_;unfold s8;have hl:(cS L k.oid.toNat (fu (ai L k.oid.toNat free) s)).length=L.length:=by simp[cS]
  rw[hl];refine⟨hr.1,hr.2.1,fun i hi=>?_⟩
  by_cases e:i=k.oid.toNat
  ·subst e;rw[show ai (cS L k.oid.toNat (fu (ai L k.oid.toNat free) s)) k.oid.toNat free=fu (ai L k.oid.toNat free) s by simp[ai,cS,UY,hi]]
   exact ho
  ·rw[show ai (cS L k.oid.toNat (fu (ai L k.oid.toNat free) s)) i free=ai L i free by simp[ai,cS,UY,List.getElem?_set,Ne.symm e]]
   exact hr.2.2 i hi
theorem Ar {L:List Obj} {k:Key} {i:Int} {v:Key} (hL:an L) (h:aO L k=true) (h2:k.kind=2) (h0:0<=i) (h1:i<16):∀j,j<16->cc (L.length:Int) (((ai L k.oid.toNat free).slots.put i.toNat (ae L v)).at j):=fun j hj=>by
 rw[bN.eM _ _ _ _ (by omega)]
 split
 ·exact nc (gg.1 hL).1 v
 ·exact wz hL h h2 j hj
theorem Ev {n:Int} (hn:0<=n):∀j,j<16->cc n (fT.at j):=fun j hj=>by
 rw[Dl.1 rfl j hj];exact⟨nP,by have:=kY.2;omega⟩
theorem rN (L:List Obj) (v:Key):(decide (bM v=0)&&(!aN v||decide (bE v<ah L)))=bJ L v:=by
 unfold bJ bM bE ah;rcases mh v with⟨a,b,c⟩|⟨a,b⟩
 ·rw[a,b];cases aP v<;>simp
 ·rw[a,b];have:(-1:Int)<(ar L:Int):=by omega
  cases aP v<;>simp[this]
theorem xL {L:List Obj} {t f:Key} {g:Int} (h0:0<=g):fe L t f (g+1)=(fe L t f g).put g.toNat (dT L f g):=by
 unfold fe;rw[show(g+1).toNat=g.toNat+1 by omega,List.range_succ,List.foldl_append]
 simp only[List.foldl_cons,List.foldl_nil];rw[show((g.toNat:Nat):Int)=g by omega]
theorem Hn {L:List Obj} {t f:Key} (h:aa L t=ai L t.oid.toNat free):aa L t=fu (aa L t) (fe L t f 0):=by
 unfold fe fu;simp[h]
theorem Jc {L:List Obj} {t f:Key} {g:Int} (h0:0<=g) (h:aa L f=ai L f.oid.toNat free) (o:Obj) (s:bN):({kind:=(fu o (fe L t f g)).kind,count:=(fu o (fe L t f g)).count,calls:=(fu o (fe L t f g)).calls,slots:=(fu o (fe L t f g)).slots.put g.toNat (iI L (aa L f) f g),bytes:=(fu o (fe L t f g)).bytes}:Obj)=fu o (fe L t f (g+1)):=by
 rw[xL h0];unfold dT;rw[h];rfl
theorem wP {L:List Obj} {t f:Key} (hL:an L) (h:aO L t=true) (h2:t.kind=2):∀n:Nat,n<=16->∀j,j<16->cc (L.length:Int) ((fe L t f n).at j)
 |0,_,j,hj=>by
  unfold fe;exact wz hL h h2 j hj
 |n+1,hn,j,hj=>by
  rw[show((n+1:Nat):Int)=(n:Int)+1 by omega,xL (by omega),bN.eM _ _ _ _ (by omega)]
  split
  ·exact M8 (gg.1 hL).1 _ _
  ·exact wP hL h h2 n (by omega) j hj
structure Sv where
 kind:Int
 slot:Int
 key:Key
 other:Key
def wQ (L:List Obj) (a:Sv):Bool:=
 if a.kind=1 then false else if a.kind=2 then decide (bq L a.key a.slot a.other=0)else if a.kind=3 then decide (aM L a.key 2 true=0)else if a.kind=4 then decide (b6 L a.key a.other=0)else false
def DL (L:List Obj) (a:Sv):List Obj:=
 if a.kind=1 then L else if a.kind=2 then dC L a.key a.slot a.other else if a.kind=3 then fS L a.key else if a.kind=4 then fq L a.key a.other else L
theorem r8 (k:Key):Gi k k=true:=by simp[Gi]
def Sv.wf (x:Sv):Prop:=b7 .i64 x.kind/\b7 .i64 x.slot/\x.key.wf/\x.other.wf
theorem pY (L:List Obj):JP L L=true:=by unfold JP;simp
theorem CT {L:List Obj} {k:Key} {i:Int} {v:Key} (h:bq L k i v=0):aM L k 2 true=0/\0<=i/\i<16:=by
 unfold bq lK at h;split at h
 ·rename_i h1;split at h
  ·rename_i h2;simp at h2;exact⟨h1,h2.1,h2.2⟩
  ·omega
 ·rename_i h1;exact absurd h h1
theorem vS {L:List Obj} {a:Sv} (hL:an L) (h:wQ L a=true):an (DL L a):=by
 unfold wQ at h;unfold DL;split at h
 ·simp at h
 ·rename_i h1;rw[UZ h1];split at h
  ·rename_i h2;rw[U0 h2];have h:=UX h;obtain⟨e1,e2,e3⟩:=CT h;obtain⟨a1,a2,_⟩:=j9 e1;unfold dC;rw[U0 h];exact(mV hL a1 a2 (Ar hL a1 a2 e2 e3)).2
  ·rename_i h2;rw[UZ h2];split at h
   ·rename_i h3;rw[U0 h3];have h:=UX h;obtain⟨a1,a2,_⟩:=j9 h;unfold fS;rw[U0 h];exact(mV hL a1 a2 (Ev (by omega))).2
   ·rename_i h3;rw[UZ h3];split at h
    ·rename_i h4;rw[U0 h4];have h:=UX h;have h':=h;unfold b6 at h';split at h'
     ·rename_i h5;obtain⟨a1,a2,_⟩:=j9 h5;unfold fq;rw[U0 h];exact(mV hL a1 a2 (wP hL a1 a2 16 (by omega))).2
     ·rename_i h5;exact absurd h' h5
    ·simp at h
section
variable {L:List Obj} {k:Key} {s:bN} (h0:0<=k.oid) (h1:k.oid<(L.length:Int))
include h0 h1
end
theorem fG {L:List Obj} {j:Int} (h0:0<=j) (h1:j<(L.length:Int)):az L j=ai L j.toNat free:=by
 unfold az;rw[U0 (mN.2 ⟨h0,h1⟩)]
theorem eJ {L:List Obj} {i:Nat} {x:Obj} (hi:i<L.length) (j:Nat):ai (cS L i x) j free=if j=i then x else ai L j free:=by
 by_cases e:j=i
 ·subst e;rw[U0 rfl];simp[ai,cS,UY,hi]
 ·rw[UZ e];simp[ai,cS,UY,List.getElem?_set,Ne.symm e]
theorem gJ {L:List Obj} {i:Nat} {x:Obj}:(cS L i x).length=L.length:=by simp[cS]
end Go.Sx
set_option maxRecDepth 100000
namespace Go.Sx
theorem nT {κ:Nat->Option Nat} {x a:V} {l m:List V} (h1:ff κ x=some a) (h2:ef κ l=some m):ef κ (x::l)=some (a::m):=by
 simp only[ef];rw[h1];simp only;rw[h2]
end Go.Sx
set_option maxRecDepth 100000
namespace Go.Sx
def KC {α:Type} (B:lQ α) (l:List V):Option α:=match B.rd [] l with
 |some p=>match p.1 with
  | []=>some p.2
  |_=>none
 |none=>none
theorem nU {α:Type} {B:lQ α} (hB:ia B) (hid:∀a,lf (B.cn a 0)=true):∀l x,KC B l=some x->ee l (B.cn x 0):=fun l x h=>by
 unfold KC at h;split at h
 case h_2=>simp at h
 rename_i p hp;obtain⟨pls,a⟩:=p;split at h
 case h_2=>simp at h
 rename_i h1;simp only at h1;subst h1;simp only[UQ]at h;subst h;obtain⟨_,_,_,b4⟩:=hB _ _ _ _ hp;obtain⟨c1,c2⟩:=b4 [] [];intro J K hk;have e1:=(c1 J K hk).1;have e2:=c2 K hk;have e3:eF (fun _=>False) (B.cn a 0):=pX _ (hid a) e2
 refine⟨?_,pX _ (hid a) e2⟩;rw[<-e1];exact fl (N:=fun _=>False) (fun _ h=>h.elim) _ e3
def Q6 {α:Type} (B:List V->Option α) (R:α->Prop) (Q:List Obj->α->Prop) (F:List Obj->α->V) (M:List Obj->α->List Obj):nf:=fun args res K=>
 match args with
 |a::l=>match B l with
  |some x=>R x/\match a with
   | .nl v=>match v with
     | .pointer none=>K (F [] x) res
     |_=>False
   | .lp k off=>if off==0 then match ak res k with
     | .store t e L=>if t==tS&&e==eS then Q L x/\K (F L x) (bC res k (.store tS eS (M L x)))else False
     | .blk t c=>if t==tS&&Sh c then K (F [] x) res else False
     |_=>False
     else False
   |_=>False
  |none=>False
 |_=>False
theorem yG {P:Program} {f:Nat} {α:Type} {B:List V->Option α} {m:α->List V} {R:α->Prop} {Q:List Obj->α->Prop} {F:List Obj->α->V} {M:List Obj->α->List Obj} (hB:∀l x,B l=some x->ee l (m x)) (hid:∀x,lf (m x)=true) (hF:∀L x,jM (F L x)=true)
  (h0:∀x,R x->aj P f (kz::m x) [] (qU (F [] x)) (fun _ _=>False)) (hz:∀x,R x->aj P f (.lp 0 0::m x) [.ro (.blk tS S6)] (qU (F [] x)) (fun _ _=>False))
  (h1:∀L x,Q L x->aj P f (.lp 0 0::m x) [.store tS eS L] (yZ (F L x) (M L x)) (fun _ _=>False)):p5 P f (Q6 B R Q F M):=by
 intro args res K KP h;unfold Q6 at h;split at h
 case h_2=>exact h.elim
 split at h
 case h_2=>exact h.elim
 rename_i x hx;obtain⟨hR,h⟩:=h;refine aj.args (ee.kN (hB _ _ hx)) ?_;split at h
 ·split at h
  ·exact aj.pure (by simp only[lf,jM,Bool.true_and];exact hid x) (hF _ _) ((h0 x hR).mono (fun _ _ h=>dE h) fun _ _ h=>h) h
  ·exact h.elim
 ·split at h
  ·rename_i hoff;have hoff:=UU.1 hoff;subst hoff;split at h
   ·rename_i hr;split at h
    ·rename_i hc;simp only[US,UU]at hc;obtain⟨rfl,rfl⟩:=hc;exact aj.zS hr (hid x) (hF _ _) ((h1 _ x h.1).mono (fun v r hv=>D9 hv |> fun⟨a,b⟩=>⟨fun J K=>a J K,b⟩) fun _ _ h=>h) h.2
    ·exact h.elim
   ·rename_i hr;split at h
    ·rename_i hc;simp only[US,UU]at hc;obtain⟨rfl,hz'⟩:=hc;have:=vW hz';subst this;exact aj.J9 (r0:= .blk tS S6) (by unfold dw;rw[hr];rfl) (by simp) (fun κ=>rfl) (hid x) (hF _ _) ((hz x hR).mono (fun _ _ h=>dE h) fun _ _ h=>h) h
    ·exact h.elim
   ·exact h.elim
  ·exact h.elim
 ·exact h.elim
def cP (n:Int):Key:=⟨1,0,0,0,0,n⟩
theorem cz {L:List Obj} (h:an L) (j:Nat) (hj:j<L.length):bu (ai L j free) (L.length:Int)=true:=(gg.1 h).2.2 j hj
theorem jy {L:List Obj} (h:an L):1<=L.length/\L.length<=64:=⟨(gg.1 h).1,(gg.1 h).2.1⟩
theorem G4 {L M:List Obj} (h:an L) (hl:M.length=L.length) (hm:∀j,j<L.length->bu (ai M j free) (L.length:Int)=true):an M:=by
 obtain⟨a,b⟩:=jy h;unfold an;rw[gg,hl];exact⟨a,b,hm⟩
theorem jD {L:List Obj} {i:Nat} {x:Obj} (h:an L) (hx:bu x (L.length:Int)=true):an (cS L i x):=by
 by_cases hi:i<L.length
 ·refine G4 h gJ fun j hj=>?_
  rw[eJ hi];split
  ·exact hx
  ·exact cz h j hj
 ·rw[show cS L i x=L from List.set_eq_of_length_le (by omega)];exact h
theorem jV {L:List Obj} {i:Int} {x:Obj} (h0:0<=i) (h1:i<(L.length:Int)) (hx:bu x (L.length:Int)=true):bO L i x=cS L i.toNat x/\eH L i x=0:=by
 have e:cC L i=0:=mN.2 ⟨h0,h1⟩;have e2:dz x (ar L:Int)=0:=by unfold dz;exact U0 hx
 exact⟨(rL e e2).2,(rL e e2).1⟩
theorem K3 {n:Int} {s:bN} {k:Key} {j:Nat} (hj:j<16) (h:∀i,i<16->cc n (s.at i)) (hk:cc n k) (i:Nat) (hi:i<16):cc n ((s.put j k).at i):=by
 rw[bN.eM _ _ _ _ hj];split
 ·exact hk
 ·exact h i hi
theorem pF {n:Int} (hn:0<=n) (x:Int):cc n (cP x):=by
 refine⟨by simp[cP,aP,dZ,qj,gm,n9,eT],?_⟩
 unfold cF;rw[show gm (cP x).kind=false by simp[cP,gm]]
 simp;omega
theorem pC {o:Obj} {n:Int} (h:bu o n=true) (hk:o.kind=1) (i:Nat) (hi:i<16):cc n (o.slots.at i):=by
 obtain⟨a1,a2,a3,a4,a5,a6,a7,a8,a9,a10,a11⟩:=ec.1 h;have:=a10 i hi;rw[hk]at this;exact JO.1 this
theorem r7 (o:Obj):B7 o o=true:=by simp[B7]
end Go.Sx
