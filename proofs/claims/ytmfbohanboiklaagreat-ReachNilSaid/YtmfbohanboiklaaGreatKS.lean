import Derived.Test.YtmfbohanboiklaaGreatKO
import Derived.Test.YtmfbohanboiklaaGreatSxF
set_option linter.unusedSimpArgs false
set_option linter.unusedVariables false
namespace Go.Sx
def bD (L:List Obj):Bool:=decide (ar L=0)
def aF (L:List Obj) (oid:Int):Int:=if ar L=0 then 1 else if oid<0\/(ar L:Int)<=oid then 4 else 0
def bO (L:List Obj) (oid:Int):Obj:=if aF L oid=0 then aB L oid.toNat free else free
def ee (L:List Obj):Int:=(ar L:Int)
def fJ (L:List Obj) (k:Key):Bool:=bn k&&decide (aF L k.oid=0)&&bW k (aB L k.oid.toNat free)
def fb (L:List Obj) (k:Key):Obj:=if fJ L k then aB L k.oid.toNat free else free
def cL (L:List Obj) (k:Key):Key:=if bD L|| !aC k||(bn k&& !fJ L k)then void else k
def cH (n:Int):Bool:=decide (1<=n)&&decide (n<=64)
def dJ (n:Int):List Obj:=List.replicate n.toNat free
def eJ (L:List Obj) (i:Int) (o:Obj):List Obj:=if aF L i=0/\bc o (ar L:Int)=0 then eW L i.toNat o else L
def dt (L:List Obj) (i:Int) (o:Obj):Int:=if aF L i=0 then bc o (ar L:Int)else aF L i
def cS (l:List Obj):Bool:=decide (1<=ar l)&&decide (ar l<=64)&&(List.range (ar l)).all fun i=>dK (aB l i free) (ar l:Int)
def ec (l:List Obj) (g:Int):List Obj:=l.take g.toNat++List.replicate (l.length-g.toNat) free
def tv (l:List Obj) (g:Int):Prop:=0<=g/\g<=(ar l:Int)/\∀j:Nat,(j:Int)<g->dK (aB l j free) (ar l:Int)=true
def tD (n i:Int):Prop:=0<=i/\i<=n
abbrev tS:Nat:=57
abbrev eS:Nat:=85
def EO (c:Bool) (M:List Obj) (v:V) (r:List ae):Prop:=
 match v with
 | .tp l=>match l with
   | [a,b]=>match a with
     | .nl p=>match p with
       | .pointer none=>c=false/\sq (.ci .i64 2) b r
       |_=>False
     | .lp j off=>match wR r j with
       |some (t,e,L)=>if off==0&&t==tS&&e==eS then c=true/\sq (.ci .i64 0) b r/\L=M else False
       |none=>False
     |_=>False
   |_=>False
 |_=>False
def Io (n:Int):V->List ae->Prop:=EO (cH n) (dJ n)
def H7 (l:List Obj) (v:V) (r:List ae):Prop:=
 match aa r 0 with
 | .ro _=>EO (cS l) l v r
 |_=>False
theorem xP {l:List Obj} {v:V} {r:List ae} (h:H7 l v r):EO (cS l) l v r/\wR r 0=none:=by
 unfold H7 at h;split at h
 ·rename_i hr;refine⟨h,?_⟩;unfold wR uS;rw[hr]
 ·exact h.elim
def Ij (x:V) (M:List Obj) (v:V) (r:List ae):Prop:=
 match uS r 0 with
 |some (t,e,_,L)=>if t==tS&&e==eS then sq x v r/\L=M else False
 |none=>False
def EH:oR:=fun args res K=>
 match args with
 | [a]=>match rI .i64 a with
   |some n=>(cH n=false->K (.tp [tx,.ci .i64 2]) res)/\(cH n=true->K (.tp [.lp res.length 0,.ci .i64 0]) (res++ [.store tS eS (dJ n)]))
   |none=>False
 |_=>False
def I3 (c:V):Bool:=
 match c with
 | .ag l=>match l with
   | [x]=>match x with
     | .nl v=>match v with
       | .slice none 0 0=>true
       |_=>false
     |_=>false
   |_=>false
 |_=>false
theorem BK {c:V} (h:I3 c=true):c= .ag [.nl (.slice none 0 0)]:=by
 unfold I3 at h;split at h
 ·split at h
  ·split at h
   ·split at h
    ·rfl
    ·simp at h
   ·simp at h
  ·simp at h
 ·simp at h
def ET:oR:=fun args res K=>
 match args with
 | [a,b,c]=>match rI .i64 b with
   |some i=>match rO c with
    |some o=>match a with
     | .nl v=>match v with
       | .pointer none=>K (.it .i64 (dt [] i o)) res
       |_=>False
     | .lp k off=>if off==0 then match aa res k with
       | .store t e L=>if t==tS&&e==eS then K (.it .i64 (dt L i o)) (aG res k (.store tS eS (eJ L i o)))else False
       | .blk t c=>if t==tS&&I3 c then K (.it .i64 (dt [] i o)) res else False
       |_=>False
       else False
     |_=>False
    |none=>False
   |none=>False
 |_=>False
structure Jh where
 puts:Bool
 oid:Int
 ob:Obj
def Jh.wf (x:Jh):Prop:=br .i64 x.oid/\x.ob.wf
def DB:Ct:=Gs (.bo true)
abbrev JF:V:= .nl (.slice none 0 0)
theorem uL {α:Type} (l:List α):dp (ar l)=(l.length:Int):=rfl
theorem vb {α:Type} (l:List α):((ar l:Nat):Int)=(l.length:Int):=rfl
def Gp:oR:=fun args res K=>
 match args with
 | [a]=>match a with
   | .sa k=>match aW res k with
     | .arr _ e l=>if e==163 then match l with
       | .ob l=>(cS l=false->K (.tp [tx,.ci .i64 2]) res)/\(cS l=true->K (.tp [.lp res.length 0,.ci .i64 0]) (res++ [.store tS eS l]))
       |_=>False
       else False
     |_=>False
   |_=>False
 |_=>False
def Fz:Ct:=Gw tS eS fun L=> .bo (bD L)
def GU:Ct:=yV tS eS (rI .i64) fun L i=> .it .i64 (aF L i)
def Hl:Ct:=yV tS eS (rI .i64) fun L i=> .tp [.ob (bO L i),.it .i64 (aF L i)]
def sR:Ct:=Gw tS eS fun L=> .it .i64 (ee L)
def CB:Ct:=yV tS eS rK fun L k=> .tp [.ob (fb L k),.bo (fJ L k)]
def Gd:Ct:=yV tS eS rK fun L k=> .key (cL L k)
theorem nm:bD []=true:=rfl
theorem rJ {L:List Obj}:bD L=true↔L= []:=by
 unfold bD ar;simp[List.length_eq_zero_iff]
theorem iG (i:Int):aF [] i=1:=rfl
theorem A9 {L:List Obj} (h:bD L=false) (i:Int):aF L i=if i<0\/(L.length:Int)<=i then 4 else 0:=by
 have:L≠ []:=fun e=>by rw[e]at h;simp[nm]at h
 unfold aF ar;rw[JX (by simpa[List.length_eq_zero_iff]using this)]
theorem qG {L:List Obj} {i:Int}:aF L i=0↔0<=i/\i<(L.length:Int):=by
 unfold aF ar;split
 ·omega
 ·split<;>omega
theorem sA (L:List Obj) (k:Key):((!bn k)=true->free=fb L k/\false=fJ L k)/\
  ((!bn k)=false->
    ((!decide (aF L (dv k)=0)|| !bW k (bO L (dv k)))=true->
      free=fb L k/\false=fJ L k)/\
      ((!decide (aF L (dv k)=0)|| !bW k (bO L (dv k)))=false->
        bO L (dv k)=fb L k/\true=fJ L k)):=by
 have fin:∀b,fJ L k=b->(b=false->free=fb L k)/\b=fJ L k:=fun b h=>⟨fun hb=>by unfold fb;rw[h,hb];rfl,h.symm⟩
 refine⟨fun h=>?_,fun h=>?_⟩
 ·have h:bn k=false:=by simpa using h
  have:=fin false (by unfold fJ;rw[h];rfl)
  exact⟨this.1 rfl,this.2⟩
 ·have h:bn k=true:=by simpa using h
  have ho:dv k=k.oid:=by unfold dv;rw[JY h]
  rw[ho];by_cases hh:aF L k.oid=0
  ·have hg:bO L k.oid=aB L k.oid.toNat free:=by unfold bO;rw[JY hh]
   rw[hg];have e:fJ L k=bW k (aB L k.oid.toNat free):=by unfold fJ;simp[h,hh]
   refine⟨fun hc=>?_,fun hc=>?_⟩
   ·have hc:bW k (aB L k.oid.toNat free)=false:=by simpa[hh]using hc
    have:=fin false (by rw[e,hc])
    exact⟨this.1 rfl,this.2⟩
   ·have hc:bW k (aB L k.oid.toNat free)=true:=by simpa[hh]using hc
    have:=fin true (by rw[e,hc])
    refine⟨?_,this.2⟩;unfold fb;rw[e,hc];rfl
  ·have:=fin false (by unfold fJ;simp[hh])
   exact⟨fun _=>⟨this.1 rfl,this.2⟩,fun hc=>by simp[hh]at hc⟩
theorem ub (L:List Obj) (k:Key):((bD L|| !decide (c9 k=0))=true->void=cL L k)/\
  ((bD L|| !decide (c9 k=0))=false->
    ((bn k&& !fJ L k)=true->void=cL L k)/\((bn k&& !fJ L k)=false->k=cL L k)):=by
 have hc:(!decide (c9 k=0))= !aC k:=by unfold c9;cases aC k<;>simp
 rw[hc];unfold cL;refine⟨fun h=>?_,fun h=>⟨fun h2=>?_,fun h2=>?_⟩⟩
 ·rw[JY];simp only[h,Bool.true_or]
 ·rw[JY];simp only[h2,Bool.or_true]
 ·rw[JX];simp only[h,h2];simp
theorem kU {n:Int}:cH n=true↔1<=n/\n<=64:=by simp[cH]
theorem D9 {g:Int} (h:0<=g):bf (dJ g) free=dJ (g+1):=by
 unfold bf dJ;rw[show(g+1).toNat=g.toNat+1 by omega,List.replicate_succ']
theorem ye {i:Int} {o:Obj}:dt [] i o=1:=by unfold dt;rw[iG];rfl
theorem Ea {L:List Obj} {i:Int} {o:Obj} (h:aF L i≠0):dt L i o=aF L i/\eJ L i o=L:=by
 unfold dt eJ;rw[JX h,JX (fun hh=>h hh.1)];exact⟨rfl,rfl⟩
theorem Fw {L:List Obj} {i:Int} {o:Obj} (h:aF L i=0) (h2:bc o (ar L:Int)≠0):dt L i o=bc o (ar L:Int)/\eJ L i o=L:=by
 unfold dt eJ;rw[JY h,JX (fun hh=>h2 hh.2)];exact⟨rfl,rfl⟩
theorem DE {L:List Obj} {i:Int} {o:Obj} (h:aF L i=0) (h2:bc o (ar L:Int)=0):dt L i o=0/\eJ L i o=eW L i.toNat o:=by
 unfold dt eJ;rw[JY h,JY ⟨h,h2⟩];exact⟨h2,rfl⟩
theorem BA {c:Bool} {M:List Obj} (hn:c=false) {v:V} {r:List ae} (h:EO c M v r):sk (.tp [tx,.ci .i64 2]) v []:=by
 unfold EO at h;split at h
 ·split at h
  ·split at h
   ·split at h
    ·exact CF (cI h.2)
    ·exact h.elim
   ·split at h
    ·split at h
     ·rw[hn]at h;simp at h
     ·exact h.elim
    ·exact h.elim
   ·exact h.elim
  ·exact h.elim
 ·exact h.elim
theorem DI {c:Bool} {M:List Obj} (hn:c=true) {v:V} {r:List ae} (h:EO c M v r):∃j b,v= .tp [.lp j 0,b]/\sk (.ci .i64 0) b []/\wR r j=some (tS,eS,M):=by
 unfold EO at h;split at h
 ·split at h
  ·split at h
   ·split at h
    ·rw[hn]at h;simp at h
    ·exact h.elim
   ·split at h
    ·rename_i hst;split at h
     ·rename_i hc;simp only[JR,JT]at hc;obtain⟨⟨rfl,rfl⟩,rfl⟩:=hc;obtain⟨_,h2,rfl⟩:=h;exact⟨_,_,rfl,cI h2,hst⟩
     ·exact h.elim
    ·exact h.elim
   ·exact h.elim
  ·exact h.elim
 ·exact h.elim
theorem xh {c:Bool} {M:List Obj} (hn:c=true) {v:V} {r:List ae} (h:EO c M v r):∃j r',wR r j=some (tS,eS,M)/\(r'=r\/oA r j=some r')/\aa r' j= .store tS eS M/\∀(κ:Nat->Option Nat) (i:Nat),κ j=some i->gK κ v (.tp [.lp i 0,.ci .i64 0]):=by
 obtain⟨j,b,rfl,hb,hst⟩:=DI hn h
 have ht:∀(κ:Nat->Option Nat) (i:Nat),κ j=some i->gK κ (.tp [.lp j 0,b]) (.tp [.lp i 0,.ci .i64 0]):=fun κ i hi ρ2 ρ3 N N' hv hN hk=>by
  obtain⟨s1,s2,_⟩:=hb ρ2 N;refine⟨?_,hN j i hi hk.1,by simp[ok,br],trivial⟩
  simp only[den,aw,(hv j i hi).1,s1]
 rcases Am hst with h1|⟨r',h1,h2⟩
 ·exact⟨j,r,hst,.inl rfl,h1,ht⟩
 ·exact⟨j,r',hst,.inr h1,h2,ht⟩
theorem CU {x:V} {M:List Obj} {v:V} {r:List ae} (h:Ij x M v r):∃t,uS r 0=some (tS,eS,t,M)/\sk x v r:=by
 unfold Ij at h;split at h
 ·rename_i hst;split at h
  ·rename_i hc;simp only[JR,JT]at hc;obtain⟨rfl,rfl⟩:=hc;obtain⟨h1,rfl⟩:=h;exact⟨_,hst,cI h1⟩
  ·exact h.elim
 ·exact h.elim
theorem Ip {P:Program} {f:Nat} {rest:List V} {res:List ae} {K KP:V->List ae->Prop} {k:Nat} {L M:List Obj} {x:V} (hr:aa res k= .store tS eS L) (hid:ij rest=true) (hx:gy x=true)
  (h:(∀o∈L,o.wf)->L.length<=9223372036854775807->ah P f (.lp 0 0::rest) [.blk tS (.ag [.sa 1]),.obs eS 2 L,.gen 1] (Ij x M) (fun _ _=>False)) (hK:K x (aG res k (.store tS eS M))):ah P f (.lp k 0::rest) res K KP:=by
 refine ah.Cz hr hid hx ?_ hK;refine ah.fact (k:=0) rfl fun w1 w2=>?_
 refine ah.eo (k:=0) rfl ?_;refine ah.shut (h w1 w2) fun v r hv=>?_
 obtain⟨t,h1,h2⟩:=CU hv;obtain⟨r',g1,g2⟩:=rp h1;exact .inr ⟨0,r',g1,fun J K=>h2 J K,g2⟩
theorem kx {l:List Obj}:cS l=true↔1<=l.length/\l.length<=64/\∀i,i<l.length->dK (aB l i free) (l.length:Int)=true:=by
 unfold cS ar;simp only[JR,JS,List.all_eq_true,List.mem_range,and_assoc]
theorem u7 {l:List Obj} (h:¬(1<=l.length/\l.length<=64/\∀i,i<l.length->dK (aB l i free) (l.length:Int)=true)):cS l=false:=by
 cases hr:cS l with
 |false=>rfl
 |true=>exact absurd (kx.1 hr) h
theorem pf {l:List Obj} {g:Int} (h1:g<=(l.length:Int)):(ec l g).length=l.length:=by
 unfold ec;simp only[List.length_append,List.length_take,List.length_replicate];omega
theorem AN {l:List Obj}:dJ (l.length:Int)=ec l 0:=by unfold dJ ec;simp
theorem CV {l:List Obj} {g:Int} (h:(l.length:Int)<=g):ec l g=l:=by
 unfold ec;rw[List.take_of_length_le (by omega),show l.length-g.toNat=0 by omega];simp
theorem Dh {l:List Obj} {g:Int} (h0:0<=g) (h1:g<(l.length:Int)):eW (ec l g) g.toNat (aB l g.toNat free)=ec l (g+1):=by
 unfold eW ec aB;obtain⟨n,rfl⟩:=Int.eq_ofNat_of_zero_le h0;have hn:n<l.length:=by omega
 have e1:((n:Int)+1).toNat=n+1:=by omega
 have e2:((n:Int)).toNat=n:=by omega
 rw[e1,e2];apply List.ext_getElem?
 intro i;rw[List.getElem?_set];have hlt:(List.take n l++List.replicate (l.length-n) free).length=l.length:=by simp;omega
 have htl:(List.take n l).length=n:=by simp;omega
 have htl1:(List.take (n+1) l).length=n+1:=by simp;omega
 by_cases hi:n=i
 ·subst hi;rw[JY rfl,JY (by rw[hlt];exact hn),List.getElem?_append_left (by rw[htl1];omega),List.getElem?_take,JY (by omega),JW,List.getElem?_eq_getElem hn];rfl
 ·rw[JX hi];by_cases hl:i<n
  ·rw[List.getElem?_append_left (by rw[htl];exact hl),List.getElem?_append_left (by rw[htl1];omega),List.getElem?_take,List.getElem?_take,JY hl,JY (by omega)]
  ·rw[List.getElem?_append_right (by rw[htl];omega),List.getElem?_append_right (by rw[htl1];omega),htl,htl1,List.getElem?_replicate,List.getElem?_replicate]
   by_cases hb:i<l.length
   ·rw[JY (by omega),JY (by omega)]
   ·rw[JX (by omega),JX (by omega)]
theorem Gj {l:List Obj} {g:Int} (h0:0<=g) (h1:g<(l.length:Int)) (x:Obj):dt (ec l g) g x=bc x (l.length:Int):=by
 have hh:aF (ec l g) g=0:=qG.2 (by rw[pf (by omega)];exact⟨h0,h1⟩)
 unfold dt ar;rw[JY hh,pf (by omega)]
theorem DP {l:List Obj} {g:Int} (h0:0<=g) (h1:g<(l.length:Int)) (hx:bc (aB l g.toNat free) (l.length:Int)=0):eJ (ec l g) g (aB l g.toNat free)=ec l (g+1):=by
 have hh:aF (ec l g) g=0:=qG.2 (by rw[pf (by omega)];exact⟨h0,h1⟩)
 unfold eJ ar;rw[JY ⟨hh,by rw[pf (by omega)];exact hx⟩]
 exact Dh h0 h1
theorem pL (o:Obj) (n:Int):(bc o n=0/\dK o n=true)\/(bc o n=2/\dK o n=false):=by
 unfold bc;cases dK o n<;>simp
end Go.Sx
namespace Go.Proofs.YtmfbohanboiklaaGreat
open Go.Sx
set_option maxRecDepth 100000
theorem Bw:
 true=bD []:=by
 rfl
theorem Bm (L:List Sx.Obj):
 decide (dp (ar L)=0)=bD L:=by
 unfold bD dp ar;rw[decide_eq_decide];omega
theorem kG:cQ Tryz.prog 45 Fz:=
 B3 (fun _=>rfl) (bx (inl:=cg) (ann:=cm) aS Bw (by kernel_rfl)) (fun L _ _=>bx (inl:=cg) (ann:=cm) aS (Bm L) (by kernel_rfl))
theorem CP (i:Int):
 (bD []=true->1=aF [] i)/\
  (bD []=false->((!decide (i<0))=true->False)/\((!decide (i<0))=false->4=aF [] i)):=by
 exact⟨fun _=>rfl,fun h=>by simp[nm]at h⟩
theorem De (L:List Sx.Obj) (i:Int):
 (bD L=true->1=aF L i)/\
  (bD L=false->
   ((decide (i<0)||decide (dp (ar L)<=i))=true->4=aF L i)/\
     ((decide (i<0)||decide (dp (ar L)<=i))=false->0=aF L i)):=by
 refine⟨fun h=>?_,fun h=>?_⟩
 ·rw[rJ.1 h];rfl
 ·rw[A9 h];unfold dp ar;refine⟨fun h1=>?_,fun h1=>?_⟩
  ·simp only[Bool.or_eq_true,JS]at h1;rw[JY h1]
  ·simp only[Bool.or_eq_false_iff,decide_eq_false_iff_not]at h1;rw[JX (by omega)]
theorem qd:cQ Tryz.prog 44 GU:=
 oY (gR .i64) (fun _ _=>rfl) (fun x _=>bx (inl:=cg) (ann:=cm) (az kG aS) (CP x) (by kernel_rfl)) (fun L x _ _ _=>bx (inl:=cg) (ann:=cm) (az kG aS) (De L x) (by kernel_rfl)) fun _=>rfl
theorem AM:
 (bD []=true->0=ee [])/\(bD []=false->False):=by
 exact⟨fun _=>rfl,fun h=>by simp[nm]at h⟩
theorem AK (L:List Sx.Obj):
 (bD L=true->0=ee L)/\(bD L=false->dp (ar L)=ee L):=by
 exact⟨fun h=>by rw[rJ.1 h];rfl,fun _=>rfl⟩
theorem D3:cQ Tryz.prog 29 sR:=
 B3 (fun _=>rfl) (bx (inl:=cg) (ann:=cm) (az kG aS) AM (by kernel_rfl)) (fun L _ _=>bx (inl:=cg) (ann:=cm) (az kG aS) (AK L) (by kernel_rfl))
theorem D4 (i:Int):
 ((!decide (aF [] i=0))=true->free=bO [] i/\aF [] i=aF [] i)/\
   ((!decide (aF [] i=0))=false->False):=by
 exact⟨fun _=>⟨rfl,rfl⟩,fun h=>by simp[iG]at h⟩
theorem D2 (L:List Sx.Obj) (i:Int):
 ((!decide (aF L i=0))=true->free=bO L i/\aF L i=aF L i)/\
   ((!decide (aF L i=0))=false->
     (0<=i/\i< ↑(ar L))/\i.toNat<ar L/\i.toNat<ar L/\aB L i.toNat free=bO L i/\0=aF L i):=by
 refine⟨fun h=>⟨?_,rfl⟩,fun h=>?_⟩
 ·unfold bO;rw[JX (by simpa using h)]
 ·have h:aF L i=0:=by simpa using h
  have hb:=qG.1 h;unfold bO ar;rw[JY h,h];exact⟨hb,by omega,by omega,rfl,rfl⟩
theorem p5:cQ Tryz.prog 25 Hl:=
 oY (gR .i64) (fun _ _=>rfl) (fun x _=>bx (inl:=cg) (ann:=cm) (az qd aS) (D4 x) (by kernel_rfl)) (fun L x _ _ _=>bx (inl:=cg) (ann:=cm) (az qd aS) (D2 L x) (by kernel_rfl)) fun _=>rfl
theorem yA (k:Key):
 ((!bn k)=true->free=fb [] k/\false=fJ [] k)/\
   ((!bn k)=false->
     ((!decide (aF [] (dv k)=0)|| !bW k (bO [] (dv k)))=true->
       free=fb [] k/\false=fJ [] k)/\
       ((!decide (aF [] (dv k)=0)|| !bW k (bO [] (dv k)))=false->
         bO [] (dv k)=fb [] k/\true=fJ [] k)):=by
 exact sA [] k
theorem yt (L:List Sx.Obj) (k:Key):
 ((!bn k)=true->free=fb L k/\false=fJ L k)/\
   ((!bn k)=false->
     ((!decide (aF L (dv k)=0)|| !bW k (bO L (dv k)))=true->
       free=fb L k/\false=fJ L k)/\
       ((!decide (aF L (dv k)=0)|| !bW k (bO L (dv k)))=false->
         bO L (dv k)=fb L k/\true=fJ L k)):=by
 exact sA L k
theorem uP:cQ Tryz.prog 47 CB:=
 oY ou (fun _ _=>rfl) (fun x _=>bx (inl:=cg) (ann:=cm) (az ir (az p5 (az qS aS))) (yA x) (by kernel_rfl)) (fun L x _ _ _=>bx (inl:=cg) (ann:=cm) (az ir (az p5 (az qS aS))) (yt L x) (by kernel_rfl)) fun _=>rfl
end Go.Proofs.YtmfbohanboiklaaGreat
namespace Go.Proofs.YtmfbohanboiklaaGreat
open Go.Sx
set_option maxRecDepth 100000
theorem Ft (n:Int):
 ((decide (n<1)||decide (64<n))=true->cH n=false/\True)/\
   ((decide (n<1)||decide (64<n))=false->
     (∃g,tD n g/\Value.pointer none=Value.pointer none/\n=n/\0=g/\ []=dJ g)/\
      ∀(g:Int),
       tD n g->
        (decide (g<n)=true->
          jt (ar (dJ g)) 8/\
           fy IntKind.i64 (g+1)/\
            ∃g',
             tD n g'/\
              (n-g').toNat<(n-g).toNat/\
               Value.pointer none=Value.pointer none/\
                n=n/\g+1=g'/\bf (dJ g) free=dJ g')/\
         (decide (g<n)=false->cH n=true/\True/\dJ g=dJ n)):=by
 refine⟨fun h=>⟨?_,trivial⟩,fun h=>⟨⟨0,?_,rfl,rfl,rfl,rfl⟩,fun g hg=>⟨fun hlt=>?_,fun hge=>?_⟩⟩⟩
 ·simp only[Bool.or_eq_true,JS]at h;unfold cH;rw[Bool.and_eq_false_iff,decide_eq_false_iff_not,decide_eq_false_iff_not];omega
 ·simp only[Bool.or_eq_false_iff,decide_eq_false_iff_not]at h;exact⟨by omega,by omega⟩
 ·simp only[Bool.or_eq_false_iff,decide_eq_false_iff_not]at h;obtain⟨g0,g1⟩:=hg;have hlt:=JV hlt;refine⟨?_,?_,g+1,⟨by omega,by omega⟩,by omega,rfl,rfl,rfl,D9 g0⟩
  ·unfold jt ar dJ;simp only[List.length_replicate,maxLen];omega
  ·simp only[fy,br];omega
 ·simp only[Bool.or_eq_false_iff,decide_eq_false_iff_not]at h;obtain⟨g0,g1⟩:=hg;have hge:=JU hge;exact⟨kU.2 (by omega),trivial,by rw[show g=n by omega]⟩
theorem Ay (n:Int):ah Tryz.prog 14 [.it .i64 n] [] (Io n) (fun _ _=>False):=bx (inl:=cg) (ann:=(y0 [(14,5,JH [2,3,4,13] (fun g=> [(14,.it .i64 g)]) 0 tS eS dJ (tD n) n)])) aS (Ft n) (by kernel_rfl)
theorem A8:qX Tryz.prog 14 EH:=by
 intro args res K KP h;unfold EH at h;split at h
 ·split at h
  ·rename_i n hn;refine ah.args (ft.rd (gR .i64) hn ft.nil) ?_;cases hb:cH n with
   |false=>exact ah.pure rfl rfl ((Ay n).mono (fun v r hv=>BA hb hv) fun _ _ h=>h) (h.1 hb)
   |true=>
    refine ah.DJ (F:=fun j=> .tp [.lp j 0,.ci .i64 0]) rfl ?_ (h.2 hb)
    refine ah.shut (Ay n) fun v r hv=>?_
    obtain⟨j,r',_,h1,h2,h3⟩:=xh hb hv;rcases h1 with rfl|h1
    ·exact .inl ⟨j,h2,h3⟩
    ·exact .inr ⟨j,r',h1,j,h2,h3⟩
  ·exact h.elim
 ·exact h.elim
theorem CI (i:Int) (o:Sx.Obj):
 ((!decide (aF [] i=0))=true->aF [] i=dt [] i o)/\((!decide (aF [] i=0))=false->False):=by
 refine⟨fun _=>?_,fun h=>by simp[iG]at h⟩
 rw[ye,iG]
theorem C7 (i:Int) (o:Sx.Obj):ah Tryz.prog 41 [tx,.it .i64 i,.ob o] [] (sq (.it .i64 (dt [] i o))) (fun _ _=>False):=bx (inl:=cg) (ann:=cm) (az qd (az sS aS)) (CI i o) (by kernel_rfl)
theorem Di (L:List Sx.Obj) (i:Int) (o:Sx.Obj):
 ((!decide (aF L i=0))=true->aF L i=dt L i o/\L=eJ L i o)/\
   ((!decide (aF L i=0))=false->
     ((!decide (bc o (dp (ar L))=0))=true->bc o (dp (ar L))=dt L i o/\L=eJ L i o)/\
       ((!decide (bc o (dp (ar L))=0))=false->
         (0<=i/\i< ↑(ar L))/\i.toNat<ar L/\0=dt L i o/\eW L i.toNat o=eJ L i o)):=by
 refine⟨fun h=>?_,fun h=>⟨fun h2=>?_,fun h2=>?_⟩⟩
 ·obtain⟨a,b⟩:=Ea (o:=o) (show aF L i≠0 by simpa using h)
  rw[a,b];exact⟨rfl,rfl⟩
 ·obtain⟨a,b⟩:=Fw (o:=o) (show aF L i=0 by simpa using h) (show bc o (ar L:Int)≠0 by unfold dp at h2;simpa using h2)
  rw[a,b];exact⟨rfl,rfl⟩
 ·have h:=(show aF L i=0 by simpa using h)
  have hb:=qG.1 h;obtain⟨a,b⟩:=DE (o:=o) h (show bc o (ar L:Int)=0 by unfold dp at h2;simpa using h2)
  rw[a,b];exact⟨hb,by unfold ar;omega,rfl,rfl⟩
theorem Ef (L:List Sx.Obj) (i:Int) (o:Sx.Obj):ah Tryz.prog 41 [.lp 0 0,.it .i64 i,.ob o] [.blk tS (.ag [.sa 1]),.obs eS 2 L,.gen 1] (Ij (.it .i64 (dt L i o)) (eJ L i o)) (fun _ _=>False):=bx (inl:=cg) (ann:=cm) (az qd (az sS aS)) (Di L i o) (by kernel_rfl)
theorem Ej (i:Int) (o:Sx.Obj):
 ((!decide (aF [] i=0))=true->aF [] i=dt [] i o)/\
   ((!decide (aF [] i=0))=false->
     ((!decide (bc o 0=0))=true->bc o 0=dt [] i o)/\((!decide (bc o 0=0))=false->False)):=by
 refine⟨fun _=>?_,fun h=>by simp[iG]at h⟩
 rw[ye,iG]
theorem Dz (i:Int) (o:Sx.Obj):ah Tryz.prog 41 [.lp 0 0,.it .i64 i,.ob o] [.ro (.blk tS (.ag [.nl (.slice none 0 0)]))] (sq (.it .i64 (dt [] i o))) (fun _ _=>False):=bx (inl:=cg) (ann:=cm) (az qd (az sS aS)) (Ej i o) (by kernel_rfl)
theorem Fg:qX Tryz.prog 41 ET:=by
 intro args res K KP h;unfold ET at h;split at h
 ·split at h
  ·rename_i i hi;split at h
   ·rename_i o ho;refine ah.args (ft.k7 (ft.rd (gR .i64) hi (ft.rd xa ho ft.nil))) ?_;split at h
    ·split at h
     ·exact ah.pure rfl rfl ((C7 i o).mono (fun _ _ h=>cI h) fun _ _ h=>h) h
     ·exact h.elim
    ·split at h
     ·rename_i hoff;have hoff:=JT.1 hoff;subst hoff;split at h
      ·rename_i hr;split at h
       ·rename_i hc;simp only[JR,JT]at hc;obtain⟨rfl,rfl⟩:=hc;exact Ip hr rfl rfl (fun _ _=>Ef _ i o) h
       ·exact h.elim
      ·rename_i hr;split at h
       ·rename_i hc;simp only[JR,JT]at hc;obtain⟨rfl,hz⟩:=hc;have:=BK hz;subst this;refine ah.GX (r0:= .blk tS (.ag [.nl (.slice none 0 0)])) (by unfold aW;rw[hr]) (by simp) (fun κ=>rfl) rfl rfl ((Dz i o).mono (fun _ _ h=>cI h) fun _ _ h=>h) h
       ·exact h.elim
      ·exact h.elim
     ·exact h.elim
    ·exact h.elim
   ·exact h.elim
  ·exact h.elim
 ·exact h.elim
theorem Hn (l:List Sx.Obj) (hl:l.length<=9223372036854775807):
 true=true/\
  (cH (dp (ar l))=false->cS l=false/\True)/\
   (cH (dp (ar l))=true->
    (∃g,
      tv l g/\
       Value.pointer none=Value.pointer none/\
        dp (ar l)=dp (ar l)/\0=g/\l=l/\dJ (dp (ar l))=ec l g)/\
     ∀(g:Int),
      tv l g->
       (decide (g<dp (ar l))=true->
         (0<=g/\g< ↑(ar l))/\
          g.toNat<ar l/\
           true=true/\
            ((!decide (dt (ec l g) g (aB l g.toNat free)=0))=true->
              cS l=false/\dt (ec l g) g (aB l g.toNat free)=2)/\
              ((!decide (dt (ec l g) g (aB l g.toNat free)=0))=false->
                fy IntKind.i64 (g+1)/\
                 ∃g',
                  tv l g'/\
                   (dp (ar l)-g').toNat<(dp (ar l)-g).toNat/\
                    Value.pointer none=Value.pointer none/\
                     dp (ar l)=dp (ar l)/\
                      g+1=g'/\l=l/\eJ (ec l g) g (aB l g.toNat free)=ec l g'))/\
        (decide (g<dp (ar l))=false->cS l=true/\True/\ec l g=l)):=by
 refine⟨rfl,fun h=>⟨u7 fun hh=>?_,trivial⟩,fun h=>⟨⟨0,⟨by omega,by omega,fun j hj=>by omega⟩,rfl,rfl,rfl,rfl,AN⟩,fun g hg=>⟨fun hlt=>?_,fun hge=>?_⟩⟩⟩
 ·have:cH (dp (ar l))=true:=kU.2 (by unfold dp ar;omega)
  rw[this]at h;simp at h
 ·obtain⟨g0,g1,g2⟩:=hg;have hlt:=JV hlt;have h:=kU.1 h;have hle:=vb l;simp only[uL]at *;rw[Gj g0 hlt];refine⟨⟨g0,hlt⟩,by omega,trivial,fun hb=>⟨u7 fun hh=>?_,?_⟩,fun hb=>⟨?_,g+1,⟨by omega,by omega,fun j hj=>?_⟩,by omega,trivial,trivial,rfl,trivial,DP g0 hlt (by simpa using hb)⟩⟩
  ·have:=hh.2.2 g.toNat (by omega)
   unfold bc at hb;rw[this]at hb;simp at hb
  ·rcases pL (aB l g.toNat free) (l.length:Int)with⟨h1,h2⟩|⟨h1,h2⟩
   ·rw[h1]at hb;simp at hb
   ·exact h1
  ·simp only[fy,br];omega
  ·by_cases e:(j:Int)<g
   ·exact g2 j e
   ·have:j=g.toNat:=by omega
    subst this;rcases pL (aB l g.toNat free) (l.length:Int)with⟨h1,h2⟩|⟨h1,h2⟩
    ·exact h2
    ·rw[h1]at hb;simp at hb
 ·obtain⟨g0,g1,g2⟩:=hg;have hge:=JU hge;have h:=kU.1 h;have hle:=vb l;simp only[uL]at *;exact⟨kx.2 ⟨by omega,by omega,fun i hi=>g2 i (by omega)⟩,trivial,CV (by omega)⟩
theorem Eu (l:List Sx.Obj) (own:Option Nat):ah Tryz.prog 20 [.sa 0] [.ro (.arr own 163 (.ob l))] (H7 l) (fun _ _=>False):=
 ah.Hy (ah.Hg (k:=0) rfl fun _ hl=>(dM (inl:=cg) (ann:=(y0 [(20,5,Jl [0,2,3,4,5,18,19] (fun g=> [(20,.it .i64 g)]) 1 (fun g=> .store tS eS (ec l g)) (tv l) (dp (ar l)))])) aS (bI A8 (bI Fg dR)) (Hn l hl) (by kernel_rfl):ah Tryz.prog 20 [.sa 0] [.ro (.arr none 163 (.ob l))] (H7 l) (fun _ _=>False)))
theorem G4:qX Tryz.prog 20 Gp:=by
 intro args res K KP h;unfold Gp at h;split at h
 ·split at h
  ·split at h
   ·rename_i hr;split at h
    ·rename_i he;have he:=JT.1 he;subst he;split at h
     ·rename_i l;cases hb:cS l with
      |false=>exact ah.GR hr rfl rfl ((Eu l _).mono (fun v r hv=>BA hb (xP hv).1) fun _ _ h=>h) (h.1 hb)
      |true=>
       refine ah.A7 (F:=fun j=> .tp [.lp j 0,.ci .i64 0]) hr rfl ?_ (h.2 hb)
       refine ah.shut (Eu l _) fun v r hv=>?_
       obtain⟨hv,h0⟩:=xP hv;obtain⟨j,r',hs,h1,h2,h3⟩:=xh hb hv
       have hj:1<=j:=by
        rcases Nat.eq_zero_or_pos j with rfl|hj
        ·rw[h0]at hs;simp at hs
        ·exact hj
       rcases h1 with rfl|h1
       ·exact .inl ⟨j,hj,h2,h3⟩
       ·exact .inr ⟨j,r',h1,j,hj,h2,h3⟩
     ·exact h.elim
    ·exact h.elim
   ·exact h.elim
  ·exact h.elim
 ·exact h.elim
end Go.Proofs.YtmfbohanboiklaaGreat
namespace Go.Sx
def kM (r b:Int):Bool:=decide ((r.tdiv b).tmod 2=1)
def xR (r m g:Int):Int:=(if 2<=g/\(kM r 1||kM m 1)=true then 1 else 0)+(if 4<=g/\(kM r 2||kM m 2)=true then 2 else 0)+(if 8<=g/\(kM r 4||kM m 4)=true then 4 else 0)
def nr (r m:Int):Int:=xR r m 8
def vE (k:Key) (r:Int):Key:= {k with rights:=r}
def vQ (k:Key):Key:=if k.kind=2 then vE k (nr k.rights 3)else if k.kind=3 then vE k 1 else if k.kind=1\/k.kind=8 then k else void
def cC (k:Key):Key:=if aC k then vQ k else void
def z6:Ct:=GJ rK fun k=> .tp [.key (cC k),.it .i64 (c9 k)]
def cV (k:Key):Bool:=decide ((k.rights.tdiv 2).tmod 2=1)
def ow (L:List Obj):Prop:=cS L=true
def kP (g:Int):Prop:=0<=g/\g<=16
def kA:Arg Key:=B2 rK V.key
def iA:Arg Int:=B2 (rI .i64) (V.it .i64)
def bA:Arg Bool:=B2 toBool V.bo
def Ib (o:Option (List Obj)):List Obj:=match o with
 |none=> []
 |some L=>L
theorem Ao {r:Int} (h0:0<=r) (h1:r<=7):cq .or .i64 r 3=nr r 3:=by
 have:r=0\/r=1\/r=2\/r=3\/r=4\/r=5\/r=6\/r=7:=by omega
 rcases this with rfl|rfl|rfl|rfl|rfl|rfl|rfl|rfl<;>decide
theorem z8 {r:Int} (h0:0<=r) (h1:r<=1):cq .or .i64 r 1=1:=by
 have:r=0\/r=1:=by omega
 rcases this with rfl|rfl<;>decide
theorem mh {k:Key} (h:aC k=true):0<=k.rights/\k.rights<=fA k.kind:=by
 simp only[aC,JR,JS]at h;omega
theorem wo:aC void=true:=by decide
theorem p9 (L:List Obj) (k:Key):aC (cL L k)=true:=by
 unfold cL;split
 ·exact wo
 ·rename_i h;simp only[Bool.or_eq_true,not_or,Bool.not_eq_true,Bool.not_eq_false']at h;exact h.1.2
theorem IZ {r:Int} (h0:0<=r) (h1:r<=7):decide (cq .and .i64 r 2=0)= !decide ((r.tdiv 2).tmod 2=1):=by
 have:r=0\/r=1\/r=2\/r=3\/r=4\/r=5\/r=6\/r=7:=by omega
 rcases this with rfl|rfl|rfl|rfl|rfl|rfl|rfl|rfl<;>decide
theorem GV:oa kA:=th ou (fun _=>rfl) fun v x h=>HB h
theorem Hf:oa bA:=th BV (fun _=>rfl) fun v x h=>by cases v<;>simp[toBool]at h<;>rfl
theorem oD:oa iA:=th (gR .i64) (fun _=>rfl) fun v x h=>by cases v<;>simp[rI,toInt]at h<;>rfl
structure Je where
 kind:Int
 slot:Int
 key:Key
 other:Key
def Je.wf (x:Je):Prop:=br .i64 x.kind/\br .i64 x.slot/\x.key.wf/\x.other.wf
section
variable {L:List Obj} {k:Key} {s:bS} (h0:0<=k.oid) (h1:k.oid<(L.length:Int))
include h0 h1
end
end Go.Sx
set_option maxRecDepth 100000
namespace Go.Sx
end Go.Sx
set_option maxRecDepth 100000
namespace Go.Sx
def IA {α:Type} (B:lB α) (l:List V):Option α:=match B.rd [] l with
 |some p=>match p.1 with
  | []=>some p.2
  |_=>none
 |none=>none
theorem FM {α:Type} {B:lB α} (hB:jN B) (hid:∀a,ij (B.cn a 0)=true):∀l x,IA B l=some x->ft l (B.cn x 0):=fun l x h=>by
 unfold IA at h;split at h
 case h_2=>simp at h
 rename_i p hp;obtain⟨pls,a⟩:=p;split at h
 case h_2=>simp at h
 rename_i h1;simp only at h1;subst h1;simp only[JP]at h;subst h;obtain⟨_,_,_,b4⟩:=hB _ _ _ _ hp;obtain⟨c1,c2⟩:=b4 [] [];intro J K hk;have e1:=(c1 J K hk).1;have e2:=c2 K hk;have e3:bH (fun _=>False) (B.cn a 0):=iN _ (hid a) e2
 refine⟨?_,iN _ (hid a) e2⟩;rw[<-e1];exact bL (N:=fun _=>False) (fun _ h=>h.elim) _ e3
theorem Dc {L:List Obj} (h:ow L):1<=L.length/\L.length<=64:=⟨(kx.1 h).1,(kx.1 h).2.1⟩
end Go.Sx
