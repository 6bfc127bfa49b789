import Derived.Test.YtmfbohanboiklaaGreatDoorKO
import Derived.Test.YtmfbohanboiklaaGreatDoorSxF
set_option linter.unusedSimpArgs false
set_option linter.unusedVariables false
namespace Go.Sx
def cY(L:List Obj):Bool:=decide (aN L=0)
def bm(L:List Obj)(oid:Int):Int:=if aN L=0 then 1 else if oid<0\/(aN L:Int)<=oid then 4 else 0
def cB(L:List Obj)(oid:Int):Obj:=if bm L oid=0 then aX L oid.toNat free else free
def gH(L:List Obj)(k:Key):Bool:=bW k&&decide (bm L k.oid=0)&&cR k (aX L k.oid.toNat free)
def fN(L:List Obj)(k:Key):Obj:=if gH L k then aX L k.oid.toNat free else free
def dE(L:List Obj)(k:Key):Key:=if cY L|| !aP k||(bW k&& !gH L k)then void else k
def fc(n:Int):Bool:=decide (1<=n)&&decide (n<=64)
def gw(n:Int):List Obj:=List.replicate n.toNat free
def fu(L:List Obj)(i:Int)(o:Obj):List Obj:=if bm L i=0/\bR o (aN L:Int)=0 then fL L i.toNat o else L
def ef(L:List Obj)(i:Int)(o:Obj):Int:=if bm L i=0 then bR o (aN L:Int)else bm L i
def dK(l:List Obj):Bool:=decide (1<=aN l)&&decide (aN l<=64)&&(List.range (aN l)).all fun i=>eD (aX l i free) (aN l:Int)
def eU(l:List Obj)(g:Int):List Obj:=l.take g.toNat++List.replicate (l.length-g.toNat) free
def uL(l:List Obj)(g:Int):Prop:=0<=g/\g<=(aN l:Int)/\∀j:Nat,(j:Int)<g->eD (aX l j free) (aN l:Int)=true
def va(n i:Int):Prop:=0<=i/\i<=n
abbrev tS:Nat:=76
abbrev eS:Nat:=77
def GJ(c:Bool)(M:List Obj)(v:V)(r:List aI):Prop:=
 match v with
 | .tp l=>match l with
   | [a,b]=>match a with
     | .nl p=>match p with
       | .pointer none=>c=false/\pz (.ci .i64 2) b r
       |_=>False
     | .lp j off=>match yL r j with
       |some (t,e,L)=>if off==0&&t==tS&&e==eS then c=true/\pz (.ci .i64 0) b r/\L=M else False
       |none=>False
     |_=>False
   |_=>False
 |_=>False
def Lf(n:Int):V->List aI->Prop:=GJ (fc n) (gw n)
def KQ(l:List Obj)(v:V)(r:List aI):Prop:=
 match aH r 0 with
 | .ro _=>GJ (dK l) l v r
 |_=>False
theorem zt{l:List Obj}{v:V}{r:List aI}(h:KQ l v r):GJ (dK l) l v r/\yL r 0=none:=by
 unfold KQ at h;split at h
 ·rename_i hr;refine⟨h,?_⟩;unfold yL wC;rw[hr]
 ·exact h.elim
def KS(x:V)(M:List Obj)(v:V)(r:List aI):Prop:=
 match wC r 0 with
 |some (t,e,_,L)=>if t==tS&&e==eS then pz x v r/\L=M else False
 |none=>False
def GY:pb:=fun args res K=>
 match args with
 | [a]=>match rI .i64 a with
   |some n=>(fc n=false->K (.tp [vd,.ci .i64 2]) res)/\(fc n=true->K (.tp [.lp res.length 0,.ci .i64 0]) (res++ [.store tS eS (gw n)]))
   |none=>False
 |_=>False
def LF(c:V):Bool:=
 match c with
 | .ag l=>match l with
   | [x]=>match x with
     | .nl v=>match v with
       | .slice none 0 0=>true
       |_=>false
     |_=>false
   |_=>false
 |_=>false
theorem DF{c:V}(h:LF c=true):c= .ag [.nl (.slice none 0 0)]:=by
 unfold LF at h;split at h
 ·split at h
  ·split at h
   ·split at h
    ·rfl
    ·simp at h
   ·simp at h
  ·simp at h
 ·simp at h
def GV:pb:=fun args res K=>
 match args with
 | [a,b,c]=>match rI .i64 b with
   |some i=>match rO c with
    |some o=>match a with
     | .nl v=>match v with
       | .pointer none=>K (.it .i64 (ef [] i o)) res
       |_=>False
     | .lp k off=>if off==0 then match aH res k with
       | .store t e L=>if t==tS&&e==eS then K (.it .i64 (ef L i o)) (bd res k (.store tS eS (fu L i o)))else False
       | .blk t c=>if t==tS&&LF c then K (.it .i64 (ef [] i o)) res else False
       |_=>False
       else False
     |_=>False
    |none=>False
   |none=>False
 |_=>False
structure LV where
 puts:Bool
 oid:Int
 ob:Obj
def LV.wf(x:LV):Prop:=bU .i64 x.oid/\x.ob.wf
def Ev:Ct:=Jh (.bo true)
abbrev L8:V:= .nl (.slice none 0 0)
theorem xm{α:Type}(l:List α):cW (aN l)=(l.length:Int):=rfl
theorem wB{α:Type}(l:List α):((aN l:Nat):Int)=(l.length:Int):=rfl
def Hh:pb:=fun args res K=>
 match args with
 | [a]=>match a with
   | .sa k=>match bD res k with
     | .arr _ e l=>if e==163 then match l with
       | .ob l=>(dK l=false->K (.tp [vd,.ci .i64 2]) res)/\(dK l=true->K (.tp [.lp res.length 0,.ci .i64 0]) (res++ [.store tS eS l]))
       |_=>False
       else False
     |_=>False
   |_=>False
 |_=>False
def G4:Ct:=Lw tS eS fun L=> .bo (cY L)
def JG:Ct:=Af tS eS (rI .i64) fun L i=> .it .i64 (bm L i)
def JH:Ct:=Af tS eS (rI .i64) fun L i=> .tp [.ob (cB L i),.it .i64 (bm L i)]
def E1:Ct:=Af tS eS rK fun L k=> .tp [.ob (fN L k),.bo (gH L k)]
def Hi:Ct:=Af tS eS rK fun L k=> .key (dE L k)
theorem tH:cY []=true:=rfl
theorem A1{L:List Obj}:cY L=true↔L= []:=by
 unfold cY aN;simp[List.length_eq_zero_iff]
theorem jE(i:Int):bm [] i=1:=rfl
theorem B3{L:List Obj}(h:cY L=false)(i:Int):bm L i=if i<0\/(L.length:Int)<=i then 4 else 0:=by
 have:L≠ []:=fun e=>by rw[e]at h;simp[tH]at h
 unfold bm aN;rw[ar (by simpa[List.length_eq_zero_iff]using this)]
theorem sB{L:List Obj}{i:Int}:bm L i=0↔0<=i/\i<(L.length:Int):=by
 unfold bm aN;split
 ·omega
 ·split<;>omega
theorem sW(L:List Obj)(k:Key):((!bW k)=true->free=fN L k/\false=gH L k)/\
  ((!bW k)=false->
    ((!decide (bm L (eu k)=0)|| !cR k (cB L (eu k)))=true->
      free=fN L k/\false=gH L k)/\
      ((!decide (bm L (eu k)=0)|| !cR k (cB L (eu k)))=false->
        cB L (eu k)=fN L k/\true=gH L k)):=by
 have fin:∀b,gH L k=b->(b=false->free=fN L k)/\b=gH L k:=fun b h=>⟨fun hb=>by unfold fN;rw[h,hb];rfl,h.symm⟩
 refine⟨fun h=>?_,fun h=>?_⟩
 ·have h:bW k=false:=by simpa using h
  have:=fin false (by unfold gH;rw[h];rfl)
  exact⟨this.1 rfl,this.2⟩
 ·have h:bW k=true:=by simpa using h
  have ho:eu k=k.oid:=by unfold eu;rw[au h]
  rw[ho];by_cases hh:bm L k.oid=0
  ·have hg:cB L k.oid=aX L k.oid.toNat free:=by unfold cB;rw[au hh]
   rw[hg];have e:gH L k=cR k (aX L k.oid.toNat free):=by unfold gH;simp[h,hh]
   refine⟨fun hc=>?_,fun hc=>?_⟩
   ·have hc:cR k (aX L k.oid.toNat free)=false:=by simpa[hh]using hc
    have:=fin false (by rw[e,hc])
    exact⟨this.1 rfl,this.2⟩
   ·have hc:cR k (aX L k.oid.toNat free)=true:=by simpa[hh]using hc
    have:=fin true (by rw[e,hc])
    refine⟨?_,this.2⟩;unfold fN;rw[e,hc];rfl
  ·have:=fin false (by unfold gH;simp[hh])
   exact⟨fun _=>⟨this.1 rfl,this.2⟩,fun hc=>by simp[hh]at hc⟩
theorem vD(L:List Obj)(k:Key):((cY L|| !decide (aU k=0))=true->void=dE L k)/\
  ((cY L|| !decide (aU k=0))=false->
    ((bW k&& !gH L k)=true->void=dE L k)/\((bW k&& !gH L k)=false->k=dE L k)):=by
 have hc:(!decide (aU k=0))= !aP k:=by unfold aU;cases aP k<;>simp
 rw[hc];unfold dE;refine⟨fun h=>?_,fun h=>⟨fun h2=>?_,fun h2=>?_⟩⟩
 ·rw[au];simp only[h,Bool.true_or]
 ·rw[au];simp only[h2,Bool.or_true]
 ·rw[ar];simp only[h,h2];simp
theorem lO{n:Int}:fc n=true↔1<=n/\n<=64:=by simp[fc]
theorem Ge{g:Int}(h:0<=g):bN (gw g) free=gw (g+1):=by
 unfold bN gw;rw[show(g+1).toNat=g.toNat+1 by omega,List.replicate_succ']
theorem yQ{i:Int}{o:Obj}:ef [] i o=1:=by unfold ef;rw[jE];rfl
theorem Ew{L:List Obj}{i:Int}{o:Obj}(h:bm L i≠0):ef L i o=bm L i/\fu L i o=L:=by
 unfold ef fu;rw[ar h,ar (fun hh=>h hh.1)];exact⟨rfl,rfl⟩
theorem IH{L:List Obj}{i:Int}{o:Obj}(h:bm L i=0)(h2:bR o (aN L:Int)≠0):ef L i o=bR o (aN L:Int)/\fu L i o=L:=by
 unfold ef fu;rw[au h,ar (fun hh=>h2 hh.2)];exact⟨rfl,rfl⟩
theorem Gs{L:List Obj}{i:Int}{o:Obj}(h:bm L i=0)(h2:bR o (aN L:Int)=0):ef L i o=0/\fu L i o=fL L i.toNat o:=by
 unfold ef fu;rw[au h,au ⟨h,h2⟩];exact⟨h2,rfl⟩
theorem BP{c:Bool}{M:List Obj}(hn:c=false){v:V}{r:List aI}(h:GJ c M v r):tn (.tp [vd,.ci .i64 2]) v []:=by
 unfold GJ at h;split at h
 ·split at h
  ·split at h
   ·split at h
    ·exact EP (dn h.2)
    ·exact h.elim
   ·split at h
    ·split at h
     ·rw[hn]at h;simp at h
     ·exact h.elim
    ·exact h.elim
   ·exact h.elim
  ·exact h.elim
 ·exact h.elim
theorem E2{c:Bool}{M:List Obj}(hn:c=true){v:V}{r:List aI}(h:GJ c M v r):∃j b,v= .tp [.lp j 0,b]/\tn (.ci .i64 0) b []/\yL r j=some (tS,eS,M):=by
 unfold GJ at h;split at h
 ·split at h
  ·split at h
   ·split at h
    ·rw[hn]at h;simp at h
    ·exact h.elim
   ·split at h
    ·rename_i hst;split at h
     ·rename_i hc;simp only[ah,aj]at hc;obtain⟨⟨rfl,rfl⟩,rfl⟩:=hc;obtain⟨_,h2,rfl⟩:=h;exact⟨_,_,rfl,dn h2,hst⟩
     ·exact h.elim
    ·exact h.elim
   ·exact h.elim
  ·exact h.elim
 ·exact h.elim
theorem zx{c:Bool}{M:List Obj}(hn:c=true){v:V}{r:List aI}(h:GJ c M v r):∃j r',yL r j=some (tS,eS,M)/\(r'=r\/pt r j=some r')/\aH r' j= .store tS eS M/\∀(κ:Nat->Option Nat) (i:Nat),κ j=some i->iJ κ v (.tp [.lp i 0,.ci .i64 0]):=by
 obtain⟨j,b,rfl,hb,hst⟩:=E2 hn h
 have ht:∀(κ:Nat->Option Nat) (i:Nat),κ j=some i->iJ κ (.tp [.lp j 0,b]) (.tp [.lp i 0,.ci .i64 0]):=fun κ i hi ρ2 ρ3 N N' hv hN hk=>by
  obtain⟨s1,s2,_⟩:=hb ρ2 N;refine⟨?_,hN j i hi hk.1,by simp[ok,bU],trivial⟩
  simp only[den,aV,(hv j i hi).1,s1]
 rcases Bx hst with h1|⟨r',h1,h2⟩
 ·exact⟨j,r,hst,.inl rfl,h1,ht⟩
 ·exact⟨j,r',hst,.inr h1,h2,ht⟩
theorem F9{x:V}{M:List Obj}{v:V}{r:List aI}(h:KS x M v r):∃t,wC r 0=some (tS,eS,t,M)/\tn x v r:=by
 unfold KS at h;split at h
 ·rename_i hst;split at h
  ·rename_i hc;simp only[ah,aj]at hc;obtain⟨rfl,rfl⟩:=hc;obtain⟨h1,rfl⟩:=h;exact⟨_,hst,dn h1⟩
  ·exact h.elim
 ·exact h.elim
theorem Lj[Fen]{P:Program}{f:Nat}{rest:List V}{res:List aI}{K KP:V->List aI->Prop}{k:Nat}{L M:List Obj}{x:V}(hr:aH res k= .store tS eS L)(hid:jg rest=true)(hx:hU x=true)
  (h:(∀o∈L,o.wf)->L.length<=9223372036854775807->aJ P f (.lp 0 0::rest) [.blk tS (.ag [.sa 1]),.obs eS 2 L,.gen 1] (KS x M) (fun _ _=>False)) (hK:K x (bd res k (.store tS eS M))):aJ P f (.lp k 0::rest) res K KP:=by
 refine aJ.F7 hr hid hx ?_ hK;refine aJ.fact (k:=0) rfl fun w1 w2=>?_
 refine aJ.fa (k:=0) rfl ?_;refine aJ.shut (h w1 w2) fun v r hv=>?_
 obtain⟨t,h1,h2⟩:=F9 hv;obtain⟨r',g1,g2⟩:=uc h1;exact .inr ⟨0,r',g1,fun J K=>h2 J K,g2⟩
theorem lC{l:List Obj}:dK l=true↔1<=l.length/\l.length<=64/\∀i,i<l.length->eD (aX l i free) (l.length:Int)=true:=by
 unfold dK aN;simp only[ah,ai,List.all_eq_true,List.mem_range,and_assoc]
theorem vv{l:List Obj}(h:¬(1<=l.length/\l.length<=64/\∀i,i<l.length->eD (aX l i free) (l.length:Int)=true)):dK l=false:=by
 cases hr:dK l with
 |false=>rfl
 |true=>exact absurd (lC.1 hr) h
theorem qC{l:List Obj}{g:Int}(h1:g<=(l.length:Int)):(eU l g).length=l.length:=by
 unfold eU;simp only[List.length_append,List.length_take,List.length_replicate];omega
theorem D3{l:List Obj}:gw (l.length:Int)=eU l 0:=by unfold gw eU;simp
theorem FZ{l:List Obj}{g:Int}(h:(l.length:Int)<=g):eU l g=l:=by
 unfold eU;rw[List.take_of_length_le (by omega),show l.length-g.toNat=0 by omega];simp
theorem FE{l:List Obj}{g:Int}(h0:0<=g)(h1:g<(l.length:Int)):fL (eU l g) g.toNat (aX l g.toNat free)=eU l (g+1):=by
 unfold fL eU aX;obtain⟨n,rfl⟩:=Int.eq_ofNat_of_zero_le h0;have hn:n<l.length:=by omega
 have e1:((n:Int)+1).toNat=n+1:=by omega
 have e2:((n:Int)).toNat=n:=by omega
 rw[e1,e2];apply List.ext_getElem?
 intro i;rw[List.getElem?_set];have hlt:(List.take n l++List.replicate (l.length-n) free).length=l.length:=by simp;omega
 have htl:(List.take n l).length=n:=by simp;omega
 have htl1:(List.take (n+1) l).length=n+1:=by simp;omega
 by_cases hi:n=i
 ·subst hi;rw[au rfl,au (by rw[hlt];exact hn),List.getElem?_append_left (by rw[htl1];omega),List.getElem?_take,au (by omega),aq,List.getElem?_eq_getElem hn];rfl
 ·rw[ar hi];by_cases hl:i<n
  ·rw[List.getElem?_append_left (by rw[htl];exact hl),List.getElem?_append_left (by rw[htl1];omega),List.getElem?_take,List.getElem?_take,au hl,au (by omega)]
  ·rw[List.getElem?_append_right (by rw[htl];omega),List.getElem?_append_right (by rw[htl1];omega),htl,htl1,List.getElem?_replicate,List.getElem?_replicate]
   by_cases hb:i<l.length
   ·rw[au (by omega),au (by omega)]
   ·rw[ar (by omega),ar (by omega)]
theorem H2{l:List Obj}{g:Int}(h0:0<=g)(h1:g<(l.length:Int))(x:Obj):ef (eU l g) g x=bR x (l.length:Int):=by
 have hh:bm (eU l g) g=0:=sB.2 (by rw[qC (by omega)];exact⟨h0,h1⟩)
 unfold ef aN;rw[au hh,qC (by omega)]
theorem EG{l:List Obj}{g:Int}(h0:0<=g)(h1:g<(l.length:Int))(hx:bR (aX l g.toNat free) (l.length:Int)=0):fu (eU l g) g (aX l g.toNat free)=eU l (g+1):=by
 have hh:bm (eU l g) g=0:=sB.2 (by rw[qC (by omega)];exact⟨h0,h1⟩)
 unfold fu aN;rw[au ⟨hh,by rw[qC (by omega)];exact hx⟩]
 exact FE h0 h1
theorem sE(o:Obj)(n:Int):(bR o n=0/\eD o n=true)\/(bR o n=2/\eD o n=false):=by
 unfold bR;cases eD o n<;>simp
end Go.Sx
namespace Go.Proofs.YtmfbohanboiklaaGreatDoor
open Go.Sx
set_option maxRecDepth 100000
theorem CB:
 true=cY []:=by
 rfl
theorem Dk(L:List Sx.Obj):
 decide (cW (aN L)=0)=cY L:=by
 unfold cY cW aN;rw[decide_eq_decide];omega
theorem qe[Fen]:cI Tryz.prog 52 G4:=
 Ib (fun _=>rfl) (bG (inl:=cq) (ann:=cH) bf CB (by kernel_rfl)) (fun L _ _=>bG (inl:=cq) (ann:=cH) bf (Dk L) (by kernel_rfl))
theorem EM(i:Int):
 (cY []=true->1=bm [] i)/\
  (cY []=false->((!decide (i<0))=true->False)/\((!decide (i<0))=false->4=bm [] i)):=by
 exact⟨fun _=>rfl,fun h=>by simp[tH]at h⟩
theorem Ft(L:List Sx.Obj)(i:Int):
 (cY L=true->1=bm L i)/\
  (cY L=false->
   ((decide (i<0)||decide (cW (aN L)<=i))=true->4=bm L i)/\
     ((decide (i<0)||decide (cW (aN L)<=i))=false->0=bm L i)):=by
 refine⟨fun h=>?_,fun h=>?_⟩
 ·rw[A1.1 h];rfl
 ·rw[B3 h];unfold cW aN;refine⟨fun h1=>?_,fun h1=>?_⟩
  ·simp only[Bool.or_eq_true,ai]at h1;rw[au h1]
  ·simp only[Bool.or_eq_false_iff,decide_eq_false_iff_not]at h1;rw[ar (by omega)]
theorem qT[Fen]:cI Tryz.prog 35 JG:=
 ql (gd .i64) (fun _ _=>rfl) (fun x _=>bG (inl:=cq) (ann:=cH) (aS qe bf) (EM x) (by kernel_rfl)) (fun L x _ _ _=>bG (inl:=cq) (ann:=cH) (aS qe bf) (Ft L x) (by kernel_rfl)) fun _=>rfl
theorem Gi(i:Int):
 ((!decide (bm [] i=0))=true->free=cB [] i/\bm [] i=bm [] i)/\
   ((!decide (bm [] i=0))=false->False):=by
 exact⟨fun _=>⟨rfl,rfl⟩,fun h=>by simp[jE]at h⟩
theorem E7(L:List Sx.Obj)(i:Int):
 ((!decide (bm L i=0))=true->free=cB L i/\bm L i=bm L i)/\
   ((!decide (bm L i=0))=false->
     (0<=i/\i< ↑(aN L))/\i.toNat<aN L/\i.toNat<aN L/\aX L i.toNat free=cB L i/\0=bm L i):=by
 refine⟨fun h=>⟨?_,rfl⟩,fun h=>?_⟩
 ·unfold cB;rw[ar (by simpa using h)]
 ·have h:bm L i=0:=by simpa using h
  have hb:=sB.1 h;unfold cB aN;rw[au h,h];exact⟨hb,by omega,by omega,rfl,rfl⟩
theorem rn[Fen]:cI Tryz.prog 26 JH:=
 ql (gd .i64) (fun _ _=>rfl) (fun x _=>bG (inl:=cq) (ann:=cH) (aS qT bf) (Gi x) (by kernel_rfl)) (fun L x _ _ _=>bG (inl:=cq) (ann:=cH) (aS qT bf) (E7 L x) (by kernel_rfl)) fun _=>rfl
theorem AN(k:Key):
 ((!bW k)=true->free=fN [] k/\false=gH [] k)/\
   ((!bW k)=false->
     ((!decide (bm [] (eu k)=0)|| !cR k (cB [] (eu k)))=true->
       free=fN [] k/\false=gH [] k)/\
       ((!decide (bm [] (eu k)=0)|| !cR k (cB [] (eu k)))=false->
         cB [] (eu k)=fN [] k/\true=gH [] k)):=by
 exact sW [] k
theorem A4(L:List Sx.Obj)(k:Key):
 ((!bW k)=true->free=fN L k/\false=gH L k)/\
   ((!bW k)=false->
     ((!decide (bm L (eu k)=0)|| !cR k (cB L (eu k)))=true->
       free=fN L k/\false=gH L k)/\
       ((!decide (bm L (eu k)=0)|| !cR k (cB L (eu k)))=false->
         cB L (eu k)=fN L k/\true=gH L k)):=by
 exact sW L k
theorem xr[Fen]:cI Tryz.prog 70 E1:=
 ql ju (fun _ _=>rfl) (fun x _=>bG (inl:=cq) (ann:=cH) (aS jj (aS rn (aS sA bf))) (AN x) (by kernel_rfl)) (fun L x _ _ _=>bG (inl:=cq) (ann:=cH) (aS jj (aS rn (aS sA bf))) (A4 L x) (by kernel_rfl)) fun _=>rfl
end Go.Proofs.YtmfbohanboiklaaGreatDoor
namespace Go.Proofs.YtmfbohanboiklaaGreatDoor
open Go.Sx
set_option maxRecDepth 100000
theorem HC(n:Int):
 ((decide (n<1)||decide (64<n))=true->fc n=false/\True)/\
   ((decide (n<1)||decide (64<n))=false->
     (∃g,va n g/\Value.pointer none=Value.pointer none/\n=n/\0=g/\ []=gw g)/\
      ∀(g:Int),
       va n g->
        (decide (g<n)=true->
          cV (aN (gw g)) 8/\
           dI IntKind.i64 (g+1)/\
            ∃g',
             va n g'/\
              (n-g').toNat<(n-g).toNat/\
               Value.pointer none=Value.pointer none/\
                n=n/\g+1=g'/\bN (gw g) free=gw g')/\
         (decide (g<n)=false->fc n=true/\True/\gw g=gw n)):=by
 refine⟨fun h=>⟨?_,trivial⟩,fun h=>⟨⟨0,?_,rfl,rfl,rfl,rfl⟩,fun g hg=>⟨fun hlt=>?_,fun hge=>?_⟩⟩⟩
 ·simp only[Bool.or_eq_true,ai]at h;unfold fc;rw[Bool.and_eq_false_iff,decide_eq_false_iff_not,decide_eq_false_iff_not];omega
 ·simp only[Bool.or_eq_false_iff,decide_eq_false_iff_not]at h;exact⟨by omega,by omega⟩
 ·simp only[Bool.or_eq_false_iff,decide_eq_false_iff_not]at h;obtain⟨g0,g1⟩:=hg;have hlt:=an hlt;refine⟨?_,?_,g+1,⟨by omega,by omega⟩,by omega,rfl,rfl,rfl,Ge g0⟩
  ·unfold cV aN gw;simp only[List.length_replicate,maxLen];omega
  ·simp only[dI,bU];omega
 ·simp only[Bool.or_eq_false_iff,decide_eq_false_iff_not]at h;obtain⟨g0,g1⟩:=hg;have hge:=ak hge;exact⟨lO.2 (by omega),trivial,by rw[show g=n by omega]⟩
theorem CV[Fen](n:Int):aJ Tryz.prog 24 [.it .i64 n] [] (Lf n) (fun _ _=>False):=bG (inl:=cq) (ann:=(qJ [(24,5,Me [2,3,4,13] (fun g=> [(14,.it .i64 g)]) 0 tS eS gw (va n) n)])) bf (HC n) (by kernel_rfl)
theorem I2[Fen]:p7 Tryz.prog 24 GY:=by
 intro args res K KP h;unfold GY at h;split at h
 ·split at h
  ·rename_i n hn;refine aJ.args (ga.rd (gd .i64) hn ga.nil) ?_;cases hb:fc n with
   |false=>exact aJ.pure rfl rfl ((CV n).mono (fun v r hv=>BP hb hv) fun _ _ h=>h) (h.1 hb)
   |true=>
    refine aJ.EK (F:=fun j=> .tp [.lp j 0,.ci .i64 0]) rfl ?_ (h.2 hb)
    refine aJ.shut (CV n) fun v r hv=>?_
    obtain⟨j,r',_,h1,h2,h3⟩:=zx hb hv;rcases h1 with rfl|h1
    ·exact .inl ⟨j,h2,h3⟩
    ·exact .inr ⟨j,r',h1,j,h2,h3⟩
  ·exact h.elim
 ·exact h.elim
theorem E0(i:Int)(o:Sx.Obj):
 ((!decide (bm [] i=0))=true->bm [] i=ef [] i o)/\((!decide (bm [] i=0))=false->False):=by
 refine⟨fun _=>?_,fun h=>by simp[jE]at h⟩
 rw[yQ,jE]
theorem Fz[Fen](i:Int)(o:Sx.Obj):aJ Tryz.prog 25 [vd,.it .i64 i,.ob o] [] (pz (.it .i64 (ef [] i o))) (fun _ _=>False):=bG (inl:=cq) (ann:=cH) (aS qT (aS u6 bf)) (E0 i o) (by kernel_rfl)
theorem Gx(L:List Sx.Obj)(i:Int)(o:Sx.Obj):
 ((!decide (bm L i=0))=true->bm L i=ef L i o/\L=fu L i o)/\
   ((!decide (bm L i=0))=false->
     ((!decide (bR o (cW (aN L))=0))=true->bR o (cW (aN L))=ef L i o/\L=fu L i o)/\
       ((!decide (bR o (cW (aN L))=0))=false->
         (0<=i/\i< ↑(aN L))/\i.toNat<aN L/\0=ef L i o/\fL L i.toNat o=fu L i o)):=by
 refine⟨fun h=>?_,fun h=>⟨fun h2=>?_,fun h2=>?_⟩⟩
 ·obtain⟨a,b⟩:=Ew (o:=o) (show bm L i≠0 by simpa using h)
  rw[a,b];exact⟨rfl,rfl⟩
 ·obtain⟨a,b⟩:=IH (o:=o) (show bm L i=0 by simpa using h) (show bR o (aN L:Int)≠0 by unfold cW at h2;simpa using h2)
  rw[a,b];exact⟨rfl,rfl⟩
 ·have h:=(show bm L i=0 by simpa using h)
  have hb:=sB.1 h;obtain⟨a,b⟩:=Gs (o:=o) h (show bR o (aN L:Int)=0 by unfold cW at h2;simpa using h2)
  rw[a,b];exact⟨hb,by unfold aN;omega,rfl,rfl⟩
theorem Gr[Fen](L:List Sx.Obj)(i:Int)(o:Sx.Obj):aJ Tryz.prog 25 [.lp 0 0,.it .i64 i,.ob o] [.blk tS (.ag [.sa 1]),.obs eS 2 L,.gen 1] (KS (.it .i64 (ef L i o)) (fu L i o)) (fun _ _=>False):=bG (inl:=cq) (ann:=cH) (aS qT (aS u6 bf)) (Gx L i o) (by kernel_rfl)
theorem FX(i:Int)(o:Sx.Obj):
 ((!decide (bm [] i=0))=true->bm [] i=ef [] i o)/\
   ((!decide (bm [] i=0))=false->
     ((!decide (bR o 0=0))=true->bR o 0=ef [] i o)/\((!decide (bR o 0=0))=false->False)):=by
 refine⟨fun _=>?_,fun h=>by simp[jE]at h⟩
 rw[yQ,jE]
theorem FR[Fen](i:Int)(o:Sx.Obj):aJ Tryz.prog 25 [.lp 0 0,.it .i64 i,.ob o] [.ro (.blk tS (.ag [.nl (.slice none 0 0)]))] (pz (.it .i64 (ef [] i o))) (fun _ _=>False):=bG (inl:=cq) (ann:=cH) (aS qT (aS u6 bf)) (FX i o) (by kernel_rfl)
theorem It[Fen]:p7 Tryz.prog 25 GV:=by
 intro args res K KP h;unfold GV at h;split at h
 ·split at h
  ·rename_i i hi;split at h
   ·rename_i o ho;refine aJ.args (ga.mh (ga.rd (gd .i64) hi (ga.rd zQ ho ga.nil))) ?_;split at h
    ·split at h
     ·exact aJ.pure rfl rfl ((Fz i o).mono (fun _ _ h=>dn h) fun _ _ h=>h) h
     ·exact h.elim
    ·split at h
     ·rename_i hoff;have hoff:=aj.1 hoff;subst hoff;split at h
      ·rename_i hr;split at h
       ·rename_i hc;simp only[ah,aj]at hc;obtain⟨rfl,rfl⟩:=hc;exact Lj hr rfl rfl (fun _ _=>Gr _ i o) h
       ·exact h.elim
      ·rename_i hr;split at h
       ·rename_i hc;simp only[ah,aj]at hc;obtain⟨rfl,hz⟩:=hc;have:=DF hz;subst this;refine aJ.JV (r0:= .blk tS (.ag [.nl (.slice none 0 0)])) (by unfold bD;rw[hr]) (by simp) (fun κ=>rfl) rfl rfl ((FR i o).mono (fun _ _ h=>dn h) fun _ _ h=>h) h
       ·exact h.elim
      ·exact h.elim
     ·exact h.elim
    ·exact h.elim
   ·exact h.elim
  ·exact h.elim
 ·exact h.elim
theorem JJ(l:List Sx.Obj)(hl:l.length<=9223372036854775807):
 true=true/\
  (fc (cW (aN l))=false->dK l=false/\True)/\
   (fc (cW (aN l))=true->
    (∃g,
      uL l g/\
       Value.pointer none=Value.pointer none/\
        cW (aN l)=cW (aN l)/\0=g/\l=l/\gw (cW (aN l))=eU l g)/\
     ∀(g:Int),
      uL l g->
       (decide (g<cW (aN l))=true->
         (0<=g/\g< ↑(aN l))/\
          g.toNat<aN l/\
           true=true/\
            ((!decide (ef (eU l g) g (aX l g.toNat free)=0))=true->
              dK l=false/\ef (eU l g) g (aX l g.toNat free)=2)/\
              ((!decide (ef (eU l g) g (aX l g.toNat free)=0))=false->
                dI IntKind.i64 (g+1)/\
                 ∃g',
                  uL l g'/\
                   (cW (aN l)-g').toNat<(cW (aN l)-g).toNat/\
                    Value.pointer none=Value.pointer none/\
                     cW (aN l)=cW (aN l)/\
                      g+1=g'/\l=l/\fu (eU l g) g (aX l g.toNat free)=eU l g'))/\
        (decide (g<cW (aN l))=false->dK l=true/\True/\eU l g=l)):=by
 refine⟨rfl,fun h=>⟨vv fun hh=>?_,trivial⟩,fun h=>⟨⟨0,⟨by omega,by omega,fun j hj=>by omega⟩,rfl,rfl,rfl,rfl,D3⟩,fun g hg=>⟨fun hlt=>?_,fun hge=>?_⟩⟩⟩
 ·have:fc (cW (aN l))=true:=lO.2 (by unfold cW aN;omega)
  rw[this]at h;simp at h
 ·obtain⟨g0,g1,g2⟩:=hg;have hlt:=an hlt;have h:=lO.1 h;have hle:=wB l;simp only[xm]at *;rw[H2 g0 hlt];refine⟨⟨g0,hlt⟩,by omega,trivial,fun hb=>⟨vv fun hh=>?_,?_⟩,fun hb=>⟨?_,g+1,⟨by omega,by omega,fun j hj=>?_⟩,by omega,trivial,trivial,rfl,trivial,EG g0 hlt (by simpa using hb)⟩⟩
  ·have:=hh.2.2 g.toNat (by omega)
   unfold bR at hb;rw[this]at hb;simp at hb
  ·rcases sE (aX l g.toNat free) (l.length:Int)with⟨h1,h2⟩|⟨h1,h2⟩
   ·rw[h1]at hb;simp at hb
   ·exact h1
  ·simp only[dI,bU];omega
  ·by_cases e:(j:Int)<g
   ·exact g2 j e
   ·have:j=g.toNat:=by omega
    subst this;rcases sE (aX l g.toNat free) (l.length:Int)with⟨h1,h2⟩|⟨h1,h2⟩
    ·exact h2
    ·rw[h1]at hb;simp at hb
 ·obtain⟨g0,g1,g2⟩:=hg;have hge:=ak hge;have h:=lO.1 h;have hle:=wB l;simp only[xm]at *;exact⟨lC.2 ⟨by omega,by omega,fun i hi=>g2 i (by omega)⟩,trivial,FZ (by omega)⟩
theorem GU[Fen](l:List Sx.Obj)(own:Option Nat):aJ Tryz.prog 11 [.sa 0] [.ro (.arr own 163 (.ob l))] (KQ l) (fun _ _=>False):=
 aJ.Kk (aJ.Kl (k:=0) rfl fun _ hl=>(eH (inl:=cq) (ann:=(qJ [(11,5,L0 [0,2,3,4,5,18,19] (fun g=> [(20,.it .i64 g)]) 1 (fun g=> .store tS eS (eU l g)) (uL l) (cW (aN l)))])) bf (cP I2 (cP It eF)) (JJ l hl) (by kernel_rfl):aJ Tryz.prog 11 [.sa 0] [.ro (.arr none 163 (.ob l))] (KQ l) (fun _ _=>False)))
theorem Kn[Fen]:p7 Tryz.prog 11 Hh:=by
 intro args res K KP h;unfold Hh at h;split at h
 ·split at h
  ·split at h
   ·rename_i hr;split at h
    ·rename_i he;have he:=aj.1 he;subst he;split at h
     ·rename_i l;cases hb:dK l with
      |false=>exact aJ.JL hr rfl rfl ((GU l _).mono (fun v r hv=>BP hb (zt hv).1) fun _ _ h=>h) (h.1 hb)
      |true=>
       refine aJ.CY (F:=fun j=> .tp [.lp j 0,.ci .i64 0]) hr rfl ?_ (h.2 hb)
       refine aJ.shut (GU l _) fun v r hv=>?_
       obtain⟨hv,h0⟩:=zt hv;obtain⟨j,r',hs,h1,h2,h3⟩:=zx hb hv
       have hj:1<=j:=by
        rcases Nat.eq_zero_or_pos j with rfl|hj
        ·rw[h0]at hs;simp at hs
        ·exact hj
       rcases h1 with rfl|h1
       ·exact .inl ⟨j,hj,h2,h3⟩
       ·exact .inr ⟨j,r',h1,j,hj,h2,h3⟩
     ·exact h.elim
    ·exact h.elim
   ·exact h.elim
  ·exact h.elim
 ·exact h.elim
end Go.Proofs.YtmfbohanboiklaaGreatDoor
namespace Go.Sx
def ff(r b:Int):Bool:=decide ((r.tdiv b).tmod 2=1)
def cK(r m g:Int):Int:=(if 2<=g/\(ff r 1||ff m 1)=true then 1 else 0)+(if 4<=g/\(ff r 2||ff m 2)=true then 2 else 0)+(if 8<=g/\(ff r 4||ff m 4)=true then 4 else 0)
def il(r m:Int):Int:=cK r m 8
def oI(g:Int):Prop:=g=1\/g=2\/g=4\/g=8
def wg(k:Key)(r:Int):Key:= {k with rights:=r}
def xX(k:Key):Key:=if k.kind=2 then wg k (il k.rights 3)else if k.kind=3 then wg k 1 else if k.kind=1\/k.kind=8 then k else void
def dA(k:Key):Key:=if aP k then xX k else void
def EH:Ct:=HA (rI .i64) (rI .i64) fun r m=> .it .i64 (il r m)
def C1:Ct:=Is rK fun k=> .tp [.key (dA k),.it .i64 (aU k)]
def dP(k:Key):Bool:=decide ((k.rights.tdiv 2).tmod 2=1)
def pH(L:List Obj):Prop:=dK L=true
def lR(g:Int):Prop:=0<=g/\g<=16
def kA:Arg Key:=Al rK V.key
def iA:Arg Int:=Al (rI .i64) (V.it .i64)
def bA:Arg Bool:=Al toBool V.bo
def KU(o:Option (List Obj)):List Obj:=match o with
 |none=> []
 |some L=>L
theorem zW{r g:Int}(hr:bU .i64 r)(hg:g=1\/g=2\/g=4\/g=8):bU .i64 (r.tdiv g):=by
 simp only[bU]at *;rcases Int.le_total 0 r with h|h
 ·rw[Int.tdiv_eq_ediv_of_nonneg h];rcases hg with rfl|rfl|rfl|rfl<;>omega
 ·obtain⟨s,rfl⟩:∃s,r= -s:=⟨-r,by omega⟩
  rw[Int.neg_tdiv,Int.tdiv_eq_ediv_of_nonneg (by omega)]
  rcases hg with rfl|rfl|rfl|rfl<;>omega
theorem vO(x:Int):bU .i64 (x.tmod 2):=by
 have h1:=Int.tmod_lt_of_pos x (show(0:Int)<2 by omega)
 have h2:=Int.lt_tmod_of_pos x (show(0:Int)<2 by omega)
 simp only[bU];omega
theorem BH{r m g:Int}:0<=cK r m g/\cK r m g<=7:=by
 unfold cK;repeat' split
 all_goals omega
theorem DG{r:Int}(h0:0<=r)(h1:r<=7):cG .or .i64 r 3=il r 3:=by
 have:r=0\/r=1\/r=2\/r=3\/r=4\/r=5\/r=6\/r=7:=by omega
 rcases this with rfl|rfl|rfl|rfl|rfl|rfl|rfl|rfl<;>decide
theorem CX{r:Int}(h0:0<=r)(h1:r<=1):cG .or .i64 r 1=1:=by
 have:r=0\/r=1:=by omega
 rcases this with rfl|rfl<;>decide
theorem jK{k:Key}(h:aP k=true):0<=k.rights/\k.rights<=fg k.kind:=by
 simp only[aP,ah,ai]at h;omega
theorem xF:aP void=true:=by decide
theorem r8(L:List Obj)(k:Key):aP (dE L k)=true:=by
 unfold dE;split
 ·exact xF
 ·rename_i h;simp only[Bool.or_eq_true,not_or,Bool.not_eq_true,Bool.not_eq_false']at h;exact h.1.2
theorem LM{r:Int}(h0:0<=r)(h1:r<=7):decide (cG .and .i64 r 2=0)= !decide ((r.tdiv 2).tmod 2=1):=by
 have:r=0\/r=1\/r=2\/r=3\/r=4\/r=5\/r=6\/r=7:=by omega
 rcases this with rfl|rfl|rfl|rfl|rfl|rfl|rfl|rfl<;>decide
theorem Gw(n:Int):fg n<=7:=by unfold fg;split<;>(try split)<;>omega
theorem vx{k:Key}(h:aP k=true):0<=k.rights/\k.rights<=7:=by
 have:=jK h;have:=Gw k.kind;omega
theorem CQ:mw kA:=qu ju (fun _=>rfl) fun v x h=>J6 h
theorem J7:mw bA:=qu BM (fun _=>rfl) fun v x h=>by cases v<;>simp[toBool]at h<;>rfl
theorem mD:mw iA:=qu (gd .i64) (fun _=>rfl) fun v x h=>by cases v<;>simp[rI,toInt]at h<;>rfl
structure L3 where
 kind:Int
 slot:Int
 key:Key
 other:Key
def L3.wf(x:L3):Prop:=bU .i64 x.kind/\bU .i64 x.slot/\x.key.wf/\x.other.wf
section
variable {L:List Obj} {k:Key} {s:cM} (h0:0<=k.oid) (h1:k.oid<(L.length:Int))
include h0 h1
end
end Go.Sx
set_option maxRecDepth 100000
namespace Go.Sx
end Go.Sx
set_option maxRecDepth 100000
namespace Go.Sx
def Lk{α:Type}(B:jA α)(l:List V):Option α:=match B.rd [] l with
 |some p=>match p.1 with
  | []=>some p.2
  |_=>none
 |none=>none
theorem Iw{α:Type}{B:jA α}(hB:hX B)(hid:∀a,jg (B.cn a 0)=true):∀l x,Lk B l=some x->ga l (B.cn x 0):=fun l x h=>by
 unfold Lk at h;split at h
 case h_2=>simp at h
 rename_i p hp;obtain⟨pls,a⟩:=p;split at h
 case h_2=>simp at h
 rename_i h1;simp only at h1;subst h1;simp only[aa]at h;subst h;obtain⟨_,_,_,b4⟩:=hB _ _ _ _ hp;obtain⟨c1,c2⟩:=b4 [] [];intro J K hk;have e1:=(c1 J K hk).1;have e2:=c2 K hk;have e3:cm (fun _=>False) (B.cn a 0):=jM _ (hid a) e2
 refine⟨?_,jM _ (hid a) e2⟩;rw[<-e1];exact cx (N:=fun _=>False) (fun _ h=>h.elim) _ e3
theorem E4{L:List Obj}(h:pH L):1<=L.length/\L.length<=64:=⟨(lC.1 h).1,(lC.1 h).2.1⟩
end Go.Sx
