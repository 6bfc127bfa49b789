import Derived.Test.YtlblcfaclmpekaaGreatSpP
import Derived.Test.YtlblcfaclmpekaaGreatKS
set_option linter.unusedSimpArgs false
set_option linter.unusedVariables false
namespace Go.Sx
def jn (o:Obj):Bool:=decide (o.kind=0)&&decide (4294967295<=o.count)
def ei (o:Obj):Bool:=decide (o.kind=0)&&decide (o.count<4294967295)
def C5 (o:Obj):Obj:=⟨3,o.count,0,fY,ev⟩
def ku (o:Obj) (kind:Int):Obj:=⟨kind,o.count+1,0,fY,ev⟩
def wo (o:Obj):Obj:=⟨0,o.count,0,fY,ev⟩
def jN (L:List Obj) (p:Nat->Obj->Bool) (t:Obj->Obj):List Obj:=(List.range L.length).map fun j=>if p j (aq L j free)then t (aq L j free)else aq L j free
def bK (L:List Obj) (f g:Int):List Obj:=jN L (fun j o=>decide (f<=(j:Int))&&decide ((j:Int)<g)&&jn o) C5
def kC (L:List Obj) (f g:Int):Prop:=∀j:Nat,f<=(j:Int)->(j:Int)<g->ei (aq L j free)=false
def HQ (L:List Obj) (f g:Int):Bool:=(List.range L.length).any fun(j:Nat)=>decide (f<=(j:Int))&&decide ((j:Int)<g)&&jn (aq L j free)
def e9 (L:List Obj) (f l:Int):Int:=match (List.range L.length).find? fun(j:Nat)=>decide (f<=(j:Int))&&decide ((j:Int)<=l)&&ei (aq L j free)with
 |some j=>(j:Int)
 |none=> -1
def kG (L:List Obj) (f l kind:Int):List Obj:=if e9 L f l= -1 then bK L f (l+1)else dh (bK L f (e9 L f l)) (e9 L f l).toNat (ku (aq L (e9 L f l).toNat free) kind)
def uj (L:List Obj) (f l:Int):Bool:= !decide (e9 L f l= -1)||HQ L f (l+1)
def bZ (kind oid count:Int):Key:=⟨if kind=2 then 3 else 2,oid,count,0,0,0⟩
def gZ (o:Obj) (n:Int):Bool:=decide ((o.slots.at 0).kind=1)&&decide ((o.slots.at 1).kind=1)&&decide (0<=(o.slots.at 0).value)&&decide ((o.slots.at 0).value<=(o.slots.at 1).value)&&decide ((o.slots.at 1).value<n)
def bc (L:List Obj) (k:Key):Int:=if aS L k 4 false=0 then(if gZ (aq L k.oid.toNat free) (an L:Int)then 0 else 220)else aS L k 4 false
def aE (L:List Obj) (k:Key):Int:=((aq L k.oid.toNat free).slots.at 0).value
def aI (L:List Obj) (k:Key):Int:=((aq L k.oid.toNat free).slots.at 1).value
def zU (L:List Obj) (k:Key):Int:=if bc L k=0 then aE L k else 0
def zm (L:List Obj) (k:Key):Int:=if bc L k=0 then aI L k else 0
def gG (L:List Obj) (k:Key) (kind:Int):Int:=if bc L k=0 then(if kind=1\/kind=2 then 0 else 2)else bc L k
def du (L:List Obj) (k:Key) (kind:Int):Int:=if gG L k kind=0 then(if e9 L (aE L k) (aI L k)= -1 then 221 else 0)else gG L k kind
def fC (L:List Obj) (k:Key) (kind:Int):List Obj:=if gG L k kind=0 then kG L (aE L k) (aI L k) kind else L
def zJ (L:List Obj) (k:Key) (kind:Int):Bool:=decide (gG L k kind=0)&&uj L (aE L k) (aI L k)
def er (L:List Obj) (k:Key) (kind:Int):Key:=if du L k kind=0 then bZ kind (e9 L (aE L k) (aI L k)) ((aq L (e9 L (aE L k) (aI L k)).toNat free).count+1)else void
def jZ (L:List Obj) (v:Key):Bool:=aT L v&&(decide (v.kind=2)||decide (v.kind=3))
def dI (L:List Obj) (k v:Key):Int:=if bc L k=0 then(if jZ L v then(if aE L k<=v.oid/\v.oid<=aI L k/\v.oid≠k.oid then 0 else 4)else 5)else bc L k
def iX (L:List Obj) (k v:Key):List Obj:=if dI L k v=0 then dh L v.oid.toNat (wo (aq L v.oid.toNat free))else L
def lP (o:Obj):Bool:=decide (o.kind=1)||decide (o.kind=2)
def jE (f g oid:Int) (j:Nat) (o:Obj):Bool:=decide (f<=(j:Int))&&decide ((j:Int)<g)&&lP o&& !decide ((j:Int)=oid)
def fQ (L:List Obj) (f g oid:Int):List Obj:=jN L (jE f g oid) wo
def gA (L:List Obj) (f g oid:Int):Int:=(((List.range L.length).filter fun j=>jE f g oid j (aq L j free)).length:Int)
def jW (L:List Obj) (k:Key):List Obj:=if bc L k=0 then fQ L (aE L k) (aI L k+1) k.oid else L
def iF (L:List Obj) (k:Key):Int:=if bc L k=0 then gA L (aE L k) (aI L k+1) k.oid else 0
def lL (L:List Obj) (k v:Key):Bool:=decide (bc L k=0)&&jZ L v&&decide (aE L k<=v.oid)&&decide (v.oid<=aI L k)
theorem gK {L:List Obj} {p:Nat->Obj->Bool} {t:Obj->Obj}:(jN L p t).length=L.length:=by simp[jN]
theorem jc {L:List Obj} {p:Nat->Obj->Bool} {t:Obj->Obj} {j:Nat} (h:j<L.length):aq (jN L p t) j free=if p j (aq L j free)then t (aq L j free)else aq L j free:=by
 rw[show aq (jN L p t) j free=(jN L p t).getD j free from rfl,VP];unfold jN;rw[List.getElem?_map,List.getElem?_range h];rfl
theorem B6 {L:List Obj} {p:Nat->Obj->Bool} {t:Obj->Obj} (h:∀j,j<L.length->p j (aq L j free)=false):jN L p t=L:=by
 refine rr gK fun j hj=>?_
 rw[gK]at hj;rw[jc hj,h j hj];rfl
theorem AK {L:List Obj} {p p':Nat->Obj->Bool} {t:Obj->Obj} {g:Nat} (hg:g<L.length) (hp:∀j,j≠g->p' j (aq L j free)=p j (aq L j free)) (h1:p' g (aq L g free)=true):
  dh (jN L p t) g (t (aq L g free))=jN L p' t:=by
 refine rr (by rw[gP,gK,gK]) fun j hj=>?_
 rw[gP,gK]at hj;rw[eO (by rw[gK];exact hg),jc hj,jc hj]
 by_cases e:j=g
 ·subst e;rw[VR rfl,h1,VR rfl]
 ·rw[VQ e,hp j e]
theorem xR {L:List Obj} {p p':Nat->Obj->Bool} {t:Obj->Obj} (hp:∀j,j<L.length->p' j (aq L j free)=p j (aq L j free)):jN L p' t=jN L p t:=by
 refine rr (by rw[gK,gK]) fun j hj=>?_
 rw[gK]at hj;rw[jc hj,jc hj,hp j hj]
theorem k8 {L:List Obj} {f g:Int}:(bK L f g).length=L.length:=gK
theorem Cb {L:List Obj} {f:Int}:L=bK L f f:=by
 symm
 refine B6 fun j hj=>?_
 simp only[Bool.and_eq_false_iff,decide_eq_false_iff_not];omega
theorem Dp {L:List Obj} {f g:Int} (h0:0<=g):aq (bK L f g) g.toNat free=aq L g.toNat free:=by
 by_cases h:g.toNat<L.length
 ·unfold bK;rw[jc h,VQ];simp only[VK,VL];omega
 ·rw[show aq (bK L f g) g.toNat free=free by simp[aq,VP,List.getElem?_eq_none (show(bK L f g).length<=g.toNat by rw[k8];omega)]]
  simp[aq,VP,List.getElem?_eq_none (show L.length<=g.toNat by omega)]
theorem EJ {L:List Obj} {f g:Int} (h0:0<=g) (h1:g<(L.length:Int)) (hf:f<=g) (hr:jn (aq L g.toNat free)=true):dh (bK L f g) g.toNat (C5 (aq L g.toNat free))=bK L f (g+1):=by
 refine AK (by omega) (fun j hj=>?_) ?_
 ·have:decide ((j:Int)<g+1)=decide ((j:Int)<g):=by rw[decide_eq_decide];omega
  rw[this]
 ·rw[hr];simp;omega
theorem Cf {L:List Obj} {f g:Int} (h0:0<=g) (hr:jn (aq L g.toNat free)=false):bK L f (g+1)=bK L f g:=by
 refine xR fun j hj=>?_
 by_cases e:(j:Int)=g
 ·rw[show j=g.toNat by omega,hr,Bool.and_false,Bool.and_false]
 ·have:decide ((j:Int)<g+1)=decide ((j:Int)<g):=by rw[decide_eq_decide];omega
  rw[this]
theorem QO {L:List Obj} {f l g:Int} (h0:0<=f) (hf:f<=g) (hl:g<=l) (hg:g<(L.length:Int)) (hn:kC L f g) (hw:ei (aq L g.toNat free)=true):e9 L f l=g:=by
 unfold e9
 have:(List.range L.length).find? (fun(j:Nat)=>decide (f<=(j:Int))&&decide ((j:Int)<=l)&&ei (aq L j free))=some g.toNat:=by
  rw[List.find?_eq_some_iff_getElem];refine⟨by rw[hw];simp;omega,g.toNat,by simp;omega,by simp,fun j hj=>?_⟩
  simp only[List.getElem_range,Bool.not_eq_true',Bool.and_eq_false_iff,decide_eq_false_iff_not];by_cases e:f<=(j:Int)
  ·right;exact hn j e (by omega)
  ·left;left;exact e
 rw[this];show((g.toNat:Nat):Int)=g
 omega
theorem JL {L:List Obj} {f l:Int} (hn:kC L f (l+1)):e9 L f l= -1:=by
 unfold e9
 have:(List.range L.length).find? (fun(j:Nat)=>decide (f<=(j:Int))&&decide ((j:Int)<=l)&&ei (aq L j free))=none:=by
  rw[List.find?_eq_none];intro j hj h;simp only[VK,VL]at h;rw[hn j h.1.1 (by omega)]at h
  simp at h
 rw[this]
theorem ot {L:List Obj} {f g:Int} (h:kC L f g) (hg:ei (aq L g.toNat free)=false):kC L f (g+1):=fun j h1 h2=>by
 by_cases e:(j:Int)=g
 ·rw[show j=g.toNat by omega];exact hg
 ·exact h j h1 (by omega)
theorem vv {L:List Obj} {f:Int}:kC L f f:=fun j h1 h2=>by omega
theorem DM {L:List Obj} {f g oid:Int}:(fQ L f g oid).length=L.length:=gK
theorem GV {L:List Obj} {f g oid:Int} (h:gA L f g oid=0):fQ L f g oid=L:=by
 refine B6 fun j hj=>?_
 unfold gA at h;have h2:((List.range L.length).filter fun j=>jE f g oid j (aq L j free))= []:=List.eq_nil_of_length_eq_zero (by omega)
 rw[List.filter_eq_nil_iff]at h2;have:=h2 j (by simp;omega)
 simpa using this
theorem AY {L:List Obj} {f oid:Int}:gA L f f oid=0:=by
 unfold gA;rw[show((List.range L.length).filter fun j=>jE f f oid j (aq L j free))= []from ?_]
 ·rfl
 ·rw[List.filter_eq_nil_iff];intro j hj;unfold jE;simp only[VK,VL];omega
theorem Jn {L:List Obj} {f oid:Int}:L=fQ L f f oid:=(GV AY).symm
theorem PD {L:List Obj} {f g oid:Int} (h0:0<=g):aq (fQ L f g oid) g.toNat free=aq L g.toNat free:=by
 by_cases h:g.toNat<L.length
 ·unfold fQ;rw[jc h,VQ];unfold jE;simp only[VK,VL];omega
 ·rw[show aq (fQ L f g oid) g.toNat free=free by simp[aq,VP,List.getElem?_eq_none (show(fQ L f g oid).length<=g.toNat by rw[DM];omega)]]
  simp[aq,VP,List.getElem?_eq_none (show L.length<=g.toNat by omega)]
def jj (L:List Obj) (g oid:Int):Bool:=lP (aq L g.toNat free)&& !decide (g=oid)
theorem Ab {L:List Obj} {f g oid:Int} (h0:0<=g) (hf:f<=g):jE f (g+1) oid g.toNat (aq L g.toNat free)=jj L g oid:=by
 unfold jE jj;rw[show((g.toNat:Nat):Int)=g by omega]
 have a:decide (f<=g)=true:=by simp;omega
 have b:decide (g<g+1)=true:=by simp;omega
 rw[a,b];simp
theorem uY {L:List Obj} {f g oid:Int} {j:Nat} (h:(j:Int)≠g) (o:Obj):jE f (g+1) oid j o=jE f g oid j o:=by
 unfold jE;have:decide ((j:Int)<g+1)=decide ((j:Int)<g):=by rw[decide_eq_decide];omega
 rw[this]
theorem zt {f g oid:Int} {j:Nat} (h:(j:Int)=g) (o:Obj):jE f g oid j o=false:=by
 unfold jE;have:decide ((j:Int)<g)=false:=by simp;omega
 rw[this];simp
theorem OE {L:List Obj} {f g oid:Int} (h0:0<=g) (h1:g<(L.length:Int)) (hf:f<=g) (hr:jj L g oid=true):dh (fQ L f g oid) g.toNat (wo (aq L g.toNat free))=fQ L f (g+1) oid:=
 AK (by omega) (fun j hj=>uY (L:=L) (by omega) _) (by rw[Ab h0 hf];exact hr)
theorem B9 {L:List Obj} {f g oid:Int} (h0:0<=g) (hf:f<=g) (hr:jj L g oid=false):fQ L f (g+1) oid=fQ L f g oid:=by
 refine xR fun j hj=>?_
 by_cases e:(j:Int)=g
 ·rw[show j=g.toNat by omega,Ab h0 hf,hr,zt (by omega)]
 ·exact uY (L:=L) e _
theorem Bf {L:List Obj} {f g oid:Int} (h0:0<=g) (hf:f<=g) (hr:jj L g oid=false):gA L f (g+1) oid=gA L f g oid:=by
 unfold gA;rw[show((List.range L.length).filter fun j=>jE f (g+1) oid j (aq L j free))=(List.range L.length).filter fun j=>jE f g oid j (aq L j free)from List.filter_congr fun j hj=>?_]
 by_cases e:(j:Int)=g
 ·rw[show j=g.toNat by omega,Ab h0 hf,hr,zt (by omega)]
 ·exact uY (L:=L) e _
theorem filter_one {l:List Nat} {p p':Nat->Bool} {g:Nat} (hn:l.Nodup) (hg:g∈l) (hp:∀j,j≠g->p' j=p j) (h0:p g=false) (h1:p' g=true):(l.filter p').length=(l.filter p).length+1:=by
 induction l with
 |nil=>simp at hg
 |cons a l ih=>
  rw[List.nodup_cons]at hn;by_cases e:a=g
  ·subst e;have:l.filter p'=l.filter p:=List.filter_congr fun j hj=>hp j fun e=>hn.1 (e▸hj)
   rw[List.filter_cons,List.filter_cons,h0,h1,VR rfl,VQ (by simp),this]
   simp
  ·have hg2:g∈l:=by
    rcases List.mem_cons.1 hg with h|h
    ·exact absurd h.symm e
    ·exact h
   rw[List.filter_cons,List.filter_cons,hp a e];split
   ·simp only[List.length_cons];rw[ih hn.2 hg2]
   ·exact ih hn.2 hg2
theorem Hc {L:List Obj} {f g oid:Int} (h0:0<=g) (h1:g<(L.length:Int)) (hf:f<=g) (hr:jj L g oid=true):gA L f (g+1) oid=gA L f g oid+1:=by
 unfold gA;have:=filter_one (l:=List.range L.length) (p:=fun j=>jE f g oid j (aq L j free)) (p':=fun j=>jE f (g+1) oid j (aq L j free)) (g:=g.toNat) List.nodup_range (by simp;omega) (fun j hj=>uY (L:=L) (by omega) _) (zt (by omega) _) (by show jE f (g+1) oid g.toNat (aq L g.toNat free)=true;rw[Ab h0 hf];exact hr)
 omega
theorem DB {L:List Obj} {f g oid:Int}:0<=gA L f g oid:=by unfold gA;omega
theorem PH {L:List Obj} {f g oid:Int}:gA L f g oid<=(L.length:Int):=by
 unfold gA;have:=List.length_filter_le (fun j=>jE f g oid j (aq L j free)) (List.range L.length)
 rw[List.length_range]at this;omega
theorem z9 {n:Int} {kind count:Int} (h1:1<=n) (h2:n<=64) (h3:0<=kind) (h4:kind<=3) (h5:0<=count) (h6:count<=4294967295):bu ⟨kind,count,0,fY,ev⟩ n=true:=by
 rw[eo];refine⟨h1,h2,h3,h4,h5,h6,by simp,by simp,.inr rfl,fun i hi=>?_,fun i hi=>?_⟩
 ·simp only[vR];unfold kM;rw[lu.1,lu.2];simp;omega
 ·have hz:=E2.1 (show ev=ev from rfl) i hi;first|exact .inr (.inr hz)|exact hz|simp[hz]
theorem jU {o:Obj} {n:Int} (h:bu o n=true):0<=o.count/\o.count<=4294967295/\0<=o.kind/\o.kind<=3/\1<=n/\n<=64:=by
 obtain⟨a1,a2,a3,a4,a5,a6,_⟩:=eo.1 h;exact⟨a5,a6,a3,a4,a1,a2⟩
theorem z6 {o:Obj} {n:Int} (h:bu o n=true):bu (C5 o) n=true:=by
 obtain⟨a,b,c,d,e,f⟩:=jU h;exact z9 e f (by omega) (by omega) a b
theorem vb {o:Obj} {n:Int} (h:bu o n=true):bu (wo o) n=true:=by
 obtain⟨a,b,c,d,e,f⟩:=jU h;exact z9 e f (by omega) (by omega) a b
theorem yY {o:Obj} {n kind:Int} (h:bu o n=true) (hn:ei o=true) (hk:kind=1\/kind=2):bu (ku o kind) n=true:=by
 obtain⟨a,b,c,d,e,f⟩:=jU h;unfold ei at hn;simp only[VK,VL]at hn;exact z9 e f (by omega) (by omega) (by omega) (by omega)
theorem EA {L:List Obj} {p:Nat->Obj->Bool} {t:Obj->Obj} (h:aw L) (ht:∀o,bu o (L.length:Int)=true->bu (t o) (L.length:Int)=true):aw (jN L p t):=by
 refine HD h gK fun j hj=>?_
 rw[jc hj];split
 ·exact ht _ (cG h j hj)
 ·exact cG h j hj
theorem Dx {L:List Obj} {f g:Int} (h:aw L):aw (bK L f g):=EA h fun o ho=>z6 ho
def kB:lH (Key×Unit):=bI kA kK
def TD:lH (Key×Key×Unit):=bI kA (bI kA kK)
def Sn:lH (Key×Int×Unit):=bI kA (bI iA kK)
theorem Sq:iC kB:=aQ mC dU
theorem Ir:iC TD:=aQ mC (aQ mC dU)
theorem Ip:iC Sn:=aQ mC (aQ fP dU)
def Qq:Ct:=T0 (rI .i64) (rI .i64) (rI .i64) fun a b c=> .key (bZ a b c)
theorem DR {o:Obj} (h:o.kind≠0):jn o=false/\ei o=false:=by simp[jn,ei,h]
theorem Kx {o:Obj} (h:o.kind=0) (h2:4294967295<=o.count):jn o=true/\ei o=false:=by simp[jn,ei,h,h2]
theorem Jf {o:Obj} (h:o.kind=0) (h2:¬4294967295<=o.count):jn o=false/\ei o=true:=by
 refine⟨by simp[jn,h2],?_⟩
 simp only[ei,VK,VL];omega
theorem En {L:List Obj} {f l g:Int} (kind:Int) (h0:0<=f) (hf:f<=g) (hl:g<=l) (hg:g<(L.length:Int)) (hn:kC L f g) (hw:ei (aq L g.toNat free)=true):
  e9 L f l=g/\uj L f l=true/\kG L f l kind=dh (bK L f g) g.toNat (ku (aq L g.toNat free) kind):=by
 have e:=QO h0 hf hl hg hn hw;refine⟨e,?_,?_⟩
 ·unfold uj;rw[e];simp;left;omega
 ·unfold kG;rw[e,VQ (by omega)]
theorem JR {L:List Obj} {f l:Int} (kind:Int) (hn:kC L f (l+1)):e9 L f l= -1/\kG L f l kind=bK L f (l+1)/\uj L f l=HQ L f (l+1):=by
 have e:=JL hn;refine⟨e,?_,?_⟩
 ·unfold kG;rw[e,VR rfl]
 ·unfold uj;rw[e];rfl
theorem Ea {L:List Obj} {k:Key} (h:aS L k 4 false=0) (h2:gZ (aq L k.oid.toNat free) (an L:Int)=false):bc L k=220/\zU L k=0/\zm L k=0:=by
 have e:bc L k=220:=by unfold bc;rw[VR h,h2];rfl
 refine⟨e,?_,?_⟩
 ·unfold zU;rw[e];rfl
 ·unfold zm;rw[e];rfl
theorem wT {L:List Obj} {k:Key} (h:aS L k 4 false=0) (h2:gZ (aq L k.oid.toNat free) (an L:Int)=true):bc L k=0/\zU L k=aE L k/\zm L k=aI L k:=by
 have e:bc L k=0:=by unfold bc;rw[VR h,h2];rfl
 refine⟨e,?_,?_⟩
 ·unfold zU;rw[e];rfl
 ·unfold zm;rw[e];rfl
theorem om {L:List Obj} {k:Key} (h:bc L k=0):aS L k 4 false=0/\0<=aE L k/\aE L k<=aI L k/\aI L k<(L.length:Int)/\0<=k.oid/\k.oid<(L.length:Int):=by
 have ha:aS L k 4 false=0:=by
  unfold bc at h;split at h
  ·assumption
  ·rename_i h1;exact absurd h h1
 have hb:gZ (aq L k.oid.toNat free) (an L:Int)=true:=by
  cases hb:gZ (aq L k.oid.toNat free) (an L:Int)with
  |true=>rfl
  |false=>rw[(Ea ha hb).1]at h;simp at h
 obtain⟨_,b2,b3,_⟩:=eF (kE ha).1;unfold gZ at hb;simp only[VK,VL]at hb;obtain⟨⟨⟨⟨_,_⟩,h3⟩,h4⟩,h5⟩:=hb;exact⟨ha,h3,h4,h5,b2,b3⟩
theorem zi {L:List Obj} {f l:Int} (h0:0<=f):e9 L f l= -1\/(f<=e9 L f l/\e9 L f l<=l/\e9 L f l<(L.length:Int)/\ei (aq L (e9 L f l).toNat free)=true):=by
 unfold e9;split
 ·rename_i j hj;right
  have h1:=List.find?_some hj;have h2:=List.mem_of_find?_eq_some hj;simp only[VK,VL]at h1;rw[List.mem_range]at h2;exact⟨h1.1.1,h1.1.2,by omega,h1.2⟩
 ·exact .inl rfl
theorem Eg {L:List Obj} {f l kind:Int}:(kG L f l kind).length=L.length:=by
 unfold kG;split
 ·exact k8
 ·rw[gP,k8]
theorem Ia {L:List Obj} {f l kind:Int} (h0:0<=f) (h:e9 L f l≠ -1):aq (kG L f l kind) (e9 L f l).toNat free=ku (aq L (e9 L f l).toNat free) kind:=by
 rcases zi (L:=L) (l:=l) h0 with e|⟨a,b,c,d⟩
 ·exact absurd e h
 ·unfold kG;rw[VQ h,eO (by rw[k8];omega),VR rfl]
theorem NG {L:List Obj} {f l:Int} (h:e9 L f l≠ -1):uj L f l=true:=by unfold uj;simp[h]
theorem JU {L:List Obj} {k:Key} {kind:Int} (h:bc L k=0) (hk:kind=1\/kind=2) (hi:e9 L (aE L k) (aI L k)= -1):zJ L k kind=uj L (aE L k) (aI L k)/\void=er L k kind/\221=du L k kind/\kG L (aE L k) (aI L k) kind=fC L k kind:=by
 have e:gG L k kind=0:=by unfold gG;rw[VR h,VR hk]
 have e2:du L k kind=221:=by unfold du;rw[VR e,VR hi]
 refine⟨by unfold zJ;rw[e];simp,by unfold er;rw[e2];rfl,e2.symm,by unfold fC;rw[VR e]⟩
theorem MI {L:List Obj} {k:Key} {kind:Int} (h:bc L k=0) (hk:kind=1\/kind=2) (hi:e9 L (aE L k) (aI L k)≠ -1):zJ L k kind=true/\Key.mk (1+kind) (e9 L (aE L k) (aI L k)) (aq (kG L (aE L k) (aI L k) kind) (e9 L (aE L k) (aI L k)).toNat free).count 0 0 0=er L k kind/\0=du L k kind/\kG L (aE L k) (aI L k) kind=fC L k kind:=by
 have e:gG L k kind=0:=by unfold gG;rw[VR h,VR hk]
 have e2:du L k kind=0:=by unfold du;rw[VR e,VQ hi]
 refine⟨by unfold zJ;rw[e,NG hi];rfl,?_,e2.symm,by unfold fC;rw[VR e]⟩
 unfold er;rw[VR e2,Ia (om h).2.1 hi];unfold bZ ku;rcases hk with rfl|rfl<;>rfl
theorem KI {L:List Obj} {v:Key} (h:jZ L v=true):aT L v=true:=by unfold jZ at h;simp only[VK]at h;exact h.1
def fi (L:List Obj) (k:Key):Int:=e9 L (aE L k) (aI L k)
def dH (L:List Obj) (k:Key):List Obj:=kG L (aE L k) (aI L k) 1
def lQ (M:List Obj) (f g:Int):Bool:=(List.range M.length).any fun(j:Nat)=>decide (f<=(j:Int))&&decide ((j:Int)<g)&&lP (aq M j free)
def kP (L:List Obj) (k:Key) (n:Int):Int:=if bc L k=0 then(if n<1\/aI L k-aE L k<n then 4 else 0)else bc L k
def bY (L:List Obj) (k:Key) (n:Int):Int:=if kP L k n=0 then(if fi L k<0\/aI L k-n<fi L k then 221 else if lQ (dH L k) (aI L k-n+1) (aI L k+1)=true then 221 else 0)else kP L k n
def iG (o:Obj) (a b:Int):Obj:= {o with slots:=(o.slots.put 0 (c8 a)).put 1 (c8 b)}
def kR (o:Obj) (b:Int):Obj:= {o with slots:=o.slots.put 1 (c8 b)}
def bn (L:List Obj) (k:Key) (n:Int):List Obj:=if bY L k n=0 then dh (dh (dH L k) (fi L k).toNat (iG (aq (dH L k) (fi L k).toNat free) (aI L k-n+1) (aI L k))) k.oid.toNat (kR (aq (dH L k) k.oid.toNat free) (aI L k-n))else L
def b8 (L:List Obj) (k:Key) (n:Int):Key:=if bY L k n=0 then⟨4,fi L k,(aq (dH L k) (fi L k).toNat free).count,0,0,0⟩else void
theorem Bp {L:List Obj} {k:Key} {n:Int} (h:bc L k≠0):bY L k n=bc L k:=by
 have e:kP L k n=bc L k:=by unfold kP;rw[VQ h]
 unfold bY;rw[e,VQ h]
theorem FB {L:List Obj} {k:Key} {n:Int} (h:bc L k=0) (hn:n<1\/aI L k-aE L k<n):bY L k n=4:=by
 have e:kP L k n=4:=by unfold kP;rw[VR h,VR hn]
 unfold bY;rw[e];rfl
theorem Ox {L:List Obj} {k:Key} {n:Int} (h:bc L k=0) (h1:1<=n) (h2:n<=aI L k-aE L k):kP L k n=0:=by
 unfold kP;rw[VR h,VQ (by omega)]
theorem AB {L:List Obj} {k:Key} {n:Int} (h:kP L k n=0) (hi:fi L k<0\/aI L k-n<fi L k):bY L k n=221:=by
 unfold bY;rw[VR h,VR hi]
theorem Kj {L:List Obj} {k:Key} {n:Int} (h:kP L k n=0) (hi:lQ (dH L k) (aI L k-n+1) (aI L k+1)=true):bY L k n=221:=by
 unfold bY;rw[VR h,VR hi];split<;>rfl
theorem Ns {L:List Obj} {k:Key} {n:Int} (h:kP L k n=0) (h1:0<=fi L k) (h2:fi L k<=aI L k-n) (hi:lQ (dH L k) (aI L k-n+1) (aI L k+1)=false):bY L k n=0:=by
 unfold bY;rw[VR h,VQ (by omega),hi];rfl
theorem Hh {M:List Obj} {f g e:Int} (h0:0<=g) (h1:g<(M.length:Int)) (hf:f<=g) (he:g<e) (hr:lP (aq M g.toNat free)=true):lQ M f e=true:=by
 unfold lQ;rw[List.any_eq_true];exact⟨g.toNat,by simp;omega,by rw[hr];simp;omega⟩
theorem Ow {M:List Obj} {f g:Int} (h0:0<=g) (hr:lP (aq M g.toNat free)=false):lQ M f (g+1)=lQ M f g:=by
 unfold lQ;rw[Bool.eq_iff_iff,List.any_eq_true,List.any_eq_true];refine exists_congr fun j=>and_congr_right fun _=>?_
 simp only[VK,VL];constructor
 ·rintro⟨⟨a,b⟩,c⟩
  refine⟨⟨a,?_⟩,c⟩;by_cases e:(j:Int)=g
  ·rw[show j=g.toNat by omega,hr]at c;simp at c
  ·omega
 ·rintro⟨⟨a,b⟩,c⟩
  exact⟨⟨a,by omega⟩,c⟩
theorem RK {L:List Obj} {k:Key} (h:aT L k=true):bJ k=k.oid:=by
 unfold aT at h;simp only[VK]at h;unfold bJ;rw[VR h.1.1]
theorem D2 {L:List Obj} {k:Key} (h:(!decide (0<aj L))=true):bc L k=1:=by unfold bc;rw[HY h];rfl
theorem SF {L:List Obj} {k:Key} (h:(!decide (0<aj L))=false) (h2:(!(aT L k&&decide (k.kind=4)))=true):bc L k=190:=by unfold bc;rw[FN h h2];rfl
theorem So {L:List Obj} {k:Key} (h:(!decide (0<aj L))=false) (h2:(!(aT L k&&decide (k.kind=4)))=false) (h3:(!gZ (aa L k) (aj L))=true):bc L k=220:=by
 have ha:=E0 h h2;rw[(eF (lV h2).1).2.2.2.1]at h3;exact(Ea ha (show gZ (aq L k.oid.toNat free) (aj L)=false by simpa using h3)).1
theorem LG {L:List Obj} {k:Key} (h:(!decide (0<aj L))=false) (h2:(!(aT L k&&decide (k.kind=4)))=false) (h3:(!gZ (aa L k) (aj L))=false):bc L k=0/\((aa L k).slots.at 0).value=aE L k/\((aa L k).slots.at 1).value=aI L k:=by
 have ha:=E0 h h2;have e:=(eF (lV h2).1).2.2.2.1;rw[e]at h3;rw[e];exact⟨(wT ha (show gZ (aq L k.oid.toNat free) (aj L)=true by simpa using h3)).1,rfl,rfl⟩
theorem zp {L:List Obj} {k v:Key} {e:Int} (h:bc L k=e) (he:e≠0):false=lL L k v/\e=bc L k:=by
 refine⟨?_,h.symm⟩;unfold lL;rw[h];simp[he]
theorem rh {L:List Obj} {k v:Key} {e:Int} (h:dI L k v=e) (he:e≠0):e=dI L k v/\L=iX L k v:=by
 refine⟨h.symm,?_⟩;unfold iX;rw[h,VQ he]
theorem o9 {L:List Obj} {k v:Key} {e:Int} (h:bc L k=e) (he:e≠0):dI L k v=e:=by
 unfold dI;rw[h,VQ he]
theorem wH {L:List Obj} {k:Key} {e:Int} (h:bc L k=e) (he:e≠0):(0=iF L k/\e=bc L k)/\L=jW L k:=by
 unfold iF jW;rw[h,VQ he,VQ he];exact⟨⟨rfl,rfl⟩,rfl⟩
theorem tQ {L:List Obj} {k:Key} {kind e:Int} (h:gG L k kind=e) (he:e≠0):(void=er L k kind/\e=du L k kind)/\L=fC L k kind:=by
 have e2:du L k kind=e:=by unfold du;rw[h,VQ he]
 unfold er fC;rw[e2,h,VQ he,VQ he];exact⟨⟨rfl,rfl⟩,rfl⟩
theorem py {L:List Obj} {k:Key} {kind e:Int} (h:bc L k=e) (he:e≠0):gG L k kind=e:=by unfold gG;rw[h,VQ he]
theorem J4 {L:List Obj} {k:Key} {kind:Int} (h:bc L k=0) (h2:(!(decide (kind=1)||decide (kind=2)))=true):gG L k kind=2:=by
 unfold gG;rw[VR h,VQ];simp only[Bool.not_eq_true',Bool.or_eq_false_iff,decide_eq_false_iff_not]at h2;omega
theorem nV {L:List Obj} {k:Key} {n e:Int} (h:bY L k n=e) (he:e≠0):(void=b8 L k n/\e=bY L k n)/\L=bn L k n:=by
 unfold b8 bn;rw[h,VQ he,VQ he];exact⟨⟨rfl,rfl⟩,rfl⟩
theorem rE {L:List Obj} {k:Key} {n e:Int} (h:bc L k=e) (he:e≠0):bY L k n=e:=by rw[Bp (by omega),h]
def M4:Ct:=Ci (bI sA TD) (fun _=>none) fun x=> .tp [.bo (lL (An x.1) x.2.1 x.2.2.1),.it .i64 (bc (An x.1) x.2.1)]
def Mq:nz:=Gs (GP Sn) (fun L _=>aw L) (fun L x=> .tp [.key (er L x.1 x.2.1),.it .i64 (du L x.1 x.2.1)]) fun L x=>fC L x.1 x.2.1
def RC:nz:=Gs (GP TD) (fun L _=>aw L) (fun L x=> .it .i64 (dI L x.1 x.2.1)) fun L x=>iX L x.1 x.2.1
def NK:nz:=Gs (GP kB) (fun L _=>aw L) (fun L x=> .tp [.it .i64 (iF L x.1),.it .i64 (bc L x.1)]) fun L x=>jW L x.1
def KY:nz:=Gs (GP Sn) (fun L _=>aw L) (fun L x=> .tp [.key (b8 L x.1 x.2.1),.it .i64 (bY L x.1 x.2.1)]) fun L x=>bn L x.1 x.2.1
def n8 (L:List Obj) (k:Key) (n g:Int):Prop:=aE L k<=g/\g<=aI L k+1/\lQ (dH L k) (aI L k-n+1) g=false
def Ic (L M:List Obj) (g:Int):Int:=aq (ck L M) g.toNat 0
def GQ:List Obj->List Obj->Nat->List Obj
 |L,_,0=>L
 |L,M,g+1=>bP (GQ L M g) (Ic L M (g:Int)) (aD M (Ic L M (g:Int)))
def kX (L M:List Obj) (g:Int):List Obj:=GQ L M g.toNat
def ql (L M:List Obj) (g:Int):Prop:=0<=g/\g<=((ck L M).length:Int)
def dR (L:List Obj) (k:Key) (g:Int):Obj:=aD (bK L (aE L k) g) g
def oL (L:List Obj) (k:Key) (g:Int):List Obj:=bP (bK L (aE L k) g) g (Obj.mk 1 ((dR L k g).count+1) free.calls free.slots free.bytes)
def mV (x:Int):Key:=Key.mk 1 void.oid void.count void.call void.rights x
def zq (L:List Obj) (k:Key) (n g:Int):Obj:=Obj.mk (aD (oL L k g) g).kind (aD (oL L k g) g).count (aD (oL L k g) g).calls (((aD (oL L k g) g).slots.put 0 (mV (((aa L k).slots.at 1).value-n+1))).put 1 (mV ((aa L k).slots.at 1).value)) (aD (oL L k g) g).bytes
def y9 (L:List Obj) (k:Key) (n g:Int):List Obj:=bP (oL L k g) g (zq L k n g)
def Ai (L:List Obj) (k:Key) (n g:Int):Obj:=Obj.mk (aD (y9 L k n g) k.oid).kind (aD (y9 L k n g) k.oid).count (aD (y9 L k n g) k.oid).calls ((aD (y9 L k n g) k.oid).slots.put 1 (mV (((aa L k).slots.at 1).value-n))) (aD (y9 L k n g) k.oid).bytes
def kS (L:List Obj) (k:Key) (n g:Int):List Obj:=bP (y9 L k n g) k.oid (Ai L k n g)
def gY (L:List Obj) (k:Key) (g:Int):Prop:=aE L k<=g/\g<=aI L k+1/\kC L (aE L k) g
def qf (L:List Obj) (k:Key) (g:Int):Prop:=aE L k<=g/\g<=aI L k+1
theorem yP {L:List Obj} {k:Key} (h:aT L k=true) (h2:k.kind=4):(aq L k.oid.toNat free).kind=1:=by
 unfold aT at h;simp only[VK]at h;obtain⟨⟨h1,_⟩,h3⟩:=h;unfold cw at h3;simp only[VK,Bool.or_eq_true,VL]at h3;rcases mE k with⟨_,e,h0⟩|⟨e,_⟩
 ·rcases h3.2 with h|h
  ·omega
  ·rw[h.1.1];unfold iJ;rw[VQ (by omega),VQ (by omega)]
 ·rw[e]at h1;simp at h1
theorem DK {o:Obj} {n b:Int} (h:bu o n=true) (hk:o.kind=1):bu (kR o b) n=true:=by
 refine wG h hk fun i hi=>?_
 have:=(jU h).2.2.2.2.1;rw[bV.eR _ _ _ _ (by omega)]
 split
 ·exact qi (by omega) _
 ·exact qs h hk i hi
theorem E1 {o:Obj} {n a b:Int} (h:bu o n=true) (hk:o.kind=1):bu (iG o a b) n=true:=by
 refine wG h hk fun i hi=>?_
 have:=(jU h).2.2.2.2.1;rw[bV.eR _ _ _ _ (by omega),bV.eR _ _ _ _ (by omega)]
 split
 ·exact qi (by omega) _
 split
 ·exact qi (by omega) _
 ·exact qs h hk i hi
theorem OO {L:List Obj} {k:Key} {g:Int} (hL:aw L) (e:bc L k=0) (hk:(aq L k.oid.toNat free).kind=1) (g0:aE L k<=g) (gl:g<=aI L k) (g2:kC L (aE L k) g) (f2:ei (aq L g.toNat free)=true):
  fi L k=g/\dR L k g=aq L g.toNat free/\oL L k g=dH L k/\(dH L k).length=L.length/\aw (dH L k)/\aq (dH L k) g.toNat free=ku (aq L g.toNat free) 1/\aq (dH L k) k.oid.toNat free=aq L k.oid.toNat free/\k.oid.toNat≠g.toNat:=by
 obtain⟨_,a0,a1,a2,a3,a4⟩:=om e;have hgn:g.toNat<L.length:=by omega
 have hgz:(bK L (aE L k) g).length=L.length:=k8;have hgt:aD (bK L (aE L k) g) g=aq L g.toNat free:=by rw[fK (by omega) (by omega),Dp (by omega)]
 obtain⟨m1,m2,m3⟩:=En (l:=aI L k) 1 a0 g0 gl (by omega) g2 f2
 have hO:dR L k g=aq L g.toNat free:=hgt;have hnew:=yY (cG hL g.toNat hgn) f2 (.inl rfl);have hp:=(j8 (L:=bK L (aE L k) g) (i:=g) (x:=ku (aq L g.toNat free) 1) (by omega) (by omega) (by rw[hgz];exact hnew)).1
 have hP:oL L k g=dH L k:=by
  unfold oL;rw[hO];exact hp.trans m3.symm
 have hne:k.oid.toNat≠g.toNat:=fun h=>by
  rw[h]at hk;unfold ei at f2;simp only[VK,VL]at f2;omega
 have hM:dH L k=dh (bK L (aE L k) g) g.toNat (ku (aq L g.toNat free) 1):=m3;have hko:k.oid.toNat<L.length:=by omega
 refine⟨m1,hO,hP,Eg,?_,?_,?_,hne⟩
 ·rw[hM];exact jk (Dx hL) (by rw[hgz];exact hnew)
 ·rw[hM,eO (by rw[hgz];exact hgn),VR rfl]
 ·rw[hM,eO (by rw[hgz];exact hgn),VQ hne]
  unfold bK;rw[jc hko,VQ];simp only[jn,hk,VK,VL];omega
theorem Md {L:List Obj} {k:Key} {n g:Int} (hL:aw L) (e:bc L k=0) (hk:(aq L k.oid.toNat free).kind=1) (hB:((aa L k).slots.at 1).value=aI L k) (g0:aE L k<=g) (gl:g<=aI L k) (g2:kC L (aE L k) g) (f2:ei (aq L g.toNat free)=true) (h:bY L k n=0):
  kS L k n g=bn L k n/\aw (bn L k n)/\(bn L k n).length=L.length/\Key.mk 4 g ((dR L k g).count+1) 0 0 0=b8 L k n:=by
 obtain⟨i1,i2,i3,i4,i5,i6,i7,i8⟩:=OO hL e hk g0 gl g2 f2;obtain⟨_,a0,a1,a2,a3,a4⟩:=om e;have hgM:aD (dH L k) g=aq (dH L k) g.toNat free:=fK (by omega) (by omega)
 have hR1:zq L k n g=iG (aq (dH L k) g.toNat free) (aI L k-n+1) (aI L k):=by
  unfold zq;rw[i3,hgM,hB];rfl
 have o1:bu (iG (aq (dH L k) g.toNat free) (aI L k-n+1) (aI L k)) ((dH L k).length:Int)=true:=E1 (cG i5 g.toNat (by omega)) (by rw[i6];rfl)
 have hP2:y9 L k n g=dh (dH L k) g.toNat (iG (aq (dH L k) g.toNat free) (aI L k-n+1) (aI L k)):=by
  unfold y9;rw[i3,hR1];exact(j8 (by omega) (by omega) o1).1
 have ok2:=jk (i:=g.toNat) i5 o1;have l2:(dh (dH L k) g.toNat (iG (aq (dH L k) g.toNat free) (aI L k-n+1) (aI L k))).length=L.length:=by rw[gP];exact i4
 have g2':aD (y9 L k n g) k.oid=aq (dH L k) k.oid.toNat free:=by
  rw[hP2,fK (by omega) (by omega),eO (by omega),VQ i8]
 have hR2:Ai L k n g=kR (aq (dH L k) k.oid.toNat free) (aI L k-n):=by
  unfold Ai;rw[g2',hB];rfl
 have o2:bu (kR (aq (dH L k) k.oid.toNat free) (aI L k-n)) (L.length:Int)=true:=DK (by rw[<-i4];exact cG i5 k.oid.toNat (by omega)) (by rw[i7];exact hk)
 have hlast:bn L k n=dh (dh (dH L k) g.toNat (iG (aq (dH L k) g.toNat free) (aI L k-n+1) (aI L k))) k.oid.toNat (kR (aq (dH L k) k.oid.toNat free) (aI L k-n)):=by
  unfold bn;rw[VR h,i1]
 refine⟨?_,?_,?_,?_⟩
 ·unfold kS;rw[hR2,hP2,hlast];exact(j8 (by omega) (by omega) (by rw[l2];exact o2)).1
 ·rw[hlast];exact jk ok2 (by rw[l2];exact o2)
 ·rw[hlast,gP];exact l2
 ·unfold b8;rw[VR h,i1,i6,i2];rfl
theorem Om {L M:List Obj} {x:Int} (h:x∈ck L M):0<=x/\x<(L.length:Int):=by
 unfold ck en at h;rw[List.mem_map]at h;obtain⟨j,h1,rfl⟩:=h;have:=List.mem_range.1 (List.mem_filter.1 h1).1;unfold an at this;exact⟨Int.natCast_nonneg j,by show(j:Int)<_;omega⟩
theorem RL {L M:List Obj} {i:Nat} (h:i<(ck L M).length):aq (ck L M) i 0∈ck L M:=by
 unfold aq;rw[VP,List.getElem?_eq_getElem h];exact List.getElem_mem h
theorem OG {L M:List Obj} {j:Nat} (hj:j<L.length) (h:aq L j free≠aq M j free):∃i,i<(ck L M).length/\aq (ck L M) i 0=(j:Int):=by
 have:(j:Int)∈ck L M:=by
  unfold ck en;rw[List.mem_map];refine⟨j,List.mem_filter.2 ⟨List.mem_range.2 (by unfold an;omega),?_⟩,rfl⟩
  simp[z0,h]
 obtain⟨i,hi,e⟩:=List.mem_iff_getElem.1 this;refine⟨i,hi,?_⟩;unfold aq;rw[VP,List.getElem?_eq_getElem hi,e];rfl
theorem Hv {L M:List Obj} (hl:M.length=L.length) (hM:aw M):∀g:Nat,g<=(ck L M).length->(GQ L M g).length=L.length/\(∀j,j<L.length->aq (GQ L M g) j free=aq L j free\/aq (GQ L M g) j free=aq M j free)/\
  ∀i,i<g->aq (GQ L M g) (aq (ck L M) i 0).toNat free=aq M (aq (ck L M) i 0).toNat free
 |0,_=>⟨rfl,fun j hj=> .inl rfl,fun i hi=>by omega⟩
 |g+1,hg=>by
  obtain⟨h1,h2,h3⟩:=Hv hl hM g (by omega)
  obtain⟨u1,u2⟩:=Om (RL (L:=L) (M:=M) (i:=g) (by omega))
  have e:Ic L M (g:Int)=aq (ck L M) g 0:=rfl;generalize hu:aq (ck L M) g 0=u at *
  have hp:=(j8 (L:=GQ L M g) (i:=u) (x:=aq M u.toNat free) u1 (by omega) (by rw[h1,<-hl];exact cG hM _ (by omega))).1
  have hs:GQ L M (g+1)=dh (GQ L M g) u.toNat (aq M u.toNat free):=by
   simp only[GQ];rw[e,fK u1 (by omega)]
   exact hp
  rw[hs];refine⟨by rw[gP];exact h1,fun j hj=>?_,fun i hi=>?_⟩
  ·rw[eO (by omega)]
   split
   ·rename_i hj';rw[hj'];exact .inr rfl
   ·exact h2 j hj
  ·rw[eO (by omega)]
   split
   ·rename_i hj';rw[hj']
   ·rename_i hne;by_cases hig:i=g
    ·rw[hig,hu]at hne;exact absurd rfl hne
    ·exact h3 i (by omega)
theorem N6 {L M:List Obj} (hl:M.length=L.length) (hM:aw M) {g:Int} (hg:g=((ck L M).length:Int)):kX L M g=M:=by
 obtain⟨h1,h2,h3⟩:=Hv hl hM (ck L M).length (Nat.le_refl _);have e:kX L M g=GQ L M (ck L M).length:=by unfold kX;rw[hg];rfl
 rw[e];refine rr (by omega) fun j hj=>?_
 by_cases hne:aq L j free=aq M j free
 ·rcases h2 j (by omega)with h|h
  ·rw[h,hne]
  ·exact h
 ·obtain⟨i,hi,hij⟩:=OG (by omega) hne
  have:=h3 i hi;rw[hij]at this;exact this
theorem KD {L M:List Obj} {g:Int} (h0:0<=g):bP (kX L M g) (aq (ck L M) g.toNat 0) (aD M (aq (ck L M) g.toNat 0))=kX L M (g+1):=by
 unfold kX;rw[show(g+1).toNat=g.toNat+1 by omega]
 simp only[GQ];rfl
theorem Ja {L M:List Obj} (hl:M.length=L.length) (h:1<=L.length):iI L M=false:=by
 unfold iI aR an;simp only[hl,show decide (L.length=0)=false from decide_eq_false (by omega),Bool.false_or,decide_true,Bool.not_true]
theorem Ex {M:List Obj} {f g:Int} (h:g<=f):lQ M f g=false:=by
 unfold lQ;rw[List.any_eq_false];intro j _;simp only[VK,VL,not_and];intro h1 h2;omega
theorem Mx {L M:List Obj}:(ck L M).length<=L.length:=by
 unfold ck en;rw[List.length_map];have:=List.length_filter_le (fun j=> !z0 (aq L j free) (aq M j free)) (List.range (an L:Int).toNat)
 simpa[an]using this
structure Vc where
 kind:Int
 num:Int
 bank:Key
 key:Key
 obj:Int
def Vc.wf (x:Vc):Prop:=cj .i64 x.kind/\cj .i64 x.num/\x.bank.wf/\x.key.wf/\cj .i64 x.obj
theorem FL {L M:List Obj} {k:Key} {d:Int} {c:Bool} (hl:M.length=L.length) (h1:(aq M k.oid.toNat free).kind=(aq L k.oid.toNat free).kind) (h2:(aq M k.oid.toNat free).count=(aq L k.oid.toNat free).count) (h3:(aq M k.oid.toNat free).calls=(aq L k.oid.toNat free).calls):aS M k d c=aS L k d c:=by
 have hi:aT M k=aT L k:=by
  unfold aT cI cw an;rw[hl,h1,h2,h3]
 unfold aS an;rw[hl,hi]
theorem Nu {L:List Obj} {k:Key} (h:bc L k=0):gZ (aq L k.oid.toNat free) (L.length:Int)=true/\(aq L k.oid.toNat free).kind=1:=by
 obtain⟨ha,_⟩:=om h;obtain⟨i1,i2,_⟩:=kE ha;refine⟨?_,yP i1 i2⟩;unfold bc at h;rw[VR ha]at h;split at h
 ·rename_i hc;exact hc
 ·omega
theorem Kv {L:List Obj} {f l kind:Int} {j:Nat} (h0:0<=f) (hj:j<L.length) (hk:(aq L j free).kind≠0):aq (kG L f l kind) j free=aq L j free:=by
 have hG:∀g,aq (bK L f g) j free=aq L j free:=fun g=>by
  unfold bK;rw[jc hj,VQ];simp only[jn,VK,VL];omega
 unfold kG;split
 ·exact hG _
 ·rename_i hi;rcases zi (L:=L) (l:=l) h0 with e|⟨a,b,c,d⟩
  ·exact absurd e hi
  ·rw[eO (by rw[k8];omega),VQ,hG]
   intro e;rw[<-e]at d;unfold ei at d;simp only[VK,VL]at d;exact hk d.1
theorem IF {L:List Obj} {f l kind:Int} (hL:aw L) (h0:0<=f) (hk:kind=1\/kind=2):aw (kG L f l kind):=by
 unfold kG;split
 ·exact Dx hL
 ·rename_i hi;rcases zi (L:=L) (l:=l) h0 with e|⟨a,b,c,d⟩
  ·exact absurd e hi
  ·exact jk (Dx hL) (by rw[k8];exact yY (cG hL _ (by omega)) d hk)
theorem EU {L:List Obj} {k:Key} {kind:Int} (hL:aw L):aw (fC L k kind):=by
 unfold fC;split
 ·rename_i h
  have he:bc L k=0:=by
   unfold gG at h;split at h
   ·assumption
   ·rename_i h';exact absurd h h'
  refine IF hL (om he).2.1 ?_;unfold gG at h;rw[VR he]at h;split at h
  ·assumption
  ·omega
 ·exact hL
theorem HX {L:List Obj} {k:Key} {n:Int} (hL:aw L) (e:bc L k=0) (h:bY L k n=0):
  aw (bn L k n)/\(bn L k n).length=L.length/\bc (bn L k n) k=0/\aE (bn L k n) k=aE L k/\aI (bn L k n) k=aI L k-n/\
  bc (bn L k n) (b8 L k n)=0/\aE (bn L k n) (b8 L k n)=aI L k-n+1/\aI (bn L k n) (b8 L k n)=aI L k/\aE L k<=(b8 L k n).oid/\(b8 L k n).oid<=aI L k-n/\1<=n/\n<=aI L k-aE L k/\
  ei (aq L (b8 L k n).oid.toNat free)=true:=by
 obtain⟨ha,a0,a1,a2,a3,a4⟩:=om e;obtain⟨hok,hk1⟩:=Nu e;obtain⟨x1,x2⟩:=iN hL;have h':=h;unfold bY at h;split at h
 case isFalse h2=>exact absurd h h2
 rename_i hE0;split at h
 case isTrue=>omega
 rename_i hI
 have hn:1<=n/\n<=aI L k-aE L k:=by
  unfold kP at hE0;rw[VR e]at hE0;split at hE0
  ·omega
  ·omega
 have hin:=zi (L:=L) (l:=aI L k) a0;have hIe:e9 L (aE L k) (aI L k)=fi L k:=rfl;have hne1:e9 L (aE L k) (aI L k)≠ -1:=by rw[hIe];omega
 rw[hIe]at hin;rcases hin with hin|⟨i1,i2,i3,i4⟩
 ·omega
 have hMlen:(dH L k).length=L.length:=Eg;have hMok:aw (dH L k):=IF hL a0 (.inl rfl);have hMI:aq (dH L k) (fi L k).toNat free=ku (aq L (fi L k).toNat free) 1:=Ia a0 hne1;have RN:aq (dH L k) k.oid.toNat free=aq L k.oid.toNat free:=Kv a0 (by omega) (by omega)
 have hne:k.oid.toNat≠(fi L k).toNat:=fun hh=>by
  rw[hh]at hk1;unfold ei at i4;simp only[VK,VL]at i4;omega
 have hLL:bn L k n=dh (dh (dH L k) (fi L k).toNat (iG (aq (dH L k) (fi L k).toNat free) (aI L k-n+1) (aI L k))) k.oid.toNat (kR (aq (dH L k) k.oid.toNat free) (aI L k-n)):=by
  unfold bn;rw[VR h']
 have hKK:b8 L k n=⟨4,fi L k,(aq L (fi L k).toNat free).count+1,0,0,0⟩:=by
  unfold b8;rw[VR h',hMI];rfl
 have o1:bu (iG (aq (dH L k) (fi L k).toNat free) (aI L k-n+1) (aI L k)) (L.length:Int)=true:=E1 (by rw[<-hMlen];exact cG hMok _ (by omega)) (by rw[hMI];rfl)
 have o2:bu (kR (aq (dH L k) k.oid.toNat free) (aI L k-n)) (L.length:Int)=true:=DK (by rw[<-hMlen];exact cG hMok _ (by omega)) (by rw[RN];exact hk1)
 have l1:(dh (dH L k) (fi L k).toNat (iG (aq (dH L k) (fi L k).toNat free) (aI L k-n+1) (aI L k))).length=L.length:=by rw[gP];exact hMlen
 have okX:=jk (i:=(fi L k).toNat) hMok (by rw[hMlen];exact o1)
 have hlen:(bn L k n).length=L.length:=by rw[hLL,gP];exact l1
 have hokL:aw (bn L k n):=by rw[hLL];exact jk okX (by rw[l1];exact o2)
 have hgk:aq (bn L k n) k.oid.toNat free=kR (aq L k.oid.toNat free) (aI L k-n):=by
  rw[hLL,eO (by omega),VR rfl,RN]
 have hgI:aq (bn L k n) (fi L k).toNat free=iG (ku (aq L (fi L k).toNat free) 1) (aI L k-n+1) (aI L k):=by
  rw[hLL,eO (by omega),VQ (Ne.symm hne),eO (by omega),VR rfl,hMI]
 have s2:∀(o:Obj) (b:Int),(kR o b).slots.at 0=o.slots.at 0/\(kR o b).slots.at 1=c8 b:=fun o b=>by
  unfold kR;simp only;rw[bV.eR _ _ _ _ (by omega),bV.eR _ _ _ _ (by omega)]
  exact⟨rfl,rfl⟩
 have s1:∀(o:Obj) (a b:Int),(iG o a b).slots.at 0=c8 a/\(iG o a b).slots.at 1=c8 b:=fun o a b=>by
  unfold iG;simp only;rw[bV.eR _ _ _ _ (by omega),bV.eR _ _ _ _ (by omega),bV.eR _ _ _ _ (by omega)]
  exact⟨rfl,rfl⟩
 have hask:aS (bn L k n) k 4 false=0:=by
  rw[FL hlen (by rw[hgk];rfl) (by rw[hgk];rfl) (by rw[hgk];rfl)];exact ha
 unfold gZ at hok;simp only[VK,VL]at hok;obtain⟨⟨⟨⟨c1,c2⟩,c3⟩,c4⟩,c5⟩:=hok;have hA':aE (bn L k n) k=aE L k:=by unfold aE;rw[hgk,(s2 _ _).1]
 have hB':aI (bn L k n) k=aI L k-n:=by
  have:aI (bn L k n) k=((kR (aq L k.oid.toNat free) (aI L k-n)).slots.at 1).value:=by rw[<-hgk];rfl
  rw[this,(s2 _ _).2];rfl
 have hE':bc (bn L k n) k=0:=(wT hask (by
  rw[hgk];unfold gZ an;rw[(s2 _ _).1,(s2 _ _).2,hlen];have v0:((aq L k.oid.toNat free).slots.at 0).value=aE L k:=rfl;simp only[c8,VK,VL];refine⟨⟨⟨⟨c1,?_⟩,c3⟩,?_⟩,?_⟩
  ·trivial
  ·exact decide_eq_true (by omega)
  ·exact decide_eq_true (by omega))).1
 have i4':=i4;unfold ei at i4';simp only[VK,VL]at i4';have hcb:=jU (cG hL (fi L k).toNat (by omega))
 have hkey:aW (b8 L k n)=true:=by
  rw[hKK];unfold aW fa;simp only[gw,oJ,qA,ef];simp;omega
 have hoid:(b8 L k n).oid=fi L k:=by rw[hKK]
 have hisO:gw (b8 L k n).kind=true:=by rw[hKK];rfl
 have hnm:aU (b8 L k n)=true:=by unfold aU;rw[hkey,hisO];rfl
 have hnames:cM (b8 L k n)=fi L k:=by unfold cM;rw[hkey,hisO,hoid];rfl
 have hcounts:cw (b8 L k n) (aq (bn L k n) (b8 L k n).oid.toNat free)=true:=by
  unfold cw iJ;rw[hkey,hnames,hoid,hgI,VQ (by omega),hKK]
  simp[iG,ku]
 have his:aT (bn L k n) (b8 L k n)=true:=by
  unfold aT;rw[hnm,hcounts,mZ.2 ⟨by omega,by omega⟩];rfl
 have hask2:aS (bn L k n) (b8 L k n) 4 false=0:=by
  unfold aS an;rw[VQ (by omega),VQ (by rw[his,hKK];simp),VQ (by simp)]
 have hobj:aq (bn L k n) (b8 L k n).oid.toNat free=iG (ku (aq L (fi L k).toNat free) 1) (aI L k-n+1) (aI L k):=by rw[hoid];exact hgI
 refine⟨hokL,hlen,hE',hA',hB',(wT hask2 ?_).1,?_,?_,by rw[hoid];exact i1,by rw[hoid];omega,hn.1,hn.2,by rw[hoid];exact i4⟩
 ·rw[hobj];unfold gZ an;rw[(s1 _ _ _).1,(s1 _ _ _).2,hlen];simp only[c8,VK,VL];refine⟨⟨⟨⟨?_,?_⟩,?_⟩,?_⟩,?_⟩
  ·trivial
  ·trivial
  ·exact decide_eq_true (by omega)
  ·exact decide_eq_true (by omega)
  ·exact decide_eq_true (by omega)
 ·unfold aE;rw[hobj,(s1 _ _ _).1];rfl
 ·have:aI (bn L k n) (b8 L k n)=((iG (ku (aq L (fi L k).toNat free) 1) (aI L k-n+1) (aI L k)).slots.at 1).value:=by rw[<-hobj];rfl
  rw[this,(s1 _ _ _).2];rfl
end Go.Sx
