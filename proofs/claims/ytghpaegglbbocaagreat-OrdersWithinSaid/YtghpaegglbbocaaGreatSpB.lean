import Derived.Test.YtghpaegglbbocaaGreatSpP
import Derived.Test.YtghpaegglbbocaaGreatKS
set_option linter.unusedSimpArgs false
set_option linter.unusedVariables false
namespace Go.Sx
def iI (o:Obj):Bool:=decide (o.kind=0)&&decide (4294967295<=o.count)
def dq (o:Obj):Bool:=decide (o.kind=0)&&decide (o.count<4294967295)
def Cr (o:Obj):Obj:=⟨3,o.count,0,fH,fx⟩
def jF (o:Obj) (kind:Int):Obj:=⟨kind,o.count+1,0,fH,fx⟩
def vk (o:Obj):Obj:=⟨0,o.count,0,fH,fx⟩
def iV (L:List Obj) (p:Nat->Obj->Bool) (t:Obj->Obj):List Obj:=(List.range L.length).map fun j=>if p j (aq L j free)then t (aq L j free)else aq L j free
def bz (L:List Obj) (f g:Int):List Obj:=iV L (fun j o=>decide (f<=(j:Int))&&decide ((j:Int)<g)&&iI o) Cr
def jJ (L:List Obj) (f g:Int):Prop:=∀j:Nat,f<=(j:Int)->(j:Int)<g->dq (aq L j free)=false
def HC (L:List Obj) (f g:Int):Bool:=(List.range L.length).any fun(j:Nat)=>decide (f<=(j:Int))&&decide ((j:Int)<g)&&iI (aq L j free)
def dD (L:List Obj) (f l:Int):Int:=match (List.range L.length).find? fun(j:Nat)=>decide (f<=(j:Int))&&decide ((j:Int)<=l)&&dq (aq L j free)with
 |some j=>(j:Int)
 |none=> -1
def jb (L:List Obj) (f l kind:Int):List Obj:=if dD L f l= -1 then bz L f (l+1)else cX (bz L f (dD L f l)) (dD L f l).toNat (jF (aq L (dD L f l).toNat free) kind)
def s9 (L:List Obj) (f l:Int):Bool:= !decide (dD L f l= -1)||HC L f (l+1)
def bI (kind oid count:Int):Key:=⟨if kind=2 then 3 else 2,oid,count,0,0,0⟩
def gH (o:Obj) (n:Int):Bool:=decide ((o.slots.at 0).kind=1)&&decide ((o.slots.at 1).kind=1)&&decide (0<=(o.slots.at 0).value)&&decide ((o.slots.at 0).value<=(o.slots.at 1).value)&&decide ((o.slots.at 1).value<n)
def aS (L:List Obj) (k:Key):Int:=if aJ L k 4 false=0 then(if gH (aq L k.oid.toNat free) (aE L:Int)then 0 else 220)else aJ L k 4 false
def au (L:List Obj) (k:Key):Int:=((aq L k.oid.toNat free).slots.at 0).value
def ay (L:List Obj) (k:Key):Int:=((aq L k.oid.toNat free).slots.at 1).value
def zb (L:List Obj) (k:Key):Int:=if aS L k=0 then au L k else 0
def yX (L:List Obj) (k:Key):Int:=if aS L k=0 then ay L k else 0
def fq (L:List Obj) (k:Key) (kind:Int):Int:=if aS L k=0 then(if kind=1\/kind=2 then 0 else 2)else aS L k
def cw (L:List Obj) (k:Key) (kind:Int):Int:=if fq L k kind=0 then(if dD L (au L k) (ay L k)= -1 then 221 else 0)else fq L k kind
def eO (L:List Obj) (k:Key) (kind:Int):List Obj:=if fq L k kind=0 then jb L (au L k) (ay L k) kind else L
def zn (L:List Obj) (k:Key) (kind:Int):Bool:=decide (fq L k kind=0)&&s9 L (au L k) (ay L k)
def bS (L:List Obj) (k:Key) (kind:Int):Key:=if cw L k kind=0 then bI kind (dD L (au L k) (ay L k)) ((aq L (dD L (au L k) (ay L k)).toNat free).count+1)else void
def jo (L:List Obj) (v:Key):Bool:=aM L v&&(decide (v.kind=2)||decide (v.kind=3))
def dA (L:List Obj) (k v:Key):Int:=if aS L k=0 then(if jo L v then(if au L k<=v.oid/\v.oid<=ay L k/\v.oid≠k.oid then 0 else 4)else 5)else aS L k
def gA (L:List Obj) (k v:Key):List Obj:=if dA L k v=0 then cX L v.oid.toNat (vk (aq L v.oid.toNat free))else L
def kE (o:Obj):Bool:=decide (o.kind=1)||decide (o.kind=2)
def iT (f g oid:Int) (j:Nat) (o:Obj):Bool:=decide (f<=(j:Int))&&decide ((j:Int)<g)&&kE o&& !decide ((j:Int)=oid)
def ft (L:List Obj) (f g oid:Int):List Obj:=iV L (iT f g oid) vk
def fX (L:List Obj) (f g oid:Int):Int:=(((List.range L.length).filter fun j=>iT f g oid j (aq L j free)).length:Int)
def iu (L:List Obj) (k:Key):List Obj:=if aS L k=0 then ft L (au L k) (ay L k+1) k.oid else L
def gX (L:List Obj) (k:Key):Int:=if aS L k=0 then fX L (au L k) (ay L k+1) k.oid else 0
def kV (L:List Obj) (k v:Key):Bool:=decide (aS L k=0)&&jo L v&&decide (au L k<=v.oid)&&decide (v.oid<=ay L k)
theorem fw {L:List Obj} {p:Nat->Obj->Bool} {t:Obj->Obj}:(iV L p t).length=L.length:=by simp[iV]
theorem gT {L:List Obj} {p:Nat->Obj->Bool} {t:Obj->Obj} {j:Nat} (h:j<L.length):aq (iV L p t) j free=if p j (aq L j free)then t (aq L j free)else aq L j free:=by
 rw[show aq (iV L p t) j free=(iV L p t).getD j free from rfl,Tm];unfold iV;rw[List.getElem?_map,List.getElem?_range h];rfl
theorem Am {L:List Obj} {p:Nat->Obj->Bool} {t:Obj->Obj} (h:∀j,j<L.length->p j (aq L j free)=false):iV L p t=L:=by
 refine rB fw fun j hj=>?_
 rw[fw]at hj;rw[gT hj,h j hj];rfl
theorem Az {L:List Obj} {p p':Nat->Obj->Bool} {t:Obj->Obj} {g:Nat} (hg:g<L.length) (hp:∀j,j≠g->p' j (aq L j free)=p j (aq L j free)) (h1:p' g (aq L g free)=true):
  cX (iV L p t) g (t (aq L g free))=iV L p' t:=by
 refine rB (by rw[jc,fw,fw]) fun j hj=>?_
 rw[jc,fw]at hj;rw[eV (by rw[fw];exact hg),gT hj,gT hj]
 by_cases e:j=g
 ·subst e;rw[To rfl,h1,To rfl]
 ·rw[Tn e,hp j e]
theorem xC {L:List Obj} {p p':Nat->Obj->Bool} {t:Obj->Obj} (hp:∀j,j<L.length->p' j (aq L j free)=p j (aq L j free)):iV L p' t=iV L p t:=by
 refine rB (by rw[fw,fw]) fun j hj=>?_
 rw[fw]at hj;rw[gT hj,gT hj,hp j hj]
theorem kq {L:List Obj} {f g:Int}:(bz L f g).length=L.length:=fw
theorem AY {L:List Obj} {f:Int}:L=bz L f f:=by
 symm
 refine Am fun j hj=>?_
 simp only[Bool.and_eq_false_iff,decide_eq_false_iff_not];omega
theorem BE {L:List Obj} {f g:Int} (h0:0<=g):aq (bz L f g) g.toNat free=aq L g.toNat free:=by
 by_cases h:g.toNat<L.length
 ·unfold bz;rw[gT h,Tn];simp only[Th,Ti];omega
 ·rw[show aq (bz L f g) g.toNat free=free by simp[aq,Tm,List.getElem?_eq_none (show(bz L f g).length<=g.toNat by rw[kq];omega)]]
  simp[aq,Tm,List.getElem?_eq_none (show L.length<=g.toNat by omega)]
theorem DT {L:List Obj} {f g:Int} (h0:0<=g) (h1:g<(L.length:Int)) (hf:f<=g) (hr:iI (aq L g.toNat free)=true):cX (bz L f g) g.toNat (Cr (aq L g.toNat free))=bz L f (g+1):=by
 refine Az (by omega) (fun j hj=>?_) ?_
 ·have:decide ((j:Int)<g+1)=decide ((j:Int)<g):=by rw[decide_eq_decide];omega
  rw[this]
 ·rw[hr];simp;omega
theorem Aq {L:List Obj} {f g:Int} (h0:0<=g) (hr:iI (aq L g.toNat free)=false):bz L f (g+1)=bz L f g:=by
 refine xC fun j hj=>?_
 by_cases e:(j:Int)=g
 ·rw[show j=g.toNat by omega,hr,Bool.and_false,Bool.and_false]
 ·have:decide ((j:Int)<g+1)=decide ((j:Int)<g):=by rw[decide_eq_decide];omega
  rw[this]
theorem NU {L:List Obj} {f l g:Int} (h0:0<=f) (hf:f<=g) (hl:g<=l) (hg:g<(L.length:Int)) (hn:jJ L f g) (hw:dq (aq L g.toNat free)=true):dD L f l=g:=by
 unfold dD
 have:(List.range L.length).find? (fun(j:Nat)=>decide (f<=(j:Int))&&decide ((j:Int)<=l)&&dq (aq L j free))=some g.toNat:=by
  rw[List.find?_eq_some_iff_getElem];refine⟨by rw[hw];simp;omega,g.toNat,by simp;omega,by simp,fun j hj=>?_⟩
  simp only[List.getElem_range,Bool.not_eq_true',Bool.and_eq_false_iff,decide_eq_false_iff_not];by_cases e:f<=(j:Int)
  ·right;exact hn j e (by omega)
  ·left;left;exact e
 rw[this];show((g.toNat:Nat):Int)=g
 omega
theorem G5 {L:List Obj} {f l:Int} (hn:jJ L f (l+1)):dD L f l= -1:=by
 unfold dD
 have:(List.range L.length).find? (fun(j:Nat)=>decide (f<=(j:Int))&&decide ((j:Int)<=l)&&dq (aq L j free))=none:=by
  rw[List.find?_eq_none];intro j hj h;simp only[Th,Ti]at h;rw[hn j h.1.1 (by omega)]at h
  simp at h
 rw[this]
theorem mI {L:List Obj} {f g:Int} (h:jJ L f g) (hg:dq (aq L g.toNat free)=false):jJ L f (g+1):=fun j h1 h2=>by
 by_cases e:(j:Int)=g
 ·rw[show j=g.toNat by omega];exact hg
 ·exact h j h1 (by omega)
theorem vi {L:List Obj} {f:Int}:jJ L f f:=fun j h1 h2=>by omega
theorem DK {L:List Obj} {f g oid:Int}:(ft L f g oid).length=L.length:=fw
theorem HI {L:List Obj} {f g oid:Int} (h:fX L f g oid=0):ft L f g oid=L:=by
 refine Am fun j hj=>?_
 unfold fX at h;have h2:((List.range L.length).filter fun j=>iT f g oid j (aq L j free))= []:=List.eq_nil_of_length_eq_zero (by omega)
 rw[List.filter_eq_nil_iff]at h2;have:=h2 j (by simp;omega)
 simpa using this
theorem Ao {L:List Obj} {f oid:Int}:fX L f f oid=0:=by
 unfold fX;rw[show((List.range L.length).filter fun j=>iT f f oid j (aq L j free))= []from ?_]
 ·rfl
 ·rw[List.filter_eq_nil_iff];intro j hj;unfold iT;simp only[Th,Ti];omega
theorem Fx {L:List Obj} {f oid:Int}:L=ft L f f oid:=(HI Ao).symm
theorem N8 {L:List Obj} {f g oid:Int} (h0:0<=g):aq (ft L f g oid) g.toNat free=aq L g.toNat free:=by
 by_cases h:g.toNat<L.length
 ·unfold ft;rw[gT h,Tn];unfold iT;simp only[Th,Ti];omega
 ·rw[show aq (ft L f g oid) g.toNat free=free by simp[aq,Tm,List.getElem?_eq_none (show(ft L f g oid).length<=g.toNat by rw[DK];omega)]]
  simp[aq,Tm,List.getElem?_eq_none (show L.length<=g.toNat by omega)]
def iG (L:List Obj) (g oid:Int):Bool:=kE (aq L g.toNat free)&& !decide (g=oid)
theorem yk {L:List Obj} {f g oid:Int} (h0:0<=g) (hf:f<=g):iT f (g+1) oid g.toNat (aq L g.toNat free)=iG L g oid:=by
 unfold iT iG;rw[show((g.toNat:Nat):Int)=g by omega]
 have a:decide (f<=g)=true:=by simp;omega
 have b:decide (g<g+1)=true:=by simp;omega
 rw[a,b];simp
theorem ua {L:List Obj} {f g oid:Int} {j:Nat} (h:(j:Int)≠g) (o:Obj):iT f (g+1) oid j o=iT f g oid j o:=by
 unfold iT;have:decide ((j:Int)<g+1)=decide ((j:Int)<g):=by rw[decide_eq_decide];omega
 rw[this]
theorem yL {f g oid:Int} {j:Nat} (h:(j:Int)=g) (o:Obj):iT f g oid j o=false:=by
 unfold iT;have:decide ((j:Int)<g)=false:=by simp;omega
 rw[this];simp
theorem LS {L:List Obj} {f g oid:Int} (h0:0<=g) (h1:g<(L.length:Int)) (hf:f<=g) (hr:iG L g oid=true):cX (ft L f g oid) g.toNat (vk (aq L g.toNat free))=ft L f (g+1) oid:=
 Az (by omega) (fun j hj=>ua (L:=L) (by omega) _) (by rw[yk h0 hf];exact hr)
theorem A2 {L:List Obj} {f g oid:Int} (h0:0<=g) (hf:f<=g) (hr:iG L g oid=false):ft L f (g+1) oid=ft L f g oid:=by
 refine xC fun j hj=>?_
 by_cases e:(j:Int)=g
 ·rw[show j=g.toNat by omega,yk h0 hf,hr,yL (by omega)]
 ·exact ua (L:=L) e _
theorem AD {L:List Obj} {f g oid:Int} (h0:0<=g) (hf:f<=g) (hr:iG L g oid=false):fX L f (g+1) oid=fX L f g oid:=by
 unfold fX;rw[show((List.range L.length).filter fun j=>iT f (g+1) oid j (aq L j free))=(List.range L.length).filter fun j=>iT f g oid j (aq L j free)from List.filter_congr fun j hj=>?_]
 by_cases e:(j:Int)=g
 ·rw[show j=g.toNat by omega,yk h0 hf,hr,yL (by omega)]
 ·exact ua (L:=L) e _
theorem filter_one {l:List Nat} {p p':Nat->Bool} {g:Nat} (hn:l.Nodup) (hg:g∈l) (hp:∀j,j≠g->p' j=p j) (h0:p g=false) (h1:p' g=true):(l.filter p').length=(l.filter p).length+1:=by
 induction l with
 |nil=>simp at hg
 |cons a l ih=>
  rw[List.nodup_cons]at hn;by_cases e:a=g
  ·subst e;have:l.filter p'=l.filter p:=List.filter_congr fun j hj=>hp j fun e=>hn.1 (e▸hj)
   rw[List.filter_cons,List.filter_cons,h0,h1,To rfl,Tn (by simp),this]
   simp
  ·have hg2:g∈l:=by
    rcases List.mem_cons.1 hg with h|h
    ·exact absurd h.symm e
    ·exact h
   rw[List.filter_cons,List.filter_cons,hp a e];split
   ·simp only[List.length_cons];rw[ih hn.2 hg2]
   ·exact ih hn.2 hg2
theorem Ga {L:List Obj} {f g oid:Int} (h0:0<=g) (h1:g<(L.length:Int)) (hf:f<=g) (hr:iG L g oid=true):fX L f (g+1) oid=fX L f g oid+1:=by
 unfold fX;have:=filter_one (l:=List.range L.length) (p:=fun j=>iT f g oid j (aq L j free)) (p':=fun j=>iT f (g+1) oid j (aq L j free)) (g:=g.toNat) List.nodup_range (by simp;omega) (fun j hj=>ua (L:=L) (by omega) _) (yL (by omega) _) (by show iT f (g+1) oid g.toNat (aq L g.toNat free)=true;rw[yk h0 hf];exact hr)
 omega
theorem Cj {L:List Obj} {f g oid:Int}:0<=fX L f g oid:=by unfold fX;omega
theorem N9 {L:List Obj} {f g oid:Int}:fX L f g oid<=(L.length:Int):=by
 unfold fX;have:=List.length_filter_le (fun j=>iT f g oid j (aq L j free)) (List.range L.length)
 rw[List.length_range]at this;omega
theorem yd {n:Int} {kind count:Int} (h1:1<=n) (h2:n<=64) (h3:0<=kind) (h4:kind<=3) (h5:0<=count) (h6:count<=4294967295):bx ⟨kind,count,0,fH,fx⟩ n=true:=by
 rw[dJ];refine⟨h1,h2,h3,h4,h5,h6,by simp,by simp,.inr rfl,fun i hi=>?_,fun i hi=>?_⟩
 ·simp only[vK];unfold gk;rw[nm.1,nm.2];simp;omega
 ·have hz:=CI.1 (show fx=fx from rfl) i hi;first|exact .inr (.inr hz)|exact hz|simp[hz]
theorem jg {o:Obj} {n:Int} (h:bx o n=true):0<=o.count/\o.count<=4294967295/\0<=o.kind/\o.kind<=3/\1<=n/\n<=64:=by
 obtain⟨a1,a2,a3,a4,a5,a6,_⟩:=dJ.1 h;exact⟨a5,a6,a3,a4,a1,a2⟩
theorem yM {o:Obj} {n:Int} (h:bx o n=true):bx (Cr o) n=true:=by
 obtain⟨a,b,c,d,e,f⟩:=jg h;exact yd e f (by omega) (by omega) a b
theorem ub {o:Obj} {n:Int} (h:bx o n=true):bx (vk o) n=true:=by
 obtain⟨a,b,c,d,e,f⟩:=jg h;exact yd e f (by omega) (by omega) a b
theorem yA {o:Obj} {n kind:Int} (h:bx o n=true) (hn:dq o=true) (hk:kind=1\/kind=2):bx (jF o kind) n=true:=by
 obtain⟨a,b,c,d,e,f⟩:=jg h;unfold dq at hn;simp only[Th,Ti]at hn;exact yd e f (by omega) (by omega) (by omega) (by omega)
theorem Da {L:List Obj} {p:Nat->Obj->Bool} {t:Obj->Obj} (h:an L) (ht:∀o,bx o (L.length:Int)=true->bx (t o) (L.length:Int)=true):an (iV L p t):=by
 refine IX h fw fun j hj=>?_
 rw[gT hj];split
 ·exact ht _ (dt h j hj)
 ·exact dt h j hj
theorem Cq {L:List Obj} {f g:Int} (h:an L):an (bz L f g):=Da h fun o ho=>yM ho
def kB:my (Key×Unit):=cO kA na
def RX:my (Key×Key×Unit):=cO kA (cO kA na)
def Rv:my (Key×Int×Unit):=cO kA (cO iA na)
theorem Q5:ji kB:=aY mF fz
theorem FG:ji RX:=aY mF (aY mF fz)
theorem Jv:ji Rv:=aY mF (aY j6 fz)
def PH:Ct:=Rw (rI .i64) (rI .i64) (rI .i64) fun a b c=> .key (bI a b c)
theorem CR {o:Obj} (h:o.kind≠0):iI o=false/\dq o=false:=by simp[iI,dq,h]
theorem G7 {o:Obj} (h:o.kind=0) (h2:4294967295<=o.count):iI o=true/\dq o=false:=by simp[iI,dq,h,h2]
theorem IM {o:Obj} (h:o.kind=0) (h2:¬4294967295<=o.count):iI o=false/\dq o=true:=by
 refine⟨by simp[iI,h2],?_⟩
 simp only[dq,Th,Ti];omega
theorem Df {L:List Obj} {f l g:Int} (kind:Int) (h0:0<=f) (hf:f<=g) (hl:g<=l) (hg:g<(L.length:Int)) (hn:jJ L f g) (hw:dq (aq L g.toNat free)=true):
  dD L f l=g/\s9 L f l=true/\jb L f l kind=cX (bz L f g) g.toNat (jF (aq L g.toNat free) kind):=by
 have e:=NU h0 hf hl hg hn hw;refine⟨e,?_,?_⟩
 ·unfold s9;rw[e];simp;left;omega
 ·unfold jb;rw[e,Tn (by omega)]
theorem FY {L:List Obj} {f l:Int} (kind:Int) (hn:jJ L f (l+1)):dD L f l= -1/\jb L f l kind=bz L f (l+1)/\s9 L f l=HC L f (l+1):=by
 have e:=G5 hn;refine⟨e,?_,?_⟩
 ·unfold jb;rw[e,To rfl]
 ·unfold s9;rw[e];rfl
theorem C7 {L:List Obj} {k:Key} (h:aJ L k 4 false=0) (h2:gH (aq L k.oid.toNat free) (aE L:Int)=false):aS L k=220/\zb L k=0/\yX L k=0:=by
 have e:aS L k=220:=by unfold aS;rw[To h,h2];rfl
 refine⟨e,?_,?_⟩
 ·unfold zb;rw[e];rfl
 ·unfold yX;rw[e];rfl
theorem u7 {L:List Obj} {k:Key} (h:aJ L k 4 false=0) (h2:gH (aq L k.oid.toNat free) (aE L:Int)=true):aS L k=0/\zb L k=au L k/\yX L k=ay L k:=by
 have e:aS L k=0:=by unfold aS;rw[To h,h2];rfl
 refine⟨e,?_,?_⟩
 ·unfold zb;rw[e];rfl
 ·unfold yX;rw[e];rfl
theorem jT {L:List Obj} {k:Key} (h:aS L k=0):aJ L k 4 false=0/\0<=au L k/\au L k<=ay L k/\ay L k<(L.length:Int)/\0<=k.oid/\k.oid<(L.length:Int):=by
 have ha:aJ L k 4 false=0:=by
  unfold aS at h;split at h
  ·assumption
  ·rename_i h1;exact absurd h h1
 have hb:gH (aq L k.oid.toNat free) (aE L:Int)=true:=by
  cases hb:gH (aq L k.oid.toNat free) (aE L:Int)with
  |true=>rfl
  |false=>rw[(C7 ha hb).1]at h;simp at h
 obtain⟨_,b2,b3,_⟩:=ea (iz ha).1;unfold gH at hb;simp only[Th,Ti]at hb;obtain⟨⟨⟨⟨_,_⟩,h3⟩,h4⟩,h5⟩:=hb;exact⟨ha,h3,h4,h5,b2,b3⟩
theorem sR {L:List Obj} {f l:Int} (h0:0<=f):dD L f l= -1\/(f<=dD L f l/\dD L f l<=l/\dD L f l<(L.length:Int)/\dq (aq L (dD L f l).toNat free)=true):=by
 unfold dD;split
 ·rename_i j hj;right
  have h1:=List.find?_some hj;have h2:=List.mem_of_find?_eq_some hj;simp only[Th,Ti]at h1;rw[List.mem_range]at h2;exact⟨h1.1.1,h1.1.2,by omega,h1.2⟩
 ·exact .inl rfl
theorem Dj {L:List Obj} {f l kind:Int}:(jb L f l kind).length=L.length:=by
 unfold jb;split
 ·exact kq
 ·rw[jc,kq]
theorem Ja {L:List Obj} {f l kind:Int} (h0:0<=f) (h:dD L f l≠ -1):aq (jb L f l kind) (dD L f l).toNat free=jF (aq L (dD L f l).toNat free) kind:=by
 rcases sR (L:=L) (l:=l) h0 with e|⟨a,b,c,d⟩
 ·exact absurd e h
 ·unfold jb;rw[Tn h,eV (by rw[kq];omega),To rfl]
theorem J8 {L:List Obj} {f l:Int} (h:dD L f l≠ -1):s9 L f l=true:=by unfold s9;simp[h]
theorem GN {L:List Obj} {k:Key} {kind:Int} (h:aS L k=0) (hk:kind=1\/kind=2) (hi:dD L (au L k) (ay L k)= -1):zn L k kind=s9 L (au L k) (ay L k)/\void=bS L k kind/\221=cw L k kind/\jb L (au L k) (ay L k) kind=eO L k kind:=by
 have e:fq L k kind=0:=by unfold fq;rw[To h,To hk]
 have e2:cw L k kind=221:=by unfold cw;rw[To e,To hi]
 refine⟨by unfold zn;rw[e];simp,by unfold bS;rw[e2];rfl,e2.symm,by unfold eO;rw[To e]⟩
theorem Mr {L:List Obj} {k:Key} {kind:Int} (h:aS L k=0) (hk:kind=1\/kind=2) (hi:dD L (au L k) (ay L k)≠ -1):zn L k kind=true/\Key.mk (1+kind) (dD L (au L k) (ay L k)) (aq (jb L (au L k) (ay L k) kind) (dD L (au L k) (ay L k)).toNat free).count 0 0 0=bS L k kind/\0=cw L k kind/\jb L (au L k) (ay L k) kind=eO L k kind:=by
 have e:fq L k kind=0:=by unfold fq;rw[To h,To hk]
 have e2:cw L k kind=0:=by unfold cw;rw[To e,Tn hi]
 refine⟨by unfold zn;rw[e,J8 hi];rfl,?_,e2.symm,by unfold eO;rw[To e]⟩
 unfold bS;rw[To e2,Ja (jT h).2.1 hi];unfold bI jF;rcases hk with rfl|rfl<;>rfl
theorem Ip {L:List Obj} {v:Key} (h:jo L v=true):aM L v=true:=by unfold jo at h;simp only[Th]at h;exact h.1
def dQ (L:List Obj) (k:Key):Int:=dD L (au L k) (ay L k)
def cR (L:List Obj) (k:Key):List Obj:=jb L (au L k) (ay L k) 1
def k9 (M:List Obj) (f g:Int):Bool:=(List.range M.length).any fun(j:Nat)=>decide (f<=(j:Int))&&decide ((j:Int)<g)&&kE (aq M j free)
def jY (L:List Obj) (k:Key) (n:Int):Int:=if aS L k=0 then(if n<1\/ay L k-au L k<n then 4 else 0)else aS L k
def bN (L:List Obj) (k:Key) (n:Int):Int:=if jY L k n=0 then(if dQ L k<0\/ay L k-n<dQ L k then 221 else if k9 (cR L k) (ay L k-n+1) (ay L k+1)=true then 221 else 0)else jY L k n
def gS (o:Obj) (a b:Int):Obj:= {o with slots:=(o.slots.put 0 (dv a)).put 1 (dv b)}
def jX (o:Obj) (b:Int):Obj:= {o with slots:=o.slots.put 1 (dv b)}
def bc (L:List Obj) (k:Key) (n:Int):List Obj:=if bN L k n=0 then cX (cX (cR L k) (dQ L k).toNat (gS (aq (cR L k) (dQ L k).toNat free) (ay L k-n+1) (ay L k))) k.oid.toNat (jX (aq (cR L k) k.oid.toNat free) (ay L k-n))else L
def bJ (L:List Obj) (k:Key) (n:Int):Key:=if bN L k n=0 then⟨4,dQ L k,(aq (cR L k) (dQ L k).toNat free).count,0,0,0⟩else void
theorem zW {L:List Obj} {k:Key} {n:Int} (h:aS L k≠0):bN L k n=aS L k:=by
 have e:jY L k n=aS L k:=by unfold jY;rw[Tn h]
 unfold bN;rw[e,Tn h]
theorem E4 {L:List Obj} {k:Key} {n:Int} (h:aS L k=0) (hn:n<1\/ay L k-au L k<n):bN L k n=4:=by
 have e:jY L k n=4:=by unfold jY;rw[To h,To hn]
 unfold bN;rw[e];rfl
theorem KM {L:List Obj} {k:Key} {n:Int} (h:aS L k=0) (h1:1<=n) (h2:n<=ay L k-au L k):jY L k n=0:=by
 unfold jY;rw[To h,Tn (by omega)]
theorem zM {L:List Obj} {k:Key} {n:Int} (h:jY L k n=0) (hi:dQ L k<0\/ay L k-n<dQ L k):bN L k n=221:=by
 unfold bN;rw[To h,To hi]
theorem Ji {L:List Obj} {k:Key} {n:Int} (h:jY L k n=0) (hi:k9 (cR L k) (ay L k-n+1) (ay L k+1)=true):bN L k n=221:=by
 unfold bN;rw[To h,To hi];split<;>rfl
theorem Kk {L:List Obj} {k:Key} {n:Int} (h:jY L k n=0) (h1:0<=dQ L k) (h2:dQ L k<=ay L k-n) (hi:k9 (cR L k) (ay L k-n+1) (ay L k+1)=false):bN L k n=0:=by
 unfold bN;rw[To h,Tn (by omega),hi];rfl
theorem Jf {M:List Obj} {f g e:Int} (h0:0<=g) (h1:g<(M.length:Int)) (hf:f<=g) (he:g<e) (hr:kE (aq M g.toNat free)=true):k9 M f e=true:=by
 unfold k9;rw[List.any_eq_true];exact⟨g.toNat,by simp;omega,by rw[hr];simp;omega⟩
theorem MS {M:List Obj} {f g:Int} (h0:0<=g) (hr:kE (aq M g.toNat free)=false):k9 M f (g+1)=k9 M f g:=by
 unfold k9;rw[Bool.eq_iff_iff,List.any_eq_true,List.any_eq_true];refine exists_congr fun j=>and_congr_right fun _=>?_
 simp only[Th,Ti];constructor
 ·rintro⟨⟨a,b⟩,c⟩
  refine⟨⟨a,?_⟩,c⟩;by_cases e:(j:Int)=g
  ·rw[show j=g.toNat by omega,hr]at c;simp at c
  ·omega
 ·rintro⟨⟨a,b⟩,c⟩
  exact⟨⟨a,by omega⟩,c⟩
theorem PE {L:List Obj} {k:Key} (h:aM L k=true):bW k=k.oid:=by
 unfold aM at h;simp only[Th]at h;unfold bW;rw[To h.1.1]
theorem C2 {L:List Obj} {k:Key} (h:(!decide (0<ah L))=true):aS L k=1:=by unfold aS;rw[Jl h];rfl
theorem Q6 {L:List Obj} {k:Key} (h:(!decide (0<ah L))=false) (h2:(!(aM L k&&decide (k.kind=4)))=true):aS L k=190:=by unfold aS;rw[ED h h2];rfl
theorem Rl {L:List Obj} {k:Key} (h:(!decide (0<ah L))=false) (h2:(!(aM L k&&decide (k.kind=4)))=false) (h3:(!gH (aa L k) (ah L))=true):aS L k=220:=by
 have ha:=DU h h2;rw[(ea (kQ h2).1).2.2.2.1]at h3;exact(C7 ha (show gH (aq L k.oid.toNat free) (ah L)=false by simpa using h3)).1
theorem L7 {L:List Obj} {k:Key} (h:(!decide (0<ah L))=false) (h2:(!(aM L k&&decide (k.kind=4)))=false) (h3:(!gH (aa L k) (ah L))=false):aS L k=0/\((aa L k).slots.at 0).value=au L k/\((aa L k).slots.at 1).value=ay L k:=by
 have ha:=DU h h2;have e:=(ea (kQ h2).1).2.2.2.1;rw[e]at h3;rw[e];exact⟨(u7 ha (show gH (aq L k.oid.toNat free) (ah L)=true by simpa using h3)).1,rfl,rfl⟩
theorem ye {L:List Obj} {k v:Key} {e:Int} (h:aS L k=e) (he:e≠0):false=kV L k v/\e=aS L k:=by
 refine⟨?_,h.symm⟩;unfold kV;rw[h];simp[he]
theorem qc {L:List Obj} {k v:Key} {e:Int} (h:dA L k v=e) (he:e≠0):e=dA L k v/\L=gA L k v:=by
 refine⟨h.symm,?_⟩;unfold gA;rw[h,Tn he]
theorem nM {L:List Obj} {k v:Key} {e:Int} (h:aS L k=e) (he:e≠0):dA L k v=e:=by
 unfold dA;rw[h,Tn he]
theorem vp {L:List Obj} {k:Key} {e:Int} (h:aS L k=e) (he:e≠0):(0=gX L k/\e=aS L k)/\L=iu L k:=by
 unfold gX iu;rw[h,Tn he,Tn he];exact⟨⟨rfl,rfl⟩,rfl⟩
theorem sN {L:List Obj} {k:Key} {kind e:Int} (h:fq L k kind=e) (he:e≠0):(void=bS L k kind/\e=cw L k kind)/\L=eO L k kind:=by
 have e2:cw L k kind=e:=by unfold cw;rw[h,Tn he]
 unfold bS eO;rw[e2,h,Tn he,Tn he];exact⟨⟨rfl,rfl⟩,rfl⟩
theorem nI {L:List Obj} {k:Key} {kind e:Int} (h:aS L k=e) (he:e≠0):fq L k kind=e:=by unfold fq;rw[h,Tn he]
theorem Gn {L:List Obj} {k:Key} {kind:Int} (h:aS L k=0) (h2:(!(decide (kind=1)||decide (kind=2)))=true):fq L k kind=2:=by
 unfold fq;rw[To h,Tn];simp only[Bool.not_eq_true',Bool.or_eq_false_iff,decide_eq_false_iff_not]at h2;omega
theorem nc {L:List Obj} {k:Key} {n e:Int} (h:bN L k n=e) (he:e≠0):(void=bJ L k n/\e=bN L k n)/\L=bc L k n:=by
 unfold bJ bc;rw[h,Tn he,Tn he];exact⟨⟨rfl,rfl⟩,rfl⟩
theorem qA {L:List Obj} {k:Key} {n e:Int} (h:aS L k=e) (he:e≠0):bN L k n=e:=by rw[zW (by omega),h]
def MA:Ct:=EY (cO sA RX) (fun _=>none) fun x=> .tp [.bo (kV (BK x.1) x.2.1 x.2.2.1),.it .i64 (aS (BK x.1) x.2.1)]
def MR:nD:=ET (Np Rv) (fun L _=>an L) (fun L x=> .tp [.key (bS L x.1 x.2.1),.it .i64 (cw L x.1 x.2.1)]) fun L x=>eO L x.1 x.2.1
def On:nD:=ET (Np RX) (fun L _=>an L) (fun L x=> .it .i64 (dA L x.1 x.2.1)) fun L x=>gA L x.1 x.2.1
def Mu:nD:=ET (Np kB) (fun L _=>an L) (fun L x=> .tp [.it .i64 (gX L x.1),.it .i64 (aS L x.1)]) fun L x=>iu L x.1
def IE:nD:=ET (Np Rv) (fun L _=>an L) (fun L x=> .tp [.key (bJ L x.1 x.2.1),.it .i64 (bN L x.1 x.2.1)]) fun L x=>bc L x.1 x.2.1
def np (L:List Obj) (k:Key) (n g:Int):Prop:=au L k<=g/\g<=ay L k+1/\k9 (cR L k) (ay L k-n+1) g=false
def Jx (L M:List Obj) (g:Int):Int:=aq (cz L M) g.toNat 0
def Fb:List Obj->List Obj->Nat->List Obj
 |L,_,0=>L
 |L,M,g+1=>cc (Fb L M g) (Jx L M (g:Int)) (aH M (Jx L M (g:Int)))
def j5 (L M:List Obj) (g:Int):List Obj:=Fb L M g.toNat
def pn (L M:List Obj) (g:Int):Prop:=0<=g/\g<=((cz L M).length:Int)
def dG (L:List Obj) (k:Key) (g:Int):Obj:=aH (bz L (au L k) g) g
def nC (L:List Obj) (k:Key) (g:Int):List Obj:=cc (bz L (au L k) g) g (Obj.mk 1 ((dG L k g).count+1) free.calls free.slots free.bytes)
def lK (x:Int):Key:=Key.mk 1 void.oid void.count void.call void.rights x
def zm (L:List Obj) (k:Key) (n g:Int):Obj:=Obj.mk (aH (nC L k g) g).kind (aH (nC L k g) g).count (aH (nC L k g) g).calls (((aH (nC L k g) g).slots.put 0 (lK (((aa L k).slots.at 1).value-n+1))).put 1 (lK ((aa L k).slots.at 1).value)) (aH (nC L k g) g).bytes
def yC (L:List Obj) (k:Key) (n g:Int):List Obj:=cc (nC L k g) g (zm L k n g)
def yP (L:List Obj) (k:Key) (n g:Int):Obj:=Obj.mk (aH (yC L k n g) k.oid).kind (aH (yC L k n g) k.oid).count (aH (yC L k n g) k.oid).calls ((aH (yC L k n g) k.oid).slots.put 1 (lK (((aa L k).slots.at 1).value-n))) (aH (yC L k n g) k.oid).bytes
def jP (L:List Obj) (k:Key) (n g:Int):List Obj:=cc (yC L k n g) k.oid (yP L k n g)
def gD (L:List Obj) (k:Key) (g:Int):Prop:=au L k<=g/\g<=ay L k+1/\jJ L (au L k) g
def oP (L:List Obj) (k:Key) (g:Int):Prop:=au L k<=g/\g<=ay L k+1
theorem wK {L:List Obj} {k:Key} (h:aM L k=true) (h2:k.kind=4):(aq L k.oid.toNat free).kind=1:=by
 unfold aM at h;simp only[Th]at h;obtain⟨⟨h1,_⟩,h3⟩:=h;unfold ca at h3;simp only[Th,Bool.or_eq_true,Ti]at h3;rcases lC k with⟨_,e,h0⟩|⟨e,_⟩
 ·rcases h3.2 with h|h
  ·omega
  ·rw[h.1.1];unfold gZ;rw[Tn (by omega),Tn (by omega)]
 ·rw[e]at h1;simp at h1
theorem DH {o:Obj} {n b:Int} (h:bx o n=true) (hk:o.kind=1):bx (jX o b) n=true:=by
 refine yn h hk fun i hi=>?_
 have:=(jg h).2.2.2.2.1;rw[bV.gi _ _ _ _ (by omega)]
 split
 ·exact uf (by omega) _
 ·exact sd h hk i hi
theorem DF {o:Obj} {n a b:Int} (h:bx o n=true) (hk:o.kind=1):bx (gS o a b) n=true:=by
 refine yn h hk fun i hi=>?_
 have:=(jg h).2.2.2.2.1;rw[bV.gi _ _ _ _ (by omega),bV.gi _ _ _ _ (by omega)]
 split
 ·exact uf (by omega) _
 split
 ·exact uf (by omega) _
 ·exact sd h hk i hi
theorem Nm {L:List Obj} {k:Key} {g:Int} (hL:an L) (e:aS L k=0) (hk:(aq L k.oid.toNat free).kind=1) (g0:au L k<=g) (gl:g<=ay L k) (g2:jJ L (au L k) g) (f2:dq (aq L g.toNat free)=true):
  dQ L k=g/\dG L k g=aq L g.toNat free/\nC L k g=cR L k/\(cR L k).length=L.length/\an (cR L k)/\aq (cR L k) g.toNat free=jF (aq L g.toNat free) 1/\aq (cR L k) k.oid.toNat free=aq L k.oid.toNat free/\k.oid.toNat≠g.toNat:=by
 obtain⟨_,a0,a1,a2,a3,a4⟩:=jT e;have hgn:g.toNat<L.length:=by omega
 have hgz:(bz L (au L k) g).length=L.length:=kq;have hgt:aH (bz L (au L k) g) g=aq L g.toNat free:=by rw[gw (by omega) (by omega),BE (by omega)]
 obtain⟨m1,m2,m3⟩:=Df (l:=ay L k) 1 a0 g0 gl (by omega) g2 f2
 have hO:dG L k g=aq L g.toNat free:=hgt;have hnew:=yA (dt hL g.toNat hgn) f2 (.inl rfl);have hp:=(lQ (L:=bz L (au L k) g) (i:=g) (x:=jF (aq L g.toNat free) 1) (by omega) (by omega) (by rw[hgz];exact hnew)).1
 have hP:nC L k g=cR L k:=by
  unfold nC;rw[hO];exact hp.trans m3.symm
 have hne:k.oid.toNat≠g.toNat:=fun h=>by
  rw[h]at hk;unfold dq at f2;simp only[Th,Ti]at f2;omega
 have hM:cR L k=cX (bz L (au L k) g) g.toNat (jF (aq L g.toNat free) 1):=m3;have hko:k.oid.toNat<L.length:=by omega
 refine⟨m1,hO,hP,Dj,?_,?_,?_,hne⟩
 ·rw[hM];exact lr (Cq hL) (by rw[hgz];exact hnew)
 ·rw[hM,eV (by rw[hgz];exact hgn),To rfl]
 ·rw[hM,eV (by rw[hgz];exact hgn),Tn hne]
  unfold bz;rw[gT hko,Tn];simp only[iI,hk,Th,Ti];omega
theorem KF {L:List Obj} {k:Key} {n g:Int} (hL:an L) (e:aS L k=0) (hk:(aq L k.oid.toNat free).kind=1) (hB:((aa L k).slots.at 1).value=ay L k) (g0:au L k<=g) (gl:g<=ay L k) (g2:jJ L (au L k) g) (f2:dq (aq L g.toNat free)=true) (h:bN L k n=0):
  jP L k n g=bc L k n/\an (bc L k n)/\(bc L k n).length=L.length/\Key.mk 4 g ((dG L k g).count+1) 0 0 0=bJ L k n:=by
 obtain⟨i1,i2,i3,i4,i5,i6,i7,i8⟩:=Nm hL e hk g0 gl g2 f2;obtain⟨_,a0,a1,a2,a3,a4⟩:=jT e;have hgM:aH (cR L k) g=aq (cR L k) g.toNat free:=gw (by omega) (by omega)
 have hR1:zm L k n g=gS (aq (cR L k) g.toNat free) (ay L k-n+1) (ay L k):=by
  unfold zm;rw[i3,hgM,hB];rfl
 have o1:bx (gS (aq (cR L k) g.toNat free) (ay L k-n+1) (ay L k)) ((cR L k).length:Int)=true:=DF (dt i5 g.toNat (by omega)) (by rw[i6];rfl)
 have hP2:yC L k n g=cX (cR L k) g.toNat (gS (aq (cR L k) g.toNat free) (ay L k-n+1) (ay L k)):=by
  unfold yC;rw[i3,hR1];exact(lQ (by omega) (by omega) o1).1
 have ok2:=lr (i:=g.toNat) i5 o1;have l2:(cX (cR L k) g.toNat (gS (aq (cR L k) g.toNat free) (ay L k-n+1) (ay L k))).length=L.length:=by rw[jc];exact i4
 have g2':aH (yC L k n g) k.oid=aq (cR L k) k.oid.toNat free:=by
  rw[hP2,gw (by omega) (by omega),eV (by omega),Tn i8]
 have hR2:yP L k n g=jX (aq (cR L k) k.oid.toNat free) (ay L k-n):=by
  unfold yP;rw[g2',hB];rfl
 have o2:bx (jX (aq (cR L k) k.oid.toNat free) (ay L k-n)) (L.length:Int)=true:=DH (by rw[<-i4];exact dt i5 k.oid.toNat (by omega)) (by rw[i7];exact hk)
 have hlast:bc L k n=cX (cX (cR L k) g.toNat (gS (aq (cR L k) g.toNat free) (ay L k-n+1) (ay L k))) k.oid.toNat (jX (aq (cR L k) k.oid.toNat free) (ay L k-n)):=by
  unfold bc;rw[To h,i1]
 refine⟨?_,?_,?_,?_⟩
 ·unfold jP;rw[hR2,hP2,hlast];exact(lQ (by omega) (by omega) (by rw[l2];exact o2)).1
 ·rw[hlast];exact lr ok2 (by rw[l2];exact o2)
 ·rw[hlast,jc];exact l2
 ·unfold bJ;rw[To h,i1,i6,i2];rfl
theorem KQ {L M:List Obj} {x:Int} (h:x∈cz L M):0<=x/\x<(L.length:Int):=by
 unfold cz fN at h;rw[List.mem_map]at h;obtain⟨j,h1,rfl⟩:=h;have:=List.mem_range.1 (List.mem_filter.1 h1).1;unfold aE at this;exact⟨Int.natCast_nonneg j,by show(j:Int)<_;omega⟩
theorem NZ {L M:List Obj} {i:Nat} (h:i<(cz L M).length):aq (cz L M) i 0∈cz L M:=by
 unfold aq;rw[Tm,List.getElem?_eq_getElem h];exact List.getElem_mem h
theorem KA {L M:List Obj} {j:Nat} (hj:j<L.length) (h:aq L j free≠aq M j free):∃i,i<(cz L M).length/\aq (cz L M) i 0=(j:Int):=by
 have:(j:Int)∈cz L M:=by
  unfold cz fN;rw[List.mem_map];refine⟨j,List.mem_filter.2 ⟨List.mem_range.2 (by unfold aE;omega),?_⟩,rfl⟩
  simp[AE,h]
 obtain⟨i,hi,e⟩:=List.mem_iff_getElem.1 this;refine⟨i,hi,?_⟩;unfold aq;rw[Tm,List.getElem?_eq_getElem hi,e];rfl
theorem FL {L M:List Obj} (hl:M.length=L.length) (hM:an M):∀g:Nat,g<=(cz L M).length->(Fb L M g).length=L.length/\(∀j,j<L.length->aq (Fb L M g) j free=aq L j free\/aq (Fb L M g) j free=aq M j free)/\
  ∀i,i<g->aq (Fb L M g) (aq (cz L M) i 0).toNat free=aq M (aq (cz L M) i 0).toNat free
 |0,_=>⟨rfl,fun j hj=> .inl rfl,fun i hi=>by omega⟩
 |g+1,hg=>by
  obtain⟨h1,h2,h3⟩:=FL hl hM g (by omega)
  obtain⟨u1,u2⟩:=KQ (NZ (L:=L) (M:=M) (i:=g) (by omega))
  have e:Jx L M (g:Int)=aq (cz L M) g 0:=rfl;generalize hu:aq (cz L M) g 0=u at *
  have hp:=(lQ (L:=Fb L M g) (i:=u) (x:=aq M u.toNat free) u1 (by omega) (by rw[h1,<-hl];exact dt hM _ (by omega))).1
  have hs:Fb L M (g+1)=cX (Fb L M g) u.toNat (aq M u.toNat free):=by
   simp only[Fb];rw[e,gw u1 (by omega)]
   exact hp
  rw[hs];refine⟨by rw[jc];exact h1,fun j hj=>?_,fun i hi=>?_⟩
  ·rw[eV (by omega)]
   split
   ·rename_i hj';rw[hj'];exact .inr rfl
   ·exact h2 j hj
  ·rw[eV (by omega)]
   split
   ·rename_i hj';rw[hj']
   ·rename_i hne;by_cases hig:i=g
    ·rw[hig,hu]at hne;exact absurd rfl hne
    ·exact h3 i (by omega)
theorem J9 {L M:List Obj} (hl:M.length=L.length) (hM:an M) {g:Int} (hg:g=((cz L M).length:Int)):j5 L M g=M:=by
 obtain⟨h1,h2,h3⟩:=FL hl hM (cz L M).length (Nat.le_refl _);have e:j5 L M g=Fb L M (cz L M).length:=by unfold j5;rw[hg];rfl
 rw[e];refine rB (by omega) fun j hj=>?_
 by_cases hne:aq L j free=aq M j free
 ·rcases h2 j (by omega)with h|h
  ·rw[h,hne]
  ·exact h
 ·obtain⟨i,hi,hij⟩:=KA (by omega) hne
  have:=h3 i hi;rw[hij]at this;exact this
theorem Hi {L M:List Obj} {g:Int} (h0:0<=g):cc (j5 L M g) (aq (cz L M) g.toNat 0) (aH M (aq (cz L M) g.toNat 0))=j5 L M (g+1):=by
 unfold j5;rw[show(g+1).toNat=g.toNat+1 by omega]
 simp only[Fb];rfl
theorem Jh {L M:List Obj} (hl:M.length=L.length) (h:1<=L.length):ie L M=false:=by
 unfold ie bg aE;simp only[hl,show decide (L.length=0)=false from decide_eq_false (by omega),Bool.false_or,decide_true,Bool.not_true]
theorem Dz {M:List Obj} {f g:Int} (h:g<=f):k9 M f g=false:=by
 unfold k9;rw[List.any_eq_false];intro j _;simp only[Th,Ti,not_and];intro h1 h2;omega
theorem KU {L M:List Obj}:(cz L M).length<=L.length:=by
 unfold cz fN;rw[List.length_map];have:=List.length_filter_le (fun j=> !AE (aq L j free) (aq M j free)) (List.range (aE L:Int).toNat)
 simpa[aE]using this
structure SZ where
 kind:Int
 num:Int
 bank:Key
 key:Key
 obj:Int
def SZ.wf (x:SZ):Prop:=cy .i64 x.kind/\cy .i64 x.num/\x.bank.wf/\x.key.wf/\cy .i64 x.obj
theorem EM {L M:List Obj} {k:Key} {d:Int} {c:Bool} (hl:M.length=L.length) (h1:(aq M k.oid.toNat free).kind=(aq L k.oid.toNat free).kind) (h2:(aq M k.oid.toNat free).count=(aq L k.oid.toNat free).count) (h3:(aq M k.oid.toNat free).calls=(aq L k.oid.toNat free).calls):aJ M k d c=aJ L k d c:=by
 have hi:aM M k=aM L k:=by
  unfold aM cj ca aE;rw[hl,h1,h2,h3]
 unfold aJ aE;rw[hl,hi]
theorem Km {L:List Obj} {k:Key} (h:aS L k=0):gH (aq L k.oid.toNat free) (L.length:Int)=true/\(aq L k.oid.toNat free).kind=1:=by
 obtain⟨ha,_⟩:=jT h;obtain⟨i1,i2,_⟩:=iz ha;refine⟨?_,wK i1 i2⟩;unfold aS at h;rw[To ha]at h;split at h
 ·rename_i hc;exact hc
 ·omega
theorem Ib {L:List Obj} {f l kind:Int} {j:Nat} (h0:0<=f) (hj:j<L.length) (hk:(aq L j free).kind≠0):aq (jb L f l kind) j free=aq L j free:=by
 have hG:∀g,aq (bz L f g) j free=aq L j free:=fun g=>by
  unfold bz;rw[gT hj,Tn];simp only[iI,Th,Ti];omega
 unfold jb;split
 ·exact hG _
 ·rename_i hi;rcases sR (L:=L) (l:=l) h0 with e|⟨a,b,c,d⟩
  ·exact absurd e hi
  ·rw[eV (by rw[kq];omega),Tn,hG]
   intro e;rw[<-e]at d;unfold dq at d;simp only[Th,Ti]at d;exact hk d.1
theorem Fw {L:List Obj} {f l kind:Int} (hL:an L) (h0:0<=f) (hk:kind=1\/kind=2):an (jb L f l kind):=by
 unfold jb;split
 ·exact Cq hL
 ·rename_i hi;rcases sR (L:=L) (l:=l) h0 with e|⟨a,b,c,d⟩
  ·exact absurd e hi
  ·exact lr (Cq hL) (by rw[kq];exact yA (dt hL _ (by omega)) d hk)
theorem CH {L:List Obj} {k:Key} {kind:Int} (hL:an L):an (eO L k kind):=by
 unfold eO;split
 ·rename_i h
  have he:aS L k=0:=by
   unfold fq at h;split at h
   ·assumption
   ·rename_i h';exact absurd h h'
  refine Fw hL (jT he).2.1 ?_;unfold fq at h;rw[To he]at h;split at h
  ·assumption
  ·omega
 ·exact hL
theorem Kh {L:List Obj} {k:Key} {kind:Int} (h:cw L k kind=0):aS L k=0/\(kind=1\/kind=2)/\au L k<=(bS L k kind).oid/\(bS L k kind).oid<=ay L k/\(bS L k kind).oid<(L.length:Int)/\dD L (au L k) (ay L k)=(bS L k kind).oid/\
  dq (aq L (bS L k kind).oid.toNat free)=true/\(bS L k kind).count=(aq L (bS L k kind).oid.toNat free).count+1:=by
 have h':=h;unfold cw at h;split at h
 case isFalse h2=>exact absurd h h2
 rename_i hE0
 have he:aS L k=0:=by
  unfold fq at hE0;split at hE0
  ·assumption
  ·rename_i h2;exact absurd hE0 h2
 have hk:kind=1\/kind=2:=by
  unfold fq at hE0;rw[To he]at hE0;split at hE0
  ·assumption
  ·omega
 split at h
 ·omega
 ·rename_i hi;have hK:bS L k kind=bI kind (dD L (au L k) (ay L k)) ((aq L (dD L (au L k) (ay L k)).toNat free).count+1):=by unfold bS;rw[To h']
  rcases sR (L:=L) (l:=ay L k) (jT he).2.1 with e|⟨a,b,c,d⟩
  ·exact absurd e hi
  ·rw[hK];exact⟨he,hk,a,b,c,rfl,d,rfl⟩
theorem IA {L:List Obj} {k:Key} {n:Int} (hL:an L) (e:aS L k=0) (h:bN L k n=0):
  an (bc L k n)/\(bc L k n).length=L.length/\aS (bc L k n) k=0/\au (bc L k n) k=au L k/\ay (bc L k n) k=ay L k-n/\
  aS (bc L k n) (bJ L k n)=0/\au (bc L k n) (bJ L k n)=ay L k-n+1/\ay (bc L k n) (bJ L k n)=ay L k/\au L k<=(bJ L k n).oid/\(bJ L k n).oid<=ay L k-n/\1<=n/\n<=ay L k-au L k/\
  dq (aq L (bJ L k n).oid.toNat free)=true:=by
 obtain⟨ha,a0,a1,a2,a3,a4⟩:=jT e;obtain⟨hok,hk1⟩:=Km e;obtain⟨x1,x2⟩:=lE hL;have h':=h;unfold bN at h;split at h
 case isFalse h2=>exact absurd h h2
 rename_i hE0;split at h
 case isTrue=>omega
 rename_i hI
 have hn:1<=n/\n<=ay L k-au L k:=by
  unfold jY at hE0;rw[To e]at hE0;split at hE0
  ·omega
  ·omega
 have hin:=sR (L:=L) (l:=ay L k) a0;have hIe:dD L (au L k) (ay L k)=dQ L k:=rfl;have hne1:dD L (au L k) (ay L k)≠ -1:=by rw[hIe];omega
 rw[hIe]at hin;rcases hin with hin|⟨i1,i2,i3,i4⟩
 ·omega
 have hMlen:(cR L k).length=L.length:=Dj;have hMok:an (cR L k):=Fw hL a0 (.inl rfl);have hMI:aq (cR L k) (dQ L k).toNat free=jF (aq L (dQ L k).toNat free) 1:=Ja a0 hne1;have PV:aq (cR L k) k.oid.toNat free=aq L k.oid.toNat free:=Ib a0 (by omega) (by omega)
 have hne:k.oid.toNat≠(dQ L k).toNat:=fun hh=>by
  rw[hh]at hk1;unfold dq at i4;simp only[Th,Ti]at i4;omega
 have hLL:bc L k n=cX (cX (cR L k) (dQ L k).toNat (gS (aq (cR L k) (dQ L k).toNat free) (ay L k-n+1) (ay L k))) k.oid.toNat (jX (aq (cR L k) k.oid.toNat free) (ay L k-n)):=by
  unfold bc;rw[To h']
 have hKK:bJ L k n=⟨4,dQ L k,(aq L (dQ L k).toNat free).count+1,0,0,0⟩:=by
  unfold bJ;rw[To h',hMI];rfl
 have o1:bx (gS (aq (cR L k) (dQ L k).toNat free) (ay L k-n+1) (ay L k)) (L.length:Int)=true:=DF (by rw[<-hMlen];exact dt hMok _ (by omega)) (by rw[hMI];rfl)
 have o2:bx (jX (aq (cR L k) k.oid.toNat free) (ay L k-n)) (L.length:Int)=true:=DH (by rw[<-hMlen];exact dt hMok _ (by omega)) (by rw[PV];exact hk1)
 have l1:(cX (cR L k) (dQ L k).toNat (gS (aq (cR L k) (dQ L k).toNat free) (ay L k-n+1) (ay L k))).length=L.length:=by rw[jc];exact hMlen
 have okX:=lr (i:=(dQ L k).toNat) hMok (by rw[hMlen];exact o1)
 have hlen:(bc L k n).length=L.length:=by rw[hLL,jc];exact l1
 have hokL:an (bc L k n):=by rw[hLL];exact lr okX (by rw[l1];exact o2)
 have hgk:aq (bc L k n) k.oid.toNat free=jX (aq L k.oid.toNat free) (ay L k-n):=by
  rw[hLL,eV (by omega),To rfl,PV]
 have hgI:aq (bc L k n) (dQ L k).toNat free=gS (jF (aq L (dQ L k).toNat free) 1) (ay L k-n+1) (ay L k):=by
  rw[hLL,eV (by omega),Tn (Ne.symm hne),eV (by omega),To rfl,hMI]
 have s2:∀(o:Obj) (b:Int),(jX o b).slots.at 0=o.slots.at 0/\(jX o b).slots.at 1=dv b:=fun o b=>by
  unfold jX;simp only;rw[bV.gi _ _ _ _ (by omega),bV.gi _ _ _ _ (by omega)]
  exact⟨rfl,rfl⟩
 have s1:∀(o:Obj) (a b:Int),(gS o a b).slots.at 0=dv a/\(gS o a b).slots.at 1=dv b:=fun o a b=>by
  unfold gS;simp only;rw[bV.gi _ _ _ _ (by omega),bV.gi _ _ _ _ (by omega),bV.gi _ _ _ _ (by omega)]
  exact⟨rfl,rfl⟩
 have hask:aJ (bc L k n) k 4 false=0:=by
  rw[EM hlen (by rw[hgk];rfl) (by rw[hgk];rfl) (by rw[hgk];rfl)];exact ha
 unfold gH at hok;simp only[Th,Ti]at hok;obtain⟨⟨⟨⟨c1,c2⟩,c3⟩,c4⟩,c5⟩:=hok;have hA':au (bc L k n) k=au L k:=by unfold au;rw[hgk,(s2 _ _).1]
 have hB':ay (bc L k n) k=ay L k-n:=by
  have:ay (bc L k n) k=((jX (aq L k.oid.toNat free) (ay L k-n)).slots.at 1).value:=by rw[<-hgk];rfl
  rw[this,(s2 _ _).2];rfl
 have hE':aS (bc L k n) k=0:=(u7 hask (by
  rw[hgk];unfold gH aE;rw[(s2 _ _).1,(s2 _ _).2,hlen];have v0:((aq L k.oid.toNat free).slots.at 0).value=au L k:=rfl;simp only[dv,Th,Ti];refine⟨⟨⟨⟨c1,?_⟩,c3⟩,?_⟩,?_⟩
  ·trivial
  ·exact decide_eq_true (by omega)
  ·exact decide_eq_true (by omega))).1
 have i4':=i4;unfold dq at i4';simp only[Th,Ti]at i4';have hcb:=jg (dt hL (dQ L k).toNat (by omega))
 have hkey:aB (bJ L k n)=true:=by
  rw[hKK];unfold aB dV;simp only[cA,eI,gY,cm];simp;omega
 have hoid:(bJ L k n).oid=dQ L k:=by rw[hKK]
 have hisO:cA (bJ L k n).kind=true:=by rw[hKK];rfl
 have hnm:aU (bJ L k n)=true:=by unfold aU;rw[hkey,hisO];rfl
 have hnames:bn (bJ L k n)=dQ L k:=by unfold bn;rw[hkey,hisO,hoid];rfl
 have hcounts:ca (bJ L k n) (aq (bc L k n) (bJ L k n).oid.toNat free)=true:=by
  unfold ca gZ;rw[hkey,hnames,hoid,hgI,Tn (by omega),hKK]
  simp[gS,jF]
 have his:aM (bc L k n) (bJ L k n)=true:=by
  unfold aM;rw[hnm,hcounts,jZ.2 ⟨by omega,by omega⟩];rfl
 have hask2:aJ (bc L k n) (bJ L k n) 4 false=0:=by
  unfold aJ aE;rw[Tn (by omega),Tn (by rw[his,hKK];simp),Tn (by simp)]
 have hobj:aq (bc L k n) (bJ L k n).oid.toNat free=gS (jF (aq L (dQ L k).toNat free) 1) (ay L k-n+1) (ay L k):=by rw[hoid];exact hgI
 refine⟨hokL,hlen,hE',hA',hB',(u7 hask2 ?_).1,?_,?_,by rw[hoid];exact i1,by rw[hoid];omega,hn.1,hn.2,by rw[hoid];exact i4⟩
 ·rw[hobj];unfold gH aE;rw[(s1 _ _ _).1,(s1 _ _ _).2,hlen];simp only[dv,Th,Ti];refine⟨⟨⟨⟨?_,?_⟩,?_⟩,?_⟩,?_⟩
  ·trivial
  ·trivial
  ·exact decide_eq_true (by omega)
  ·exact decide_eq_true (by omega)
  ·exact decide_eq_true (by omega)
 ·unfold au;rw[hobj,(s1 _ _ _).1];rfl
 ·have:ay (bc L k n) (bJ L k n)=((gS (jF (aq L (dQ L k).toNat free) 1) (ay L k-n+1) (ay L k)).slots.at 1).value:=by rw[<-hobj];rfl
  rw[this,(s1 _ _ _).2];rfl
end Go.Sx
