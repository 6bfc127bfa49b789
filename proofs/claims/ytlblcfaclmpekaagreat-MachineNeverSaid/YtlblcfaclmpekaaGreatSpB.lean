import Derived.Test.YtlblcfaclmpekaaGreatSpP
import Derived.Test.YtlblcfaclmpekaaGreatKS
set_option linter.unusedSimpArgs false
set_option linter.unusedVariables false
namespace Go.Sx
def iR (o:Obj):Bool:=decide (o.kind=0)&&decide (4294967295<=o.count)
def dX (o:Obj):Bool:=decide (o.kind=0)&&decide (o.count<4294967295)
def C5 (o:Obj):Obj:=⟨3,o.count,0,fD,dV⟩
def kq (o:Obj) (kind:Int):Obj:=⟨kind,o.count+1,0,fD,dV⟩
def wV (o:Obj):Obj:=⟨0,o.count,0,fD,dV⟩
def jV (L:List Obj) (p:Nat->Obj->Bool) (t:Obj->Obj):List Obj:=(List.range L.length).map fun j=>if p j (ai L j free)then t (ai L j free)else ai L j free
def bI (L:List Obj) (f g:Int):List Obj:=jV L (fun j o=>decide (f<=(j:Int))&&decide ((j:Int)<g)&&iR o) C5
def kE (L:List Obj) (f g:Int):Prop:=∀j:Nat,f<=(j:Int)->(j:Int)<g->dX (ai L j free)=false
def Mg (L:List Obj) (f g:Int):Bool:=(List.range L.length).any fun(j:Nat)=>decide (f<=(j:Int))&&decide ((j:Int)<g)&&iR (ai L j free)
def fc (L:List Obj) (f l:Int):Int:=match (List.range L.length).find? fun(j:Nat)=>decide (f<=(j:Int))&&decide ((j:Int)<=l)&&dX (ai L j free)with
 |some j=>(j:Int)
 |none=> -1
def j3 (L:List Obj) (f l kind:Int):List Obj:=if fc L f l= -1 then bI L f (l+1)else bX (bI L f (fc L f l)) (fc L f l).toNat (kq (ai L (fc L f l).toNat free) kind)
def uQ (L:List Obj) (f l:Int):Bool:= !decide (fc L f l= -1)||Mg L f (l+1)
def bZ (kind oid count:Int):Key:=⟨if kind=2 then 3 else 2,oid,count,0,0,0⟩
def ir (o:Obj) (n:Int):Bool:=decide ((o.slots.at 0).kind=1)&&decide ((o.slots.at 1).kind=1)&&decide (0<=(o.slots.at 0).value)&&decide ((o.slots.at 0).value<=(o.slots.at 1).value)&&decide ((o.slots.at 1).value<n)
def aV (L:List Obj) (k:Key):Int:=if aQ L k 4 false=0 then(if ir (ai L k.oid.toNat free) (ak L:Int)then 0 else 220)else aQ L k 4 false
def aB (L:List Obj) (k:Key):Int:=((ai L k.oid.toNat free).slots.at 0).value
def aE (L:List Obj) (k:Key):Int:=((ai L k.oid.toNat free).slots.at 1).value
def Az (L:List Obj) (k:Key):Int:=if aV L k=0 then aB L k else 0
def zP (L:List Obj) (k:Key):Int:=if aV L k=0 then aE L k else 0
def fE (L:List Obj) (k:Key) (kind:Int):Int:=if aV L k=0 then(if kind=1\/kind=2 then 0 else 2)else aV L k
def dw (L:List Obj) (k:Key) (kind:Int):Int:=if fE L k kind=0 then(if fc L (aB L k) (aE L k)= -1 then 221 else 0)else fE L k kind
def fi (L:List Obj) (k:Key) (kind:Int):List Obj:=if fE L k kind=0 then j3 L (aB L k) (aE L k) kind else L
def Av (L:List Obj) (k:Key) (kind:Int):Bool:=decide (fE L k kind=0)&&uQ L (aB L k) (aE L k)
def ez (L:List Obj) (k:Key) (kind:Int):Key:=if dw L k kind=0 then bZ kind (fc L (aB L k) (aE L k)) ((ai L (fc L (aB L k) (aE L k)).toNat free).count+1)else void
def iv (L:List Obj) (v:Key):Bool:=aI L v&&(decide (v.kind=2)||decide (v.kind=3))
def dE (L:List Obj) (k v:Key):Int:=if aV L k=0 then(if iv L v then(if aB L k<=v.oid/\v.oid<=aE L k/\v.oid≠k.oid then 0 else 4)else 5)else aV L k
def h9 (L:List Obj) (k v:Key):List Obj:=if dE L k v=0 then bX L v.oid.toNat (wV (ai L v.oid.toNat free))else L
def kX (o:Obj):Bool:=decide (o.kind=1)||decide (o.kind=2)
def jL (f g oid:Int) (j:Nat) (o:Obj):Bool:=decide (f<=(j:Int))&&decide ((j:Int)<g)&&kX o&& !decide ((j:Int)=oid)
def fI (L:List Obj) (f g oid:Int):List Obj:=jV L (jL f g oid) wV
def gE (L:List Obj) (f g oid:Int):Int:=(((List.range L.length).filter fun j=>jL f g oid j (ai L j free)).length:Int)
def jc (L:List Obj) (k:Key):List Obj:=if aV L k=0 then fI L (aB L k) (aE L k+1) k.oid else L
def iJ (L:List Obj) (k:Key):Int:=if aV L k=0 then gE L (aB L k) (aE L k+1) k.oid else 0
def mD (L:List Obj) (k v:Key):Bool:=decide (aV L k=0)&&iv L v&&decide (aB L k<=v.oid)&&decide (v.oid<=aE L k)
theorem gU {L:List Obj} {p:Nat->Obj->Bool} {t:Obj->Obj}:(jV L p t).length=L.length:=by simp[jV]
theorem gS {L:List Obj} {p:Nat->Obj->Bool} {t:Obj->Obj} {j:Nat} (h:j<L.length):ai (jV L p t) j free=if p j (ai L j free)then t (ai L j free)else ai L j free:=by
 rw[show ai (jV L p t) j free=(jV L p t).getD j free from rfl,Xt];unfold jV;rw[List.getElem?_map,List.getElem?_range h];rfl
theorem Bz {L:List Obj} {p:Nat->Obj->Bool} {t:Obj->Obj} (h:∀j,j<L.length->p j (ai L j free)=false):jV L p t=L:=by
 refine sK gU fun j hj=>?_
 rw[gU]at hj;rw[gS hj,h j hj];rfl
theorem CH {L:List Obj} {p p':Nat->Obj->Bool} {t:Obj->Obj} {g:Nat} (hg:g<L.length) (hp:∀j,j≠g->p' j (ai L j free)=p j (ai L j free)) (h1:p' g (ai L g free)=true):
  bX (jV L p t) g (t (ai L g free))=jV L p' t:=by
 refine sK (by rw[eT,gU,gU]) fun j hj=>?_
 rw[eT,gU]at hj;rw[dA (by rw[gU];exact hg),gS hj,gS hj]
 by_cases e:j=g
 ·subst e;rw[Xv rfl,h1,Xv rfl]
 ·rw[Xu e,hp j e]
theorem ya {L:List Obj} {p p':Nat->Obj->Bool} {t:Obj->Obj} (hp:∀j,j<L.length->p' j (ai L j free)=p j (ai L j free)):jV L p' t=jV L p t:=by
 refine sK (by rw[gU,gU]) fun j hj=>?_
 rw[gU]at hj;rw[gS hj,gS hj,hp j hj]
theorem kF {L:List Obj} {f g:Int}:(bI L f g).length=L.length:=gU
theorem Bw {L:List Obj} {f:Int}:L=bI L f f:=by
 symm
 refine Bz fun j hj=>?_
 simp only[Bool.and_eq_false_iff,decide_eq_false_iff_not];omega
theorem C6 {L:List Obj} {f g:Int} (h0:0<=g):ai (bI L f g) g.toNat free=ai L g.toNat free:=by
 by_cases h:g.toNat<L.length
 ·unfold bI;rw[gS h,Xu];simp only[Xo,Xp];omega
 ·rw[show ai (bI L f g) g.toNat free=free by simp[ai,Xt,List.getElem?_eq_none (show(bI L f g).length<=g.toNat by rw[kF];omega)]]
  simp[ai,Xt,List.getElem?_eq_none (show L.length<=g.toNat by omega)]
theorem Fc {L:List Obj} {f g:Int} (h0:0<=g) (h1:g<(L.length:Int)) (hf:f<=g) (hr:iR (ai L g.toNat free)=true):bX (bI L f g) g.toNat (C5 (ai L g.toNat free))=bI L f (g+1):=by
 refine CH (by omega) (fun j hj=>?_) ?_
 ·have:decide ((j:Int)<g+1)=decide ((j:Int)<g):=by rw[decide_eq_decide];omega
  rw[this]
 ·rw[hr];simp;omega
theorem CK {L:List Obj} {f g:Int} (h0:0<=g) (hr:iR (ai L g.toNat free)=false):bI L f (g+1)=bI L f g:=by
 refine ya fun j hj=>?_
 by_cases e:(j:Int)=g
 ·rw[show j=g.toNat by omega,hr,Bool.and_false,Bool.and_false]
 ·have:decide ((j:Int)<g+1)=decide ((j:Int)<g):=by rw[decide_eq_decide];omega
  rw[this]
theorem SE {L:List Obj} {f l g:Int} (h0:0<=f) (hf:f<=g) (hl:g<=l) (hg:g<(L.length:Int)) (hn:kE L f g) (hw:dX (ai L g.toNat free)=true):fc L f l=g:=by
 unfold fc
 have:(List.range L.length).find? (fun(j:Nat)=>decide (f<=(j:Int))&&decide ((j:Int)<=l)&&dX (ai L j free))=some g.toNat:=by
  rw[List.find?_eq_some_iff_getElem];refine⟨by rw[hw];simp;omega,g.toNat,by simp;omega,by simp,fun j hj=>?_⟩
  simp only[List.getElem_range,Bool.not_eq_true',Bool.and_eq_false_iff,decide_eq_false_iff_not];by_cases e:f<=(j:Int)
  ·right;exact hn j e (by omega)
  ·left;left;exact e
 rw[this];show((g.toNat:Nat):Int)=g
 omega
theorem Lv {L:List Obj} {f l:Int} (hn:kE L f (l+1)):fc L f l= -1:=by
 unfold fc
 have:(List.range L.length).find? (fun(j:Nat)=>decide (f<=(j:Int))&&decide ((j:Int)<=l)&&dX (ai L j free))=none:=by
  rw[List.find?_eq_none];intro j hj h;simp only[Xo,Xp]at h;rw[hn j h.1.1 (by omega)]at h
  simp at h
 rw[this]
theorem nY {L:List Obj} {f g:Int} (h:kE L f g) (hg:dX (ai L g.toNat free)=false):kE L f (g+1):=fun j h1 h2=>by
 by_cases e:(j:Int)=g
 ·rw[show j=g.toNat by omega];exact hg
 ·exact h j h1 (by omega)
theorem xd {L:List Obj} {f:Int}:kE L f f:=fun j h1 h2=>by omega
theorem zQ {L:List Obj} {f g oid:Int}:(fI L f g oid).length=L.length:=gU
theorem JB {L:List Obj} {f g oid:Int} (h:gE L f g oid=0):fI L f g oid=L:=by
 refine Bz fun j hj=>?_
 unfold gE at h;have h2:((List.range L.length).filter fun j=>jL f g oid j (ai L j free))= []:=List.eq_nil_of_length_eq_zero (by omega)
 rw[List.filter_eq_nil_iff]at h2;have:=h2 j (by simp;omega)
 simpa using this
theorem Bb {L:List Obj} {f oid:Int}:gE L f f oid=0:=by
 unfold gE;rw[show((List.range L.length).filter fun j=>jL f f oid j (ai L j free))= []from ?_]
 ·rfl
 ·rw[List.filter_eq_nil_iff];intro j hj;unfold jL;simp only[Xo,Xp];omega
theorem L5 {L:List Obj} {f oid:Int}:L=fI L f f oid:=(JB Bb).symm
theorem R1 {L:List Obj} {f g oid:Int} (h0:0<=g):ai (fI L f g oid) g.toNat free=ai L g.toNat free:=by
 by_cases h:g.toNat<L.length
 ·unfold fI;rw[gS h,Xu];unfold jL;simp only[Xo,Xp];omega
 ·rw[show ai (fI L f g oid) g.toNat free=free by simp[ai,Xt,List.getElem?_eq_none (show(fI L f g oid).length<=g.toNat by rw[zQ];omega)]]
  simp[ai,Xt,List.getElem?_eq_none (show L.length<=g.toNat by omega)]
def jt (L:List Obj) (g oid:Int):Bool:=kX (ai L g.toNat free)&& !decide (g=oid)
theorem AB {L:List Obj} {f g oid:Int} (h0:0<=g) (hf:f<=g):jL f (g+1) oid g.toNat (ai L g.toNat free)=jt L g oid:=by
 unfold jL jt;rw[show((g.toNat:Nat):Int)=g by omega]
 have a:decide (f<=g)=true:=by simp;omega
 have b:decide (g<g+1)=true:=by simp;omega
 rw[a,b];simp
theorem vF {L:List Obj} {f g oid:Int} {j:Nat} (h:(j:Int)≠g) (o:Obj):jL f (g+1) oid j o=jL f g oid j o:=by
 unfold jL;have:decide ((j:Int)<g+1)=decide ((j:Int)<g):=by rw[decide_eq_decide];omega
 rw[this]
theorem Aj {f g oid:Int} {j:Nat} (h:(j:Int)=g) (o:Obj):jL f g oid j o=false:=by
 unfold jL;have:decide ((j:Int)<g)=false:=by simp;omega
 rw[this];simp
theorem O4 {L:List Obj} {f g oid:Int} (h0:0<=g) (h1:g<(L.length:Int)) (hf:f<=g) (hr:jt L g oid=true):bX (fI L f g oid) g.toNat (wV (ai L g.toNat free))=fI L f (g+1) oid:=
 CH (by omega) (fun j hj=>vF (L:=L) (by omega) _) (by rw[AB h0 hf];exact hr)
theorem Bd {L:List Obj} {f g oid:Int} (h0:0<=g) (hf:f<=g) (hr:jt L g oid=false):fI L f (g+1) oid=fI L f g oid:=by
 refine ya fun j hj=>?_
 by_cases e:(j:Int)=g
 ·rw[show j=g.toNat by omega,AB h0 hf,hr,Aj (by omega)]
 ·exact vF (L:=L) e _
theorem Bv {L:List Obj} {f g oid:Int} (h0:0<=g) (hf:f<=g) (hr:jt L g oid=false):gE L f (g+1) oid=gE L f g oid:=by
 unfold gE;rw[show((List.range L.length).filter fun j=>jL f (g+1) oid j (ai L j free))=(List.range L.length).filter fun j=>jL f g oid j (ai L j free)from List.filter_congr fun j hj=>?_]
 by_cases e:(j:Int)=g
 ·rw[show j=g.toNat by omega,AB h0 hf,hr,Aj (by omega)]
 ·exact vF (L:=L) e _
theorem filter_one {l:List Nat} {p p':Nat->Bool} {g:Nat} (hn:l.Nodup) (hg:g∈l) (hp:∀j,j≠g->p' j=p j) (h0:p g=false) (h1:p' g=true):(l.filter p').length=(l.filter p).length+1:=by
 induction l with
 |nil=>simp at hg
 |cons a l ih=>
  rw[List.nodup_cons]at hn;by_cases e:a=g
  ·subst e;have:l.filter p'=l.filter p:=List.filter_congr fun j hj=>hp j fun e=>hn.1 (e▸hj)
   rw[List.filter_cons,List.filter_cons,h0,h1,Xv rfl,Xu (by simp),this]
   simp
  ·have hg2:g∈l:=by
    rcases List.mem_cons.1 hg with h|h
    ·exact absurd h.symm e
    ·exact h
   rw[List.filter_cons,List.filter_cons,hp a e];split
   ·simp only[List.length_cons];rw[ih hn.2 hg2]
   ·exact ih hn.2 hg2
theorem LK {L:List Obj} {f g oid:Int} (h0:0<=g) (h1:g<(L.length:Int)) (hf:f<=g) (hr:jt L g oid=true):gE L f (g+1) oid=gE L f g oid+1:=by
 unfold gE;have:=filter_one (l:=List.range L.length) (p:=fun j=>jL f g oid j (ai L j free)) (p':=fun j=>jL f (g+1) oid j (ai L j free)) (g:=g.toNat) List.nodup_range (by simp;omega) (fun j hj=>vF (L:=L) (by omega) _) (Aj (by omega) _) (by show jL f (g+1) oid g.toNat (ai L g.toNat free)=true;rw[AB h0 hf];exact hr)
 omega
theorem Du {L:List Obj} {f g oid:Int}:0<=gE L f g oid:=by unfold gE;omega
theorem R4 {L:List Obj} {f g oid:Int}:gE L f g oid<=(L.length:Int):=by
 unfold gE;have:=List.length_filter_le (fun j=>jL f g oid j (ai L j free)) (List.range L.length)
 rw[List.length_range]at this;omega
theorem AK {n:Int} {kind count:Int} (h1:1<=n) (h2:n<=64) (h3:0<=kind) (h4:kind<=3) (h5:0<=count) (h6:count<=4294967295):bf ⟨kind,count,0,fD,dV⟩ n=true:=by
 rw[cO];refine⟨h1,h2,h3,h4,h5,h6,by simp,by simp,.inr rfl,fun i hi=>?_,fun i hi=>?_⟩
 ·simp only[wa];unfold gk;rw[lv.1,lv.2];simp;omega
 ·have hz:=Fb.1 (show dV=dV from rfl) i hi;first|exact .inr (.inr hz)|exact hz|simp[hz]
theorem j6 {o:Obj} {n:Int} (h:bf o n=true):0<=o.count/\o.count<=4294967295/\0<=o.kind/\o.kind<=3/\1<=n/\n<=64:=by
 obtain⟨a1,a2,a3,a4,a5,a6,_⟩:=cO.1 h;exact⟨a5,a6,a3,a4,a1,a2⟩
theorem AQ {o:Obj} {n:Int} (h:bf o n=true):bf (C5 o) n=true:=by
 obtain⟨a,b,c,d,e,f⟩:=j6 h;exact AK e f (by omega) (by omega) a b
theorem vO {o:Obj} {n:Int} (h:bf o n=true):bf (wV o) n=true:=by
 obtain⟨a,b,c,d,e,f⟩:=j6 h;exact AK e f (by omega) (by omega) a b
theorem Ai {o:Obj} {n kind:Int} (h:bf o n=true) (hn:dX o=true) (hk:kind=1\/kind=2):bf (kq o kind) n=true:=by
 obtain⟨a,b,c,d,e,f⟩:=j6 h;unfold dX at hn;simp only[Xo,Xp]at hn;exact AK e f (by omega) (by omega) (by omega) (by omega)
theorem Fm {L:List Obj} {p:Nat->Obj->Bool} {t:Obj->Obj} (h:aq L) (ht:∀o,bf o (L.length:Int)=true->bf (t o) (L.length:Int)=true):aq (jV L p t):=by
 refine Ib h gU fun j hj=>?_
 rw[gS hj];split
 ·exact ht _ (cm h j hj)
 ·exact cm h j hj
theorem Dz {L:List Obj} {f g:Int} (h:aq L):aq (bI L f g):=Fm h fun o ho=>AQ ho
def kB:mh (Key×Unit):=bE kA kz
def Vo:mh (Key×Key×Unit):=bE kA (bE kA kz)
def Uo:mh (Key×Int×Unit):=bE kA (bE iA kz)
theorem Ut:iO kB:=aM mL dM
theorem JN:iO Vo:=aM mL (aM mL dM)
theorem Jk:iO Uo:=aM mL (aM fP dM)
def RD:Ct:=VC (rI .i64) (rI .i64) (rI .i64) fun a b c=> .key (bZ a b c)
theorem E0 {o:Obj} (h:o.kind≠0):iR o=false/\dX o=false:=by simp[iR,dX,h]
theorem IP {o:Obj} (h:o.kind=0) (h2:4294967295<=o.count):iR o=true/\dX o=false:=by simp[iR,dX,h,h2]
theorem Kc {o:Obj} (h:o.kind=0) (h2:¬4294967295<=o.count):iR o=false/\dX o=true:=by
 refine⟨by simp[iR,h2],?_⟩
 simp only[dX,Xo,Xp];omega
theorem Fw {L:List Obj} {f l g:Int} (kind:Int) (h0:0<=f) (hf:f<=g) (hl:g<=l) (hg:g<(L.length:Int)) (hn:kE L f g) (hw:dX (ai L g.toNat free)=true):
  fc L f l=g/\uQ L f l=true/\j3 L f l kind=bX (bI L f g) g.toNat (kq (ai L g.toNat free) kind):=by
 have e:=SE h0 hf hl hg hn hw;refine⟨e,?_,?_⟩
 ·unfold uQ;rw[e];simp;left;omega
 ·unfold j3;rw[e,Xu (by omega)]
theorem Lt {L:List Obj} {f l:Int} (kind:Int) (hn:kE L f (l+1)):fc L f l= -1/\j3 L f l kind=bI L f (l+1)/\uQ L f l=Mg L f (l+1):=by
 have e:=Lv hn;refine⟨e,?_,?_⟩
 ·unfold j3;rw[e,Xv rfl]
 ·unfold uQ;rw[e];rfl
theorem Fu {L:List Obj} {k:Key} (h:aQ L k 4 false=0) (h2:ir (ai L k.oid.toNat free) (ak L:Int)=false):aV L k=220/\Az L k=0/\zP L k=0:=by
 have e:aV L k=220:=by unfold aV;rw[Xv h,h2];rfl
 refine⟨e,?_,?_⟩
 ·unfold Az;rw[e];rfl
 ·unfold zP;rw[e];rfl
theorem xF {L:List Obj} {k:Key} (h:aQ L k 4 false=0) (h2:ir (ai L k.oid.toNat free) (ak L:Int)=true):aV L k=0/\Az L k=aB L k/\zP L k=aE L k:=by
 have e:aV L k=0:=by unfold aV;rw[Xv h,h2];rfl
 refine⟨e,?_,?_⟩
 ·unfold Az;rw[e];rfl
 ·unfold zP;rw[e];rfl
theorem lZ {L:List Obj} {k:Key} (h:aV L k=0):aQ L k 4 false=0/\0<=aB L k/\aB L k<=aE L k/\aE L k<(L.length:Int)/\0<=k.oid/\k.oid<(L.length:Int):=by
 have ha:aQ L k 4 false=0:=by
  unfold aV at h;split at h
  ·assumption
  ·rename_i h1;exact absurd h h1
 have hb:ir (ai L k.oid.toNat free) (ak L:Int)=true:=by
  cases hb:ir (ai L k.oid.toNat free) (ak L:Int)with
  |true=>rfl
  |false=>rw[(Fu ha hb).1]at h;simp at h
 obtain⟨_,b2,b3,_⟩:=ej (kR ha).1;unfold ir at hb;simp only[Xo,Xp]at hb;obtain⟨⟨⟨⟨_,_⟩,h3⟩,h4⟩,h5⟩:=hb;exact⟨ha,h3,h4,h5,b2,b3⟩
theorem uF {L:List Obj} {f l:Int} (h0:0<=f):fc L f l= -1\/(f<=fc L f l/\fc L f l<=l/\fc L f l<(L.length:Int)/\dX (ai L (fc L f l).toNat free)=true):=by
 unfold fc;split
 ·rename_i j hj;right
  have h1:=List.find?_some hj;have h2:=List.mem_of_find?_eq_some hj;simp only[Xo,Xp]at h1;rw[List.mem_range]at h2;exact⟨h1.1.1,h1.1.2,by omega,h1.2⟩
 ·exact .inl rfl
theorem Ab {L:List Obj} {f l kind:Int}:(j3 L f l kind).length=L.length:=by
 unfold j3;split
 ·exact kF
 ·rw[eT,kF]
theorem H6 {L:List Obj} {f l kind:Int} (h0:0<=f) (h:fc L f l≠ -1):ai (j3 L f l kind) (fc L f l).toNat free=kq (ai L (fc L f l).toNat free) kind:=by
 rcases uF (L:=L) (l:=l) h0 with e|⟨a,b,c,d⟩
 ·exact absurd e h
 ·unfold j3;rw[Xu h,dA (by rw[kF];omega),Xv rfl]
theorem NH {L:List Obj} {f l:Int} (h:fc L f l≠ -1):uQ L f l=true:=by unfold uQ;simp[h]
theorem I4 {L:List Obj} {k:Key} {kind:Int} (h:aV L k=0) (hk:kind=1\/kind=2) (hi:fc L (aB L k) (aE L k)= -1):Av L k kind=uQ L (aB L k) (aE L k)/\void=ez L k kind/\221=dw L k kind/\j3 L (aB L k) (aE L k) kind=fi L k kind:=by
 have e:fE L k kind=0:=by unfold fE;rw[Xv h,Xv hk]
 have e2:dw L k kind=221:=by unfold dw;rw[Xv e,Xv hi]
 refine⟨by unfold Av;rw[e];simp,by unfold ez;rw[e2];rfl,e2.symm,by unfold fi;rw[Xv e]⟩
theorem Nf {L:List Obj} {k:Key} {kind:Int} (h:aV L k=0) (hk:kind=1\/kind=2) (hi:fc L (aB L k) (aE L k)≠ -1):Av L k kind=true/\Key.mk (1+kind) (fc L (aB L k) (aE L k)) (ai (j3 L (aB L k) (aE L k) kind) (fc L (aB L k) (aE L k)).toNat free).count 0 0 0=ez L k kind/\0=dw L k kind/\j3 L (aB L k) (aE L k) kind=fi L k kind:=by
 have e:fE L k kind=0:=by unfold fE;rw[Xv h,Xv hk]
 have e2:dw L k kind=0:=by unfold dw;rw[Xv e,Xu hi]
 refine⟨by unfold Av;rw[e,NH hi];rfl,?_,e2.symm,by unfold fi;rw[Xv e]⟩
 unfold ez;rw[Xv e2,H6 (lZ h).2.1 hi];unfold bZ kq;rcases hk with rfl|rfl<;>rfl
theorem Cx {L:List Obj} {v:Key} (h:iv L v=true):aI L v=true:=by unfold iv at h;simp only[Xo]at h;exact h.1
def eQ (L:List Obj) (k:Key):Int:=fc L (aB L k) (aE L k)
def dt (L:List Obj) (k:Key):List Obj:=j3 L (aB L k) (aE L k) 1
def ma (M:List Obj) (f g:Int):Bool:=(List.range M.length).any fun(j:Nat)=>decide (f<=(j:Int))&&decide ((j:Int)<g)&&kX (ai M j free)
def kZ (L:List Obj) (k:Key) (n:Int):Int:=if aV L k=0 then(if n<1\/aE L k-aB L k<n then 4 else 0)else aV L k
def b7 (L:List Obj) (k:Key) (n:Int):Int:=if kZ L k n=0 then(if eQ L k<0\/aE L k-n<eQ L k then 221 else if ma (dt L k) (aE L k-n+1) (aE L k+1)=true then 221 else 0)else kZ L k n
def iC (o:Obj) (a b:Int):Obj:= {o with slots:=(o.slots.put 0 (c8 a)).put 1 (c8 b)}
def kU (o:Obj) (b:Int):Obj:= {o with slots:=o.slots.put 1 (c8 b)}
def bj (L:List Obj) (k:Key) (n:Int):List Obj:=if b7 L k n=0 then bX (bX (dt L k) (eQ L k).toNat (iC (ai (dt L k) (eQ L k).toNat free) (aE L k-n+1) (aE L k))) k.oid.toNat (kU (ai (dt L k) k.oid.toNat free) (aE L k-n))else L
def ca (L:List Obj) (k:Key) (n:Int):Key:=if b7 L k n=0 then⟨4,eQ L k,(ai (dt L k) (eQ L k).toNat free).count,0,0,0⟩else void
theorem Bh {L:List Obj} {k:Key} {n:Int} (h:aV L k≠0):b7 L k n=aV L k:=by
 have e:kZ L k n=aV L k:=by unfold kZ;rw[Xu h]
 unfold b7;rw[e,Xu h]
theorem FW {L:List Obj} {k:Key} {n:Int} (h:aV L k=0) (hn:n<1\/aE L k-aB L k<n):b7 L k n=4:=by
 have e:kZ L k n=4:=by unfold kZ;rw[Xv h,Xv hn]
 unfold b7;rw[e];rfl
theorem M5 {L:List Obj} {k:Key} {n:Int} (h:aV L k=0) (h1:1<=n) (h2:n<=aE L k-aB L k):kZ L k n=0:=by
 unfold kZ;rw[Xv h,Xu (by omega)]
theorem Be {L:List Obj} {k:Key} {n:Int} (h:kZ L k n=0) (hi:eQ L k<0\/aE L k-n<eQ L k):b7 L k n=221:=by
 unfold b7;rw[Xv h,Xv hi]
theorem Mv {L:List Obj} {k:Key} {n:Int} (h:kZ L k n=0) (hi:ma (dt L k) (aE L k-n+1) (aE L k+1)=true):b7 L k n=221:=by
 unfold b7;rw[Xv h,Xv hi];split<;>rfl
theorem PY {L:List Obj} {k:Key} {n:Int} (h:kZ L k n=0) (h1:0<=eQ L k) (h2:eQ L k<=aE L k-n) (hi:ma (dt L k) (aE L k-n+1) (aE L k+1)=false):b7 L k n=0:=by
 unfold b7;rw[Xv h,Xu (by omega),hi];rfl
theorem LQ {M:List Obj} {f g e:Int} (h0:0<=g) (h1:g<(M.length:Int)) (hf:f<=g) (he:g<e) (hr:kX (ai M g.toNat free)=true):ma M f e=true:=by
 unfold ma;rw[List.any_eq_true];exact⟨g.toNat,by simp;omega,by rw[hr];simp;omega⟩
theorem OZ {M:List Obj} {f g:Int} (h0:0<=g) (hr:kX (ai M g.toNat free)=false):ma M f (g+1)=ma M f g:=by
 unfold ma;rw[Bool.eq_iff_iff,List.any_eq_true,List.any_eq_true];refine exists_congr fun j=>and_congr_right fun _=>?_
 simp only[Xo,Xp];constructor
 ·rintro⟨⟨a,b⟩,c⟩
  refine⟨⟨a,?_⟩,c⟩;by_cases e:(j:Int)=g
  ·rw[show j=g.toNat by omega,hr]at c;simp at c
  ·omega
 ·rintro⟨⟨a,b⟩,c⟩
  exact⟨⟨a,by omega⟩,c⟩
theorem RE {L:List Obj} {k:Key} (h:aI L k=true):bG k=k.oid:=by
 unfold aI at h;simp only[Xo]at h;unfold bG;rw[Xv h.1.1]
theorem FK {L:List Obj} {k:Key} (h:(!decide (0<ah L))=true):aV L k=1:=by unfold aV;rw[KF h];rfl
theorem TS {L:List Obj} {k:Key} (h:(!decide (0<ah L))=false) (h2:(!(aI L k&&decide (k.kind=4)))=true):aV L k=190:=by unfold aV;rw[G7 h h2];rfl
theorem T3 {L:List Obj} {k:Key} (h:(!decide (0<ah L))=false) (h2:(!(aI L k&&decide (k.kind=4)))=false) (h3:(!ir (aa L k) (ah L))=true):aV L k=220:=by
 have ha:=FA h h2;rw[(ej (mE h2).1).2.2.2.1]at h3;exact(Fu ha (show ir (ai L k.oid.toNat free) (ah L)=false by simpa using h3)).1
theorem Oa {L:List Obj} {k:Key} (h:(!decide (0<ah L))=false) (h2:(!(aI L k&&decide (k.kind=4)))=false) (h3:(!ir (aa L k) (ah L))=false):aV L k=0/\((aa L k).slots.at 0).value=aB L k/\((aa L k).slots.at 1).value=aE L k:=by
 have ha:=FA h h2;have e:=(ej (mE h2).1).2.2.2.1;rw[e]at h3;rw[e];exact⟨(xF ha (show ir (ai L k.oid.toNat free) (ah L)=true by simpa using h3)).1,rfl,rfl⟩
theorem AM {L:List Obj} {k v:Key} {e:Int} (h:aV L k=e) (he:e≠0):false=mD L k v/\e=aV L k:=by
 refine⟨?_,h.symm⟩;unfold mD;rw[h];simp[he]
theorem rj {L:List Obj} {k v:Key} {e:Int} (h:dE L k v=e) (he:e≠0):e=dE L k v/\L=h9 L k v:=by
 refine⟨h.symm,?_⟩;unfold h9;rw[h,Xu he]
theorem pS {L:List Obj} {k v:Key} {e:Int} (h:aV L k=e) (he:e≠0):dE L k v=e:=by
 unfold dE;rw[h,Xu he]
theorem wq {L:List Obj} {k:Key} {e:Int} (h:aV L k=e) (he:e≠0):(0=iJ L k/\e=aV L k)/\L=jc L k:=by
 unfold iJ jc;rw[h,Xu he,Xu he];exact⟨⟨rfl,rfl⟩,rfl⟩
theorem uA {L:List Obj} {k:Key} {kind e:Int} (h:fE L k kind=e) (he:e≠0):(void=ez L k kind/\e=dw L k kind)/\L=fi L k kind:=by
 have e2:dw L k kind=e:=by unfold dw;rw[h,Xu he]
 unfold ez fi;rw[e2,h,Xu he,Xu he];exact⟨⟨rfl,rfl⟩,rfl⟩
theorem pg {L:List Obj} {k:Key} {kind e:Int} (h:aV L k=e) (he:e≠0):fE L k kind=e:=by unfold fE;rw[h,Xu he]
theorem HX {L:List Obj} {k:Key} {kind:Int} (h:aV L k=0) (h2:(!(decide (kind=1)||decide (kind=2)))=true):fE L k kind=2:=by
 unfold fE;rw[Xv h,Xu];simp only[Bool.not_eq_true',Bool.or_eq_false_iff,decide_eq_false_iff_not]at h2;omega
theorem n9 {L:List Obj} {k:Key} {n e:Int} (h:b7 L k n=e) (he:e≠0):(void=ca L k n/\e=b7 L k n)/\L=bj L k n:=by
 unfold ca bj;rw[h,Xu he,Xu he];exact⟨⟨rfl,rfl⟩,rfl⟩
theorem sH {L:List Obj} {k:Key} {n e:Int} (h:aV L k=e) (he:e≠0):b7 L k n=e:=by rw[Bh (by omega),h]
def PX:Ct:=CP (bE sA Vo) (fun _=>none) fun x=> .tp [.bo (mD (AX x.1) x.2.1 x.2.2.1),.it .i64 (aV (AX x.1) x.2.1)]
def Ov:ng:=Gu (HN Uo) (fun L _=>aq L) (fun L x=> .tp [.key (ez L x.1 x.2.1),.it .i64 (dw L x.1 x.2.1)]) fun L x=>fi L x.1 x.2.1
def RO:ng:=Gu (HN Vo) (fun L _=>aq L) (fun L x=> .it .i64 (dE L x.1 x.2.1)) fun L x=>h9 L x.1 x.2.1
def ON:ng:=Gu (HN kB) (fun L _=>aq L) (fun L x=> .tp [.it .i64 (iJ L x.1),.it .i64 (aV L x.1)]) fun L x=>jc L x.1
def JG:ng:=Gu (HN Uo) (fun L _=>aq L) (fun L x=> .tp [.key (ca L x.1 x.2.1),.it .i64 (b7 L x.1 x.2.1)]) fun L x=>bj L x.1 x.2.1
def nW (L:List Obj) (k:Key) (n g:Int):Prop:=aB L k<=g/\g<=aE L k+1/\ma (dt L k) (aE L k-n+1) g=false
def IW (L M:List Obj) (g:Int):Int:=ai (cy L M) g.toNat 0
def Hx:List Obj->List Obj->Nat->List Obj
 |L,_,0=>L
 |L,M,g+1=>bN (Hx L M g) (IW L M (g:Int)) (au M (IW L M (g:Int)))
def lf (L M:List Obj) (g:Int):List Obj:=Hx L M g.toNat
def qF (L M:List Obj) (g:Int):Prop:=0<=g/\g<=((cy L M).length:Int)
def dR (L:List Obj) (k:Key) (g:Int):Obj:=au (bI L (aB L k) g) g
def oT (L:List Obj) (k:Key) (g:Int):List Obj:=bN (bI L (aB L k) g) g (Obj.mk 1 ((dR L k g).count+1) free.calls free.slots free.bytes)
def m5 (x:Int):Key:=Key.mk 1 void.oid void.count void.call void.rights x
def Aa (L:List Obj) (k:Key) (n g:Int):Obj:=Obj.mk (au (oT L k g) g).kind (au (oT L k g) g).count (au (oT L k g) g).calls (((au (oT L k g) g).slots.put 0 (m5 (((aa L k).slots.at 1).value-n+1))).put 1 (m5 ((aa L k).slots.at 1).value)) (au (oT L k g) g).bytes
def AO (L:List Obj) (k:Key) (n g:Int):List Obj:=bN (oT L k g) g (Aa L k n g)
def z0 (L:List Obj) (k:Key) (n g:Int):Obj:=Obj.mk (au (AO L k n g) k.oid).kind (au (AO L k n g) k.oid).count (au (AO L k n g) k.oid).calls ((au (AO L k n g) k.oid).slots.put 1 (m5 (((aa L k).slots.at 1).value-n))) (au (AO L k n g) k.oid).bytes
def k7 (L:List Obj) (k:Key) (n g:Int):List Obj:=bN (AO L k n g) k.oid (z0 L k n g)
def iw (L:List Obj) (k:Key) (g:Int):Prop:=aB L k<=g/\g<=aE L k+1/\kE L (aB L k) g
def qA (L:List Obj) (k:Key) (g:Int):Prop:=aB L k<=g/\g<=aE L k+1
theorem yL {L:List Obj} {k:Key} (h:aI L k=true) (h2:k.kind=4):(ai L k.oid.toNat free).kind=1:=by
 unfold aI at h;simp only[Xo]at h;obtain⟨⟨h1,_⟩,h3⟩:=h;unfold bL at h3;simp only[Xo,Bool.or_eq_true,Xp]at h3;rcases iM k with⟨_,e,h0⟩|⟨e,_⟩
 ·rcases h3.2 with h|h
  ·omega
  ·rw[h.1.1];unfold gK;rw[Xu (by omega),Xu (by omega)]
 ·rw[e]at h1;simp at h1
theorem EH {o:Obj} {n b:Int} (h:bf o n=true) (hk:o.kind=1):bf (kU o b) n=true:=by
 refine xm h hk fun i hi=>?_
 have:=(j6 h).2.2.2.2.1;rw[bJ.fb _ _ _ _ (by omega)]
 split
 ·exact qz (by omega) _
 ·exact qu h hk i hi
theorem Fk {o:Obj} {n a b:Int} (h:bf o n=true) (hk:o.kind=1):bf (iC o a b) n=true:=by
 refine xm h hk fun i hi=>?_
 have:=(j6 h).2.2.2.2.1;rw[bJ.fb _ _ _ _ (by omega),bJ.fb _ _ _ _ (by omega)]
 split
 ·exact qz (by omega) _
 split
 ·exact qz (by omega) _
 ·exact qu h hk i hi
theorem P5 {L:List Obj} {k:Key} {g:Int} (hL:aq L) (e:aV L k=0) (hk:(ai L k.oid.toNat free).kind=1) (g0:aB L k<=g) (gl:g<=aE L k) (g2:kE L (aB L k) g) (f2:dX (ai L g.toNat free)=true):
  eQ L k=g/\dR L k g=ai L g.toNat free/\oT L k g=dt L k/\(dt L k).length=L.length/\aq (dt L k)/\ai (dt L k) g.toNat free=kq (ai L g.toNat free) 1/\ai (dt L k) k.oid.toNat free=ai L k.oid.toNat free/\k.oid.toNat≠g.toNat:=by
 obtain⟨_,a0,a1,a2,a3,a4⟩:=lZ e;have hgn:g.toNat<L.length:=by omega
 have hgz:(bI L (aB L k) g).length=L.length:=kF;have hgt:au (bI L (aB L k) g) g=ai L g.toNat free:=by rw[fu (by omega) (by omega),C6 (by omega)]
 obtain⟨m1,m2,m3⟩:=Fw (l:=aE L k) 1 a0 g0 gl (by omega) g2 f2
 have hO:dR L k g=ai L g.toNat free:=hgt;have hnew:=Ai (cm hL g.toNat hgn) f2 (.inl rfl);have hp:=(ki (L:=bI L (aB L k) g) (i:=g) (x:=kq (ai L g.toNat free) 1) (by omega) (by omega) (by rw[hgz];exact hnew)).1
 have hP:oT L k g=dt L k:=by
  unfold oT;rw[hO];exact hp.trans m3.symm
 have hne:k.oid.toNat≠g.toNat:=fun h=>by
  rw[h]at hk;unfold dX at f2;simp only[Xo,Xp]at f2;omega
 have hM:dt L k=bX (bI L (aB L k) g) g.toNat (kq (ai L g.toNat free) 1):=m3;have hko:k.oid.toNat<L.length:=by omega
 refine⟨m1,hO,hP,Ab,?_,?_,?_,hne⟩
 ·rw[hM];exact jS (Dz hL) (by rw[hgz];exact hnew)
 ·rw[hM,dA (by rw[hgz];exact hgn),Xv rfl]
 ·rw[hM,dA (by rw[hgz];exact hgn),Xu hne]
  unfold bI;rw[gS hko,Xu];simp only[iR,hk,Xo,Xp];omega
theorem PU {L:List Obj} {k:Key} {n g:Int} (hL:aq L) (e:aV L k=0) (hk:(ai L k.oid.toNat free).kind=1) (hB:((aa L k).slots.at 1).value=aE L k) (g0:aB L k<=g) (gl:g<=aE L k) (g2:kE L (aB L k) g) (f2:dX (ai L g.toNat free)=true) (h:b7 L k n=0):
  k7 L k n g=bj L k n/\aq (bj L k n)/\(bj L k n).length=L.length/\Key.mk 4 g ((dR L k g).count+1) 0 0 0=ca L k n:=by
 obtain⟨i1,i2,i3,i4,i5,i6,i7,i8⟩:=P5 hL e hk g0 gl g2 f2;obtain⟨_,a0,a1,a2,a3,a4⟩:=lZ e;have hgM:au (dt L k) g=ai (dt L k) g.toNat free:=fu (by omega) (by omega)
 have hR1:Aa L k n g=iC (ai (dt L k) g.toNat free) (aE L k-n+1) (aE L k):=by
  unfold Aa;rw[i3,hgM,hB];rfl
 have o1:bf (iC (ai (dt L k) g.toNat free) (aE L k-n+1) (aE L k)) ((dt L k).length:Int)=true:=Fk (cm i5 g.toNat (by omega)) (by rw[i6];rfl)
 have hP2:AO L k n g=bX (dt L k) g.toNat (iC (ai (dt L k) g.toNat free) (aE L k-n+1) (aE L k)):=by
  unfold AO;rw[i3,hR1];exact(ki (by omega) (by omega) o1).1
 have ok2:=jS (i:=g.toNat) i5 o1;have l2:(bX (dt L k) g.toNat (iC (ai (dt L k) g.toNat free) (aE L k-n+1) (aE L k))).length=L.length:=by rw[eT];exact i4
 have g2':au (AO L k n g) k.oid=ai (dt L k) k.oid.toNat free:=by
  rw[hP2,fu (by omega) (by omega),dA (by omega),Xu i8]
 have hR2:z0 L k n g=kU (ai (dt L k) k.oid.toNat free) (aE L k-n):=by
  unfold z0;rw[g2',hB];rfl
 have o2:bf (kU (ai (dt L k) k.oid.toNat free) (aE L k-n)) (L.length:Int)=true:=EH (by rw[<-i4];exact cm i5 k.oid.toNat (by omega)) (by rw[i7];exact hk)
 have hlast:bj L k n=bX (bX (dt L k) g.toNat (iC (ai (dt L k) g.toNat free) (aE L k-n+1) (aE L k))) k.oid.toNat (kU (ai (dt L k) k.oid.toNat free) (aE L k-n)):=by
  unfold bj;rw[Xv h,i1]
 refine⟨?_,?_,?_,?_⟩
 ·unfold k7;rw[hR2,hP2,hlast];exact(ki (by omega) (by omega) (by rw[l2];exact o2)).1
 ·rw[hlast];exact jS ok2 (by rw[l2];exact o2)
 ·rw[hlast,eT];exact l2
 ·unfold ca;rw[Xv h,i1,i6,i2];rfl
theorem OB {L M:List Obj} {x:Int} (h:x∈cy L M):0<=x/\x<(L.length:Int):=by
 unfold cy eg at h;rw[List.mem_map]at h;obtain⟨j,h1,rfl⟩:=h;have:=List.mem_range.1 (List.mem_filter.1 h1).1;unfold ak at this;exact⟨Int.natCast_nonneg j,by show(j:Int)<_;omega⟩
theorem S2 {L M:List Obj} {i:Nat} (h:i<(cy L M).length):ai (cy L M) i 0∈cy L M:=by
 unfold ai;rw[Xt,List.getElem?_eq_getElem h];exact List.getElem_mem h
theorem Nl {L M:List Obj} {j:Nat} (hj:j<L.length) (h:ai L j free≠ai M j free):∃i,i<(cy L M).length/\ai (cy L M) i 0=(j:Int):=by
 have:(j:Int)∈cy L M:=by
  unfold cy eg;rw[List.mem_map];refine⟨j,List.mem_filter.2 ⟨List.mem_range.2 (by unfold ak;omega),?_⟩,rfl⟩
  simp[vk,h]
 obtain⟨i,hi,e⟩:=List.mem_iff_getElem.1 this;refine⟨i,hi,?_⟩;unfold ai;rw[Xt,List.getElem?_eq_getElem hi,e];rfl
theorem JT {L M:List Obj} (hl:M.length=L.length) (hM:aq M):∀g:Nat,g<=(cy L M).length->(Hx L M g).length=L.length/\(∀j,j<L.length->ai (Hx L M g) j free=ai L j free\/ai (Hx L M g) j free=ai M j free)/\
  ∀i,i<g->ai (Hx L M g) (ai (cy L M) i 0).toNat free=ai M (ai (cy L M) i 0).toNat free
 |0,_=>⟨rfl,fun j hj=> .inl rfl,fun i hi=>by omega⟩
 |g+1,hg=>by
  obtain⟨h1,h2,h3⟩:=JT hl hM g (by omega)
  obtain⟨u1,u2⟩:=OB (S2 (L:=L) (M:=M) (i:=g) (by omega))
  have e:IW L M (g:Int)=ai (cy L M) g 0:=rfl;generalize hu:ai (cy L M) g 0=u at *
  have hp:=(ki (L:=Hx L M g) (i:=u) (x:=ai M u.toNat free) u1 (by omega) (by rw[h1,<-hl];exact cm hM _ (by omega))).1
  have hs:Hx L M (g+1)=bX (Hx L M g) u.toNat (ai M u.toNat free):=by
   simp only[Hx];rw[e,fu u1 (by omega)]
   exact hp
  rw[hs];refine⟨by rw[eT];exact h1,fun j hj=>?_,fun i hi=>?_⟩
  ·rw[dA (by omega)]
   split
   ·rename_i hj';rw[hj'];exact .inr rfl
   ·exact h2 j hj
  ·rw[dA (by omega)]
   split
   ·rename_i hj';rw[hj']
   ·rename_i hne;by_cases hig:i=g
    ·rw[hig,hu]at hne;exact absurd rfl hne
    ·exact h3 i (by omega)
theorem NP {L M:List Obj} (hl:M.length=L.length) (hM:aq M) {g:Int} (hg:g=((cy L M).length:Int)):lf L M g=M:=by
 obtain⟨h1,h2,h3⟩:=JT hl hM (cy L M).length (Nat.le_refl _);have e:lf L M g=Hx L M (cy L M).length:=by unfold lf;rw[hg];rfl
 rw[e];refine sK (by omega) fun j hj=>?_
 by_cases hne:ai L j free=ai M j free
 ·rcases h2 j (by omega)with h|h
  ·rw[h,hne]
  ·exact h
 ·obtain⟨i,hi,hij⟩:=Nl (by omega) hne
  have:=h3 i hi;rw[hij]at this;exact this
theorem Js {L M:List Obj} {g:Int} (h0:0<=g):bN (lf L M g) (ai (cy L M) g.toNat 0) (au M (ai (cy L M) g.toNat 0))=lf L M (g+1):=by
 unfold lf;rw[show(g+1).toNat=g.toNat+1 by omega]
 simp only[Hx];rfl
theorem Kv {L M:List Obj} (hl:M.length=L.length) (h:1<=L.length):iT L M=false:=by
 unfold iT aP ak;simp only[hl,show decide (L.length=0)=false from decide_eq_false (by omega),Bool.false_or,decide_true,Bool.not_true]
theorem EP {M:List Obj} {f g:Int} (h:g<=f):ma M f g=false:=by
 unfold ma;rw[List.any_eq_false];intro j _;simp only[Xo,Xp,not_and];intro h1 h2;omega
theorem Oj {L M:List Obj}:(cy L M).length<=L.length:=by
 unfold cy eg;rw[List.length_map];have:=List.length_filter_le (fun j=> !vk (ai L j free) (ai M j free)) (List.range (ak L:Int).toNat)
 simpa[ak]using this
structure WS where
 kind:Int
 num:Int
 bank:Key
 key:Key
 obj:Int
def WS.wf (x:WS):Prop:=cg .i64 x.kind/\cg .i64 x.num/\x.bank.wf/\x.key.wf/\cg .i64 x.obj
theorem Hh {L M:List Obj} {k:Key} {d:Int} {c:Bool} (hl:M.length=L.length) (h1:(ai M k.oid.toNat free).kind=(ai L k.oid.toNat free).kind) (h2:(ai M k.oid.toNat free).count=(ai L k.oid.toNat free).count) (h3:(ai M k.oid.toNat free).calls=(ai L k.oid.toNat free).calls):aQ M k d c=aQ L k d c:=by
 have hi:aI M k=aI L k:=by
  unfold aI cj bL ak;rw[hl,h1,h2,h3]
 unfold aQ ak;rw[hl,hi]
theorem N7 {L:List Obj} {k:Key} (h:aV L k=0):ir (ai L k.oid.toNat free) (L.length:Int)=true/\(ai L k.oid.toNat free).kind=1:=by
 obtain⟨ha,_⟩:=lZ h;obtain⟨i1,i2,_⟩:=kR ha;refine⟨?_,yL i1 i2⟩;unfold aV at h;rw[Xv ha]at h;split at h
 ·rename_i hc;exact hc
 ·omega
theorem Iu {L:List Obj} {f l kind:Int} {j:Nat} (h0:0<=f) (hj:j<L.length) (hk:(ai L j free).kind≠0):ai (j3 L f l kind) j free=ai L j free:=by
 have hG:∀g,ai (bI L f g) j free=ai L j free:=fun g=>by
  unfold bI;rw[gS hj,Xu];simp only[iR,Xo,Xp];omega
 unfold j3;split
 ·exact hG _
 ·rename_i hi;rcases uF (L:=L) (l:=l) h0 with e|⟨a,b,c,d⟩
  ·exact absurd e hi
  ·rw[dA (by rw[kF];omega),Xu,hG]
   intro e;rw[<-e]at d;unfold dX at d;simp only[Xo,Xp]at d;exact hk d.1
theorem Ii {L:List Obj} {f l kind:Int} (hL:aq L) (h0:0<=f) (hk:kind=1\/kind=2):aq (j3 L f l kind):=by
 unfold j3;split
 ·exact Dz hL
 ·rename_i hi;rcases uF (L:=L) (l:=l) h0 with e|⟨a,b,c,d⟩
  ·exact absurd e hi
  ·exact jS (Dz hL) (by rw[kF];exact Ai (cm hL _ (by omega)) d hk)
theorem FG {L:List Obj} {k:Key} {kind:Int} (hL:aq L):aq (fi L k kind):=by
 unfold fi;split
 ·rename_i h
  have he:aV L k=0:=by
   unfold fE at h;split at h
   ·assumption
   ·rename_i h';exact absurd h h'
  refine Ii hL (lZ he).2.1 ?_;unfold fE at h;rw[Xv he]at h;split at h
  ·assumption
  ·omega
 ·exact hL
theorem Iv {L:List Obj} {k:Key} {n:Int} (hL:aq L) (e:aV L k=0) (h:b7 L k n=0):
  aq (bj L k n)/\(bj L k n).length=L.length/\aV (bj L k n) k=0/\aB (bj L k n) k=aB L k/\aE (bj L k n) k=aE L k-n/\
  aV (bj L k n) (ca L k n)=0/\aB (bj L k n) (ca L k n)=aE L k-n+1/\aE (bj L k n) (ca L k n)=aE L k/\aB L k<=(ca L k n).oid/\(ca L k n).oid<=aE L k-n/\1<=n/\n<=aE L k-aB L k/\
  dX (ai L (ca L k n).oid.toNat free)=true:=by
 obtain⟨ha,a0,a1,a2,a3,a4⟩:=lZ e;obtain⟨hok,hk1⟩:=N7 e;obtain⟨x1,x2⟩:=gf hL;have h':=h;unfold b7 at h;split at h
 case isFalse h2=>exact absurd h h2
 rename_i hE0;split at h
 case isTrue=>omega
 rename_i hI
 have hn:1<=n/\n<=aE L k-aB L k:=by
  unfold kZ at hE0;rw[Xv e]at hE0;split at hE0
  ·omega
  ·omega
 have hin:=uF (L:=L) (l:=aE L k) a0;have hIe:fc L (aB L k) (aE L k)=eQ L k:=rfl;have hne1:fc L (aB L k) (aE L k)≠ -1:=by rw[hIe];omega
 rw[hIe]at hin;rcases hin with hin|⟨i1,i2,i3,i4⟩
 ·omega
 have hMlen:(dt L k).length=L.length:=Ab;have hMok:aq (dt L k):=Ii hL a0 (.inl rfl);have hMI:ai (dt L k) (eQ L k).toNat free=kq (ai L (eQ L k).toNat free) 1:=H6 a0 hne1;have Ry:ai (dt L k) k.oid.toNat free=ai L k.oid.toNat free:=Iu a0 (by omega) (by omega)
 have hne:k.oid.toNat≠(eQ L k).toNat:=fun hh=>by
  rw[hh]at hk1;unfold dX at i4;simp only[Xo,Xp]at i4;omega
 have hLL:bj L k n=bX (bX (dt L k) (eQ L k).toNat (iC (ai (dt L k) (eQ L k).toNat free) (aE L k-n+1) (aE L k))) k.oid.toNat (kU (ai (dt L k) k.oid.toNat free) (aE L k-n)):=by
  unfold bj;rw[Xv h']
 have hKK:ca L k n=⟨4,eQ L k,(ai L (eQ L k).toNat free).count+1,0,0,0⟩:=by
  unfold ca;rw[Xv h',hMI];rfl
 have o1:bf (iC (ai (dt L k) (eQ L k).toNat free) (aE L k-n+1) (aE L k)) (L.length:Int)=true:=Fk (by rw[<-hMlen];exact cm hMok _ (by omega)) (by rw[hMI];rfl)
 have o2:bf (kU (ai (dt L k) k.oid.toNat free) (aE L k-n)) (L.length:Int)=true:=EH (by rw[<-hMlen];exact cm hMok _ (by omega)) (by rw[Ry];exact hk1)
 have l1:(bX (dt L k) (eQ L k).toNat (iC (ai (dt L k) (eQ L k).toNat free) (aE L k-n+1) (aE L k))).length=L.length:=by rw[eT];exact hMlen
 have okX:=jS (i:=(eQ L k).toNat) hMok (by rw[hMlen];exact o1)
 have hlen:(bj L k n).length=L.length:=by rw[hLL,eT];exact l1
 have hokL:aq (bj L k n):=by rw[hLL];exact jS okX (by rw[l1];exact o2)
 have hgk:ai (bj L k n) k.oid.toNat free=kU (ai L k.oid.toNat free) (aE L k-n):=by
  rw[hLL,dA (by omega),Xv rfl,Ry]
 have hgI:ai (bj L k n) (eQ L k).toNat free=iC (kq (ai L (eQ L k).toNat free) 1) (aE L k-n+1) (aE L k):=by
  rw[hLL,dA (by omega),Xu (Ne.symm hne),dA (by omega),Xv rfl,hMI]
 have s2:∀(o:Obj) (b:Int),(kU o b).slots.at 0=o.slots.at 0/\(kU o b).slots.at 1=c8 b:=fun o b=>by
  unfold kU;simp only;rw[bJ.fb _ _ _ _ (by omega),bJ.fb _ _ _ _ (by omega)]
  exact⟨rfl,rfl⟩
 have s1:∀(o:Obj) (a b:Int),(iC o a b).slots.at 0=c8 a/\(iC o a b).slots.at 1=c8 b:=fun o a b=>by
  unfold iC;simp only;rw[bJ.fb _ _ _ _ (by omega),bJ.fb _ _ _ _ (by omega),bJ.fb _ _ _ _ (by omega)]
  exact⟨rfl,rfl⟩
 have hask:aQ (bj L k n) k 4 false=0:=by
  rw[Hh hlen (by rw[hgk];rfl) (by rw[hgk];rfl) (by rw[hgk];rfl)];exact ha
 unfold ir at hok;simp only[Xo,Xp]at hok;obtain⟨⟨⟨⟨c1,c2⟩,c3⟩,c4⟩,c5⟩:=hok;have hA':aB (bj L k n) k=aB L k:=by unfold aB;rw[hgk,(s2 _ _).1]
 have hB':aE (bj L k n) k=aE L k-n:=by
  have:aE (bj L k n) k=((kU (ai L k.oid.toNat free) (aE L k-n)).slots.at 1).value:=by rw[<-hgk];rfl
  rw[this,(s2 _ _).2];rfl
 have hE':aV (bj L k n) k=0:=(xF hask (by
  rw[hgk];unfold ir ak;rw[(s2 _ _).1,(s2 _ _).2,hlen];have v0:((ai L k.oid.toNat free).slots.at 0).value=aB L k:=rfl;simp only[c8,Xo,Xp];refine⟨⟨⟨⟨c1,?_⟩,c3⟩,?_⟩,?_⟩
  ·trivial
  ·exact decide_eq_true (by omega)
  ·exact decide_eq_true (by omega))).1
 have i4':=i4;unfold dX at i4';simp only[Xo,Xp]at i4';have hcb:=j6 (cm hL (eQ L k).toNat (by omega))
 have hkey:aN (ca L k n)=true:=by
  rw[hKK];unfold aN eO;simp only[c9,ft,jl,ec];simp;omega
 have hoid:(ca L k n).oid=eQ L k:=by rw[hKK]
 have hisO:c9 (ca L k n).kind=true:=by rw[hKK];rfl
 have hnm:aR (ca L k n)=true:=by unfold aR;rw[hkey,hisO];rfl
 have hnames:bF (ca L k n)=eQ L k:=by unfold bF;rw[hkey,hisO,hoid];rfl
 have hcounts:bL (ca L k n) (ai (bj L k n) (ca L k n).oid.toNat free)=true:=by
  unfold bL gK;rw[hkey,hnames,hoid,hgI,Xu (by omega),hKK]
  simp[iC,kq]
 have his:aI (bj L k n) (ca L k n)=true:=by
  unfold aI;rw[hnm,hcounts,k9.2 ⟨by omega,by omega⟩];rfl
 have hask2:aQ (bj L k n) (ca L k n) 4 false=0:=by
  unfold aQ ak;rw[Xu (by omega),Xu (by rw[his,hKK];simp),Xu (by simp)]
 have hobj:ai (bj L k n) (ca L k n).oid.toNat free=iC (kq (ai L (eQ L k).toNat free) 1) (aE L k-n+1) (aE L k):=by rw[hoid];exact hgI
 refine⟨hokL,hlen,hE',hA',hB',(xF hask2 ?_).1,?_,?_,by rw[hoid];exact i1,by rw[hoid];omega,hn.1,hn.2,by rw[hoid];exact i4⟩
 ·rw[hobj];unfold ir ak;rw[(s1 _ _ _).1,(s1 _ _ _).2,hlen];simp only[c8,Xo,Xp];refine⟨⟨⟨⟨?_,?_⟩,?_⟩,?_⟩,?_⟩
  ·trivial
  ·trivial
  ·exact decide_eq_true (by omega)
  ·exact decide_eq_true (by omega)
  ·exact decide_eq_true (by omega)
 ·unfold aB;rw[hobj,(s1 _ _ _).1];rfl
 ·have:aE (bj L k n) (ca L k n)=((iC (kq (ai L (eQ L k).toNat free) 1) (aE L k-n+1) (aE L k)).slots.at 1).value:=by rw[<-hobj];rfl
  rw[this,(s1 _ _ _).2];rfl
end Go.Sx
