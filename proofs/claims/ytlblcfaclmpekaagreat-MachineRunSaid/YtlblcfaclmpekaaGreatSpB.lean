import Derived.Test.YtlblcfaclmpekaaGreatSpP
import Derived.Test.YtlblcfaclmpekaaGreatKS
set_option linter.unusedSimpArgs false
set_option linter.unusedVariables false
namespace Go.Sx
def jn (o:Obj):Bool:=decide (o.kind=0)&&decide (4294967295<=o.count)
def en (o:Obj):Bool:=decide (o.kind=0)&&decide (o.count<4294967295)
def CI (o:Obj):Obj:=⟨3,o.count,0,gg,ey⟩
def kq (o:Obj) (kind:Int):Obj:=⟨kind,o.count+1,0,gg,ey⟩
def xh (o:Obj):Obj:=⟨0,o.count,0,gg,ey⟩
def jF (L:List Obj) (p:Nat->Obj->Bool) (t:Obj->Obj):List Obj:=(List.range L.length).map fun j=>if p j (ak L j free)then t (ak L j free)else ak L j free
def bJ (L:List Obj) (f g:Int):List Obj:=jF L (fun j o=>decide (f<=(j:Int))&&decide ((j:Int)<g)&&jn o) CI
def ku (L:List Obj) (f g:Int):Prop:=∀j:Nat,f<=(j:Int)->(j:Int)<g->en (ak L j free)=false
def KB (L:List Obj) (f g:Int):Bool:=(List.range L.length).any fun(j:Nat)=>decide (f<=(j:Int))&&decide ((j:Int)<g)&&jn (ak L j free)
def fa (L:List Obj) (f l:Int):Int:=match (List.range L.length).find? fun(j:Nat)=>decide (f<=(j:Int))&&decide ((j:Int)<=l)&&en (ak L j free)with
 |some j=>(j:Int)
 |none=> -1
def kK (L:List Obj) (f l kind:Int):List Obj:=if fa L f l= -1 then bJ L f (l+1)else di (bJ L f (fa L f l)) (fa L f l).toNat (kq (ak L (fa L f l).toNat free) kind)
def uj (L:List Obj) (f l:Int):Bool:= !decide (fa L f l= -1)||KB L f (l+1)
def bX (kind oid count:Int):Key:=⟨if kind=2 then 3 else 2,oid,count,0,0,0⟩
def hU (o:Obj) (n:Int):Bool:=decide ((o.slots.at 0).kind=1)&&decide ((o.slots.at 1).kind=1)&&decide (0<=(o.slots.at 0).value)&&decide ((o.slots.at 0).value<=(o.slots.at 1).value)&&decide ((o.slots.at 1).value<n)
def aY (L:List Obj) (k:Key):Int:=if aO L k 4 false=0 then(if hU (ak L k.oid.toNat free) (aq L:Int)then 0 else 220)else aO L k 4 false
def aD (L:List Obj) (k:Key):Int:=((ak L k.oid.toNat free).slots.at 0).value
def aH (L:List Obj) (k:Key):Int:=((ak L k.oid.toNat free).slots.at 1).value
def zg (L:List Obj) (k:Key):Int:=if aY L k=0 then aD L k else 0
def zJ (L:List Obj) (k:Key):Int:=if aY L k=0 then aH L k else 0
def gH (L:List Obj) (k:Key) (kind:Int):Int:=if aY L k=0 then(if kind=1\/kind=2 then 0 else 2)else aY L k
def dv (L:List Obj) (k:Key) (kind:Int):Int:=if gH L k kind=0 then(if fa L (aD L k) (aH L k)= -1 then 221 else 0)else gH L k kind
def fG (L:List Obj) (k:Key) (kind:Int):List Obj:=if gH L k kind=0 then kK L (aD L k) (aH L k) kind else L
def zS (L:List Obj) (k:Key) (kind:Int):Bool:=decide (gH L k kind=0)&&uj L (aD L k) (aH L k)
def ev (L:List Obj) (k:Key) (kind:Int):Key:=if dv L k kind=0 then bX kind (fa L (aD L k) (aH L k)) ((ak L (fa L (aD L k) (aH L k)).toNat free).count+1)else void
def jO (L:List Obj) (v:Key):Bool:=aQ L v&&(decide (v.kind=2)||decide (v.kind=3))
def dJ (L:List Obj) (k v:Key):Int:=if aY L k=0 then(if jO L v then(if aD L k<=v.oid/\v.oid<=aH L k/\v.oid≠k.oid then 0 else 4)else 5)else aY L k
def iW (L:List Obj) (k v:Key):List Obj:=if dJ L k v=0 then di L v.oid.toNat (xh (ak L v.oid.toNat free))else L
def lH (o:Obj):Bool:=decide (o.kind=1)||decide (o.kind=2)
def j3 (f g oid:Int) (j:Nat) (o:Obj):Bool:=decide (f<=(j:Int))&&decide ((j:Int)<g)&&lH o&& !decide ((j:Int)=oid)
def fQ (L:List Obj) (f g oid:Int):List Obj:=jF L (j3 f g oid) xh
def gz (L:List Obj) (f g oid:Int):Int:=(((List.range L.length).filter fun j=>j3 f g oid j (ak L j free)).length:Int)
def jH (L:List Obj) (k:Key):List Obj:=if aY L k=0 then fQ L (aD L k) (aH L k+1) k.oid else L
def iu (L:List Obj) (k:Key):Int:=if aY L k=0 then gz L (aD L k) (aH L k+1) k.oid else 0
def mi (L:List Obj) (k v:Key):Bool:=decide (aY L k=0)&&jO L v&&decide (aD L k<=v.oid)&&decide (v.oid<=aH L k)
theorem gN {L:List Obj} {p:Nat->Obj->Bool} {t:Obj->Obj}:(jF L p t).length=L.length:=by simp[jF]
theorem ja {L:List Obj} {p:Nat->Obj->Bool} {t:Obj->Obj} {j:Nat} (h:j<L.length):ak (jF L p t) j free=if p j (ak L j free)then t (ak L j free)else ak L j free:=by
 rw[show ak (jF L p t) j free=(jF L p t).getD j free from rfl,VL];unfold jF;rw[List.getElem?_map,List.getElem?_range h];rfl
theorem Bm {L:List Obj} {p:Nat->Obj->Bool} {t:Obj->Obj} (h:∀j,j<L.length->p j (ak L j free)=false):jF L p t=L:=by
 refine rP gN fun j hj=>?_
 rw[gN]at hj;rw[ja hj,h j hj];rfl
theorem BR {L:List Obj} {p p':Nat->Obj->Bool} {t:Obj->Obj} {g:Nat} (hg:g<L.length) (hp:∀j,j≠g->p' j (ak L j free)=p j (ak L j free)) (h1:p' g (ak L g free)=true):
  di (jF L p t) g (t (ak L g free))=jF L p' t:=by
 refine rP (by rw[gS,gN,gN]) fun j hj=>?_
 rw[gS,gN]at hj;rw[eR (by rw[gN];exact hg),ja hj,ja hj]
 by_cases e:j=g
 ·subst e;rw[VN rfl,h1,VN rfl]
 ·rw[VM e,hp j e]
theorem xV {L:List Obj} {p p':Nat->Obj->Bool} {t:Obj->Obj} (hp:∀j,j<L.length->p' j (ak L j free)=p j (ak L j free)):jF L p' t=jF L p t:=by
 refine rP (by rw[gN,gN]) fun j hj=>?_
 rw[gN]at hj;rw[ja hj,ja hj,hp j hj]
theorem lu {L:List Obj} {f g:Int}:(bJ L f g).length=L.length:=gN
theorem AR {L:List Obj} {f:Int}:L=bJ L f f:=by
 symm
 refine Bm fun j hj=>?_
 simp only[Bool.and_eq_false_iff,decide_eq_false_iff_not];omega
theorem CF {L:List Obj} {f g:Int} (h0:0<=g):ak (bJ L f g) g.toNat free=ak L g.toNat free:=by
 by_cases h:g.toNat<L.length
 ·unfold bJ;rw[ja h,VM];simp only[VG,VH];omega
 ·rw[show ak (bJ L f g) g.toNat free=free by simp[ak,VL,List.getElem?_eq_none (show(bJ L f g).length<=g.toNat by rw[lu];omega)]]
  simp[ak,VL,List.getElem?_eq_none (show L.length<=g.toNat by omega)]
theorem Ew {L:List Obj} {f g:Int} (h0:0<=g) (h1:g<(L.length:Int)) (hf:f<=g) (hr:jn (ak L g.toNat free)=true):di (bJ L f g) g.toNat (CI (ak L g.toNat free))=bJ L f (g+1):=by
 refine BR (by omega) (fun j hj=>?_) ?_
 ·have:decide ((j:Int)<g+1)=decide ((j:Int)<g):=by rw[decide_eq_decide];omega
  rw[this]
 ·rw[hr];simp;omega
theorem Br {L:List Obj} {f g:Int} (h0:0<=g) (hr:jn (ak L g.toNat free)=false):bJ L f (g+1)=bJ L f g:=by
 refine xV fun j hj=>?_
 by_cases e:(j:Int)=g
 ·rw[show j=g.toNat by omega,hr,Bool.and_false,Bool.and_false]
 ·have:decide ((j:Int)<g+1)=decide ((j:Int)<g):=by rw[decide_eq_decide];omega
  rw[this]
theorem P6 {L:List Obj} {f l g:Int} (h0:0<=f) (hf:f<=g) (hl:g<=l) (hg:g<(L.length:Int)) (hn:ku L f g) (hw:en (ak L g.toNat free)=true):fa L f l=g:=by
 unfold fa
 have:(List.range L.length).find? (fun(j:Nat)=>decide (f<=(j:Int))&&decide ((j:Int)<=l)&&en (ak L j free))=some g.toNat:=by
  rw[List.find?_eq_some_iff_getElem];refine⟨by rw[hw];simp;omega,g.toNat,by simp;omega,by simp,fun j hj=>?_⟩
  simp only[List.getElem_range,Bool.not_eq_true',Bool.and_eq_false_iff,decide_eq_false_iff_not];by_cases e:f<=(j:Int)
  ·right;exact hn j e (by omega)
  ·left;left;exact e
 rw[this];show((g.toNat:Nat):Int)=g
 omega
theorem IB {L:List Obj} {f l:Int} (hn:ku L f (l+1)):fa L f l= -1:=by
 unfold fa
 have:(List.range L.length).find? (fun(j:Nat)=>decide (f<=(j:Int))&&decide ((j:Int)<=l)&&en (ak L j free))=none:=by
  rw[List.find?_eq_none];intro j hj h;simp only[VG,VH]at h;rw[hn j h.1.1 (by omega)]at h
  simp at h
 rw[this]
theorem oD {L:List Obj} {f g:Int} (h:ku L f g) (hg:en (ak L g.toNat free)=false):ku L f (g+1):=fun j h1 h2=>by
 by_cases e:(j:Int)=g
 ·rw[show j=g.toNat by omega];exact hg
 ·exact h j h1 (by omega)
theorem vM {L:List Obj} {f:Int}:ku L f f:=fun j h1 h2=>by omega
theorem EX {L:List Obj} {f g oid:Int}:(fQ L f g oid).length=L.length:=gN
theorem JE {L:List Obj} {f g oid:Int} (h:gz L f g oid=0):fQ L f g oid=L:=by
 refine Bm fun j hj=>?_
 unfold gz at h;have h2:((List.range L.length).filter fun j=>j3 f g oid j (ak L j free))= []:=List.eq_nil_of_length_eq_zero (by omega)
 rw[List.filter_eq_nil_iff]at h2;have:=h2 j (by simp;omega)
 simpa using this
theorem A5 {L:List Obj} {f oid:Int}:gz L f f oid=0:=by
 unfold gz;rw[show((List.range L.length).filter fun j=>j3 f f oid j (ak L j free))= []from ?_]
 ·rfl
 ·rw[List.filter_eq_nil_iff];intro j hj;unfold j3;simp only[VG,VH];omega
theorem Kp {L:List Obj} {f oid:Int}:L=fQ L f f oid:=(JE A5).symm
theorem Pv {L:List Obj} {f g oid:Int} (h0:0<=g):ak (fQ L f g oid) g.toNat free=ak L g.toNat free:=by
 by_cases h:g.toNat<L.length
 ·unfold fQ;rw[ja h,VM];unfold j3;simp only[VG,VH];omega
 ·rw[show ak (fQ L f g oid) g.toNat free=free by simp[ak,VL,List.getElem?_eq_none (show(fQ L f g oid).length<=g.toNat by rw[EX];omega)]]
  simp[ak,VL,List.getElem?_eq_none (show L.length<=g.toNat by omega)]
def jh (L:List Obj) (g oid:Int):Bool:=lH (ak L g.toNat free)&& !decide (g=oid)
theorem Ag {L:List Obj} {f g oid:Int} (h0:0<=g) (hf:f<=g):j3 f (g+1) oid g.toNat (ak L g.toNat free)=jh L g oid:=by
 unfold j3 jh;rw[show((g.toNat:Nat):Int)=g by omega]
 have a:decide (f<=g)=true:=by simp;omega
 have b:decide (g<g+1)=true:=by simp;omega
 rw[a,b];simp
theorem u4 {L:List Obj} {f g oid:Int} {j:Nat} (h:(j:Int)≠g) (o:Obj):j3 f (g+1) oid j o=j3 f g oid j o:=by
 unfold j3;have:decide ((j:Int)<g+1)=decide ((j:Int)<g):=by rw[decide_eq_decide];omega
 rw[this]
theorem Ak {f g oid:Int} {j:Nat} (h:(j:Int)=g) (o:Obj):j3 f g oid j o=false:=by
 unfold j3;have:decide ((j:Int)<g)=false:=by simp;omega
 rw[this];simp
theorem NW {L:List Obj} {f g oid:Int} (h0:0<=g) (h1:g<(L.length:Int)) (hf:f<=g) (hr:jh L g oid=true):di (fQ L f g oid) g.toNat (xh (ak L g.toNat free))=fQ L f (g+1) oid:=
 BR (by omega) (fun j hj=>u4 (L:=L) (by omega) _) (by rw[Ag h0 hf];exact hr)
theorem Bd {L:List Obj} {f g oid:Int} (h0:0<=g) (hf:f<=g) (hr:jh L g oid=false):fQ L f (g+1) oid=fQ L f g oid:=by
 refine xV fun j hj=>?_
 by_cases e:(j:Int)=g
 ·rw[show j=g.toNat by omega,Ag h0 hf,hr,Ak (by omega)]
 ·exact u4 (L:=L) e _
theorem AG {L:List Obj} {f g oid:Int} (h0:0<=g) (hf:f<=g) (hr:jh L g oid=false):gz L f (g+1) oid=gz L f g oid:=by
 unfold gz;rw[show((List.range L.length).filter fun j=>j3 f (g+1) oid j (ak L j free))=(List.range L.length).filter fun j=>j3 f g oid j (ak L j free)from List.filter_congr fun j hj=>?_]
 by_cases e:(j:Int)=g
 ·rw[show j=g.toNat by omega,Ag h0 hf,hr,Ak (by omega)]
 ·exact u4 (L:=L) e _
theorem filter_one {l:List Nat} {p p':Nat->Bool} {g:Nat} (hn:l.Nodup) (hg:g∈l) (hp:∀j,j≠g->p' j=p j) (h0:p g=false) (h1:p' g=true):(l.filter p').length=(l.filter p).length+1:=by
 induction l with
 |nil=>simp at hg
 |cons a l ih=>
  rw[List.nodup_cons]at hn;by_cases e:a=g
  ·subst e;have:l.filter p'=l.filter p:=List.filter_congr fun j hj=>hp j fun e=>hn.1 (e▸hj)
   rw[List.filter_cons,List.filter_cons,h0,h1,VN rfl,VM (by simp),this]
   simp
  ·have hg2:g∈l:=by
    rcases List.mem_cons.1 hg with h|h
    ·exact absurd h.symm e
    ·exact h
   rw[List.filter_cons,List.filter_cons,hp a e];split
   ·simp only[List.length_cons];rw[ih hn.2 hg2]
   ·exact ih hn.2 hg2
theorem IC {L:List Obj} {f g oid:Int} (h0:0<=g) (h1:g<(L.length:Int)) (hf:f<=g) (hr:jh L g oid=true):gz L f (g+1) oid=gz L f g oid+1:=by
 unfold gz;have:=filter_one (l:=List.range L.length) (p:=fun j=>j3 f g oid j (ak L j free)) (p':=fun j=>j3 f (g+1) oid j (ak L j free)) (g:=g.toNat) List.nodup_range (by simp;omega) (fun j hj=>u4 (L:=L) (by omega) _) (Ak (by omega) _) (by show j3 f (g+1) oid g.toNat (ak L g.toNat free)=true;rw[Ag h0 hf];exact hr)
 omega
theorem DD {L:List Obj} {f g oid:Int}:0<=gz L f g oid:=by unfold gz;omega
theorem PS {L:List Obj} {f g oid:Int}:gz L f g oid<=(L.length:Int):=by
 unfold gz;have:=List.length_filter_le (fun j=>j3 f g oid j (ak L j free)) (List.range L.length)
 rw[List.length_range]at this;omega
theorem zr {n:Int} {kind count:Int} (h1:1<=n) (h2:n<=64) (h3:0<=kind) (h4:kind<=3) (h5:0<=count) (h6:count<=4294967295):bq ⟨kind,count,0,gg,ey⟩ n=true:=by
 rw[ep];refine⟨h1,h2,h3,h4,h5,h6,by simp,by simp,.inr rfl,fun i hi=>?_,fun i hi=>?_⟩
 ·simp only[wk];unfold kJ;rw[ly.1,ly.2];simp;omega
 ·have hz:=D2.1 (show ey=ey from rfl) i hi;first|exact .inr (.inr hz)|exact hz|simp[hz]
theorem jN {o:Obj} {n:Int} (h:bq o n=true):0<=o.count/\o.count<=4294967295/\0<=o.kind/\o.kind<=3/\1<=n/\n<=64:=by
 obtain⟨a1,a2,a3,a4,a5,a6,_⟩:=ep.1 h;exact⟨a5,a6,a3,a4,a1,a2⟩
theorem zW {o:Obj} {n:Int} (h:bq o n=true):bq (CI o) n=true:=by
 obtain⟨a,b,c,d,e,f⟩:=jN h;exact zr e f (by omega) (by omega) a b
theorem vp {o:Obj} {n:Int} (h:bq o n=true):bq (xh o) n=true:=by
 obtain⟨a,b,c,d,e,f⟩:=jN h;exact zr e f (by omega) (by omega) a b
theorem zp {o:Obj} {n kind:Int} (h:bq o n=true) (hn:en o=true) (hk:kind=1\/kind=2):bq (kq o kind) n=true:=by
 obtain⟨a,b,c,d,e,f⟩:=jN h;unfold en at hn;simp only[VG,VH]at hn;exact zr e f (by omega) (by omega) (by omega) (by omega)
theorem Er {L:List Obj} {p:Nat->Obj->Bool} {t:Obj->Obj} (h:ar L) (ht:∀o,bq o (L.length:Int)=true->bq (t o) (L.length:Int)=true):ar (jF L p t):=by
 refine I2 h gN fun j hj=>?_
 rw[ja hj];split
 ·exact ht _ (cH h j hj)
 ·exact cH h j hj
theorem Dy {L:List Obj} {f g:Int} (h:ar L):ar (bJ L f g):=Er h fun o ho=>zW ho
def kB:lR (Key×Unit):=bG kA kD
def TK:lR (Key×Key×Unit):=bG kA (bG kA kD)
def Tk:lR (Key×Int×Unit):=bG kA (bG iA kD)
theorem SD:ij kB:=aN mG dX
theorem G3:ij TK:=aN mG (aN mG dX)
theorem H4:ij Tk:=aN mG (aN fN dX)
def P4:Ct:=T6 (rI .i64) (rI .i64) (rI .i64) fun a b c=> .key (bX a b c)
theorem Ep {o:Obj} (h:o.kind≠0):jn o=false/\en o=false:=by simp[jn,en,h]
theorem Ks {o:Obj} (h:o.kind=0) (h2:4294967295<=o.count):jn o=true/\en o=false:=by simp[jn,en,h,h2]
theorem Kq {o:Obj} (h:o.kind=0) (h2:¬4294967295<=o.count):jn o=false/\en o=true:=by
 refine⟨by simp[jn,h2],?_⟩
 simp only[en,VG,VH];omega
theorem EL {L:List Obj} {f l g:Int} (kind:Int) (h0:0<=f) (hf:f<=g) (hl:g<=l) (hg:g<(L.length:Int)) (hn:ku L f g) (hw:en (ak L g.toNat free)=true):
  fa L f l=g/\uj L f l=true/\kK L f l kind=di (bJ L f g) g.toNat (kq (ak L g.toNat free) kind):=by
 have e:=P6 h0 hf hl hg hn hw;refine⟨e,?_,?_⟩
 ·unfold uj;rw[e];simp;left;omega
 ·unfold kK;rw[e,VM (by omega)]
theorem JR {L:List Obj} {f l:Int} (kind:Int) (hn:ku L f (l+1)):fa L f l= -1/\kK L f l kind=bJ L f (l+1)/\uj L f l=KB L f (l+1):=by
 have e:=IB hn;refine⟨e,?_,?_⟩
 ·unfold kK;rw[e,VN rfl]
 ·unfold uj;rw[e];rfl
theorem EB {L:List Obj} {k:Key} (h:aO L k 4 false=0) (h2:hU (ak L k.oid.toNat free) (aq L:Int)=false):aY L k=220/\zg L k=0/\zJ L k=0:=by
 have e:aY L k=220:=by unfold aY;rw[VN h,h2];rfl
 refine⟨e,?_,?_⟩
 ·unfold zg;rw[e];rfl
 ·unfold zJ;rw[e];rfl
theorem xm {L:List Obj} {k:Key} (h:aO L k 4 false=0) (h2:hU (ak L k.oid.toNat free) (aq L:Int)=true):aY L k=0/\zg L k=aD L k/\zJ L k=aH L k:=by
 have e:aY L k=0:=by unfold aY;rw[VN h,h2];rfl
 refine⟨e,?_,?_⟩
 ·unfold zg;rw[e];rfl
 ·unfold zJ;rw[e];rfl
theorem nK {L:List Obj} {k:Key} (h:aY L k=0):aO L k 4 false=0/\0<=aD L k/\aD L k<=aH L k/\aH L k<(L.length:Int)/\0<=k.oid/\k.oid<(L.length:Int):=by
 have ha:aO L k 4 false=0:=by
  unfold aY at h;split at h
  ·assumption
  ·rename_i h1;exact absurd h h1
 have hb:hU (ak L k.oid.toNat free) (aq L:Int)=true:=by
  cases hb:hU (ak L k.oid.toNat free) (aq L:Int)with
  |true=>rfl
  |false=>rw[(EB ha hb).1]at h;simp at h
 obtain⟨_,b2,b3,_⟩:=eH (kM ha).1;unfold hU at hb;simp only[VG,VH]at hb;obtain⟨⟨⟨⟨_,_⟩,h3⟩,h4⟩,h5⟩:=hb;exact⟨ha,h3,h4,h5,b2,b3⟩
theorem zP {L:List Obj} {f l:Int} (h0:0<=f):fa L f l= -1\/(f<=fa L f l/\fa L f l<=l/\fa L f l<(L.length:Int)/\en (ak L (fa L f l).toNat free)=true):=by
 unfold fa;split
 ·rename_i j hj;right
  have h1:=List.find?_some hj;have h2:=List.mem_of_find?_eq_some hj;simp only[VG,VH]at h1;rw[List.mem_range]at h2;exact⟨h1.1.1,h1.1.2,by omega,h1.2⟩
 ·exact .inl rfl
theorem Eu {L:List Obj} {f l kind:Int}:(kK L f l kind).length=L.length:=by
 unfold kK;split
 ·exact lu
 ·rw[gS,lu]
theorem G8 {L:List Obj} {f l kind:Int} (h0:0<=f) (h:fa L f l≠ -1):ak (kK L f l kind) (fa L f l).toNat free=kq (ak L (fa L f l).toNat free) kind:=by
 rcases zP (L:=L) (l:=l) h0 with e|⟨a,b,c,d⟩
 ·exact absurd e h
 ·unfold kK;rw[VM h,eR (by rw[lu];omega),VN rfl]
theorem NQ {L:List Obj} {f l:Int} (h:fa L f l≠ -1):uj L f l=true:=by unfold uj;simp[h]
theorem KN {L:List Obj} {k:Key} {kind:Int} (h:aY L k=0) (hk:kind=1\/kind=2) (hi:fa L (aD L k) (aH L k)= -1):zS L k kind=uj L (aD L k) (aH L k)/\void=ev L k kind/\221=dv L k kind/\kK L (aD L k) (aH L k) kind=fG L k kind:=by
 have e:gH L k kind=0:=by unfold gH;rw[VN h,VN hk]
 have e2:dv L k kind=221:=by unfold dv;rw[VN e,VN hi]
 refine⟨by unfold zS;rw[e];simp,by unfold ev;rw[e2];rfl,e2.symm,by unfold fG;rw[VN e]⟩
theorem MY {L:List Obj} {k:Key} {kind:Int} (h:aY L k=0) (hk:kind=1\/kind=2) (hi:fa L (aD L k) (aH L k)≠ -1):zS L k kind=true/\Key.mk (1+kind) (fa L (aD L k) (aH L k)) (ak (kK L (aD L k) (aH L k) kind) (fa L (aD L k) (aH L k)).toNat free).count 0 0 0=ev L k kind/\0=dv L k kind/\kK L (aD L k) (aH L k) kind=fG L k kind:=by
 have e:gH L k kind=0:=by unfold gH;rw[VN h,VN hk]
 have e2:dv L k kind=0:=by unfold dv;rw[VN e,VM hi]
 refine⟨by unfold zS;rw[e,NQ hi];rfl,?_,e2.symm,by unfold fG;rw[VN e]⟩
 unfold ev;rw[VN e2,G8 (nK h).2.1 hi];unfold bX kq;rcases hk with rfl|rfl<;>rfl
theorem JB {L:List Obj} {v:Key} (h:jO L v=true):aQ L v=true:=by unfold jO at h;simp only[VG]at h;exact h.1
def fm (L:List Obj) (k:Key):Int:=fa L (aD L k) (aH L k)
def dE (L:List Obj) (k:Key):List Obj:=kK L (aD L k) (aH L k) 1
def lK (M:List Obj) (f g:Int):Bool:=(List.range M.length).any fun(j:Nat)=>decide (f<=(j:Int))&&decide ((j:Int)<g)&&lH (ak M j free)
def kT (L:List Obj) (k:Key) (n:Int):Int:=if aY L k=0 then(if n<1\/aH L k-aD L k<n then 4 else 0)else aY L k
def bY (L:List Obj) (k:Key) (n:Int):Int:=if kT L k n=0 then(if fm L k<0\/aH L k-n<fm L k then 221 else if lK (dE L k) (aH L k-n+1) (aH L k+1)=true then 221 else 0)else kT L k n
def ie (o:Obj) (a b:Int):Obj:= {o with slots:=(o.slots.put 0 (c8 a)).put 1 (c8 b)}
def kQ (o:Obj) (b:Int):Obj:= {o with slots:=o.slots.put 1 (c8 b)}
def bk (L:List Obj) (k:Key) (n:Int):List Obj:=if bY L k n=0 then di (di (dE L k) (fm L k).toNat (ie (ak (dE L k) (fm L k).toNat free) (aH L k-n+1) (aH L k))) k.oid.toNat (kQ (ak (dE L k) k.oid.toNat free) (aH L k-n))else L
def b9 (L:List Obj) (k:Key) (n:Int):Key:=if bY L k n=0 then⟨4,fm L k,(ak (dE L k) (fm L k).toNat free).count,0,0,0⟩else void
theorem Ay {L:List Obj} {k:Key} {n:Int} (h:aY L k≠0):bY L k n=aY L k:=by
 have e:kT L k n=aY L k:=by unfold kT;rw[VM h]
 unfold bY;rw[e,VM h]
theorem Gj {L:List Obj} {k:Key} {n:Int} (h:aY L k=0) (hn:n<1\/aH L k-aD L k<n):bY L k n=4:=by
 have e:kT L k n=4:=by unfold kT;rw[VN h,VN hn]
 unfold bY;rw[e];rfl
theorem NN {L:List Obj} {k:Key} {n:Int} (h:aY L k=0) (h1:1<=n) (h2:n<=aH L k-aD L k):kT L k n=0:=by
 unfold kT;rw[VN h,VM (by omega)]
theorem A1 {L:List Obj} {k:Key} {n:Int} (h:kT L k n=0) (hi:fm L k<0\/aH L k-n<fm L k):bY L k n=221:=by
 unfold bY;rw[VN h,VN hi]
theorem IL {L:List Obj} {k:Key} {n:Int} (h:kT L k n=0) (hi:lK (dE L k) (aH L k-n+1) (aH L k+1)=true):bY L k n=221:=by
 unfold bY;rw[VN h,VN hi];split<;>rfl
theorem Nu {L:List Obj} {k:Key} {n:Int} (h:kT L k n=0) (h1:0<=fm L k) (h2:fm L k<=aH L k-n) (hi:lK (dE L k) (aH L k-n+1) (aH L k+1)=false):bY L k n=0:=by
 unfold bY;rw[VN h,VM (by omega),hi];rfl
theorem KO {M:List Obj} {f g e:Int} (h0:0<=g) (h1:g<(M.length:Int)) (hf:f<=g) (he:g<e) (hr:lH (ak M g.toNat free)=true):lK M f e=true:=by
 unfold lK;rw[List.any_eq_true];exact⟨g.toNat,by simp;omega,by rw[hr];simp;omega⟩
theorem Ov {M:List Obj} {f g:Int} (h0:0<=g) (hr:lH (ak M g.toNat free)=false):lK M f (g+1)=lK M f g:=by
 unfold lK;rw[Bool.eq_iff_iff,List.any_eq_true,List.any_eq_true];refine exists_congr fun j=>and_congr_right fun _=>?_
 simp only[VG,VH];constructor
 ·rintro⟨⟨a,b⟩,c⟩
  refine⟨⟨a,?_⟩,c⟩;by_cases e:(j:Int)=g
  ·rw[show j=g.toNat by omega,hr]at c;simp at c
  ·omega
 ·rintro⟨⟨a,b⟩,c⟩
  exact⟨⟨a,by omega⟩,c⟩
theorem Pe {L:List Obj} {k:Key} (h:aQ L k=true):bH k=k.oid:=by
 unfold aQ at h;simp only[VG]at h;unfold bH;rw[VN h.1.1]
theorem DM {L:List Obj} {k:Key} (h:(!decide (0<ah L))=true):aY L k=1:=by unfold aY;rw[Jc h];rfl
theorem Tm {L:List Obj} {k:Key} (h:(!decide (0<ah L))=false) (h2:(!(aQ L k&&decide (k.kind=4)))=true):aY L k=190:=by unfold aY;rw[Gl h h2];rfl
theorem Sr {L:List Obj} {k:Key} (h:(!decide (0<ah L))=false) (h2:(!(aQ L k&&decide (k.kind=4)))=false) (h3:(!hU (aa L k) (ah L))=true):aY L k=220:=by
 have ha:=E1 h h2;rw[(eH (lX h2).1).2.2.2.1]at h3;exact(EB ha (show hU (ak L k.oid.toNat free) (ah L)=false by simpa using h3)).1
theorem LX {L:List Obj} {k:Key} (h:(!decide (0<ah L))=false) (h2:(!(aQ L k&&decide (k.kind=4)))=false) (h3:(!hU (aa L k) (ah L))=false):aY L k=0/\((aa L k).slots.at 0).value=aD L k/\((aa L k).slots.at 1).value=aH L k:=by
 have ha:=E1 h h2;have e:=(eH (lX h2).1).2.2.2.1;rw[e]at h3;rw[e];exact⟨(xm ha (show hU (ak L k.oid.toNat free) (ah L)=true by simpa using h3)).1,rfl,rfl⟩
theorem zF {L:List Obj} {k v:Key} {e:Int} (h:aY L k=e) (he:e≠0):false=mi L k v/\e=aY L k:=by
 refine⟨?_,h.symm⟩;unfold mi;rw[h];simp[he]
theorem rk {L:List Obj} {k v:Key} {e:Int} (h:dJ L k v=e) (he:e≠0):e=dJ L k v/\L=iW L k v:=by
 refine⟨h.symm,?_⟩;unfold iW;rw[h,VM he]
theorem o8 {L:List Obj} {k v:Key} {e:Int} (h:aY L k=e) (he:e≠0):dJ L k v=e:=by
 unfold dJ;rw[h,VM he]
theorem xb {L:List Obj} {k:Key} {e:Int} (h:aY L k=e) (he:e≠0):(0=iu L k/\e=aY L k)/\L=jH L k:=by
 unfold iu jH;rw[h,VM he,VM he];exact⟨⟨rfl,rfl⟩,rfl⟩
theorem tQ {L:List Obj} {k:Key} {kind e:Int} (h:gH L k kind=e) (he:e≠0):(void=ev L k kind/\e=dv L k kind)/\L=fG L k kind:=by
 have e2:dv L k kind=e:=by unfold dv;rw[h,VM he]
 unfold ev fG;rw[e2,h,VM he,VM he];exact⟨⟨rfl,rfl⟩,rfl⟩
theorem oS {L:List Obj} {k:Key} {kind e:Int} (h:aY L k=e) (he:e≠0):gH L k kind=e:=by unfold gH;rw[h,VM he]
theorem It {L:List Obj} {k:Key} {kind:Int} (h:aY L k=0) (h2:(!(decide (kind=1)||decide (kind=2)))=true):gH L k kind=2:=by
 unfold gH;rw[VN h,VM];simp only[Bool.not_eq_true',Bool.or_eq_false_iff,decide_eq_false_iff_not]at h2;omega
theorem nP {L:List Obj} {k:Key} {n e:Int} (h:bY L k n=e) (he:e≠0):(void=b9 L k n/\e=bY L k n)/\L=bk L k n:=by
 unfold b9 bk;rw[h,VM he,VM he];exact⟨⟨rfl,rfl⟩,rfl⟩
theorem sb {L:List Obj} {k:Key} {n e:Int} (h:aY L k=e) (he:e≠0):bY L k n=e:=by rw[Ay (by omega),h]
def Ny:Ct:=Cj (bG sA TK) (fun _=>none) fun x=> .tp [.bo (mi (As x.1) x.2.1 x.2.2.1),.it .i64 (aY (As x.1) x.2.1)]
def Oh:np:=Fx (GK Tk) (fun L _=>ar L) (fun L x=> .tp [.key (ev L x.1 x.2.1),.it .i64 (dv L x.1 x.2.1)]) fun L x=>fG L x.1 x.2.1
def Qz:np:=Fx (GK TK) (fun L _=>ar L) (fun L x=> .it .i64 (dJ L x.1 x.2.1)) fun L x=>iW L x.1 x.2.1
def LJ:np:=Fx (GK kB) (fun L _=>ar L) (fun L x=> .tp [.it .i64 (iu L x.1),.it .i64 (aY L x.1)]) fun L x=>jH L x.1
def HS:np:=Fx (GK Tk) (fun L _=>ar L) (fun L x=> .tp [.key (b9 L x.1 x.2.1),.it .i64 (bY L x.1 x.2.1)]) fun L x=>bk L x.1 x.2.1
def oE (L:List Obj) (k:Key) (n g:Int):Prop:=aD L k<=g/\g<=aH L k+1/\lK (dE L k) (aH L k-n+1) g=false
def La (L M:List Obj) (g:Int):Int:=ak (cq L M) g.toNat 0
def GO:List Obj->List Obj->Nat->List Obj
 |L,_,0=>L
 |L,M,g+1=>bO (GO L M g) (La L M (g:Int)) (aC M (La L M (g:Int)))
def kZ (L M:List Obj) (g:Int):List Obj:=GO L M g.toNat
def p7 (L M:List Obj) (g:Int):Prop:=0<=g/\g<=((cq L M).length:Int)
def dS (L:List Obj) (k:Key) (g:Int):Obj:=aC (bJ L (aD L k) g) g
def oN (L:List Obj) (k:Key) (g:Int):List Obj:=bO (bJ L (aD L k) g) g (Obj.mk 1 ((dS L k g).count+1) free.calls free.slots free.bytes)
def m6 (x:Int):Key:=Key.mk 1 void.oid void.count void.call void.rights x
def zG (L:List Obj) (k:Key) (n g:Int):Obj:=Obj.mk (aC (oN L k g) g).kind (aC (oN L k g) g).count (aC (oN L k g) g).calls (((aC (oN L k g) g).slots.put 0 (m6 (((aa L k).slots.at 1).value-n+1))).put 1 (m6 ((aa L k).slots.at 1).value)) (aC (oN L k g) g).bytes
def zb (L:List Obj) (k:Key) (n g:Int):List Obj:=bO (oN L k g) g (zG L k n g)
def zw (L:List Obj) (k:Key) (n g:Int):Obj:=Obj.mk (aC (zb L k n g) k.oid).kind (aC (zb L k n g) k.oid).count (aC (zb L k n g) k.oid).calls ((aC (zb L k n g) k.oid).slots.put 1 (m6 (((aa L k).slots.at 1).value-n))) (aC (zb L k n g) k.oid).bytes
def kS (L:List Obj) (k:Key) (n g:Int):List Obj:=bO (zb L k n g) k.oid (zw L k n g)
def hS (L:List Obj) (k:Key) (g:Int):Prop:=aD L k<=g/\g<=aH L k+1/\ku L (aD L k) g
def qo (L:List Obj) (k:Key) (g:Int):Prop:=aD L k<=g/\g<=aH L k+1
theorem xK {L:List Obj} {k:Key} (h:aQ L k=true) (h2:k.kind=4):(ak L k.oid.toNat free).kind=1:=by
 unfold aQ at h;simp only[VG]at h;obtain⟨⟨h1,_⟩,h3⟩:=h;unfold ck at h3;simp only[VG,Bool.or_eq_true,VH]at h3;rcases mN k with⟨_,e,h0⟩|⟨e,_⟩
 ·rcases h3.2 with h|h
  ·omega
  ·rw[h.1.1];unfold iK;rw[VM (by omega),VM (by omega)]
 ·rw[e]at h1;simp at h1
theorem EK {o:Obj} {n b:Int} (h:bq o n=true) (hk:o.kind=1):bq (kQ o b) n=true:=by
 refine vG h hk fun i hi=>?_
 have:=(jN h).2.2.2.2.1;rw[bU.eX _ _ _ _ (by omega)]
 split
 ·exact qe (by omega) _
 ·exact ql h hk i hi
theorem EA {o:Obj} {n a b:Int} (h:bq o n=true) (hk:o.kind=1):bq (ie o a b) n=true:=by
 refine vG h hk fun i hi=>?_
 have:=(jN h).2.2.2.2.1;rw[bU.eX _ _ _ _ (by omega),bU.eX _ _ _ _ (by omega)]
 split
 ·exact qe (by omega) _
 split
 ·exact qe (by omega) _
 ·exact ql h hk i hi
theorem O6 {L:List Obj} {k:Key} {g:Int} (hL:ar L) (e:aY L k=0) (hk:(ak L k.oid.toNat free).kind=1) (g0:aD L k<=g) (gl:g<=aH L k) (g2:ku L (aD L k) g) (f2:en (ak L g.toNat free)=true):
  fm L k=g/\dS L k g=ak L g.toNat free/\oN L k g=dE L k/\(dE L k).length=L.length/\ar (dE L k)/\ak (dE L k) g.toNat free=kq (ak L g.toNat free) 1/\ak (dE L k) k.oid.toNat free=ak L k.oid.toNat free/\k.oid.toNat≠g.toNat:=by
 obtain⟨_,a0,a1,a2,a3,a4⟩:=nK e;have hgn:g.toNat<L.length:=by omega
 have hgz:(bJ L (aD L k) g).length=L.length:=lu;have hgt:aC (bJ L (aD L k) g) g=ak L g.toNat free:=by rw[fO (by omega) (by omega),CF (by omega)]
 obtain⟨m1,m2,m3⟩:=EL (l:=aH L k) 1 a0 g0 gl (by omega) g2 f2
 have hO:dS L k g=ak L g.toNat free:=hgt;have hnew:=zp (cH hL g.toNat hgn) f2 (.inl rfl);have hp:=(kr (L:=bJ L (aD L k) g) (i:=g) (x:=kq (ak L g.toNat free) 1) (by omega) (by omega) (by rw[hgz];exact hnew)).1
 have hP:oN L k g=dE L k:=by
  unfold oN;rw[hO];exact hp.trans m3.symm
 have hne:k.oid.toNat≠g.toNat:=fun h=>by
  rw[h]at hk;unfold en at f2;simp only[VG,VH]at f2;omega
 have hM:dE L k=di (bJ L (aD L k) g) g.toNat (kq (ak L g.toNat free) 1):=m3;have hko:k.oid.toNat<L.length:=by omega
 refine⟨m1,hO,hP,Eu,?_,?_,?_,hne⟩
 ·rw[hM];exact jj (Dy hL) (by rw[hgz];exact hnew)
 ·rw[hM,eR (by rw[hgz];exact hgn),VN rfl]
 ·rw[hM,eR (by rw[hgz];exact hgn),VM hne]
  unfold bJ;rw[ja hko,VM];simp only[jn,hk,VG,VH];omega
theorem Ob {L:List Obj} {k:Key} {n g:Int} (hL:ar L) (e:aY L k=0) (hk:(ak L k.oid.toNat free).kind=1) (hB:((aa L k).slots.at 1).value=aH L k) (g0:aD L k<=g) (gl:g<=aH L k) (g2:ku L (aD L k) g) (f2:en (ak L g.toNat free)=true) (h:bY L k n=0):
  kS L k n g=bk L k n/\ar (bk L k n)/\(bk L k n).length=L.length/\Key.mk 4 g ((dS L k g).count+1) 0 0 0=b9 L k n:=by
 obtain⟨i1,i2,i3,i4,i5,i6,i7,i8⟩:=O6 hL e hk g0 gl g2 f2;obtain⟨_,a0,a1,a2,a3,a4⟩:=nK e;have hgM:aC (dE L k) g=ak (dE L k) g.toNat free:=fO (by omega) (by omega)
 have hR1:zG L k n g=ie (ak (dE L k) g.toNat free) (aH L k-n+1) (aH L k):=by
  unfold zG;rw[i3,hgM,hB];rfl
 have o1:bq (ie (ak (dE L k) g.toNat free) (aH L k-n+1) (aH L k)) ((dE L k).length:Int)=true:=EA (cH i5 g.toNat (by omega)) (by rw[i6];rfl)
 have hP2:zb L k n g=di (dE L k) g.toNat (ie (ak (dE L k) g.toNat free) (aH L k-n+1) (aH L k)):=by
  unfold zb;rw[i3,hR1];exact(kr (by omega) (by omega) o1).1
 have ok2:=jj (i:=g.toNat) i5 o1;have l2:(di (dE L k) g.toNat (ie (ak (dE L k) g.toNat free) (aH L k-n+1) (aH L k))).length=L.length:=by rw[gS];exact i4
 have g2':aC (zb L k n g) k.oid=ak (dE L k) k.oid.toNat free:=by
  rw[hP2,fO (by omega) (by omega),eR (by omega),VM i8]
 have hR2:zw L k n g=kQ (ak (dE L k) k.oid.toNat free) (aH L k-n):=by
  unfold zw;rw[g2',hB];rfl
 have o2:bq (kQ (ak (dE L k) k.oid.toNat free) (aH L k-n)) (L.length:Int)=true:=EK (by rw[<-i4];exact cH i5 k.oid.toNat (by omega)) (by rw[i7];exact hk)
 have hlast:bk L k n=di (di (dE L k) g.toNat (ie (ak (dE L k) g.toNat free) (aH L k-n+1) (aH L k))) k.oid.toNat (kQ (ak (dE L k) k.oid.toNat free) (aH L k-n)):=by
  unfold bk;rw[VN h,i1]
 refine⟨?_,?_,?_,?_⟩
 ·unfold kS;rw[hR2,hP2,hlast];exact(kr (by omega) (by omega) (by rw[l2];exact o2)).1
 ·rw[hlast];exact jj ok2 (by rw[l2];exact o2)
 ·rw[hlast,gS];exact l2
 ·unfold b9;rw[VN h,i1,i6,i2];rfl
theorem NJ {L M:List Obj} {x:Int} (h:x∈cq L M):0<=x/\x<(L.length:Int):=by
 unfold cq eg at h;rw[List.mem_map]at h;obtain⟨j,h1,rfl⟩:=h;have:=List.mem_range.1 (List.mem_filter.1 h1).1;unfold aq at this;exact⟨Int.natCast_nonneg j,by show(j:Int)<_;omega⟩
theorem PF {L M:List Obj} {i:Nat} (h:i<(cq L M).length):ak (cq L M) i 0∈cq L M:=by
 unfold ak;rw[VL,List.getElem?_eq_getElem h];exact List.getElem_mem h
theorem LZ {L M:List Obj} {j:Nat} (hj:j<L.length) (h:ak L j free≠ak M j free):∃i,i<(cq L M).length/\ak (cq L M) i 0=(j:Int):=by
 have:(j:Int)∈cq L M:=by
  unfold cq eg;rw[List.mem_map];refine⟨j,List.mem_filter.2 ⟨List.mem_range.2 (by unfold aq;omega),?_⟩,rfl⟩
  simp[z9,h]
 obtain⟨i,hi,e⟩:=List.mem_iff_getElem.1 this;refine⟨i,hi,?_⟩;unfold ak;rw[VL,List.getElem?_eq_getElem hi,e];rfl
theorem Jh {L M:List Obj} (hl:M.length=L.length) (hM:ar M):∀g:Nat,g<=(cq L M).length->(GO L M g).length=L.length/\(∀j,j<L.length->ak (GO L M g) j free=ak L j free\/ak (GO L M g) j free=ak M j free)/\
  ∀i,i<g->ak (GO L M g) (ak (cq L M) i 0).toNat free=ak M (ak (cq L M) i 0).toNat free
 |0,_=>⟨rfl,fun j hj=> .inl rfl,fun i hi=>by omega⟩
 |g+1,hg=>by
  obtain⟨h1,h2,h3⟩:=Jh hl hM g (by omega)
  obtain⟨u1,u2⟩:=NJ (PF (L:=L) (M:=M) (i:=g) (by omega))
  have e:La L M (g:Int)=ak (cq L M) g 0:=rfl;generalize hu:ak (cq L M) g 0=u at *
  have hp:=(kr (L:=GO L M g) (i:=u) (x:=ak M u.toNat free) u1 (by omega) (by rw[h1,<-hl];exact cH hM _ (by omega))).1
  have hs:GO L M (g+1)=di (GO L M g) u.toNat (ak M u.toNat free):=by
   simp only[GO];rw[e,fO u1 (by omega)]
   exact hp
  rw[hs];refine⟨by rw[gS];exact h1,fun j hj=>?_,fun i hi=>?_⟩
  ·rw[eR (by omega)]
   split
   ·rename_i hj';rw[hj'];exact .inr rfl
   ·exact h2 j hj
  ·rw[eR (by omega)]
   split
   ·rename_i hj';rw[hj']
   ·rename_i hne;by_cases hig:i=g
    ·rw[hig,hu]at hne;exact absurd rfl hne
    ·exact h3 i (by omega)
theorem Mu {L M:List Obj} (hl:M.length=L.length) (hM:ar M) {g:Int} (hg:g=((cq L M).length:Int)):kZ L M g=M:=by
 obtain⟨h1,h2,h3⟩:=Jh hl hM (cq L M).length (Nat.le_refl _);have e:kZ L M g=GO L M (cq L M).length:=by unfold kZ;rw[hg];rfl
 rw[e];refine rP (by omega) fun j hj=>?_
 by_cases hne:ak L j free=ak M j free
 ·rcases h2 j (by omega)with h|h
  ·rw[h,hne]
  ·exact h
 ·obtain⟨i,hi,hij⟩:=LZ (by omega) hne
  have:=h3 i hi;rw[hij]at this;exact this
theorem Ki {L M:List Obj} {g:Int} (h0:0<=g):bO (kZ L M g) (ak (cq L M) g.toNat 0) (aC M (ak (cq L M) g.toNat 0))=kZ L M (g+1):=by
 unfold kZ;rw[show(g+1).toNat=g.toNat+1 by omega]
 simp only[GO];rfl
theorem Kh {L M:List Obj} (hl:M.length=L.length) (h:1<=L.length):iL L M=false:=by
 unfold iL aU aq;simp only[hl,show decide (L.length=0)=false from decide_eq_false (by omega),Bool.false_or,decide_true,Bool.not_true]
theorem EJ {M:List Obj} {f g:Int} (h:g<=f):lK M f g=false:=by
 unfold lK;rw[List.any_eq_false];intro j _;simp only[VG,VH,not_and];intro h1 h2;omega
theorem LV {L M:List Obj}:(cq L M).length<=L.length:=by
 unfold cq eg;rw[List.length_map];have:=List.length_filter_le (fun j=> !z9 (ak L j free) (ak M j free)) (List.range (aq L:Int).toNat)
 simpa[aq]using this
structure Vf where
 kind:Int
 num:Int
 bank:Key
 key:Key
 obj:Int
def Vf.wf (x:Vf):Prop:=cj .i64 x.kind/\cj .i64 x.num/\x.bank.wf/\x.key.wf/\cj .i64 x.obj
theorem Fs {L M:List Obj} {k:Key} {d:Int} {c:Bool} (hl:M.length=L.length) (h1:(ak M k.oid.toNat free).kind=(ak L k.oid.toNat free).kind) (h2:(ak M k.oid.toNat free).count=(ak L k.oid.toNat free).count) (h3:(ak M k.oid.toNat free).calls=(ak L k.oid.toNat free).calls):aO M k d c=aO L k d c:=by
 have hi:aQ M k=aQ L k:=by
  unfold aQ cI ck aq;rw[hl,h1,h2,h3]
 unfold aO aq;rw[hl,hi]
theorem Nd {L:List Obj} {k:Key} (h:aY L k=0):hU (ak L k.oid.toNat free) (L.length:Int)=true/\(ak L k.oid.toNat free).kind=1:=by
 obtain⟨ha,_⟩:=nK h;obtain⟨i1,i2,_⟩:=kM ha;refine⟨?_,xK i1 i2⟩;unfold aY at h;rw[VN ha]at h;split at h
 ·rename_i hc;exact hc
 ·omega
theorem HG {L:List Obj} {f l kind:Int} {j:Nat} (h0:0<=f) (hj:j<L.length) (hk:(ak L j free).kind≠0):ak (kK L f l kind) j free=ak L j free:=by
 have hG:∀g,ak (bJ L f g) j free=ak L j free:=fun g=>by
  unfold bJ;rw[ja hj,VM];simp only[jn,VG,VH];omega
 unfold kK;split
 ·exact hG _
 ·rename_i hi;rcases zP (L:=L) (l:=l) h0 with e|⟨a,b,c,d⟩
  ·exact absurd e hi
  ·rw[eR (by rw[lu];omega),VM,hG]
   intro e;rw[<-e]at d;unfold en at d;simp only[VG,VH]at d;exact hk d.1
theorem Lf {L:List Obj} {f l kind:Int} (hL:ar L) (h0:0<=f) (hk:kind=1\/kind=2):ar (kK L f l kind):=by
 unfold kK;split
 ·exact Dy hL
 ·rename_i hi;rcases zP (L:=L) (l:=l) h0 with e|⟨a,b,c,d⟩
  ·exact absurd e hi
  ·exact jj (Dy hL) (by rw[lu];exact zp (cH hL _ (by omega)) d hk)
theorem D5 {L:List Obj} {k:Key} {kind:Int} (hL:ar L):ar (fG L k kind):=by
 unfold fG;split
 ·rename_i h
  have he:aY L k=0:=by
   unfold gH at h;split at h
   ·assumption
   ·rename_i h';exact absurd h h'
  refine Lf hL (nK he).2.1 ?_;unfold gH at h;rw[VN he]at h;split at h
  ·assumption
  ·omega
 ·exact hL
theorem Ka {L:List Obj} {k:Key} {n:Int} (hL:ar L) (e:aY L k=0) (h:bY L k n=0):
  ar (bk L k n)/\(bk L k n).length=L.length/\aY (bk L k n) k=0/\aD (bk L k n) k=aD L k/\aH (bk L k n) k=aH L k-n/\
  aY (bk L k n) (b9 L k n)=0/\aD (bk L k n) (b9 L k n)=aH L k-n+1/\aH (bk L k n) (b9 L k n)=aH L k/\aD L k<=(b9 L k n).oid/\(b9 L k n).oid<=aH L k-n/\1<=n/\n<=aH L k-aD L k/\
  en (ak L (b9 L k n).oid.toNat free)=true:=by
 obtain⟨ha,a0,a1,a2,a3,a4⟩:=nK e;obtain⟨hok,hk1⟩:=Nd e;obtain⟨x1,x2⟩:=jm hL;have h':=h;unfold bY at h;split at h
 case isFalse h2=>exact absurd h h2
 rename_i hE0;split at h
 case isTrue=>omega
 rename_i hI
 have hn:1<=n/\n<=aH L k-aD L k:=by
  unfold kT at hE0;rw[VN e]at hE0;split at hE0
  ·omega
  ·omega
 have hin:=zP (L:=L) (l:=aH L k) a0;have hIe:fa L (aD L k) (aH L k)=fm L k:=rfl;have hne1:fa L (aD L k) (aH L k)≠ -1:=by rw[hIe];omega
 rw[hIe]at hin;rcases hin with hin|⟨i1,i2,i3,i4⟩
 ·omega
 have hMlen:(dE L k).length=L.length:=Eu;have hMok:ar (dE L k):=Lf hL a0 (.inl rfl);have hMI:ak (dE L k) (fm L k).toNat free=kq (ak L (fm L k).toNat free) 1:=G8 a0 hne1;have RU:ak (dE L k) k.oid.toNat free=ak L k.oid.toNat free:=HG a0 (by omega) (by omega)
 have hne:k.oid.toNat≠(fm L k).toNat:=fun hh=>by
  rw[hh]at hk1;unfold en at i4;simp only[VG,VH]at i4;omega
 have hLL:bk L k n=di (di (dE L k) (fm L k).toNat (ie (ak (dE L k) (fm L k).toNat free) (aH L k-n+1) (aH L k))) k.oid.toNat (kQ (ak (dE L k) k.oid.toNat free) (aH L k-n)):=by
  unfold bk;rw[VN h']
 have hKK:b9 L k n=⟨4,fm L k,(ak L (fm L k).toNat free).count+1,0,0,0⟩:=by
  unfold b9;rw[VN h',hMI];rfl
 have o1:bq (ie (ak (dE L k) (fm L k).toNat free) (aH L k-n+1) (aH L k)) (L.length:Int)=true:=EA (by rw[<-hMlen];exact cH hMok _ (by omega)) (by rw[hMI];rfl)
 have o2:bq (kQ (ak (dE L k) k.oid.toNat free) (aH L k-n)) (L.length:Int)=true:=EK (by rw[<-hMlen];exact cH hMok _ (by omega)) (by rw[RU];exact hk1)
 have l1:(di (dE L k) (fm L k).toNat (ie (ak (dE L k) (fm L k).toNat free) (aH L k-n+1) (aH L k))).length=L.length:=by rw[gS];exact hMlen
 have okX:=jj (i:=(fm L k).toNat) hMok (by rw[hMlen];exact o1)
 have hlen:(bk L k n).length=L.length:=by rw[hLL,gS];exact l1
 have hokL:ar (bk L k n):=by rw[hLL];exact jj okX (by rw[l1];exact o2)
 have hgk:ak (bk L k n) k.oid.toNat free=kQ (ak L k.oid.toNat free) (aH L k-n):=by
  rw[hLL,eR (by omega),VN rfl,RU]
 have hgI:ak (bk L k n) (fm L k).toNat free=ie (kq (ak L (fm L k).toNat free) 1) (aH L k-n+1) (aH L k):=by
  rw[hLL,eR (by omega),VM (Ne.symm hne),eR (by omega),VN rfl,hMI]
 have s2:∀(o:Obj) (b:Int),(kQ o b).slots.at 0=o.slots.at 0/\(kQ o b).slots.at 1=c8 b:=fun o b=>by
  unfold kQ;simp only;rw[bU.eX _ _ _ _ (by omega),bU.eX _ _ _ _ (by omega)]
  exact⟨rfl,rfl⟩
 have s1:∀(o:Obj) (a b:Int),(ie o a b).slots.at 0=c8 a/\(ie o a b).slots.at 1=c8 b:=fun o a b=>by
  unfold ie;simp only;rw[bU.eX _ _ _ _ (by omega),bU.eX _ _ _ _ (by omega),bU.eX _ _ _ _ (by omega)]
  exact⟨rfl,rfl⟩
 have hask:aO (bk L k n) k 4 false=0:=by
  rw[Fs hlen (by rw[hgk];rfl) (by rw[hgk];rfl) (by rw[hgk];rfl)];exact ha
 unfold hU at hok;simp only[VG,VH]at hok;obtain⟨⟨⟨⟨c1,c2⟩,c3⟩,c4⟩,c5⟩:=hok;have hA':aD (bk L k n) k=aD L k:=by unfold aD;rw[hgk,(s2 _ _).1]
 have hB':aH (bk L k n) k=aH L k-n:=by
  have:aH (bk L k n) k=((kQ (ak L k.oid.toNat free) (aH L k-n)).slots.at 1).value:=by rw[<-hgk];rfl
  rw[this,(s2 _ _).2];rfl
 have hE':aY (bk L k n) k=0:=(xm hask (by
  rw[hgk];unfold hU aq;rw[(s2 _ _).1,(s2 _ _).2,hlen];have v0:((ak L k.oid.toNat free).slots.at 0).value=aD L k:=rfl;simp only[c8,VG,VH];refine⟨⟨⟨⟨c1,?_⟩,c3⟩,?_⟩,?_⟩
  ·trivial
  ·exact decide_eq_true (by omega)
  ·exact decide_eq_true (by omega))).1
 have i4':=i4;unfold en at i4';simp only[VG,VH]at i4';have hcb:=jN (cH hL (fm L k).toNat (by omega))
 have hkey:aS (b9 L k n)=true:=by
  rw[hKK];unfold aS eZ;simp only[gD,oJ,qB,ei];simp;omega
 have hoid:(b9 L k n).oid=fm L k:=by rw[hKK]
 have hisO:gD (b9 L k n).kind=true:=by rw[hKK];rfl
 have hnm:aP (b9 L k n)=true:=by unfold aP;rw[hkey,hisO];rfl
 have hnames:cO (b9 L k n)=fm L k:=by unfold cO;rw[hkey,hisO,hoid];rfl
 have hcounts:ck (b9 L k n) (ak (bk L k n) (b9 L k n).oid.toNat free)=true:=by
  unfold ck iK;rw[hkey,hnames,hoid,hgI,VM (by omega),hKK]
  simp[ie,kq]
 have his:aQ (bk L k n) (b9 L k n)=true:=by
  unfold aQ;rw[hnm,hcounts,mX.2 ⟨by omega,by omega⟩];rfl
 have hask2:aO (bk L k n) (b9 L k n) 4 false=0:=by
  unfold aO aq;rw[VM (by omega),VM (by rw[his,hKK];simp),VM (by simp)]
 have hobj:ak (bk L k n) (b9 L k n).oid.toNat free=ie (kq (ak L (fm L k).toNat free) 1) (aH L k-n+1) (aH L k):=by rw[hoid];exact hgI
 refine⟨hokL,hlen,hE',hA',hB',(xm hask2 ?_).1,?_,?_,by rw[hoid];exact i1,by rw[hoid];omega,hn.1,hn.2,by rw[hoid];exact i4⟩
 ·rw[hobj];unfold hU aq;rw[(s1 _ _ _).1,(s1 _ _ _).2,hlen];simp only[c8,VG,VH];refine⟨⟨⟨⟨?_,?_⟩,?_⟩,?_⟩,?_⟩
  ·trivial
  ·trivial
  ·exact decide_eq_true (by omega)
  ·exact decide_eq_true (by omega)
  ·exact decide_eq_true (by omega)
 ·unfold aD;rw[hobj,(s1 _ _ _).1];rfl
 ·have:aH (bk L k n) (b9 L k n)=((ie (kq (ak L (fm L k).toNat free) 1) (aH L k-n+1) (aH L k)).slots.at 1).value:=by rw[<-hobj];rfl
  rw[this,(s1 _ _ _).2];rfl
end Go.Sx
