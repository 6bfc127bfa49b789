import Derived.Test.YtmfbohanboiklaaGreatMb10
set_option linter.unusedSimpArgs false
set_option linter.unusedVariables false
set_option maxRecDepth 100000
namespace Go.Sx
def j9(o:Obj):Bool:=decide (o.kind=0)&&decide (4294967295<=o.count)
def fj(o:Obj):Bool:=decide (o.kind=0)&&decide (o.count<4294967295)
def Gf(o:Obj):Obj:=⟨3,o.count,0,gW,fo⟩
def la(o:Obj)(kind:Int):Obj:=⟨kind,o.count+1,0,gW,fo⟩
def yI(o:Obj):Obj:=⟨0,o.count,0,gW,fo⟩
def kG(L:List Obj)(p:Nat->Obj->Bool)(t:Obj->Obj):List Obj:=(List.range L.length).map fun j=>if p j (aM L j free)then t (aM L j free)else aM L j free
def cA(L:List Obj)(f g:Int):List Obj:=kG L (fun j o=>decide (f<=(j:Int))&&decide ((j:Int)<g)&&j9 o) Gf
def lD(L:List Obj)(f g:Int):Prop:=∀j:Nat,f<=(j:Int)->(j:Int)<g->fj (aM L j free)=false
def Pa(L:List Obj)(f g:Int):Bool:=(List.range L.length).any fun(j:Nat)=>decide (f<=(j:Int))&&decide ((j:Int)<g)&&j9 (aM L j free)
def fT(L:List Obj)(f l:Int):Int:=match (List.range L.length).find? fun(j:Nat)=>decide (f<=(j:Int))&&decide ((j:Int)<=l)&&fj (aM L j free)with
 |some j=>(j:Int)
 |none=> -1
def lU(L:List Obj)(f l kind:Int):List Obj:=if fT L f l= -1 then cA L f (l+1)else eW (cA L f (fT L f l)) (fT L f l).toNat (la (aM L (fT L f l).toNat free) kind)
def wo(L:List Obj)(f l:Int):Bool:= !decide (fT L f l= -1)||Pa L f (l+1)
def cW(kind oid count:Int):Key:=⟨if kind=2 then 3 else 2,oid,count,0,0,0⟩
def jd(o:Obj)(n:Int):Bool:=decide ((o.slots.at 0).kind=1)&&decide ((o.slots.at 1).kind=1)&&decide (0<=(o.slots.at 0).value)&&decide ((o.slots.at 0).value<=(o.slots.at 1).value)&&decide ((o.slots.at 1).value<n)
def bB(L:List Obj)(k:Key):Int:=if br L k 4 false=0 then(if jd (aM L k.oid.toNat free) (aJ L:Int)then 0 else 220)else br L k 4 false
def aX(L:List Obj)(k:Key):Int:=((aM L k.oid.toNat free).slots.at 0).value
def ba(L:List Obj)(k:Key):Int:=((aM L k.oid.toNat free).slots.at 1).value
def BD(L:List Obj)(k:Key):Int:=if bB L k=0 then aX L k else 0
def BU(L:List Obj)(k:Key):Int:=if bB L k=0 then ba L k else 0
def iC(L:List Obj)(k:Key)(kind:Int):Int:=if bB L k=0 then(if kind=1\/kind=2 then 0 else 2)else bB L k
def ef(L:List Obj)(k:Key)(kind:Int):Int:=if iC L k kind=0 then(if fT L (aX L k) (ba L k)= -1 then 221 else 0)else iC L k kind
def gA(L:List Obj)(k:Key)(kind:Int):List Obj:=if iC L k kind=0 then lU L (aX L k) (ba L k) kind else L
def B7(L:List Obj)(k:Key)(kind:Int):Bool:=decide (iC L k kind=0)&&wo L (aX L k) (ba L k)
def fm(L:List Obj)(k:Key)(kind:Int):Key:=if ef L k kind=0 then cW kind (fT L (aX L k) (ba L k)) ((aM L (fT L (aX L k) (ba L k)).toNat free).count+1)else void
def kH(L:List Obj)(v:Key):Bool:=bm L v&&(decide (v.kind=2)||decide (v.kind=3))
def eG(L:List Obj)(k v:Key):Int:=if bB L k=0 then(if kH L v then(if aX L k<=v.oid/\v.oid<=ba L k/\v.oid≠k.oid then 0 else 4)else 5)else bB L k
def jO(L:List Obj)(k v:Key):List Obj:=if eG L k v=0 then eW L v.oid.toNat (yI (aM L v.oid.toNat free))else L
def nm(o:Obj):Bool:=decide (o.kind=1)||decide (o.kind=2)
def kL(f g oid:Int)(j:Nat)(o:Obj):Bool:=decide (f<=(j:Int))&&decide ((j:Int)<g)&&nm o&& !decide ((j:Int)=oid)
def gH(L:List Obj)(f g oid:Int):List Obj:=kG L (kL f g oid) yI
def iw(L:List Obj)(f g oid:Int):Int:=(((List.range L.length).filter fun j=>kL f g oid j (aM L j free)).length:Int)
def kD(L:List Obj)(k:Key):List Obj:=if bB L k=0 then gH L (aX L k) (ba L k+1) k.oid else L
def ju(L:List Obj)(k:Key):Int:=if bB L k=0 then iw L (aX L k) (ba L k+1) k.oid else 0
def np(L:List Obj)(k v:Key):Bool:=decide (bB L k=0)&&kH L v&&decide (aX L k<=v.oid)&&decide (v.oid<=ba L k)
theorem iR{L:List Obj}{p:Nat->Obj->Bool}{t:Obj->Obj}:(kG L p t).length=L.length:=by simp[kG]
theorem j3{L:List Obj}{p:Nat->Obj->Bool}{t:Obj->Obj}{j:Nat}(h:j<L.length):aM (kG L p t) j free=if p j (aM L j free)then t (aM L j free)else aM L j free:=by
 rw[show aM (kG L p t) j free=(kG L p t).getD j free from rfl,an];unfold kG;rw[List.getElem?_map,List.getElem?_range h];rfl
theorem D7{L:List Obj}{p:Nat->Obj->Bool}{t:Obj->Obj}(h:∀j,j<L.length->p j (aM L j free)=false):kG L p t=L:=by
 refine re iR fun j hj=>?_
 rw[iR]at hj;rw[j3 hj,h j hj];rfl
theorem EM{L:List Obj}{p p':Nat->Obj->Bool}{t:Obj->Obj}{g:Nat}(hg:g<L.length)(hp:∀j,j≠g->p' j (aM L j free)=p j (aM L j free))(h1:p' g (aM L g free)=true):
  eW (kG L p t) g (t (aM L g free))=kG L p' t:=by
 refine re (by rw[iL,iR,iR]) fun j hj=>?_
 rw[iL,iR]at hj;rw[fN (by rw[iR];exact hg),j3 hj,j3 hj]
 by_cases e:j=g
 ·subst e;rw[ar rfl,h1,ar rfl]
 ·rw[aq e,hp j e]
theorem A7{L:List Obj}{p p':Nat->Obj->Bool}{t:Obj->Obj}(hp:∀j,j<L.length->p' j (aM L j free)=p j (aM L j free)):kG L p' t=kG L p t:=by
 refine re (by rw[iR,iR]) fun j hj=>?_
 rw[iR]at hj;rw[j3 hj,j3 hj,hp j hj]
theorem my{L:List Obj}{f g:Int}:(cA L f g).length=L.length:=iR
theorem D3{L:List Obj}{f:Int}:L=cA L f f:=by
 symm
 refine D7 fun j hj=>?_
 simp only[Bool.and_eq_false_iff,decide_eq_false_iff_not];omega
theorem Gm{L:List Obj}{f g:Int}(h0:0<=g):aM (cA L f g) g.toNat free=aM L g.toNat free:=by
 by_cases h:g.toNat<L.length
 ·unfold cA;rw[j3 h,aq];simp only[af,ah];omega
 ·rw[show aM (cA L f g) g.toNat free=free by simp[aM,an,List.getElem?_eq_none (show(cA L f g).length<=g.toNat by rw[my];omega)]]
  simp[aM,an,List.getElem?_eq_none (show L.length<=g.toNat by omega)]
theorem HB{L:List Obj}{f g:Int}(h0:0<=g)(h1:g<(L.length:Int))(hf:f<=g)(hr:j9 (aM L g.toNat free)=true):eW (cA L f g) g.toNat (Gf (aM L g.toNat free))=cA L f (g+1):=by
 refine EM (by omega) (fun j hj=>?_) ?_
 ·have:decide ((j:Int)<g+1)=decide ((j:Int)<g):=by rw[decide_eq_decide];omega
  rw[this]
 ·rw[hr];simp;omega
theorem EG{L:List Obj}{f g:Int}(h0:0<=g)(hr:j9 (aM L g.toNat free)=false):cA L f (g+1)=cA L f g:=by
 refine A7 fun j hj=>?_
 by_cases e:(j:Int)=g
 ·rw[show j=g.toNat by omega,hr,Bool.and_false,Bool.and_false]
 ·have:decide ((j:Int)<g+1)=decide ((j:Int)<g):=by rw[decide_eq_decide];omega
  rw[this]
theorem VK{L:List Obj}{f l g:Int}(h0:0<=f)(hf:f<=g)(hl:g<=l)(hg:g<(L.length:Int))(hn:lD L f g)(hw:fj (aM L g.toNat free)=true):fT L f l=g:=by
 unfold fT
 have:(List.range L.length).find? (fun(j:Nat)=>decide (f<=(j:Int))&&decide ((j:Int)<=l)&&fj (aM L j free))=some g.toNat:=by
  rw[List.find?_eq_some_iff_getElem];refine⟨by rw[hw];simp;omega,g.toNat,by simp;omega,by simp,fun j hj=>?_⟩
  simp only[List.getElem_range,Bool.not_eq_true',Bool.and_eq_false_iff,decide_eq_false_iff_not];by_cases e:f<=(j:Int)
  ·right;exact hn j e (by omega)
  ·left;left;exact e
 rw[this];show((g.toNat:Nat):Int)=g
 omega
theorem Ol{L:List Obj}{f l:Int}(hn:lD L f (l+1)):fT L f l= -1:=by
 unfold fT
 have:(List.range L.length).find? (fun(j:Nat)=>decide (f<=(j:Int))&&decide ((j:Int)<=l)&&fj (aM L j free))=none:=by
  rw[List.find?_eq_none];intro j hj h;simp only[af,ah]at h;rw[hn j h.1.1 (by omega)]at h
  simp at h
 rw[this]
theorem o7{L:List Obj}{f g:Int}(h:lD L f g)(hg:fj (aM L g.toNat free)=false):lD L f (g+1):=fun j h1 h2=>by
 by_cases e:(j:Int)=g
 ·rw[show j=g.toNat by omega];exact hg
 ·exact h j h1 (by omega)
theorem xD{L:List Obj}{f:Int}:lD L f f:=fun j h1 h2=>by omega
theorem Ii{L:List Obj}{f g oid:Int}:(gH L f g oid).length=L.length:=iR
theorem MD{L:List Obj}{f g oid:Int}(h:iw L f g oid=0):gH L f g oid=L:=by
 refine D7 fun j hj=>?_
 unfold iw at h;have h2:((List.range L.length).filter fun j=>kL f g oid j (aM L j free))= []:=List.eq_nil_of_length_eq_zero (by omega)
 rw[List.filter_eq_nil_iff]at h2;have:=h2 j (by simp;omega)
 simpa using this
theorem EI{L:List Obj}{f oid:Int}:iw L f f oid=0:=by
 unfold iw;rw[show((List.range L.length).filter fun j=>kL f f oid j (aM L j free))= []from ?_]
 ·rfl
 ·rw[List.filter_eq_nil_iff];intro j hj;unfold kL;simp only[af,ah];omega
theorem ME{L:List Obj}{f oid:Int}:L=gH L f f oid:=(MD EI).symm
theorem Xh{L:List Obj}{f g oid:Int}(h0:0<=g):aM (gH L f g oid) g.toNat free=aM L g.toNat free:=by
 by_cases h:g.toNat<L.length
 ·unfold gH;rw[j3 h,aq];unfold kL;simp only[af,ah];omega
 ·rw[show aM (gH L f g oid) g.toNat free=free by simp[aM,an,List.getElem?_eq_none (show(gH L f g oid).length<=g.toNat by rw[Ii];omega)]]
  simp[aM,an,List.getElem?_eq_none (show L.length<=g.toNat by omega)]
def j6(L:List Obj)(g oid:Int):Bool:=nm (aM L g.toNat free)&& !decide (g=oid)
theorem BS{L:List Obj}{f g oid:Int}(h0:0<=g)(hf:f<=g):kL f (g+1) oid g.toNat (aM L g.toNat free)=j6 L g oid:=by
 unfold kL j6;rw[show((g.toNat:Nat):Int)=g by omega]
 have a:decide (f<=g)=true:=by simp;omega
 have b:decide (g<g+1)=true:=by simp;omega
 rw[a,b];simp
theorem wU{L:List Obj}{f g oid:Int}{j:Nat}(h:(j:Int)≠g)(o:Obj):kL f (g+1) oid j o=kL f g oid j o:=by
 unfold kL;have:decide ((j:Int)<g+1)=decide ((j:Int)<g):=by rw[decide_eq_decide];omega
 rw[this]
theorem CD{f g oid:Int}{j:Nat}(h:(j:Int)=g)(o:Obj):kL f g oid j o=false:=by
 unfold kL;have:decide ((j:Int)<g)=false:=by simp;omega
 rw[this];simp
theorem Sw{L:List Obj}{f g oid:Int}(h0:0<=g)(h1:g<(L.length:Int))(hf:f<=g)(hr:j6 L g oid=true):eW (gH L f g oid) g.toNat (yI (aM L g.toNat free))=gH L f (g+1) oid:=
 EM (by omega) (fun j hj=>wU (L:=L) (by omega) _) (by rw[BS h0 hf];exact hr)
theorem Ds{L:List Obj}{f g oid:Int}(h0:0<=g)(hf:f<=g)(hr:j6 L g oid=false):gH L f (g+1) oid=gH L f g oid:=by
 refine A7 fun j hj=>?_
 by_cases e:(j:Int)=g
 ·rw[show j=g.toNat by omega,BS h0 hf,hr,CD (by omega)]
 ·exact wU (L:=L) e _
theorem EC{L:List Obj}{f g oid:Int}(h0:0<=g)(hf:f<=g)(hr:j6 L g oid=false):iw L f (g+1) oid=iw L f g oid:=by
 unfold iw;rw[show((List.range L.length).filter fun j=>kL f (g+1) oid j (aM L j free))=(List.range L.length).filter fun j=>kL f g oid j (aM L j free)from List.filter_congr fun j hj=>?_]
 by_cases e:(j:Int)=g
 ·rw[show j=g.toNat by omega,BS h0 hf,hr,CD (by omega)]
 ·exact wU (L:=L) e _
theorem filter_one{l:List Nat}{p p':Nat->Bool}{g:Nat}(hn:l.Nodup)(hg:g∈l)(hp:∀j,j≠g->p' j=p j)(h0:p g=false)(h1:p' g=true):(l.filter p').length=(l.filter p).length+1:=by
 induction l with
 |nil=>simp at hg
 |cons a l ih=>
  rw[List.nodup_cons]at hn;by_cases e:a=g
  ·subst e;have:l.filter p'=l.filter p:=List.filter_congr fun j hj=>hp j fun e=>hn.1 (e▸hj)
   rw[List.filter_cons,List.filter_cons,h0,h1,ar rfl,aq (by simp),this]
   simp
  ·have hg2:g∈l:=by
    rcases List.mem_cons.1 hg with h|h
    ·exact absurd h.symm e
    ·exact h
   rw[List.filter_cons,List.filter_cons,hp a e];split
   ·simp only[List.length_cons];rw[ih hn.2 hg2]
   ·exact ih hn.2 hg2
theorem LY{L:List Obj}{f g oid:Int}(h0:0<=g)(h1:g<(L.length:Int))(hf:f<=g)(hr:j6 L g oid=true):iw L f (g+1) oid=iw L f g oid+1:=by
 unfold iw;have:=filter_one (l:=List.range L.length) (p:=fun j=>kL f g oid j (aM L j free)) (p':=fun j=>kL f (g+1) oid j (aM L j free)) (g:=g.toNat) List.nodup_range (by simp;omega) (fun j hj=>wU (L:=L) (by omega) _) (CD (by omega) _) (by show kL f (g+1) oid g.toNat (aM L g.toNat free)=true;rw[BS h0 hf];exact hr)
 omega
theorem Fc{L:List Obj}{f g oid:Int}:0<=iw L f g oid:=by unfold iw;omega
theorem XG{L:List Obj}{f g oid:Int}:iw L f g oid<=(L.length:Int):=by
 unfold iw;have:=List.length_filter_le (fun j=>kL f g oid j (aM L j free)) (List.range L.length)
 rw[List.length_range]at this;omega
theorem Cn{n:Int}{kind count:Int}(h1:1<=n)(h2:n<=64)(h3:0<=kind)(h4:kind<=3)(h5:0<=count)(h6:count<=4294967295):bS ⟨kind,count,0,gW,fo⟩ n=true:=by
 rw[dU];refine⟨h1,h2,h3,h4,h5,h6,by simp,by simp,.inr rfl,fun i hi=>?_,fun i hi=>?_⟩
 ·simp only[sX];unfold iT;rw[mC.1,mC.2];simp;omega
 ·have hz:=He.1 (show fo=fo from rfl) i hi;first|exact .inr (.inr hz)|exact hz|simp[hz]
theorem kE{o:Obj}{n:Int}(h:bS o n=true):0<=o.count/\o.count<=4294967295/\0<=o.kind/\o.kind<=3/\1<=n/\n<=64:=by
 obtain⟨a1,a2,a3,a4,a5,a6,_⟩:=dU.1 h;exact⟨a5,a6,a3,a4,a1,a2⟩
theorem Cm{o:Obj}{n:Int}(h:bS o n=true):bS (Gf o) n=true:=by
 obtain⟨a,b,c,d,e,f⟩:=kE h;exact Cn e f (by omega) (by omega) a b
theorem xc{o:Obj}{n:Int}(h:bS o n=true):bS (yI o) n=true:=by
 obtain⟨a,b,c,d,e,f⟩:=kE h;exact Cn e f (by omega) (by omega) a b
theorem Cg{o:Obj}{n kind:Int}(h:bS o n=true)(hn:fj o=true)(hk:kind=1\/kind=2):bS (la o kind) n=true:=by
 obtain⟨a,b,c,d,e,f⟩:=kE h;unfold fj at hn;simp only[af,ah]at hn;exact Cn e f (by omega) (by omega) (by omega) (by omega)
theorem Hl{L:List Obj}{p:Nat->Obj->Bool}{t:Obj->Obj}(h:aP L)(ht:∀o,bS o (L.length:Int)=true->bS (t o) (L.length:Int)=true):aP (kG L p t):=by
 refine OO h iR fun j hj=>?_
 rw[j3 hj];split
 ·exact ht _ (dH h j hj)
 ·exact dH h j hj
theorem Fj{L:List Obj}{f g:Int}(h:aP L):aP (cA L f g):=Hl h fun o ho=>Cm ho
def kB:ky (Key×Unit):=bM kA jx
def kkB:ky (Key×Key×Unit):=bM kA (bM kA jx)
def Z5:ky (Key×Int×Unit):=bM kA (bM iA jx)
theorem YQ:iF kB:=aZ mT dg
theorem KU:iF kkB:=aZ mT (aZ mT dg)
theorem Ov:iF Z5:=aZ mT (aZ fk dg)
def Wh:Ct:=mk3 (rI .i64) (rI .i64) (rI .i64) fun a b c=> .key (cW a b c)
theorem GD{o:Obj}(h:o.kind≠0):j9 o=false/\fj o=false:=by simp[j9,fj,h]
theorem Mp{o:Obj}(h:o.kind=0)(h2:4294967295<=o.count):j9 o=true/\fj o=false:=by simp[j9,fj,h,h2]
theorem MF{o:Obj}(h:o.kind=0)(h2:¬4294967295<=o.count):j9 o=false/\fj o=true:=by
 refine⟨by simp[j9,h2],?_⟩
 simp only[fj,af,ah];omega
theorem GX{L:List Obj}{f l g:Int}(kind:Int)(h0:0<=f)(hf:f<=g)(hl:g<=l)(hg:g<(L.length:Int))(hn:lD L f g)(hw:fj (aM L g.toNat free)=true):
  fT L f l=g/\wo L f l=true/\lU L f l kind=eW (cA L f g) g.toNat (la (aM L g.toNat free) kind):=by
 have e:=VK h0 hf hl hg hn hw;refine⟨e,?_,?_⟩
 ·unfold wo;rw[e];simp;left;omega
 ·unfold lU;rw[e,aq (by omega)]
theorem Ob{L:List Obj}{f l:Int}(kind:Int)(hn:lD L f (l+1)):fT L f l= -1/\lU L f l kind=cA L f (l+1)/\wo L f l=Pa L f (l+1):=by
 have e:=Ol hn;refine⟨e,?_,?_⟩
 ·unfold lU;rw[e,ar rfl]
 ·unfold wo;rw[e];rfl
theorem GQ{L:List Obj}{k:Key}(h:br L k 4 false=0)(h2:jd (aM L k.oid.toNat free) (aJ L:Int)=false):bB L k=220/\BD L k=0/\BU L k=0:=by
 have e:bB L k=220:=by unfold bB;rw[ar h,h2];rfl
 refine⟨e,?_,?_⟩
 ·unfold BD;rw[e];rfl
 ·unfold BU;rw[e];rfl
theorem yz{L:List Obj}{k:Key}(h:br L k 4 false=0)(h2:jd (aM L k.oid.toNat free) (aJ L:Int)=true):bB L k=0/\BD L k=aX L k/\BU L k=ba L k:=by
 have e:bB L k=0:=by unfold bB;rw[ar h,h2];rfl
 refine⟨e,?_,?_⟩
 ·unfold BD;rw[e];rfl
 ·unfold BU;rw[e];rfl
theorem pn{L:List Obj}{k:Key}(h:bB L k=0):br L k 4 false=0/\0<=aX L k/\aX L k<=ba L k/\ba L k<(L.length:Int)/\0<=k.oid/\k.oid<(L.length:Int):=by
 have ha:br L k 4 false=0:=by
  unfold bB at h;split at h
  ·assumption
  ·rename_i h1;exact absurd h h1
 have hb:jd (aM L k.oid.toNat free) (aJ L:Int)=true:=by
  cases hb:jd (aM L k.oid.toNat free) (aJ L:Int)with
  |true=>rfl
  |false=>rw[(GQ ha hb).1]at h;simp at h
 obtain⟨_,b2,b3,_⟩:=fC (lQ ha).1;unfold jd at hb;simp only[af,ah]at hb;obtain⟨⟨⟨⟨_,_⟩,h3⟩,h4⟩,h5⟩:=hb;exact⟨ha,h3,h4,h5,b2,b3⟩
theorem Ca{L:List Obj}{f l:Int}(h0:0<=f):fT L f l= -1\/(f<=fT L f l/\fT L f l<=l/\fT L f l<(L.length:Int)/\fj (aM L (fT L f l).toNat free)=true):=by
 unfold fT;split
 ·rename_i j hj;right
  have h1:=List.find?_some hj;have h2:=List.mem_of_find?_eq_some hj;simp only[af,ah]at h1;rw[List.mem_range]at h2;exact⟨h1.1.1,h1.1.2,by omega,h1.2⟩
 ·exact .inl rfl
theorem GU{L:List Obj}{f l kind:Int}:(lU L f l kind).length=L.length:=by
 unfold lU;split
 ·exact my
 ·rw[iL,my]
theorem LP{L:List Obj}{f l kind:Int}(h0:0<=f)(h:fT L f l≠ -1):aM (lU L f l kind) (fT L f l).toNat free=la (aM L (fT L f l).toNat free) kind:=by
 rcases Ca (L:=L) (l:=l) h0 with e|⟨a,b,c,d⟩
 ·exact absurd e h
 ·unfold lU;rw[aq h,fN (by rw[my];omega),ar rfl]
theorem RU{L:List Obj}{f l:Int}(h:fT L f l≠ -1):wo L f l=true:=by unfold wo;simp[h]
theorem M5{L:List Obj}{k:Key}{kind:Int}(h:bB L k=0)(hk:kind=1\/kind=2)(hi:fT L (aX L k) (ba L k)= -1):B7 L k kind=wo L (aX L k) (ba L k)/\void=fm L k kind/\221=ef L k kind/\lU L (aX L k) (ba L k) kind=gA L k kind:=by
 have e:iC L k kind=0:=by unfold iC;rw[ar h,ar hk]
 have e2:ef L k kind=221:=by unfold ef;rw[ar e,ar hi]
 refine⟨by unfold B7;rw[e];simp,by unfold fm;rw[e2];rfl,e2.symm,by unfold gA;rw[ar e]⟩
theorem Qy{L:List Obj}{k:Key}{kind:Int}(h:bB L k=0)(hk:kind=1\/kind=2)(hi:fT L (aX L k) (ba L k)≠ -1):B7 L k kind=true/\Key.mk (1+kind) (fT L (aX L k) (ba L k)) (aM (lU L (aX L k) (ba L k) kind) (fT L (aX L k) (ba L k)).toNat free).count 0 0 0=fm L k kind/\0=ef L k kind/\lU L (aX L k) (ba L k) kind=gA L k kind:=by
 have e:iC L k kind=0:=by unfold iC;rw[ar h,ar hk]
 have e2:ef L k kind=0:=by unfold ef;rw[ar e,aq hi]
 refine⟨by unfold B7;rw[e,RU hi];rfl,?_,e2.symm,by unfold gA;rw[ar e]⟩
 unfold fm;rw[ar e2,LP (pn h).2.1 hi];unfold cW la;rcases hk with rfl|rfl<;>rfl
theorem Ms{L:List Obj}{v:Key}(h:kH L v=true):bm L v=true:=by unfold kH at h;simp only[af]at h;exact h.1
def fZ(L:List Obj)(k:Key):Int:=fT L (aX L k) (ba L k)
def eu(L:List Obj)(k:Key):List Obj:=lU L (aX L k) (ba L k) 1
def mM(M:List Obj)(f g:Int):Bool:=(List.range M.length).any fun(j:Nat)=>decide (f<=(j:Int))&&decide ((j:Int)<g)&&nm (aM M j free)
def l6(L:List Obj)(k:Key)(n:Int):Int:=if bB L k=0 then(if n<1\/ba L k-aX L k<n then 4 else 0)else bB L k
def cU(L:List Obj)(k:Key)(n:Int):Int:=if l6 L k n=0 then(if fZ L k<0\/ba L k-n<fZ L k then 221 else if mM (eu L k) (ba L k-n+1) (ba L k+1)=true then 221 else 0)else l6 L k n
def jy(o:Obj)(a b:Int):Obj:= {o with slots:=(o.slots.put 0 (dV a)).put 1 (dV b)}
def lW(o:Obj)(b:Int):Obj:= {o with slots:=o.slots.put 1 (dV b)}
def bR(L:List Obj)(k:Key)(n:Int):List Obj:=if cU L k n=0 then eW (eW (eu L k) (fZ L k).toNat (jy (aM (eu L k) (fZ L k).toNat free) (ba L k-n+1) (ba L k))) k.oid.toNat (lW (aM (eu L k) k.oid.toNat free) (ba L k-n))else L
def cY(L:List Obj)(k:Key)(n:Int):Key:=if cU L k n=0 then⟨4,fZ L k,(aM (eu L k) (fZ L k).toNat free).count,0,0,0⟩else void
theorem C3{L:List Obj}{k:Key}{n:Int}(h:bB L k≠0):cU L k n=bB L k:=by
 have e:l6 L k n=bB L k:=by unfold l6;rw[aq h]
 unfold cU;rw[e,aq h]
theorem JO{L:List Obj}{k:Key}{n:Int}(h:bB L k=0)(hn:n<1\/ba L k-aX L k<n):cU L k n=4:=by
 have e:l6 L k n=4:=by unfold l6;rw[ar h,ar hn]
 unfold cU;rw[e];rfl
theorem SV{L:List Obj}{k:Key}{n:Int}(h:bB L k=0)(h1:1<=n)(h2:n<=ba L k-aX L k):l6 L k n=0:=by
 unfold l6;rw[ar h,aq (by omega)]
theorem Dg{L:List Obj}{k:Key}{n:Int}(h:l6 L k n=0)(hi:fZ L k<0\/ba L k-n<fZ L k):cU L k n=221:=by
 unfold cU;rw[ar h,ar hi]
theorem P5{L:List Obj}{k:Key}{n:Int}(h:l6 L k n=0)(hi:mM (eu L k) (ba L k-n+1) (ba L k+1)=true):cU L k n=221:=by
 unfold cU;rw[ar h,ar hi];split<;>rfl
theorem SJ{L:List Obj}{k:Key}{n:Int}(h:l6 L k n=0)(h1:0<=fZ L k)(h2:fZ L k<=ba L k-n)(hi:mM (eu L k) (ba L k-n+1) (ba L k+1)=false):cU L k n=0:=by
 unfold cU;rw[ar h,aq (by omega),hi];rfl
theorem NG{M:List Obj}{f g e:Int}(h0:0<=g)(h1:g<(M.length:Int))(hf:f<=g)(he:g<e)(hr:nm (aM M g.toNat free)=true):mM M f e=true:=by
 unfold mM;rw[List.any_eq_true];exact⟨g.toNat,by simp;omega,by rw[hr];simp;omega⟩
theorem Rv{M:List Obj}{f g:Int}(h0:0<=g)(hr:nm (aM M g.toNat free)=false):mM M f (g+1)=mM M f g:=by
 unfold mM;rw[Bool.eq_iff_iff,List.any_eq_true,List.any_eq_true];refine exists_congr fun j=>and_congr_right fun _=>?_
 simp only[af,ah];constructor
 ·rintro⟨⟨a,b⟩,c⟩
  refine⟨⟨a,?_⟩,c⟩;by_cases e:(j:Int)=g
  ·rw[show j=g.toNat by omega,hr]at c;simp at c
  ·omega
 ·rintro⟨⟨a,b⟩,c⟩
  exact⟨⟨a,by omega⟩,c⟩
theorem WW{L:List Obj}{k:Key}(h:bm L k=true):cw k=k.oid:=by
 unfold bm at h;simp only[af]at h;unfold cw;rw[ar h.1.1]
theorem HQ{L:List Obj}{k:Key}(h:(!decide (0<aK L))=true):bB L k=1:=by unfold bB;rw[L9 h];rfl
theorem ZR{L:List Obj}{k:Key}(h:(!decide (0<aK L))=false)(h2:(!(bm L k&&decide (k.kind=4)))=true):bB L k=190:=by unfold bB;rw[JN h h2];rfl
theorem Yw{L:List Obj}{k:Key}(h:(!decide (0<aK L))=false)(h2:(!(bm L k&&decide (k.kind=4)))=false)(h3:(!jd (aG L k) (aK L))=true):bB L k=220:=by
 have ha:=Hy h h2;rw[(fC (mO h2).1).2.2.2.1]at h3;exact(GQ ha (show jd (aM L k.oid.toNat free) (aK L)=false by simpa using h3)).1
theorem Rm{L:List Obj}{k:Key}(h:(!decide (0<aK L))=false)(h2:(!(bm L k&&decide (k.kind=4)))=false)(h3:(!jd (aG L k) (aK L))=false):bB L k=0/\((aG L k).slots.at 0).value=aX L k/\((aG L k).slots.at 1).value=ba L k:=by
 have ha:=Hy h h2;have e:=(fC (mO h2).1).2.2.2.1;rw[e]at h3;rw[e];exact⟨(yz ha (show jd (aM L k.oid.toNat free) (aK L)=true by simpa using h3)).1,rfl,rfl⟩
theorem BM{L:List Obj}{k v:Key}{e:Int}(h:bB L k=e)(he:e≠0):false=np L k v/\e=bB L k:=by
 refine⟨?_,h.symm⟩;unfold np;rw[h];simp[he]
theorem sV{L:List Obj}{k v:Key}{e:Int}(h:eG L k v=e)(he:e≠0):e=eG L k v/\L=jO L k v:=by
 refine⟨h.symm,?_⟩;unfold jO;rw[h,aq he]
theorem qD{L:List Obj}{k v:Key}{e:Int}(h:bB L k=e)(he:e≠0):eG L k v=e:=by
 unfold eG;rw[h,aq he]
theorem yM{L:List Obj}{k:Key}{e:Int}(h:bB L k=e)(he:e≠0):(0=ju L k/\e=bB L k)/\L=kD L k:=by
 unfold ju kD;rw[h,aq he,aq he];exact⟨⟨rfl,rfl⟩,rfl⟩
theorem vS{L:List Obj}{k:Key}{kind e:Int}(h:iC L k kind=e)(he:e≠0):(void=fm L k kind/\e=ef L k kind)/\L=gA L k kind:=by
 have e2:ef L k kind=e:=by unfold ef;rw[h,aq he]
 unfold fm gA;rw[e2,h,aq he,aq he];exact⟨⟨rfl,rfl⟩,rfl⟩
theorem qM{L:List Obj}{k:Key}{kind e:Int}(h:bB L k=e)(he:e≠0):iC L k kind=e:=by unfold iC;rw[h,aq he]
theorem KR{L:List Obj}{k:Key}{kind:Int}(h:bB L k=0)(h2:(!(decide (kind=1)||decide (kind=2)))=true):iC L k kind=2:=by
 unfold iC;rw[ar h,aq];simp only[Bool.not_eq_true',Bool.or_eq_false_iff,decide_eq_false_iff_not]at h2;omega
theorem oZ{L:List Obj}{k:Key}{n e:Int}(h:cU L k n=e)(he:e≠0):(void=cY L k n/\e=cU L k n)/\L=bR L k n:=by
 unfold cY bR;rw[h,aq he,aq he];exact⟨⟨rfl,rfl⟩,rfl⟩
theorem uM{L:List Obj}{k:Key}{n e:Int}(h:bB L k=e)(he:e≠0):cU L k n=e:=by rw[C3 (by omega),h]
def Ti:Ct:=EU (bM sA kkB) (fun _=>none) fun x=> .tp [.bo (np (ye x.1) x.2.1 x.2.2.1),.it .i64 (bB (ye x.1) x.2.1)]
def S8:kr:=Ix (IP Z5) (fun L _=>aP L) (fun L x=> .tp [.key (fm L x.1 x.2.1),.it .i64 (ef L x.1 x.2.1)]) fun L x=>gA L x.1 x.2.1
def Xd:kr:=Ix (IP kkB) (fun L _=>aP L) (fun L x=> .it .i64 (eG L x.1 x.2.1)) fun L x=>jO L x.1 x.2.1
def RQ:kr:=Ix (IP kB) (fun L _=>aP L) (fun L x=> .tp [.it .i64 (ju L x.1),.it .i64 (bB L x.1)]) fun L x=>kD L x.1
def N0:kr:=Ix (IP Z5) (fun L _=>aP L) (fun L x=> .tp [.key (cY L x.1 x.2.1),.it .i64 (cU L x.1 x.2.1)]) fun L x=>bR L x.1 x.2.1
def pC(L:List Obj)(k:Key)(n g:Int):Prop:=aX L k<=g/\g<=ba L k+1/\mM (eu L k) (ba L k-n+1) g=false
def O0(L M:List Obj)(g:Int):Int:=aM (dE L M) g.toNat 0
def Kp:List Obj->List Obj->Nat->List Obj
 |L,_,0=>L
 |L,M,g+1=>cM (Kp L M g) (O0 L M (g:Int)) (aS M (O0 L M (g:Int)))
def mf(L M:List Obj)(g:Int):List Obj:=Kp L M g.toNat
def rU(L M:List Obj)(g:Int):Prop:=0<=g/\g<=((dE L M).length:Int)
def eN(L:List Obj)(k:Key)(g:Int):Obj:=aS (cA L (aX L k) g) g
def p8(L:List Obj)(k:Key)(g:Int):List Obj:=cM (cA L (aX L k) g) g (Obj.mk 1 ((eN L k g).count+1) free.calls free.slots free.bytes)
def oh(x:Int):Key:=Key.mk 1 void.oid void.count void.call void.rights x
def BR(L:List Obj)(k:Key)(n g:Int):Obj:=Obj.mk (aS (p8 L k g) g).kind (aS (p8 L k g) g).count (aS (p8 L k g) g).calls (((aS (p8 L k g) g).slots.put 0 (oh (((aG L k).slots.at 1).value-n+1))).put 1 (oh ((aG L k).slots.at 1).value)) (aS (p8 L k g) g).bytes
def BX(L:List Obj)(k:Key)(n g:Int):List Obj:=cM (p8 L k g) g (BR L k n g)
def Cf(L:List Obj)(k:Key)(n g:Int):Obj:=Obj.mk (aS (BX L k n g) k.oid).kind (aS (BX L k n g) k.oid).count (aS (BX L k n g) k.oid).calls ((aS (BX L k n g) k.oid).slots.put 1 (oh (((aG L k).slots.at 1).value-n))) (aS (BX L k n g) k.oid).bytes
def lZ(L:List Obj)(k:Key)(n g:Int):List Obj:=cM (BX L k n g) k.oid (Cf L k n g)
def jb(L:List Obj)(k:Key)(g:Int):Prop:=aX L k<=g/\g<=ba L k+1/\lD L (aX L k) g
def r9(L:List Obj)(k:Key)(g:Int):Prop:=aX L k<=g/\g<=ba L k+1
theorem A8{L:List Obj}{k:Key}(h:bm L k=true)(h2:k.kind=4):(aM L k.oid.toNat free).kind=1:=by
 unfold bm at h;simp only[af]at h;obtain⟨⟨h1,_⟩,h3⟩:=h;unfold cy at h3;simp only[af,Bool.or_eq_true,ah]at h3;rcases ko k with⟨_,e,h0⟩|⟨e,_⟩
 ·rcases h3.2 with h|h
  ·omega
  ·rw[h.1.1];unfold fX;rw[aq (by omega),aq (by omega)]
 ·rw[e]at h1;simp at h1
theorem HD{o:Obj}{n b:Int}(h:bS o n=true)(hk:o.kind=1):bS (lW o b) n=true:=by
 refine y9 h hk fun i hi=>?_
 have:=(kE h).2.2.2.2.1;rw[cC.fP _ _ _ _ (by omega)]
 split
 ·exact sg (by omega) _
 ·exact rW h hk i hi
theorem GB{o:Obj}{n a b:Int}(h:bS o n=true)(hk:o.kind=1):bS (jy o a b) n=true:=by
 refine y9 h hk fun i hi=>?_
 have:=(kE h).2.2.2.2.1;rw[cC.fP _ _ _ _ (by omega),cC.fP _ _ _ _ (by omega)]
 split
 ·exact sg (by omega) _
 split
 ·exact sg (by omega) _
 ·exact rW h hk i hi
theorem Us{L:List Obj}{k:Key}{g:Int}(hL:aP L)(e:bB L k=0)(hk:(aM L k.oid.toNat free).kind=1)(g0:aX L k<=g)(gl:g<=ba L k)(g2:lD L (aX L k) g)(f2:fj (aM L g.toNat free)=true):
  fZ L k=g/\eN L k g=aM L g.toNat free/\p8 L k g=eu L k/\(eu L k).length=L.length/\aP (eu L k)/\aM (eu L k) g.toNat free=la (aM L g.toNat free) 1/\aM (eu L k) k.oid.toNat free=aM L k.oid.toNat free/\k.oid.toNat≠g.toNat:=by
 obtain⟨_,a0,a1,a2,a3,a4⟩:=pn e;have hgn:g.toNat<L.length:=by omega
 have hgz:(cA L (aX L k) g).length=L.length:=my;have hgt:aS (cA L (aX L k) g) g=aM L g.toNat free:=by rw[fH (by omega) (by omega),Gm (by omega)]
 obtain⟨m1,m2,m3⟩:=GX (l:=ba L k) 1 a0 g0 gl (by omega) g2 f2
 have hO:eN L k g=aM L g.toNat free:=hgt;have hnew:=Cg (dH hL g.toNat hgn) f2 (.inl rfl);have hp:=(lu (L:=cA L (aX L k) g) (i:=g) (x:=la (aM L g.toNat free) 1) (by omega) (by omega) (by rw[hgz];exact hnew)).1
 have hP:p8 L k g=eu L k:=by
  unfold p8;rw[hO];exact hp.trans m3.symm
 have hne:k.oid.toNat≠g.toNat:=fun h=>by
  rw[h]at hk;unfold fj at f2;simp only[af,ah]at f2;omega
 have hM:eu L k=eW (cA L (aX L k) g) g.toNat (la (aM L g.toNat free) 1):=m3;have hko:k.oid.toNat<L.length:=by omega
 refine⟨m1,hO,hP,GU,?_,?_,?_,hne⟩
 ·rw[hM];exact lK (Fj hL) (by rw[hgz];exact hnew)
 ·rw[hM,fN (by rw[hgz];exact hgn),ar rfl]
 ·rw[hM,fN (by rw[hgz];exact hgn),aq hne]
  unfold cA;rw[j3 hko,aq];simp only[j9,hk,af,ah];omega
theorem QR{L:List Obj}{k:Key}{n g:Int}(hL:aP L)(e:bB L k=0)(hk:(aM L k.oid.toNat free).kind=1)(hB:((aG L k).slots.at 1).value=ba L k)(g0:aX L k<=g)(gl:g<=ba L k)(g2:lD L (aX L k) g)(f2:fj (aM L g.toNat free)=true)(h:cU L k n=0):
  lZ L k n g=bR L k n/\aP (bR L k n)/\(bR L k n).length=L.length/\Key.mk 4 g ((eN L k g).count+1) 0 0 0=cY L k n:=by
 obtain⟨i1,i2,i3,i4,i5,i6,i7,i8⟩:=Us hL e hk g0 gl g2 f2;obtain⟨_,a0,a1,a2,a3,a4⟩:=pn e;have hgM:aS (eu L k) g=aM (eu L k) g.toNat free:=fH (by omega) (by omega)
 have hR1:BR L k n g=jy (aM (eu L k) g.toNat free) (ba L k-n+1) (ba L k):=by
  unfold BR;rw[i3,hgM,hB];rfl
 have o1:bS (jy (aM (eu L k) g.toNat free) (ba L k-n+1) (ba L k)) ((eu L k).length:Int)=true:=GB (dH i5 g.toNat (by omega)) (by rw[i6];rfl)
 have hP2:BX L k n g=eW (eu L k) g.toNat (jy (aM (eu L k) g.toNat free) (ba L k-n+1) (ba L k)):=by
  unfold BX;rw[i3,hR1];exact(lu (by omega) (by omega) o1).1
 have ok2:=lK (i:=g.toNat) i5 o1;have l2:(eW (eu L k) g.toNat (jy (aM (eu L k) g.toNat free) (ba L k-n+1) (ba L k))).length=L.length:=by rw[iL];exact i4
 have g2':aS (BX L k n g) k.oid=aM (eu L k) k.oid.toNat free:=by
  rw[hP2,fH (by omega) (by omega),fN (by omega),aq i8]
 have hR2:Cf L k n g=lW (aM (eu L k) k.oid.toNat free) (ba L k-n):=by
  unfold Cf;rw[g2',hB];rfl
 have o2:bS (lW (aM (eu L k) k.oid.toNat free) (ba L k-n)) (L.length:Int)=true:=HD (by rw[<-i4];exact dH i5 k.oid.toNat (by omega)) (by rw[i7];exact hk)
 have hlast:bR L k n=eW (eW (eu L k) g.toNat (jy (aM (eu L k) g.toNat free) (ba L k-n+1) (ba L k))) k.oid.toNat (lW (aM (eu L k) k.oid.toNat free) (ba L k-n)):=by
  unfold bR;rw[ar h,i1]
 refine⟨?_,?_,?_,?_⟩
 ·unfold lZ;rw[hR2,hP2,hlast];exact(lu (by omega) (by omega) (by rw[l2];exact o2)).1
 ·rw[hlast];exact lK ok2 (by rw[l2];exact o2)
 ·rw[hlast,iL];exact l2
 ·unfold cY;rw[ar h,i1,i6,i2];rfl
theorem QB{L M:List Obj}{x:Int}(h:x∈dE L M):0<=x/\x<(L.length:Int):=by
 unfold dE gZ at h;rw[List.mem_map]at h;obtain⟨j,h1,rfl⟩:=h;have:=List.mem_range.1 (List.mem_filter.1 h1).1;unfold aJ at this;exact⟨Int.natCast_nonneg j,by show(j:Int)<_;omega⟩
theorem Vc{L M:List Obj}{i:Nat}(h:i<(dE L M).length):aM (dE L M) i 0∈dE L M:=by
 unfold aM;rw[an,List.getElem?_eq_getElem h];exact List.getElem_mem h
theorem Sa{L M:List Obj}{j:Nat}(hj:j<L.length)(h:aM L j free≠aM M j free):∃i,i<(dE L M).length/\aM (dE L M) i 0=(j:Int):=by
 have:(j:Int)∈dE L M:=by
  unfold dE gZ;rw[List.mem_map];refine⟨j,List.mem_filter.2 ⟨List.mem_range.2 (by unfold aJ;omega),?_⟩,rfl⟩
  simp[Cv,h]
 obtain⟨i,hi,e⟩:=List.mem_iff_getElem.1 this;refine⟨i,hi,?_⟩;unfold aM;rw[an,List.getElem?_eq_getElem hi,e];rfl
theorem NP{L M:List Obj}(hl:M.length=L.length)(hM:aP M):∀g:Nat,g<=(dE L M).length->(Kp L M g).length=L.length/\(∀j,j<L.length->aM (Kp L M g) j free=aM L j free\/aM (Kp L M g) j free=aM M j free)/\
  ∀i,i<g->aM (Kp L M g) (aM (dE L M) i 0).toNat free=aM M (aM (dE L M) i 0).toNat free
 |0,_=>⟨rfl,fun j hj=> .inl rfl,fun i hi=>by omega⟩
 |g+1,hg=>by
  obtain⟨h1,h2,h3⟩:=NP hl hM g (by omega)
  obtain⟨u1,u2⟩:=QB (Vc (L:=L) (M:=M) (i:=g) (by omega))
  have e:O0 L M (g:Int)=aM (dE L M) g 0:=rfl;generalize hu:aM (dE L M) g 0=u at *
  have hp:=(lu (L:=Kp L M g) (i:=u) (x:=aM M u.toNat free) u1 (by omega) (by rw[h1,<-hl];exact dH hM _ (by omega))).1
  have hs:Kp L M (g+1)=eW (Kp L M g) u.toNat (aM M u.toNat free):=by
   simp only[Kp];rw[e,fH u1 (by omega)]
   exact hp
  rw[hs];refine⟨by rw[iL];exact h1,fun j hj=>?_,fun i hi=>?_⟩
  ·rw[fN (by omega)]
   split
   ·rename_i hj';rw[hj'];exact .inr rfl
   ·exact h2 j hj
  ·rw[fN (by omega)]
   split
   ·rename_i hj';rw[hj']
   ·rename_i hne;by_cases hig:i=g
    ·rw[hig,hu]at hne;exact absurd rfl hne
    ·exact h3 i (by omega)
theorem QH{L M:List Obj}(hl:M.length=L.length)(hM:aP M){g:Int}(hg:g=((dE L M).length:Int)):mf L M g=M:=by
 obtain⟨h1,h2,h3⟩:=NP hl hM (dE L M).length (Nat.le_refl _);have e:mf L M g=Kp L M (dE L M).length:=by unfold mf;rw[hg];rfl
 rw[e];refine re (by omega) fun j hj=>?_
 by_cases hne:aM L j free=aM M j free
 ·rcases h2 j (by omega)with h|h
  ·rw[h,hne]
  ·exact h
 ·obtain⟨i,hi,hij⟩:=Sa (by omega) hne
  have:=h3 i hi;rw[hij]at this;exact this
theorem M4{L M:List Obj}{g:Int}(h0:0<=g):cM (mf L M g) (aM (dE L M) g.toNat 0) (aS M (aM (dE L M) g.toNat 0))=mf L M (g+1):=by
 unfold mf;rw[show(g+1).toNat=g.toNat+1 by omega]
 simp only[Kp];rfl
theorem LB{L M:List Obj}(hl:M.length=L.length)(h:1<=L.length):jK L M=false:=by
 unfold jK bN aJ;simp only[hl,show decide (L.length=0)=false from decide_eq_false (by omega),Bool.false_or,decide_true,Bool.not_true]
theorem HE{M:List Obj}{f g:Int}(h:g<=f):mM M f g=false:=by
 unfold mM;rw[List.any_eq_false];intro j _;simp only[af,ah,not_and];intro h1 h2;omega
theorem R5{L M:List Obj}:(dE L M).length<=L.length:=by
 unfold dE gZ;rw[List.length_map];have:=List.length_filter_le (fun j=> !Cv (aM L j free) (aM M j free)) (List.range (aJ L:Int).toNat)
 simpa[aJ]using this
structure Acb where
 kind:Int
 num:Int
 bank:Key
 key:Key
 obj:Int
def Acb.wf(x:Acb):Prop:=ck .i64 x.kind/\ck .i64 x.num/\x.bank.wf/\x.key.wf/\ck .i64 x.obj
theorem I3{L M:List Obj}{k:Key}{d:Int}{c:Bool}(hl:M.length=L.length)(h1:(aM M k.oid.toNat free).kind=(aM L k.oid.toNat free).kind)(h2:(aM M k.oid.toNat free).count=(aM L k.oid.toNat free).count)(h3:(aM M k.oid.toNat free).calls=(aM L k.oid.toNat free).calls):br M k d c=br L k d c:=by
 have hi:bm M k=bm L k:=by
  unfold bm cj cy aJ;rw[hl,h1,h2,h3]
 unfold br aJ;rw[hl,hi]
theorem Rf{L:List Obj}{k:Key}(h:bB L k=0):jd (aM L k.oid.toNat free) (L.length:Int)=true/\(aM L k.oid.toNat free).kind=1:=by
 obtain⟨ha,_⟩:=pn h;obtain⟨i1,i2,_⟩:=lQ ha;refine⟨?_,A8 i1 i2⟩;unfold bB at h;rw[ar ha]at h;split at h
 ·rename_i hc;exact hc
 ·omega
theorem Le{L:List Obj}{f l kind:Int}{j:Nat}(h0:0<=f)(hj:j<L.length)(hk:(aM L j free).kind≠0):aM (lU L f l kind) j free=aM L j free:=by
 have hG:∀g,aM (cA L f g) j free=aM L j free:=fun g=>by
  unfold cA;rw[j3 hj,aq];simp only[j9,af,ah];omega
 unfold lU;split
 ·exact hG _
 ·rename_i hi;rcases Ca (L:=L) (l:=l) h0 with e|⟨a,b,c,d⟩
  ·exact absurd e hi
  ·rw[fN (by rw[my];omega),aq,hG]
   intro e;rw[<-e]at d;unfold fj at d;simp only[af,ah]at d;exact hk d.1
theorem Mh{L:List Obj}{f l kind:Int}(hL:aP L)(h0:0<=f)(hk:kind=1\/kind=2):aP (lU L f l kind):=by
 unfold lU;split
 ·exact Fj hL
 ·rename_i hi;rcases Ca (L:=L) (l:=l) h0 with e|⟨a,b,c,d⟩
  ·exact absurd e hi
  ·exact lK (Fj hL) (by rw[my];exact Cg (dH hL _ (by omega)) d hk)
theorem Hb{L:List Obj}{k:Key}{kind:Int}(hL:aP L):aP (gA L k kind):=by
 unfold gA;split
 ·rename_i h
  have he:bB L k=0:=by
   unfold iC at h;split at h
   ·assumption
   ·rename_i h';exact absurd h h'
  refine Mh hL (pn he).2.1 ?_;unfold iC at h;rw[ar he]at h;split at h
  ·assumption
  ·omega
 ·exact hL
theorem LL{L:List Obj}{k:Key}{n:Int}(hL:aP L)(e:bB L k=0)(h:cU L k n=0):
 aP (bR L k n)/\(bR L k n).length=L.length/\bB (bR L k n) k=0/\aX (bR L k n) k=aX L k/\ba (bR L k n) k=ba L k-n/\bB (bR L k n) (cY L k n)=0/\aX (bR L k n) (cY L k n)=ba L k-n+1/\ba (bR L k n) (cY L k n)=ba L k/\aX L k<=(cY L k n).oid/\(cY L k n).oid<=ba L k-n/\1<=n/\n<=ba L k-aX L k/\fj (aM L (cY L k n).oid.toNat free)=true:=by
 obtain⟨ha,a0,a1,a2,a3,a4⟩:=pn e;obtain⟨hok,hk1⟩:=Rf e;obtain⟨x1,x2⟩:=jC hL;have h':=h;unfold cU at h;split at h
 case isFalse h2=>exact absurd h h2
 rename_i hE0;split at h
 case isTrue=>omega
 rename_i hI
 have hn:1<=n/\n<=ba L k-aX L k:=by
  unfold l6 at hE0;rw[ar e]at hE0;split at hE0
  ·omega
  ·omega
 have hin:=Ca (L:=L) (l:=ba L k) a0;have hIe:fT L (aX L k) (ba L k)=fZ L k:=rfl;have hne1:fT L (aX L k) (ba L k)≠ -1:=by rw[hIe];omega
 rw[hIe]at hin;rcases hin with hin|⟨i1,i2,i3,i4⟩
 ·omega
 have hMlen:(eu L k).length=L.length:=GU;have hMok:aP (eu L k):=Mh hL a0 (.inl rfl);have hMI:aM (eu L k) (fZ L k).toNat free=la (aM L (fZ L k).toNat free) 1:=LP a0 hne1;have KO:aM (eu L k) k.oid.toNat free=aM L k.oid.toNat free:=Le a0 (by omega) (by omega)
 have hne:k.oid.toNat≠(fZ L k).toNat:=fun hh=>by
  rw[hh]at hk1;unfold fj at i4;simp only[af,ah]at i4;omega
 have hLL:bR L k n=eW (eW (eu L k) (fZ L k).toNat (jy (aM (eu L k) (fZ L k).toNat free) (ba L k-n+1) (ba L k))) k.oid.toNat (lW (aM (eu L k) k.oid.toNat free) (ba L k-n)):=by
  unfold bR;rw[ar h']
 have hKK:cY L k n=⟨4,fZ L k,(aM L (fZ L k).toNat free).count+1,0,0,0⟩:=by
  unfold cY;rw[ar h',hMI];rfl
 have o1:bS (jy (aM (eu L k) (fZ L k).toNat free) (ba L k-n+1) (ba L k)) (L.length:Int)=true:=GB (by rw[<-hMlen];exact dH hMok _ (by omega)) (by rw[hMI];rfl)
 have o2:bS (lW (aM (eu L k) k.oid.toNat free) (ba L k-n)) (L.length:Int)=true:=HD (by rw[<-hMlen];exact dH hMok _ (by omega)) (by rw[KO];exact hk1)
 have l1:(eW (eu L k) (fZ L k).toNat (jy (aM (eu L k) (fZ L k).toNat free) (ba L k-n+1) (ba L k))).length=L.length:=by rw[iL];exact hMlen
 have okX:=lK (i:=(fZ L k).toNat) hMok (by rw[hMlen];exact o1)
 have hlen:(bR L k n).length=L.length:=by rw[hLL,iL];exact l1
 have hokL:aP (bR L k n):=by rw[hLL];exact lK okX (by rw[l1];exact o2)
 have hgk:aM (bR L k n) k.oid.toNat free=lW (aM L k.oid.toNat free) (ba L k-n):=by
  rw[hLL,fN (by omega),ar rfl,KO]
 have hgI:aM (bR L k n) (fZ L k).toNat free=jy (la (aM L (fZ L k).toNat free) 1) (ba L k-n+1) (ba L k):=by
  rw[hLL,fN (by omega),aq (Ne.symm hne),fN (by omega),ar rfl,hMI]
 have s2:∀(o:Obj) (b:Int),(lW o b).slots.at 0=o.slots.at 0/\(lW o b).slots.at 1=dV b:=fun o b=>by
  unfold lW;simp only;rw[cC.fP _ _ _ _ (by omega),cC.fP _ _ _ _ (by omega)]
  exact⟨rfl,rfl⟩
 have s1:∀(o:Obj) (a b:Int),(jy o a b).slots.at 0=dV a/\(jy o a b).slots.at 1=dV b:=fun o a b=>by
  unfold jy;simp only;rw[cC.fP _ _ _ _ (by omega),cC.fP _ _ _ _ (by omega),cC.fP _ _ _ _ (by omega)]
  exact⟨rfl,rfl⟩
 have hask:br (bR L k n) k 4 false=0:=by
  rw[I3 hlen (by rw[hgk];rfl) (by rw[hgk];rfl) (by rw[hgk];rfl)];exact ha
 unfold jd at hok;simp only[af,ah]at hok;obtain⟨⟨⟨⟨c1,c2⟩,c3⟩,c4⟩,c5⟩:=hok;have hA':aX (bR L k n) k=aX L k:=by unfold aX;rw[hgk,(s2 _ _).1]
 have hB':ba (bR L k n) k=ba L k-n:=by
  have:ba (bR L k n) k=((lW (aM L k.oid.toNat free) (ba L k-n)).slots.at 1).value:=by rw[<-hgk];rfl
  rw[this,(s2 _ _).2];rfl
 have hE':bB (bR L k n) k=0:=(yz hask (by
  rw[hgk];unfold jd aJ;rw[(s2 _ _).1,(s2 _ _).2,hlen];have v0:((aM L k.oid.toNat free).slots.at 0).value=aX L k:=rfl;simp only[dV,af,ah];refine⟨⟨⟨⟨c1,?_⟩,c3⟩,?_⟩,?_⟩
  ·trivial
  ·exact decide_eq_true (by omega)
  ·exact decide_eq_true (by omega))).1
 have i4':=i4;unfold fj at i4';simp only[af,ah]at i4';have hcb:=kE (dH hL (fZ L k).toNat (by omega))
 have hkey:bc (cY L k n)=true:=by
  rw[hKK];unfold bc eE;simp only[dt,ft,iU,ea];simp;omega
 have hoid:(cY L k n).oid=fZ L k:=by rw[hKK]
 have hisO:dt (cY L k n).kind=true:=by rw[hKK];rfl
 have hnm:bq (cY L k n)=true:=by unfold bq;rw[hkey,hisO];rfl
 have hnames:bu (cY L k n)=fZ L k:=by unfold bu;rw[hkey,hisO,hoid];rfl
 have hcounts:cy (cY L k n) (aM (bR L k n) (cY L k n).oid.toNat free)=true:=by
  unfold cy fX;rw[hkey,hnames,hoid,hgI,aq (by omega),hKK]
  simp[jy,la]
 have his:bm (bR L k n) (cY L k n)=true:=by
  unfold bm;rw[hnm,hcounts,kc.2 ⟨by omega,by omega⟩];rfl
 have hask2:br (bR L k n) (cY L k n) 4 false=0:=by
  unfold br aJ;rw[aq (by omega),aq (by rw[his,hKK];simp),aq (by simp)]
 have hobj:aM (bR L k n) (cY L k n).oid.toNat free=jy (la (aM L (fZ L k).toNat free) 1) (ba L k-n+1) (ba L k):=by rw[hoid];exact hgI
 refine⟨hokL,hlen,hE',hA',hB',(yz hask2 ?_).1,?_,?_,by rw[hoid];exact i1,by rw[hoid];omega,hn.1,hn.2,by rw[hoid];exact i4⟩
 ·rw[hobj];unfold jd aJ;rw[(s1 _ _ _).1,(s1 _ _ _).2,hlen];simp only[dV,af,ah];refine⟨⟨⟨⟨?_,?_⟩,?_⟩,?_⟩,?_⟩
  ·trivial
  ·trivial
  ·exact decide_eq_true (by omega)
  ·exact decide_eq_true (by omega)
  ·exact decide_eq_true (by omega)
 ·unfold aX;rw[hobj,(s1 _ _ _).1];rfl
 ·have:ba (bR L k n) (cY L k n)=((jy (la (aM L (fZ L k).toNat free) 1) (ba L k-n+1) (ba L k)).slots.at 1).value:=by rw[<-hobj];rfl
  rw[this,(s1 _ _ _).2];rfl
end Go.Sx
namespace Go.Proofs.YtmfbohanboiklaaGreat
open Go.Sx
theorem RH(kind oid count:Int):
 (decide (kind=2)=true->Key.mk 3 oid count void.call void.rights void.value=cW kind oid count)/\(decide (kind=2)=false->Key.mk 2 oid count void.call void.rights void.value=cW kind
  oid count):=by
 unfold cW;exact⟨fun h=>by rw[ar (ak h)];rfl,fun h=>by rw[aq (aj h)];rfl⟩
theorem r7[Fen]:dq Tryz.prog 222 Wh:=
 Pm (gX .i64) (gX .i64) (gX .i64) (fun _ _ _=>rfl) fun i j k _ _ _=>bG (inl:=cg) (ann:=bj) aO (RH i j k) (by kernel_rfl)
theorem IZ(k v:Key):
 aw (aw (au (!decide (0<aK [])) (false=np [] k v/\1=bB [] k) (aw (au (!(bm [] k&&decide (k.kind=4))) (false=np [] k v/\190=bB [] k) (aw (au (!(decide ((ay [] k 0).kind=1)&&decide ((ay [] k 1).kind=1)&&decide (0<=(ay [] k 0).value)&&decide ((ay [] k 0).value<=(ay [] k 1).value)&&decide ((ay [] k 1).value<aK []))) (false=np [] k v/\220=bB [] k) (aw ((bm [] v&&(decide (v.kind=2)||decide (v.kind=3))&&decide ((ay [] k 0).value<=cw v)&&decide (cw v<=(ay [] k 1).value))=np [] k v/\0=bB [] k)))))))):=by
 delta au ay aw
 exact⟨rfl,rfl,fun h=>BM (HQ h) (by omega),fun h=>absurd h (by decide)⟩
theorem Kw(L:List Sx.Obj)(k v:Key):
 aw (aw (au (!decide (0<aK L)) (false=np L k v/\1=bB L k) (aw (au (!(bm L k&&decide (k.kind=4))) (false=np L k v/\190=bB L k) (aw (au (!(decide ((ay L k 0).kind=1)&&decide ((ay L k 1).kind=1)&&decide (0<=(ay L k 0).value)&&decide ((ay L k 0).value<=(ay L k 1).value)&&decide ((ay L k 1).value<aK L))) (false=np L k v/\220=bB L k) (aw ((bm L v&&(decide (v.kind=2)||decide (v.kind=3))&&decide ((ay L k 0).value<=cw v)&&decide (cw v<=(ay L k 1).value))=np L k v/\0=bB L k)))))))):=by
 delta au ay aw
 refine⟨rfl,rfl,fun h=>BM (HQ h) (by omega),fun h=>⟨rfl,fun h2=>BM (ZR h h2) (by omega),fun h2=>⟨rfl,fun h3=>BM (Yw h h2 h3) (by omega),fun h3=>⟨rfl,?_,(Rm h h2 h3).1.symm⟩⟩⟩⟩
 obtain⟨e,e1,e2⟩:=Rm h h2 h3;rw[e1,e2];unfold np kH;rw[e];cases hi:bm L v with
 |false=>simp
 |true=>
  cases hk:(decide (v.kind=2)||decide (v.kind=3))with
  |false=>simp
  |true=>
   have hn:cw v=v.oid:=WW hi;rw[hn];simp
theorem MH[Fen]:dq Tryz.prog 216 Ti:=
 kf (aZ sH KU) (fun _=>rfl) fun a hq hok=>by
  obtain⟨S,k,v,_⟩:=a;cases S with
  |none=>exact bk (inl:=(abE [205,204,206])) (ann:=bj) (aH bE (aH bT (aH dB aO))) aU (dT gD) (IZ k v) (by kernel_rfl)
  |some L=>exact bk (inl:=(abE [205,204,206])) (ann:=bj) (aH bE (aH bT (aH dB aO))) aU (dT gD) (Kw L k v) (by kernel_rfl)
theorem OL(k v:Key):
 aw (aw (au (!decide (0<aK [])) (1=eG [] k v) (aw (au (!(bm [] k&&decide (k.kind=4))) (190=eG [] k v) (aw (au (!(decide ((ay [] k 0).kind=1)&&decide ((ay [] k 1).kind=1)&&decide (0<=(ay [] k 0).value)&&decide ((ay [] k 0).value<=(ay [] k 1).value)&&decide ((ay [] k 1).value<aK []))) (220=eG [] k v) (aw (aw (au (!(bm [] v&&(decide (v.kind=2)||decide (v.kind=3)))) (5=eG [] k v) (aw (aw (au (!(decide ((ay [] k 0).value<=v.oid)&&decide (v.oid<=(ay [] k 1).value)&& !decide (v.oid=k.oid))) (4=eG [] k v) (aw (aw (0=eG [] k v))))))))))))))):=by
 delta au ay aw
 exact⟨rfl,rfl,fun h=>(sV (qD (HQ h) (by omega)) (by omega)).1,fun h=>absurd h (by decide)⟩
theorem L6(k v:Key):
 aw (aw (au (!decide (0<aK [])) (1=eG [] k v) (aw (au (!(bm [] k&&decide (k.kind=4))) (190=eG [] k v) (aw (au (!(decide ((ay [] k 0).kind=1)&&decide ((ay [] k 1).kind=1)&&decide (0<=(ay [] k 0).value)&&decide ((ay [] k 0).value<=(ay [] k 1).value)&&decide ((ay [] k 1).value<aK []))) (220=eG [] k v) (aw (aw (au (!(bm [] v&&(decide (v.kind=2)||decide (v.kind=3)))) (5=eG [] k v) (aw (aw (au (!(decide ((ay [] k 0).value<=v.oid)&&decide (v.oid<=(ay [] k 1).value)&& !decide (v.oid=k.oid))) (4=eG [] k v) (aw (aw False)))))))))))))):=by
 delta au ay aw
 exact⟨rfl,rfl,fun h=>(sV (qD (HQ h) (by omega)) (by omega)).1,fun h=>absurd h (by decide)⟩
theorem Ts(L:List Sx.Obj)(k v:Key)(hL:aP L):
 aw (aw (au (!decide (0<aK L)) (1=eG L k v/\L=jO L k v) (aw (au (!(bm L k&&decide (k.kind=4))) (190=eG L k v/\L=jO L k v) (aw (au (!(decide ((ay L k 0).kind=1)&&decide ((ay L k 1).kind=1)&&decide (0<=(ay L k 0).value)&&decide ((ay L k 0).value<=(ay L k 1).value)&&decide ((ay L k 1).value<aK L))) (220=eG L k v/\L=jO L k v) (aw (aw (au (!(bm L v&&(decide (v.kind=2)||decide (v.kind=3)))) (5=eG L k v/\L=jO L k v) (aw (aw (au (!(decide ((ay L k 0).value<=v.oid)&&decide (v.oid<=(ay L k 1).value)&& !decide (v.oid=k.oid))) (4=eG L k v/\L=jO L k v) (aw (aw (0=eG L k v/\cM L v.oid (Obj.mk free.kind (aS L v.oid).count free.calls free.slots free.bytes)=jO L k v))))))))))))))):=by
 delta au ay aw
 refine⟨rfl,rfl,fun h=>sV (qD (HQ h) (by omega)) (by omega),fun h=>⟨rfl,fun h2=>sV (qD (ZR h h2) (by omega)) (by omega),fun h2=>⟨rfl,fun h3=>sV (qD (Yw h h2 h3) (by omega)) (by omega),fun h3=>⟨rfl,rfl,fun h4=>?_,fun h4=>⟨rfl,rfl,fun h5=>?_,fun h5=>⟨rfl,rfl,?_⟩⟩⟩⟩⟩⟩
 ·obtain⟨e,e1,e2⟩:=Rm h h2 h3;have ht:kH L v=false:=by have h4':(!kH L v)=true:=h4;simpa using h4'
  exact sV (by unfold eG;rw[ar e,ht];rfl) (by omega)
 ·obtain⟨e,e1,e2⟩:=Rm h h2 h3;have ht:kH L v=true:=by have h4':(!kH L v)=false:=h4;simpa using h4'
  rw[e1,e2]at h5
  exact sV (by
   unfold eG;rw[ar e,ht,ar rfl,aq];intro hh;simp only[Bool.not_eq_true',Bool.and_eq_false_iff,Bool.not_eq_false',decide_eq_false_iff_not,ah]at h5;omega) (by omega)
 ·obtain⟨e,e1,e2⟩:=Rm h h2 h3;have ht:kH L v=true:=by have h4':(!kH L v)=false:=h4;simpa using h4'
  rw[e1,e2]at h5
  have hE:eG L k v=0:=by
   unfold eG;rw[ar e,ht,ar rfl,ar];simp only[Bool.not_eq_false',af,Bool.not_eq_true',ah,decide_eq_false_iff_not]at h5;omega
  obtain⟨_,b2,b3,_⟩:=fC (Ms ht);rw[fH b2 b3];refine⟨hE.symm,?_⟩;unfold jO;rw[ar hE];exact(lu b2 b3 (xc (dH hL v.oid.toNat (by omega)))).1
theorem TG[Fen](L:List Sx.Obj)(k v:Key)(hL:aP L):aL Tryz.prog 156 [.lp 0 0,.key k,.key v] [.store tS eS L] (z6 (.it .i64 (eG L k v)) (jO L k v)) (fun _ _=>False):=
 bk (inl:=(abE [205,204,206,207,208])) (ann:=bj) (aH bE (aH bT (aH eT aO))) (aV dv aU) (dT gD) (Ts L k v hL) (by kernel_rfl)
theorem RJ[Fen]:k7 Tryz.prog 156 Xd:=
 na (m:=fun x=>kkB.cn x 0) (ow KU (fun _=>rfl)) (fun _=>rfl) (fun _ _=>rfl) (fun x=>bk (inl:=(abE [205,204,206,207,208])) (ann:=bj) (aH bE (aH bT (aH eT aO))) (aV dv aU) (dT gD) (OL x.1 x.2.1) (by kernel_rfl)) (fun x=>bk (inl:=(abE [205,204,206,207,208])) (ann:=bj) (aH bE (aH bT (aH eT aO))) (aV dv aU) (dT gD) (L6 x.1 x.2.1) (by kernel_rfl)) fun L x hL _ _=>TG L x.1 x.2.1 hL
theorem I6(k:Key):
 aw (aw (au (!decide (0<aK [])) (0=ju [] k/\1=bB [] k) (aw (au (!(bm [] k&&decide (k.kind=4))) (0=ju [] k/\190=bB [] k) (aw (au (!(decide ((ay [] k 0).kind=1)&&decide ((ay [] k 1).kind=1)&&decide (0<=(ay [] k 0).value)&&decide ((ay [] k 0).value<=(ay [] k 1).value)&&decide ((ay [] k 1).value<aK []))) (0=ju [] k/\220=bB [] k) (aw (aw (∀(r0:Loop),False))))))))):=by
 delta au ay aw
 exact⟨rfl,rfl,fun h=>(yM (HQ h) (by omega)).1,fun h=>absurd h (by decide)⟩
theorem JU(k:Key):
 aw (aw (au (!decide (0<aK [])) (0=ju [] k/\1=bB [] k) (aw (au (!(bm [] k&&decide (k.kind=4))) (0=ju [] k/\190=bB [] k) (aw (au (!(decide ((ay [] k 0).kind=1)&&decide ((ay [] k 1).kind=1)&&decide (0<=(ay [] k 0).value)&&decide ((ay [] k 0).value<=(ay [] k 1).value)&&decide ((ay [] k 1).value<aK []))) (0=ju [] k/\220=bB [] k) (aw (aw (∀(r0:Loop),False))))))))):=by
 delta au ay aw
 exact⟨rfl,rfl,fun h=>(yM (HQ h) (by omega)).1,fun h=>absurd h (by decide)⟩
theorem My(L:List Sx.Obj)(k:Key)(hL:aP L):
 aw (aw (au (!decide (0<aK L)) ((0=ju L k/\1=bB L k)/\L=kD L k) (aw (au (!(bm L k&&decide (k.kind=4))) ((0=ju L k/\190=bB L k)/\L=kD L k) (aw (au (!(decide ((ay L k 0).kind=1)&&decide ((ay L k 1).kind=1)&&decide (0<=(ay L k 0).value)&&decide ((ay L k 0).value<=(ay L k 1).value)&&decide ((ay L k 1).value<aK L))) ((0=ju L k/\220=bB L k)/\L=kD L k) (aw (aw (∀(r0 :Loop),(∃g,r9 L k g/\(ay L k 0).value=g/\L=gH L (aX L k) g k.oid/\k=k/\0=iw L (aX L k) g k.oid/\k=k/\aG L k=aG L k/\k.oid=k.oid/\(ay L k 0).value=(ay L k 0).value/\(ay L k 1).value=(ay L k 1).value/\aG L k=aG L k/\ay L k 0=ay L k 0/\ay L k 1=ay L k 1/\aG L k=aG L k/\k.oid=k.oid/\(ay L k 0).value=(ay L k 0).value/\(ay L k 1).value=(ay L k 1).value/\aG L k=aG L k/\k.oid=k.oid/\(ay L k 0).value=(ay L k 0).value/\(ay L k 1).value=(ay L k 1).value/\r0=r0)/\∀(g:Int),r9 L k g->au (decide (g<=(ay L k 1).value)) (r0=r0/\r0=r0/\au (decide ((aS (gH L (aX L k) g k.oid) g).kind=1)||decide ((aS (gH L (aX L k) g k.oid) g).kind=2)) (aw (au (decide ((ay L k 0).value<=g)&&decide (g<=(ay L k 1).value)&& !decide (g=k.oid)) (aw (aw (az (iw L (aX L k) g k.oid+1)/\r0=r0/\az (g+1)/\∃g',r9 L k g'/\(ba L k+1-g').toNat<(ba L k+1- g).toNat/\g+1=g'/\cM (gH L (aX L k) g k.oid) g (Obj.mk free.kind (aS (gH L (aX L k) g k.oid) g).count free.calls free.slots free.bytes)=gH L (aX L k) g' k.oid/\k=k/\iw L (aX L k) g k.oid+1=iw L (aX L k) g' k.oid/\k=k/\aG L k=aG L k/\k.oid=k.oid/\(ay L k 0).value=(ay L k 0).value/\(ay L k 1).value=(ay L k 1).value/\aG L k=aG L k/\ay L k 0=ay L k 0/\ay L k 1=ay L k 1/\aG L k=aG L k/\k.oid=k.oid/\(ay L k 0).value=(ay L k 0).value/\(ay L k 1).value=(ay L k 1).value/\aG L k=aG L k/\k.oid=k.oid/\(ay L k 0).value=(ay L k 0).value/\(ay L k 1).value=(ay L k 1).value/\r0=r0))) (r0=r0/\az (g+1)/\∃g',r9 L k g'/\(ba L k+1-g').toNat<(ba L k+1-g).toNat/\g+1=g'/\gH L (aX L k) g k.oid=gH L (aX L k) g' k.oid/\k=k/\iw L (aX L k) g k.oid=iw L (aX L k) g' k.oid/\k=k/\aG L k=aG L k/\k.oid=k.oid/\(ay L k 0).value=(ay L k 0).value/\(ay L k 1).value=(ay L k 1).value/\aG L k=aG L k/\ay L k 0=ay L k 0/\ay L k 1=ay L k 1/\aG L k=aG L k/\k.oid=k.oid/\(ay L k 0).value=(ay L k 0).value/\(ay L k 1).value=(ay L k 1).value/\aG L k=aG L k/\k.oid=k.oid/\(ay L k 0).value=(ay L k 0).value/\(ay L k 1).value=(ay L k 1).value/\r0=r0))) (r0=r0/\az (g+1)/\∃g',r9 L k g'/\(ba L k+1-g').toNat<(ba L k+1-g).toNat/\g+1=g'/\gH L (aX L k) g k.oid=gH L (aX L k) g' k.oid/\k=k/\iw L (aX L k) g k.oid=iw L (aX L k) g' k.oid/\k=k/\aG L k=aG L k/\k.oid=k.oid/\(ay L k 0).value=(ay L k 0).value/\(ay L k 1).value=(ay L k 1).value/\aG L k=aG L k/\ay L k 0=ay L k 0/\ay L k 1=ay L k 1/\aG L k=aG L k/\k.oid=k.oid/\(ay L k 0).value=(ay L k 0).value/\(ay L k 1).value=(ay L k 1).value/\aG L k=aG L k/\k.oid=k.oid/\(ay L k 0).value=(ay L k 0).value/\(ay L k 1).value=(ay L k 1).value/\r0=r0)) ((iw L (aX L k) g k.oid=ju L k/\0=bB L k)/\gH L (aX L k) g k.oid=kD L k)))))))))):=by
 delta au ay az aw
 refine⟨rfl,rfl,fun h=>yM (HQ h) (by omega),fun h=>⟨rfl,fun h2=>yM (ZR h h2) (by omega),fun h2=>⟨rfl,fun h3=>yM (Yw h h2 h3) (by omega),fun h3=>⟨rfl,rfl,fun r0=>?_⟩⟩⟩⟩
 obtain⟨e,e1,e2⟩:=Rm h h2 h3;obtain⟨_,a0,a1,a2,_⟩:=pn e;rw[e1,e2];have hlen:=jC hL;have hin:∀g:Int,aX L k<=g->g<=ba L k->bg IntKind.i64 (g+1):=fun g h1 h2=>by simp only[bg,ck];omega
 have hnn:∀g:Int,bg IntKind.i64 (iw L (aX L k) g k.oid+1):=fun g=>by
  have:=Fc (L:=L) (f:=aX L k) (g:=g) (oid:=k.oid);have:=XG (L:=L) (f:=aX L k) (g:=g) (oid:=k.oid);simp only[bg,ck];omega
 refine⟨⟨aX L k,⟨by omega,by omega⟩,rfl,ME,rfl,EI.symm,(by(repeat' apply And.intro)<;>rfl)⟩,fun g hg=>⟨fun hgl=>?_,fun hgl=>?_⟩⟩
 ·obtain⟨g0,g1⟩:=hg;have hgl:=ak hgl;have hgz:(gH L (aX L k) g k.oid).length=L.length:=Ii;have hgt:aS (gH L (aX L k) g k.oid) g=aM L g.toNat free:=by rw[fH (by omega) (by omega),Xh (by omega)]
  rw[hgt];refine⟨rfl,rfl,fun hk=>⟨rfl,fun hb=>?_,fun hb=>?_⟩,fun hk=>?_⟩
  ·have hne:¬g=k.oid:=by
    simp only[af,Bool.not_eq_true',decide_eq_false_iff_not]at hb;exact hb.2
   have hh:j6 L g k.oid=true:=by unfold j6 nm;rw[hk];simp[hne]
   have hs:=LY (L:=L) (f:=aX L k) (oid:=k.oid) (by omega:0<=g) (by omega) g0 hh
   have hs2:=Sw (L:=L) (f:=aX L k) (oid:=k.oid) (by omega:0<=g) (by omega) g0 hh
   have hp:=(lu (L:=gH L (aX L k) g k.oid) (i:=g) (by omega) (by omega) (hgz▸xc (dH hL g.toNat (by omega)))).1
   exact⟨rfl,rfl,hnn g,rfl,hin g g0 hgl,g+1,⟨by omega,by omega⟩,by omega,rfl,hp.trans hs2,rfl,hs.symm,(by(repeat' apply And.intro)<;>rfl)⟩
  ·have hh:j6 L g k.oid=false:=by
    have e3:decide (aX L k<=g)=true:=by simp;omega
    have e4:decide (g<=ba L k)=true:=by simp;omega
    rw[e3,e4]at hb;unfold j6;rw[Bool.and_eq_false_iff];right
    simpa using hb
   have hs:=EC (L:=L) (f:=aX L k) (oid:=k.oid) (by omega:0<=g) g0 hh
   have hs2:=Ds (L:=L) (f:=aX L k) (oid:=k.oid) (by omega:0<=g) g0 hh
   exact⟨rfl,hin g g0 hgl,g+1,⟨by omega,by omega⟩,by omega,rfl,hs2.symm,rfl,hs.symm,(by(repeat' apply And.intro)<;>rfl)⟩
  ·have hh:j6 L g k.oid=false:=by unfold j6 nm;rw[hk];rfl
   have hs:=EC (L:=L) (f:=aX L k) (oid:=k.oid) (by omega:0<=g) g0 hh
   have hs2:=Ds (L:=L) (f:=aX L k) (oid:=k.oid) (by omega:0<=g) g0 hh
   exact⟨rfl,hin g g0 hgl,g+1,⟨by omega,by omega⟩,by omega,rfl,hs2.symm,rfl,hs.symm,(by(repeat' apply And.intro)<;>rfl)⟩
 ·obtain⟨g0,g1⟩:=hg;have hgl:=aj hgl;have:g=ba L k+1:=by omega
  subst this;exact⟨⟨by unfold ju;rw[ar e],e.symm⟩,by unfold kD;rw[ar e]⟩
theorem P0[Fen](L:List Sx.Obj)(k:Key)(hL:aP L):aL Tryz.prog 217 [.lp 0 0,.key k] [.store tS eS L] (z6 (.tp [.it .i64 (ju L k),.it .i64 (bB L k)]) (kD L k)) (fun _ _=>False):=
 bk (inl:=(abE [205,204,207,208,210,1000000+223])) (ann:=(kb [(5000+223,1,lpT [0,1] (fun(g:Int)=> [(3,.it .i64 g)]) (fun g=> [(0,.store tS eS (gH L (aX L k) g k.oid)),(2,.blk 3 (.it .i64 (iw L (aX L k) g k.oid)))]) (r9 L k) (fun g=>mI (tQ (Ea (ba L k) 1) g)))])) (aH bE (aH bT (aH eT aO))) (aV dv aU) (dT gD) (My L k hL) (by kernel_rfl)
theorem OY[Fen]:k7 Tryz.prog 217 RQ:=
 na (m:=fun x=>kB.cn x 0) (ow YQ (fun _=>rfl)) (fun _=>rfl) (fun _ _=>rfl) (fun x=>bk (inl:=(abE [205,204,207,208,210,1000000+223])) (ann:=bj) (aH bE (aH bT (aH eT aO))) (aV dv aU) (dT gD) (I6 x.1) (by kernel_rfl)) (fun x=>bk (inl:=(abE [205,204,207,208,210,1000000+223])) (ann:=bj) (aH bE (aH bT (aH eT aO))) (aV dv aU) (dT gD) (JU x.1) (by kernel_rfl)) fun L x hL _ _=>P0 L x.1 hL
theorem I5(k:Key)(kind:Int):
 aw (aw (au (!decide (0<aK [])) (void=fm [] k kind/\1=ef [] k kind) (aw (au (!(bm [] k&&decide (k.kind=4))) (void=fm [] k kind/\190=ef [] k kind) (aw (au (!(decide ((ay [] k 0).kind=1)&&decide ((ay [] k 1).kind=1)&&decide (0<=(ay [] k 0).value)&&decide ((ay [] k 0).value<=(ay [] k 1).value)&&decide ((ay [] k 1).value<aK []))) (void=fm [] k kind/\220=ef [] k kind) (aw (au (!(decide (kind=1)||decide (kind=2))) (void=fm [] k kind/\2=ef [] k kind) (aw (aw (aw (∀(r0:Loop),False)))))))))))):=by
 delta au ay aw
 exact⟨rfl,rfl,fun h=>(vS (qM (HQ h) (by omega)) (by omega)).1,fun h=>absurd h (by decide)⟩
theorem JA(k:Key)(kind:Int):
 aw (aw (au (!decide (0<aK [])) (void=fm [] k kind/\1=ef [] k kind) (aw (au (!(bm [] k&&decide (k.kind=4))) (void=fm [] k kind/\190=ef [] k kind) (aw (au (!(decide ((ay [] k 0).kind=1)&&decide ((ay [] k 1).kind=1)&&decide (0<=(ay [] k 0).value)&&decide ((ay [] k 0).value<=(ay [] k 1).value)&&decide ((ay [] k 1).value<aK []))) (void=fm [] k kind/\220=ef [] k kind) (aw (au (!(decide (kind=1)||decide (kind=2))) (void=fm [] k kind/\2=ef [] k kind) (aw (aw (aw (∀(r0:Loop),False)))))))))))):=by
 delta au ay aw
 exact⟨rfl,rfl,fun h=>(vS (qM (HQ h) (by omega)) (by omega)).1,fun h=>absurd h (by decide)⟩
theorem Pk(L:List Sx.Obj)(k:Key)(kind:Int)(hL:aP L):
 aw (aw (au (!decide (0<aK L)) ((void=fm L k kind/\1=ef L k kind)/\L=gA L k kind) (aw (au (!(bm L k&&decide (k.kind=4))) ((void=fm L k kind/\190=ef L k kind)/\L=gA L k kind) (aw (au (!(decide ((ay L k 0).kind=1)&&decide ((ay L k 1).kind=1)&&decide (0<=(ay L k 0).value)&&decide ((ay L k 0).value<=(ay L k 1).value)&&decide ((ay L k 1).value<aK L))) ((void=fm L k kind/\220=ef L k kind)/\L=gA L k kind) (aw (au (!(decide (kind=1)||decide (kind=2))) ((void=fm L k kind/\2=ef L k kind)/\L=gA L k kind) (aw (aw (aw (∀(r0:Loop),(∃g,jb L k g/\(ay L k 0).value=g/\L=cA L (aX L k) g/\k=k/\void=void/\k=k/\aG L k=aG L k/\k.oid=k.oid/\(ay L k 0).value=(ay L k 0).value/\(ay L k 1).value=(ay L k 1).value/\aG L k=aG L k/\ay L k 0=ay L k 0/\ay L k 1=ay L k 1/\aG L k=aG L k/\k.oid=k.oid/\(ay L k 0).value=(ay L k 0).value/\(ay L k 1).value=(ay L k 1).value/\aG L k=aG L k/\k.oid=k.oid/\(ay L k 0).value=(ay L k 0).value/\(ay L k 1).value=(ay L k 1).value/\kind=kind/\void=void/\false=false/\aG L k=aG L k/\k.oid=k.oid/\(ay L k 0).value=(ay L k 0).value/\(ay L k 1).value=(ay L k 1).value/\r0=r0)/\∀(g:Int),jb L k g->au (decide (g<=(ay L k 1).value)) (r0=r0/\r0=r0/\au (!decide ((aS (cA L (aX L k) g) g).kind=0)) (r0=r0/\az (g+1)/\∃g',jb L k g'/\(ba L k+1-g').toNat<(ba L k+1-g).toNat/\g+1=g'/\cA L (aX L k) g=cA L (aX L k) g'/\k=k/\void=void/\k=k/\aG L k=aG L k/\k.oid=k.oid/\(ay L k 0).value=(ay L k 0).value/\(ay L k 1).value=(ay L k 1).value/\aG L k=aG L k/\ay L k 0=ay L k 0/\ay L k 1=ay L k 1/\aG L k=aG L k/\k.oid=k.oid/\(ay L k 0).value=(ay L k 0).value/\(ay L k 1).value=(ay L k 1).value/\aG L k=aG L k/\k.oid=k.oid/\(ay L k 0).value=(ay L k 0).value/\(ay L k 1).value=(ay L k 1).value/\kind=kind/\void=void/\false=false/\aG L k=aG L k/\k.oid=k.oid/\(ay L k 0).value=(ay L k 0).value/\(ay L k 1).value=(ay L k 1).value/\r0=r0) (au (decide ((aS (cA L (aX L k) g) g).count=4294967295)) (aw (r0=r0/\az (g+1)/\∃g',jb L k g'/\(ba L k+1-g').toNat<(ba L k+1-g).toNat/\g+1=g'/\cM (cA L (aX L k) g) g (Obj.mk 3 (aS (cA L (aX L k) g) g).count free.calls free.slots free.bytes)=cA L (aX L k) g'/\k=k/\void=void/\k=k/\aG L k=aG L k/\k.oid=k.oid/\(ay L k 0).value=(ay L k 0).value/\(ay L k 1).value=(ay L k 1).value/\aG L k=aG L k/\ay L k 0=ay L k 0/\ay L k 1=ay L k 1/\aG L k=aG L k/\k.oid=k.oid/\(ay L k 0).value=(ay L k 0).value/\(ay L k 1).value=(ay L k 1).value/\aG L k=aG L k/\k.oid=k.oid/\(ay L k 0).value=(ay L k 0).value/\(ay L k 1).value=(ay L k 1).value/\kind=kind/\void=void/\false=false/\aG L k=aG L k/\k.oid=k.oid/\(ay L k 0).value=(ay L k 0).value/\(ay L k 1).value=(ay L k 1).value/\r0=r0)) (az ((aS (cA L (aX L k) g) g).count+1)/\aw (az ((aS (cA L (aX L k) g) g).count+1)/\r0=r0/\aw ((cW kind g ((aS (cA L (aX L k) g) g).count+1)=fm L k kind/\0=ef L k kind)/\cM (cA L (aX L k) g) g (Obj.mk kind ((aS (cA L (aX L k) g) g).count+1) free.calls free.slots free.bytes)=gA L k kind))))) (aw ((void=fm L k kind/\221=ef L k kind)/\cA L (aX L k) g=gA L k kind)))))))))))))):=by
 delta au ay az aw
 refine⟨rfl,rfl,fun h=>vS (qM (HQ h) (by omega)) (by omega),fun h=>⟨rfl,fun h2=>vS (qM (ZR h h2) (by omega)) (by omega),fun h2=>⟨rfl,fun h3=>vS (qM (Yw h h2 h3) (by omega)) (by omega),fun h3=>⟨rfl,fun h4=>vS (KR (Rm h h2 h3).1 h4) (by omega),fun h4=>⟨rfl,rfl,rfl,fun r0=>?_⟩⟩⟩⟩⟩
 obtain⟨e,e1,e2⟩:=Rm h h2 h3;obtain⟨_,a0,a1,a2,_⟩:=pn e;rw[e1,e2]
 have hk:kind=1\/kind=2:=by
  simp only[Bool.not_eq_false',Bool.or_eq_true,ah]at h4;exact h4
 have hlen:=jC hL;have hin:∀g:Int,aX L k<=g->g<=ba L k->bg IntKind.i64 (g+1):=fun g h1 h2=>by simp only[bg,ck];omega
 have hcnt:∀j:Nat,j<L.length->0<=(aM L j free).count/\(aM L j free).count<=4294967295:=fun j hj=>⟨(kE (dH hL j hj)).1,(kE (dH hL j hj)).2.1⟩
 have hci:∀j:Nat,j<L.length->bg IntKind.i64 ((aM L j free).count+1):=fun j hj=>by have:=hcnt j hj;simp only[bg,ck];omega
 refine⟨⟨aX L k,⟨by omega,by omega,xD⟩,rfl,D3,(by(repeat' apply And.intro)<;>rfl)⟩,fun g hg=>⟨fun hgl=>?_,fun hgl=>?_⟩⟩
 ·obtain⟨g0,g1,g2⟩:=hg;have hgl:=ak hgl;have hgn:g.toNat<L.length:=by omega
  have hgz:(cA L (aX L k) g).length=L.length:=my;have hgt:aS (cA L (aX L k) g) g=aM L g.toNat free:=by rw[fH (by omega) (by omega),Gm (by omega)]
  rw[hgt];refine⟨rfl,rfl,fun hk0=>?_,fun hk0=>⟨fun hc=>?_,fun hc=>?_⟩⟩
  ·obtain⟨f1,f2⟩:=GD (o:=aM L g.toNat free) (by simpa using hk0)
   exact⟨rfl,hin g g0 hgl,g+1,⟨by omega,by omega,o7 g2 f2⟩,by omega,rfl,(EG (by omega) f1).symm,(by(repeat' apply And.intro)<;>rfl)⟩
  ·obtain⟨f1,f2⟩:=Mp (o:=aM L g.toNat free) (by simpa using hk0) (by have:=ak hc;omega)
   have hp:=(lu (L:=cA L (aX L k) g) (i:=g) (by omega) (by omega) (hgz▸Cm (dH hL g.toNat hgn))).1
   exact⟨rfl,rfl,hin g g0 hgl,g+1,⟨by omega,by omega,o7 g2 f2⟩,by omega,rfl,hp.trans (HB (by omega) (by omega) g0 f1),(by(repeat' apply And.intro)<;>rfl)⟩
  ·have hc:=aj hc;have:=hcnt _ hgn;obtain⟨f1,f2⟩:=MF (o:=aM L g.toNat free) (by simpa using hk0) (by omega)
   obtain⟨m1,m2,m3⟩:=GX kind a0 g0 hgl (by omega) g2 f2
   obtain⟨n1,n2,n3,n4⟩:=Qy (kind:=kind) e hk (by rw[m1];omega)
   have hp:=(lu (L:=cA L (aX L k) g) (i:=g) (by omega) (by omega) (hgz▸Cg (dH hL g.toNat hgn) f2 hk)).1
   refine⟨hci _ hgn,rfl,hci _ hgn,rfl,rfl,⟨?_,n3⟩,hp.trans (m3.symm.trans n4)⟩;have hK:fm L k kind=cW kind (fT L (aX L k) (ba L k)) ((aM L (fT L (aX L k) (ba L k)).toNat free).count+1):=by unfold fm;rw[ar n3.symm]
   rw[hK,m1]
 ·obtain⟨g0,g1,g2⟩:=hg;have hgl:=aj hgl;have:g=ba L k+1:=by omega
  subst this;obtain⟨m1,m2,m3⟩:=Ob kind g2;obtain⟨n1,n2,n3,n4⟩:=M5 (kind:=kind) e hk m1;exact⟨rfl,⟨n2,n3⟩,m2.symm.trans n4⟩
theorem Nn[Fen](L:List Sx.Obj)(k:Key)(kind:Int)(hL:aP L):aL Tryz.prog 202 [.lp 0 0,.key k,.it .i64 kind] [.store tS eS L] (z6 (.tp [.key (fm L k kind),.it .i64 (ef L k kind)]) (gA L k kind)) (fun _ _=>False):=
 bk (inl:=(abE [205,204,209,210,1000000+223])) (ann:=(kb [(3000+223,1,Vm [0,1] (fun g=> [(3,.it .i64 g)]) 0 (fun g=> .store tS eS (cA L (aX L k) g)) (jb L k) (Ea (ba L k) 1))])) (aH bE (aH bT (aH eT (aH r7 aO)))) (aV dv aU) (dT gD) (Pk L k kind hL) (by kernel_rfl)
theorem D4[Fen]:k7 Tryz.prog 202 S8:=
 na (m:=fun x=>Z5.cn x 0) (ow Ov (fun _=>rfl)) (fun _=>rfl) (fun _ _=>rfl) (fun x=>bk (inl:=(abE [205,204,209,210,1000000+223])) (ann:=bj) (aH bE (aH bT (aH eT (aH r7 aO)))) (aV dv aU) (dT gD) (I5 x.1 x.2.1) (by kernel_rfl)) (fun x=>bk (inl:=(abE [205,204,209,210,1000000+223])) (ann:=bj) (aH bE (aH bT (aH eT (aH r7 aO)))) (aV dv aU) (dT gD) (JA x.1 x.2.1) (by kernel_rfl)) fun L x hL _ _=>Nn L x.1 x.2.1 hL
theorem VZ[Fen]{P:Program}{f:Nat}{g g':Ct}(h:dq P f g)(ha:∀res nid args q x new,g' res nid args=some (q,x,new)->∃x0,g res nid args=some (q,x0,new)/\(∀J,den J x=den J x0)/\∀K,ok K x0->ok K x):dq P f g':=by
 intro J fps res K w0 F0 w nid args q x new hH hargs hg hq hfr;obtain⟨x0,h1,h2,h3⟩:=ha res nid args q x new hg;obtain⟨c1,c2⟩:=h J fps res K w0 F0 w nid args q x0 new hH hargs h1 hq hfr;refine⟨c1.mono fun e w' ⟨v,he,hv⟩=>⟨v,he,?_⟩,c2⟩
 obtain⟨ρ',hgr,hv,hx⟩:=hv;exact⟨ρ',hgr,by rw[h2];exact hv,h3 _ hx⟩
theorem uH[Fen]:dq Tryz.prog 45 Hg:=by
 refine VZ ph fun res nid args q x new h=>?_
 unfold Hg at h;split at h
 ·rename_i a;split at h
  ·rename_i o L hr;split at h
   ·simp only[aa,ae]at h;obtain⟨rfl,rfl,rfl⟩:=h
    have hL:L= []:=by
     rcases tO hr with⟨_,rfl,_⟩|⟨k,h,_⟩
     ·rfl
     ·simp at h
    subst hL;exact⟨.bo (bN []),by unfold Ge XL;simp only[hr],fun J=>by simp[den,se],fun _ _=>trivial⟩
   ·simp only[aa,ae]at h;obtain⟨rfl,rfl,rfl⟩:=h;exact⟨.bo (bN L),by unfold Ge XL;simp only[hr],fun J=>rfl,fun _ h=>h⟩
  ·simp at h
 ·simp at h
theorem LZ:
 Value.pointer none=Value.pointer none:=by
 rfl
theorem PE[Fen]:aL Tryz.prog 35 [jZ] [] (qh jZ) (fun _ _=>False):=bG (inl:=cg) (ann:=bj) (aH uH aO) LZ (by kernel_rfl)
theorem Kx(L:List Sx.Obj)(hL:L.length<=1000):
 au (bN L) (bN L=true) ((∃g,pw L g/\Value.pointer none=Value.pointer none/\bK (aJ L)=bK (aJ L)/\0=g/\L=L/\[]=lh L g)/\∀(g:Int),pw L g->au (decide (g<bK (aJ L))) ((0<=g/\g< ↑(aJ L))/\g.toNat<aJ L/\g.toNat<aJ L/\jU (aJ (lh L g)) 8/\bg IntKind.i64 (g+1)/\∃g',pw L g'/\(bK (aJ L)-g').toNat<(bK (aJ L)-g).toNat/\Value.pointer none=Value.pointer none/\bK (aJ L)=bK (aJ L)/\g+1=g'/\L=L/\cE (lh L g) (aM L g.toNat free)=lh L g') (bN L=false/\lh L g=L)):=by
 delta au
 refine⟨fun h=>h,fun h=>⟨⟨0,⟨by omega,by omega⟩,rfl,rfl,rfl,rfl,rfl⟩,fun g hg=>⟨fun hlt=>?_,fun hge=>?_⟩⟩⟩
 ·obtain⟨g0,g1⟩:=hg;have hlt:g<bK (aJ L):=ak hlt;have hn:=gG L;have hle:=lO L;rw[hn]at hlt⊢;have ht:=KF (L:=L) (g:=g);exact⟨⟨g0,by omega⟩,by omega,by omega,Ic (by omega),by simp only[bg,ck];omega,g+1,⟨by omega,by omega⟩,by omega,rfl,rfl,rfl,rfl,Qe g0 hlt⟩
 ·obtain⟨g0,g1⟩:=hg;have hge:¬g<bK (aJ L):=aj hge;rw[gG]at hge;exact⟨h,LD (by omega)⟩
theorem Lu{L:List Sx.Obj}(hb:bN L=true){v:V}{r:List aQ}(h:EO L v r):uZ jZ v []:=by
 unfold EO at h;split at h
 ·split at h
  ·exact fun J K=>sq.refl _ _ _
  ·exact h.elim
 ·split at h
  ·split at h
   ·rw[hb]at h;simp at h
   ·exact h.elim
  ·exact h.elim
 ·exact h.elim
theorem J8{L:List Sx.Obj}(hb:bN L=false){v:V}{r:List aQ}(h:EO L v r):∃j r',1<=j/\(r'=r\/tx r j=some r')/\aN r' j= .store tS eS L/\∀(κ:Nat->Option Nat) (i:Nat),κ j=some i->jS κ v (.lp i 0):=by
 unfold EO at h;split at h
 ·split at h
  ·rw[hb]at h;simp at h
  ·exact h.elim
 ·split at h
  ·rename_i j off _ t e M hst;split at h
   ·rename_i hc;simp only[af,ai,Nat.ble_eq]at hc;obtain⟨⟨⟨rfl,rfl⟩,rfl⟩,hj⟩:=hc;obtain⟨_,rfl⟩:=h;have ht:∀(κ:Nat->Option Nat) (i:Nat),κ j=some i->jS κ (.lp j 0) (.lp i 0):=fun κ i hi ρ2 ρ3 N N' hv hN hk=>⟨by simp only[den,(hv j i hi).1],hN j i hi hk⟩
    rcases C4 hst with h1|⟨r',h1,h2⟩
    ·exact⟨j,r,hj,.inl rfl,h1,ht⟩
    ·exact⟨j,r',hj,.inr h1,h2,ht⟩
   ·exact h.elim
  ·exact h.elim
 ·exact h.elim
theorem TN{L M:List Sx.Obj}(hb:jK L M=true){v:V}{r:List aQ}(h:KJ L M v r):uZ Ui v []:=by
 unfold KJ at h;split at h
 ·split at h
  ·exact fun J K=>sq.refl _ _ _
  ·exact h.elim
 ·split at h
  ·split at h
   ·split at h
    ·split at h
     ·split at h
      ·rw[hb]at h;simp at h
      ·exact h.elim
     ·exact h.elim
    ·exact h.elim
   ·exact h.elim
  ·exact h.elim
 ·exact h.elim
theorem KA{L M:List Sx.Obj}(hb:jK L M=false){v:V}{r:List aQ}(h:KJ L M v r):∃j,2<=j/\aN r j= .arr (some tI) 1 (.it .i64 (dE L M))/\∀(κ:Nat->Option Nat) (i:Nat),κ j=some i->jS κ v (.sa i):=by
 unfold KJ at h;split at h
 ·split at h
  ·rw[hb]at h;simp at h
  ·exact h.elim
 ·split at h
  ·rename_i hj;split at h
   ·split at h
    ·split at h
     ·split at h
      ·rename_i hc;simp only[af,ai,Nat.ble_eq]at hc;obtain⟨⟨rfl,rfl⟩,hj2⟩:=hc;obtain⟨_,rfl⟩:=h;exact⟨_,hj2,hj,fun κ i hi ρ2 ρ3 N N' hv hN hk=>⟨by simp only[den,(hv _ i hi).2.1,(hv _ i hi).2.2.2.1,(hv _ i hi).2.2.2.2.1],hN _ i hi hk⟩⟩
      ·exact h.elim
     ·exact h.elim
    ·exact h.elim
   ·exact h.elim
  ·exact h.elim
 ·exact h.elim
theorem Dd[Fen](L:List Sx.Obj)(hL:L.length<=1000):aL Tryz.prog 35 [.lp 0 0] [.ro (.blk tS (.ag [.sa 1])),.ro (.obs eS 2 L),.gen 1] (EO L) (fun _ _=>False):=bG (inl:=cg) (ann:=(kb [(35,5,lpB [0,2,3,14,15] (fun g=> [(16,.it .i64 g)]) 3 tS eS (lh L) (pw L) (bK (aJ L)))])) (aH uH aO) (Kx L hL) (by kernel_rfl)
theorem xx[Fen]:k7 Tryz.prog 35 Ku:=by
 intro args res K KP h;unfold Ku at h;split at h
 ·split at h
  ·split at h
   ·exact aL.pure rfl rfl (PE.mono (fun _ _ h=>dI h) fun _ _ h=>h) h
   ·exact h.elim
  ·rename_i k off;split at h
   ·rename_i hoff;have hoff:=ai.1 hoff;subst hoff;split at h
    ·rename_i t e L hr;split at h
     ·rename_i hc;simp only[af,ai]at hc;obtain⟨rfl,rfl⟩:=hc;obtain⟨hL,h1,h2⟩:=h;have hk:=ew hr (by simp)
      have hlt:=aW hk;have hres:fg (kT 0 (dJ [(k,false)])) res [(k,false)]= [.ro (.store tS eS L)]:=by simp[fg,hr,gd]
      cases hb:bN L with
      |true=>
       refine aL.Xs (pl:= [(k,false)]) (x:=jZ) (args0:= [.lp 0 0]) (by simp[eO,cB.2 hk]) (by simpa[jc,dJ,pb]using hlt) (by simp) (by simp[eF,fy,kT,idxOf,dJ]) rfl ?_ (h1 hb)
       rw[hres];exact(aL.e9 (k:=0) rfl (Dd L hL)).mono (fun v r hv=>Lu hb hv) fun _ _ h=>h
      |false=>
       refine aL.Yq (pl:= [(k,false)]) (new:= .store tS eS L) (F:=fun j=> .lp j 0) (args0:= [.lp 0 0]) (by simp[eO,cB.2 hk]) (by simpa[jc,dJ,pb]using hlt) (by simp) (by simp[eF,fy,kT,idxOf,dJ]) rfl (by simp) (fun κ=>rfl) ?_ (h2 hb)
       rw[hres];refine aL.e9 (k:=0) rfl (aL.shut (Dd L hL) fun v r hv=>?_)
       obtain⟨j,r',hj,h1,h2,h3⟩:=J8 hb hv;rcases h1 with rfl|h1
       ·exact .inl ⟨j,hj,h2,h3⟩
       ·exact .inr ⟨j,r',h1,j,hj,h2,h3⟩
     ·exact h.elim
    ·exact h.elim
   ·exact h.elim
  ·exact h.elim
 ·exact h.elim
theorem Rs(L:List Sx.Obj):
 Value.slice none 0 0=Value.slice none 0 0:=by
 rfl
theorem QO[Fen](L:List Sx.Obj):aL Tryz.prog 215 [jZ,.lp 0 0] [.ro (.store tS eS L)] (qh Ui) (fun _ _=>False):=bG (inl:=cg) (ann:=bj) (aH uH aO) (Rs L) (by kernel_rfl)
theorem S3(L M:List Sx.Obj)(hL:L.length<=1000):
 au (bN L||bN M|| !decide (bK (aJ L)=bK (aJ M))) (jK L M=true) (true=true/\true=true/\∀(r0:Loop),(∃g,pw L g/\bK (aJ L)=bK (aJ L)/\0=g/\L=L/\M=M/\r0=r0/\[]=gZ L M g)/\∀(g:Int),pw L g->au (decide (g<bK (aJ L))) ((0<=g/\g< ↑(aJ L))/\g.toNat<aJ L/\g.toNat<aJ L/\(0<=g/\g< ↑(aJ M))/\g.toNat<aJ M/\g.toNat<aJ M/\au (!Cv (aM L g.toNat free) (aM M g.toNat free)) (r0=r0/\r0=r0/\jU (aJ (gZ L M g)) 8/\r0=r0/\az (g+1)/\∃g',pw L g'/\(bK (aJ L)-g').toNat<(bK (aJ L)-g).toNat/\bK (aJ L)=bK (aJ L)/\g+1=g'/\L=L/\M=M/\r0=r0/\cE (gZ L M g) g=gZ L M g') (az (g+1)/\∃g',pw L g'/\(bK (aJ L)-g').toNat<(bK (aJ L)-g).toNat/\bK (aJ L)=bK (aJ L)/\g+1=g'/\L=L/\M=M/\r0=r0/\gZ L M g=gZ L M g')) (jK L M=false/\gZ L M g=dE L M)):=by
 delta au az
 refine⟨fun h=>h,fun h=>⟨rfl,rfl,fun r0=>?_⟩⟩
 have hlm:L.length=M.length:=by
  have h2:((bN L||bN M)|| !decide (bK (aJ L)=bK (aJ M)))=false:=h
  rw[Bool.or_eq_false_iff]at h2;have h3:=h2.2;rw[gG,gG]at h3;have h4:(L.length:Int)=(M.length:Int):=by simpa using h3
  omega
 have hn:=gG L;have hle:=lO L;have hle2:=lO M;refine⟨⟨0,⟨by omega,by omega⟩,rfl,rfl,rfl,rfl,rfl,rfl⟩,fun g hg=>⟨fun hlt=>?_,fun hge=>?_⟩⟩
 obtain⟨g0,g1⟩:=hg;have hlt:g<bK (aJ L):=ak hlt;rw[hn]at hlt⊢;have ht:=LG (L:=L) (M:=M) (g:=g);have hr:bg IntKind.i64 (g+1):=by simp only[bg,ck];omega
 exact⟨⟨g0,by omega⟩,by omega,by omega,⟨g0,by omega⟩,by omega,by omega,fun h=>⟨rfl,rfl,Ic (by omega),rfl,hr,g+1,⟨by omega,by omega⟩,by omega,rfl,rfl,rfl,rfl,rfl,NL g0 h⟩,fun h=>⟨hr,g+1,⟨by omega,by omega⟩,by omega,rfl,rfl,rfl,rfl,rfl,Ta g0 h⟩⟩
 obtain⟨g0,g1⟩:=hg;have hge:¬g<bK (aJ L):=aj hge;rw[hn]at hge;exact⟨h,by unfold dE;rw[show g=(aJ L:Int) by omega]⟩
theorem GY[Fen](L M:List Sx.Obj)(hL:L.length<=1000):aL Tryz.prog 215 [.lp 0 0,.lp 1 0] [.ro (.blk tS (.ag [.sa 2])),.ro (.blk tS (.ag [.sa 4])),.ro (.obs eS 3 L),.gen 2,.ro (.obs eS 5 M),.gen 4] (KJ L M) (fun _ _=>False):=bG (inl:=(abE [215,224])) (ann:=(kb [(6000+226,1,lpV [0,1,2,6] (fun g=> [(7,.it .i64 g)]) 6 32 tI 1 (fun g=> .it .i64 (gZ L M g)) (pw L) (bK (aJ L)))])) (aH uH aO) (S3 L M hL) (by kernel_rfl)
theorem GA[Fen]:k7 Tryz.prog 215 UC:=by
 intro args res K KP h;unfold UC at h;split at h
 ·rename_i a b;split at h
  ·rename_i j off;split at h
   ·rename_i hoff;have hoff:=ai.1 hoff;subst hoff;split at h
    ·rename_i t e M hr;split at h
     ·rename_i hc;simp only[af,ai]at hc;obtain⟨rfl,rfl⟩:=hc;have hj:=ew hr (by simp)
      have hjl:=aW hj;split at h
      ·split at h
       ·have hres:fg (kT 0 (dJ [(j,false)])) res [(j,false)]= [.ro (.store tS eS M)]:=by simp[fg,hr,gd]
        refine aL.Xs (pl:= [(j,false)]) (x:=Ui) (args0:= [jZ,.lp 0 0]) (by simp[eO,cB.2 hj]) (by simpa[jc,dJ,pb]using hjl) (by simp) (by simp[eF,fy,kT,idxOf,dJ,jZ]) rfl ?_ h
        rw[hres];exact(QO M).mono (fun _ _ h=>dI h) fun _ _ h=>h
       ·exact h.elim
      ·rename_i k off';split at h
       ·rename_i hoff;simp only[af,ai,Bool.not_eq_true',beq_eq_false_iff_ne]at hoff;obtain⟨rfl,hkj⟩:=hoff;split at h
        ·rename_i t' e' L hrk;split at h
         ·rename_i hc;simp only[af,ai]at hc;obtain⟨rfl,rfl⟩:=hc;obtain⟨hL,h1,h2⟩:=h;have hk:=ew hrk (by simp)
          have hkl:=aW hk;have hres:fg (kT 0 (dJ [(k,false),(j,false)])) res [(k,false),(j,false)]= [.ro (.store tS eS L),.ro (.store tS eS M)]:=by simp[fg,hr,hrk,gd]
          have hargs:eF (kT 0 (dJ [(k,false),(j,false)])) [.lp k 0,.lp j 0]=some [.lp 0 0,.lp 1 0]:=by
           simp[eF,fy,kT,idxOf,dJ,hkj]
          have hka:eO res [(k,false),(j,false)]=true:=by simp[eO,cB.2 hk,cB.2 hj]
          have hoe:jc 0 res.length (dJ [(k,false),(j,false)])=true:=by simpa[jc,dJ,pb]using⟨⟨hkl,Ne.symm hkj⟩,hjl⟩
          cases hb:jK L M with
          |true=>
           refine aL.Xs (x:=Ui) hka hoe (by simp) hargs rfl ?_ (h1 hb)
           rw[hres];exact(aL.e9 (k:=0) rfl (aL.e9 (k:=1) rfl (GY L M hL))).mono (fun v r hv=>TN hb hv) fun _ _ h=>h
          |false=>
           refine aL.Yq (new:= .arr (some tI) 1 (.it .i64 (dE L M))) (F:=fun j=> .sa j) hka hoe (by simp) hargs rfl (by simp) (fun κ=>rfl) ?_ (h2 hb)
           rw[hres];exact(aL.e9 (k:=0) rfl (aL.e9 (k:=1) rfl (GY L M hL))).mono (fun v r hv=>KA hb hv) fun _ _ h=>h
         ·exact h.elim
        ·exact h.elim
       ·exact h.elim
      ·exact h.elim
     ·exact h.elim
    ·exact h.elim
   ·exact h.elim
  ·exact h.elim
 ·exact h.elim
end Go.Proofs.YtmfbohanboiklaaGreat
