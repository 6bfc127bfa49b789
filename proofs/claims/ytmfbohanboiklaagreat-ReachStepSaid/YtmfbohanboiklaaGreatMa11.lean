import Derived.Test.YtmfbohanboiklaaGreatMa10
set_option linter.unusedSimpArgs false
set_option linter.unusedVariables false
set_option maxRecDepth 100000
namespace Go.Sx
def kc(o:Obj):Bool:=decide (o.kind=0)&&decide (4294967295<=o.count)
def ey(o:Obj):Bool:=decide (o.kind=0)&&decide (o.count<4294967295)
def HU(o:Obj):Obj:=⟨3,o.count,0,ib,fK⟩
def mg(o:Obj)(kind:Int):Obj:=⟨kind,o.count+1,0,ib,fK⟩
def Ap(o:Obj):Obj:=⟨0,o.count,0,ib,fK⟩
def ll(L:List Obj)(p:Nat->Obj->Bool)(t:Obj->Obj):List Obj:=(List.range L.length).map fun j=>if p j (aL L j free)then t (aL L j free)else aL L j free
def cw(L:List Obj)(f g:Int):List Obj:=ll L (fun j o=>decide (f<=(j:Int))&&decide ((j:Int)<g)&&kc o) HU
def mr(L:List Obj)(f g:Int):Prop:=∀j:Nat,f<=(j:Int)->(j:Int)<g->ey (aL L j free)=false
def On(L:List Obj)(f g:Int):Bool:=(List.range L.length).any fun(j:Nat)=>decide (f<=(j:Int))&&decide ((j:Int)<g)&&kc (aL L j free)
def ff(L:List Obj)(f l:Int):Int:=match (List.range L.length).find? fun(j:Nat)=>decide (f<=(j:Int))&&decide ((j:Int)<=l)&&ey (aL L j free)with
 |some j=>(j:Int)
 |none=> -1
def kq(L:List Obj)(f l kind:Int):List Obj:=if ff L f l= -1 then cw L f (l+1)else eQ (cw L f (ff L f l)) (ff L f l).toNat (mg (aL L (ff L f l).toNat free) kind)
def xK(L:List Obj)(f l:Int):Bool:= !decide (ff L f l= -1)||On L f (l+1)
def cR(kind oid count:Int):Key:=⟨if kind=2 then 3 else 2,oid,count,0,0,0⟩
def jN(o:Obj)(n:Int):Bool:=decide ((o.slots.at 0).kind=1)&&decide ((o.slots.at 1).kind=1)&&decide (0<=(o.slots.at 0).value)&&decide ((o.slots.at 0).value<=(o.slots.at 1).value)&&decide ((o.slots.at 1).value<n)
def bx(L:List Obj)(k:Key):Int:=if bq L k 4 false=0 then(if jN (aL L k.oid.toNat free) (aK L:Int)then 0 else 220)else bq L k 4 false
def aX(L:List Obj)(k:Key):Int:=((aL L k.oid.toNat free).slots.at 0).value
def aZ(L:List Obj)(k:Key):Int:=((aL L k.oid.toNat free).slots.at 1).value
def CO(L:List Obj)(k:Key):Int:=if bx L k=0 then aX L k else 0
def Ei(L:List Obj)(k:Key):Int:=if bx L k=0 then aZ L k else 0
def gp(L:List Obj)(k:Key)(kind:Int):Int:=if bx L k=0 then(if kind=1\/kind=2 then 0 else 2)else bx L k
def dZ(L:List Obj)(k:Key)(kind:Int):Int:=if gp L k kind=0 then(if ff L (aX L k) (aZ L k)= -1 then 221 else 0)else gp L k kind
def gh(L:List Obj)(k:Key)(kind:Int):List Obj:=if gp L k kind=0 then kq L (aX L k) (aZ L k) kind else L
def D6(L:List Obj)(k:Key)(kind:Int):Bool:=decide (gp L k kind=0)&&xK L (aX L k) (aZ L k)
def dh(L:List Obj)(k:Key)(kind:Int):Key:=if dZ L k kind=0 then cR kind (ff L (aX L k) (aZ L k)) ((aL L (ff L (aX L k) (aZ L k)).toNat free).count+1)else void
def jK(L:List Obj)(v:Key):Bool:=bk L v&&(decide (v.kind=2)||decide (v.kind=3))
def eM(L:List Obj)(k v:Key):Int:=if bx L k=0 then(if jK L v then(if aX L k<=v.oid/\v.oid<=aZ L k/\v.oid≠k.oid then 0 else 4)else 5)else bx L k
def iU(L:List Obj)(k v:Key):List Obj:=if eM L k v=0 then eQ L v.oid.toNat (Ap (aL L v.oid.toNat free))else L
def mU(o:Obj):Bool:=decide (o.kind=1)||decide (o.kind=2)
def kZ(f g oid:Int)(j:Nat)(o:Obj):Bool:=decide (f<=(j:Int))&&decide ((j:Int)<g)&&mU o&& !decide ((j:Int)=oid)
def gS(L:List Obj)(f g oid:Int):List Obj:=ll L (kZ f g oid) Ap
def iZ(L:List Obj)(f g oid:Int):Int:=(((List.range L.length).filter fun j=>kZ f g oid j (aL L j free)).length:Int)
def jF(L:List Obj)(k:Key):List Obj:=if bx L k=0 then gS L (aX L k) (aZ L k+1) k.oid else L
def j7(L:List Obj)(k:Key):Int:=if bx L k=0 then iZ L (aX L k) (aZ L k+1) k.oid else 0
def nM(L:List Obj)(k v:Key):Bool:=decide (bx L k=0)&&jK L v&&decide (aX L k<=v.oid)&&decide (v.oid<=aZ L k)
theorem iM{L:List Obj}{p:Nat->Obj->Bool}{t:Obj->Obj}:(ll L p t).length=L.length:=by simp[ll]
theorem ia{L:List Obj}{p:Nat->Obj->Bool}{t:Obj->Obj}{j:Nat}(h:j<L.length):aL (ll L p t) j free=if p j (aL L j free)then t (aL L j free)else aL L j free:=by
 rw[show aL (ll L p t) j free=(ll L p t).getD j free from rfl,an];unfold ll;rw[List.getElem?_map,List.getElem?_range h];rfl
theorem FK{L:List Obj}{p:Nat->Obj->Bool}{t:Obj->Obj}(h:∀j,j<L.length->p j (aL L j free)=false):ll L p t=L:=by
 refine uE iM fun j hj=>?_
 rw[iM]at hj;rw[ia hj,h j hj];rfl
theorem Fo{L:List Obj}{p p':Nat->Obj->Bool}{t:Obj->Obj}{g:Nat}(hg:g<L.length)(hp:∀j,j≠g->p' j (aL L j free)=p j (aL L j free))(h1:p' g (aL L g free)=true):
  eQ (ll L p t) g (t (aL L g free))=ll L p' t:=by
 refine uE (by rw[fN,iM,iM]) fun j hj=>?_
 rw[fN,iM]at hj;rw[dE (by rw[iM];exact hg),ia hj,ia hj]
 by_cases e:j=g
 ·subst e;rw[ar rfl,h1,ar rfl]
 ·rw[aq e,hp j e]
theorem Cy{L:List Obj}{p p':Nat->Obj->Bool}{t:Obj->Obj}(hp:∀j,j<L.length->p' j (aL L j free)=p j (aL L j free)):ll L p' t=ll L p t:=by
 refine uE (by rw[iM,iM]) fun j hj=>?_
 rw[iM]at hj;rw[ia hj,ia hj,hp j hj]
theorem lA{L:List Obj}{f g:Int}:(cw L f g).length=L.length:=iM
theorem Fw{L:List Obj}{f:Int}:L=cw L f f:=by
 symm
 refine FK fun j hj=>?_
 simp only[Bool.and_eq_false_iff,decide_eq_false_iff_not];omega
theorem GR{L:List Obj}{f g:Int}(h0:0<=g):aL (cw L f g) g.toNat free=aL L g.toNat free:=by
 by_cases h:g.toNat<L.length
 ·unfold cw;rw[ia h,aq];simp only[af,ah];omega
 ·rw[show aL (cw L f g) g.toNat free=free by simp[aL,an,List.getElem?_eq_none (show(cw L f g).length<=g.toNat by rw[lA];omega)]]
  simp[aL,an,List.getElem?_eq_none (show L.length<=g.toNat by omega)]
theorem JD{L:List Obj}{f g:Int}(h0:0<=g)(h1:g<(L.length:Int))(hf:f<=g)(hr:kc (aL L g.toNat free)=true):eQ (cw L f g) g.toNat (HU (aL L g.toNat free))=cw L f (g+1):=by
 refine Fo (by omega) (fun j hj=>?_) ?_
 ·have:decide ((j:Int)<g+1)=decide ((j:Int)<g):=by rw[decide_eq_decide];omega
  rw[this]
 ·rw[hr];simp;omega
theorem EJ{L:List Obj}{f g:Int}(h0:0<=g)(hr:kc (aL L g.toNat free)=false):cw L f (g+1)=cw L f g:=by
 refine Cy fun j hj=>?_
 by_cases e:(j:Int)=g
 ·rw[show j=g.toNat by omega,hr,Bool.and_false,Bool.and_false]
 ·have:decide ((j:Int)<g+1)=decide ((j:Int)<g):=by rw[decide_eq_decide];omega
  rw[this]
theorem Zy{L:List Obj}{f l g:Int}(h0:0<=f)(hf:f<=g)(hl:g<=l)(hg:g<(L.length:Int))(hn:mr L f g)(hw:ey (aL L g.toNat free)=true):ff L f l=g:=by
 unfold ff
 have:(List.range L.length).find? (fun(j:Nat)=>decide (f<=(j:Int))&&decide ((j:Int)<=l)&&ey (aL L j free))=some g.toNat:=by
  rw[List.find?_eq_some_iff_getElem];refine⟨by rw[hw];simp;omega,g.toNat,by simp;omega,by simp,fun j hj=>?_⟩
  simp only[List.getElem_range,Bool.not_eq_true',Bool.and_eq_false_iff,decide_eq_false_iff_not];by_cases e:f<=(j:Int)
  ·right;exact hn j e (by omega)
  ·left;left;exact e
 rw[this];show((g.toNat:Nat):Int)=g
 omega
theorem N4{L:List Obj}{f l:Int}(hn:mr L f (l+1)):ff L f l= -1:=by
 unfold ff
 have:(List.range L.length).find? (fun(j:Nat)=>decide (f<=(j:Int))&&decide ((j:Int)<=l)&&ey (aL L j free))=none:=by
  rw[List.find?_eq_none];intro j hj h;simp only[af,ah]at h;rw[hn j h.1.1 (by omega)]at h
  simp at h
 rw[this]
theorem qj{L:List Obj}{f g:Int}(h:mr L f g)(hg:ey (aL L g.toNat free)=false):mr L f (g+1):=fun j h1 h2=>by
 by_cases e:(j:Int)=g
 ·rw[show j=g.toNat by omega];exact hg
 ·exact h j h1 (by omega)
theorem zJ{L:List Obj}{f:Int}:mr L f f:=fun j h1 h2=>by omega
theorem DY{L:List Obj}{f g oid:Int}:(gS L f g oid).length=L.length:=iM
theorem PF{L:List Obj}{f g oid:Int}(h:iZ L f g oid=0):gS L f g oid=L:=by
 refine FK fun j hj=>?_
 unfold iZ at h;have h2:((List.range L.length).filter fun j=>kZ f g oid j (aL L j free))= []:=List.eq_nil_of_length_eq_zero (by omega)
 rw[List.filter_eq_nil_iff]at h2;have:=h2 j (by simp;omega)
 simpa using this
theorem FB{L:List Obj}{f oid:Int}:iZ L f f oid=0:=by
 unfold iZ;rw[show((List.range L.length).filter fun j=>kZ f f oid j (aL L j free))= []from ?_]
 ·rfl
 ·rw[List.filter_eq_nil_iff];intro j hj;unfold kZ;simp only[af,ah];omega
theorem MA{L:List Obj}{f oid:Int}:L=gS L f f oid:=(PF FB).symm
theorem aaz{L:List Obj}{f g oid:Int}(h0:0<=g):aL (gS L f g oid) g.toNat free=aL L g.toNat free:=by
 by_cases h:g.toNat<L.length
 ·unfold gS;rw[ia h,aq];unfold kZ;simp only[af,ah];omega
 ·rw[show aL (gS L f g oid) g.toNat free=free by simp[aL,an,List.getElem?_eq_none (show(gS L f g oid).length<=g.toNat by rw[DY];omega)]]
  simp[aL,an,List.getElem?_eq_none (show L.length<=g.toNat by omega)]
def kU(L:List Obj)(g oid:Int):Bool:=mU (aL L g.toNat free)&& !decide (g=oid)
theorem Di{L:List Obj}{f g oid:Int}(h0:0<=g)(hf:f<=g):kZ f (g+1) oid g.toNat (aL L g.toNat free)=kU L g oid:=by
 unfold kZ kU;rw[show((g.toNat:Nat):Int)=g by omega]
 have a:decide (f<=g)=true:=by simp;omega
 have b:decide (g<g+1)=true:=by simp;omega
 rw[a,b];simp
theorem yp{L:List Obj}{f g oid:Int}{j:Nat}(h:(j:Int)≠g)(o:Obj):kZ f (g+1) oid j o=kZ f g oid j o:=by
 unfold kZ;have:decide ((j:Int)<g+1)=decide ((j:Int)<g):=by rw[decide_eq_decide];omega
 rw[this]
theorem Dm{f g oid:Int}{j:Nat}(h:(j:Int)=g)(o:Obj):kZ f g oid j o=false:=by
 unfold kZ;have:decide ((j:Int)<g)=false:=by simp;omega
 rw[this];simp
theorem Uy{L:List Obj}{f g oid:Int}(h0:0<=g)(h1:g<(L.length:Int))(hf:f<=g)(hr:kU L g oid=true):eQ (gS L f g oid) g.toNat (Ap (aL L g.toNat free))=gS L f (g+1) oid:=
 Fo (by omega) (fun j hj=>yp (L:=L) (by omega) _) (by rw[Di h0 hf];exact hr)
theorem Fc{L:List Obj}{f g oid:Int}(h0:0<=g)(hf:f<=g)(hr:kU L g oid=false):gS L f (g+1) oid=gS L f g oid:=by
 refine Cy fun j hj=>?_
 by_cases e:(j:Int)=g
 ·rw[show j=g.toNat by omega,Di h0 hf,hr,Dm (by omega)]
 ·exact yp (L:=L) e _
theorem FL{L:List Obj}{f g oid:Int}(h0:0<=g)(hf:f<=g)(hr:kU L g oid=false):iZ L f (g+1) oid=iZ L f g oid:=by
 unfold iZ;rw[show((List.range L.length).filter fun j=>kZ f (g+1) oid j (aL L j free))=(List.range L.length).filter fun j=>kZ f g oid j (aL L j free)from List.filter_congr fun j hj=>?_]
 by_cases e:(j:Int)=g
 ·rw[show j=g.toNat by omega,Di h0 hf,hr,Dm (by omega)]
 ·exact yp (L:=L) e _
theorem filter_one{l:List Nat}{p p':Nat->Bool}{g:Nat}(hn:l.Nodup)(hg:g∈l)(hp:∀j,j≠g->p' j=p j)(h0:p g=false)(h1:p' g=true):(l.filter p').length=(l.filter p).length+1:=by
 induction l with
 |nil=>simp at hg
 |cons a l ih=>
  rw[List.nodup_cons]at hn;by_cases e:a=g
  ·subst e;have:l.filter p'=l.filter p:=List.filter_congr fun j hj=>hp j fun e=>hn.1 (e▸hj)
   rw[List.filter_cons,List.filter_cons,h0,h1,ar rfl,aq (by simp),this]
   simp
  ·have hg2:g∈l:=by
    rcases List.mem_cons.1 hg with h|h
    ·exact absurd h.symm e
    ·exact h
   rw[List.filter_cons,List.filter_cons,hp a e];split
   ·simp only[List.length_cons];rw[ih hn.2 hg2]
   ·exact ih hn.2 hg2
theorem N6{L:List Obj}{f g oid:Int}(h0:0<=g)(h1:g<(L.length:Int))(hf:f<=g)(hr:kU L g oid=true):iZ L f (g+1) oid=iZ L f g oid+1:=by
 unfold iZ;have:=filter_one (l:=List.range L.length) (p:=fun j=>kZ f g oid j (aL L j free)) (p':=fun j=>kZ f (g+1) oid j (aL L j free)) (g:=g.toNat) List.nodup_range (by simp;omega) (fun j hj=>yp (L:=L) (by omega) _) (Dm (by omega) _) (by show kZ f (g+1) oid g.toNat (aL L g.toNat free)=true;rw[Di h0 hf];exact hr)
 omega
theorem H6{L:List Obj}{f g oid:Int}:0<=iZ L f g oid:=by unfold iZ;omega
theorem YA{L:List Obj}{f g oid:Int}:iZ L f g oid<=(L.length:Int):=by
 unfold iZ;have:=List.length_filter_le (fun j=>kZ f g oid j (aL L j free)) (List.range L.length)
 rw[List.length_range]at this;omega
theorem D9{n:Int}{kind count:Int}(h1:1<=n)(h2:n<=64)(h3:0<=kind)(h4:kind<=3)(h5:0<=count)(h6:count<=4294967295):bS ⟨kind,count,0,ib,fK⟩ n=true:=by
 rw[dK];refine⟨h1,h2,h3,h4,h5,h6,by simp,by simp,.inr rfl,fun i hi=>?_,fun i hi=>?_⟩
 ·simp only[pY];unfold iS;rw[nh.1,nh.2];simp;omega
 ·have hz:=J8.1 (show fK=fK from rfl) i hi;first|exact .inr (.inr hz)|exact hz|simp[hz]
theorem ly{o:Obj}{n:Int}(h:bS o n=true):0<=o.count/\o.count<=4294967295/\0<=o.kind/\o.kind<=3/\1<=n/\n<=64:=by
 obtain⟨a1,a2,a3,a4,a5,a6,_⟩:=dK.1 h;exact⟨a5,a6,a3,a4,a1,a2⟩
theorem DN{o:Obj}{n:Int}(h:bS o n=true):bS (HU o) n=true:=by
 obtain⟨a,b,c,d,e,f⟩:=ly h;exact D9 e f (by omega) (by omega) a b
theorem ym{o:Obj}{n:Int}(h:bS o n=true):bS (Ap o) n=true:=by
 obtain⟨a,b,c,d,e,f⟩:=ly h;exact D9 e f (by omega) (by omega) a b
theorem Ed{o:Obj}{n kind:Int}(h:bS o n=true)(hn:ey o=true)(hk:kind=1\/kind=2):bS (mg o kind) n=true:=by
 obtain⟨a,b,c,d,e,f⟩:=ly h;unfold ey at hn;simp only[af,ah]at hn;exact D9 e f (by omega) (by omega) (by omega) (by omega)
theorem JI{L:List Obj}{p:Nat->Obj->Bool}{t:Obj->Obj}(h:aO L)(ht:∀o,bS o (L.length:Int)=true->bS (t o) (L.length:Int)=true):aO (ll L p t):=by
 refine Pv h iM fun j hj=>?_
 rw[ia hj];split
 ·exact ht _ (dA h j hj)
 ·exact dA h j hj
theorem HB{L:List Obj}{f g:Int}(h:aO L):aO (cw L f g):=JI h fun o ho=>DN ho
def kB:lb (Key×Unit):=bJ kA jP
def kkB:lb (Key×Key×Unit):=bJ kA (bJ kA jP)
def kiB:lb (Key×Int×Unit):=bJ kA (bJ iA jP)
theorem acr:ji kB:=ba nX dq
theorem Ri:ji kkB:=ba nX (ba nX dq)
theorem Nc:ji kiB:=ba nX (ba fx dq)
def aaA:Ct:=mk3 (rI .i64) (rI .i64) (rI .i64) fun a b c=> .key (cR a b c)
theorem Kx{o:Obj}(h:o.kind≠0):kc o=false/\ey o=false:=by simp[kc,ey,h]
theorem R5{o:Obj}(h:o.kind=0)(h2:4294967295<=o.count):kc o=true/\ey o=false:=by simp[kc,ey,h,h2]
theorem RY{o:Obj}(h:o.kind=0)(h2:¬4294967295<=o.count):kc o=false/\ey o=true:=by
 refine⟨by simp[kc,h2],?_⟩
 simp only[ey,af,ah];omega
theorem IP{L:List Obj}{f l g:Int}(kind:Int)(h0:0<=f)(hf:f<=g)(hl:g<=l)(hg:g<(L.length:Int))(hn:mr L f g)(hw:ey (aL L g.toNat free)=true):
  ff L f l=g/\xK L f l=true/\kq L f l kind=eQ (cw L f g) g.toNat (mg (aL L g.toNat free) kind):=by
 have e:=Zy h0 hf hl hg hn hw;refine⟨e,?_,?_⟩
 ·unfold xK;rw[e];simp;left;omega
 ·unfold kq;rw[e,aq (by omega)]
theorem OD{L:List Obj}{f l:Int}(kind:Int)(hn:mr L f (l+1)):ff L f l= -1/\kq L f l kind=cw L f (l+1)/\xK L f l=On L f (l+1):=by
 have e:=N4 hn;refine⟨e,?_,?_⟩
 ·unfold kq;rw[e,ar rfl]
 ·unfold xK;rw[e];rfl
theorem IG{L:List Obj}{k:Key}(h:bq L k 4 false=0)(h2:jN (aL L k.oid.toNat free) (aK L:Int)=false):bx L k=220/\CO L k=0/\Ei L k=0:=by
 have e:bx L k=220:=by unfold bx;rw[ar h,h2];rfl
 refine⟨e,?_,?_⟩
 ·unfold CO;rw[e];rfl
 ·unfold Ei;rw[e];rfl
theorem zd{L:List Obj}{k:Key}(h:bq L k 4 false=0)(h2:jN (aL L k.oid.toNat free) (aK L:Int)=true):bx L k=0/\CO L k=aX L k/\Ei L k=aZ L k:=by
 have e:bx L k=0:=by unfold bx;rw[ar h,h2];rfl
 refine⟨e,?_,?_⟩
 ·unfold CO;rw[e];rfl
 ·unfold Ei;rw[e];rfl
theorem kx{L:List Obj}{k:Key}(h:bx L k=0):bq L k 4 false=0/\0<=aX L k/\aX L k<=aZ L k/\aZ L k<(L.length:Int)/\0<=k.oid/\k.oid<(L.length:Int):=by
 have ha:bq L k 4 false=0:=by
  unfold bx at h;split at h
  ·assumption
  ·rename_i h1;exact absurd h h1
 have hb:jN (aL L k.oid.toNat free) (aK L:Int)=true:=by
  cases hb:jN (aL L k.oid.toNat free) (aK L:Int)with
  |true=>rfl
  |false=>rw[(IG ha hb).1]at h;simp at h
 obtain⟨_,b2,b3,_⟩:=eT (jv ha).1;unfold jN at hb;simp only[af,ah]at hb;obtain⟨⟨⟨⟨_,_⟩,h3⟩,h4⟩,h5⟩:=hb;exact⟨ha,h3,h4,h5,b2,b3⟩
theorem qa{L:List Obj}{f l:Int}(h0:0<=f):ff L f l= -1\/(f<=ff L f l/\ff L f l<=l/\ff L f l<(L.length:Int)/\ey (aL L (ff L f l).toNat free)=true):=by
 unfold ff;split
 ·rename_i j hj;right
  have h1:=List.find?_some hj;have h2:=List.mem_of_find?_eq_some hj;simp only[af,ah]at h1;rw[List.mem_range]at h2;exact⟨h1.1.1,h1.1.2,by omega,h1.2⟩
 ·exact .inl rfl
theorem DJ{L:List Obj}{f l kind:Int}:(kq L f l kind).length=L.length:=by
 unfold kq;split
 ·exact lA
 ·rw[fN,lA]
theorem R8{L:List Obj}{f l kind:Int}(h0:0<=f)(h:ff L f l≠ -1):aL (kq L f l kind) (ff L f l).toNat free=mg (aL L (ff L f l).toNat free) kind:=by
 rcases qa (L:=L) (l:=l) h0 with e|⟨a,b,c,d⟩
 ·exact absurd e h
 ·unfold kq;rw[aq h,dE (by rw[lA];omega),ar rfl]
theorem Wd{L:List Obj}{f l:Int}(h:ff L f l≠ -1):xK L f l=true:=by unfold xK;simp[h]
theorem NI{L:List Obj}{k:Key}{kind:Int}(h:bx L k=0)(hk:kind=1\/kind=2)(hi:ff L (aX L k) (aZ L k)= -1):D6 L k kind=xK L (aX L k) (aZ L k)/\void=dh L k kind/\221=dZ L k kind/\kq L (aX L k) (aZ L k) kind=gh L k kind:=by
 have e:gp L k kind=0:=by unfold gp;rw[ar h,ar hk]
 have e2:dZ L k kind=221:=by unfold dZ;rw[ar e,ar hi]
 refine⟨by unfold D6;rw[e];simp,by unfold dh;rw[e2];rfl,e2.symm,by unfold gh;rw[ar e]⟩
theorem TB{L:List Obj}{k:Key}{kind:Int}(h:bx L k=0)(hk:kind=1\/kind=2)(hi:ff L (aX L k) (aZ L k)≠ -1):D6 L k kind=true/\Key.mk (1+kind) (ff L (aX L k) (aZ L k)) (aL (kq L (aX L k) (aZ L k) kind) (ff L (aX L k) (aZ L k)).toNat free).count 0 0 0=dh L k kind/\0=dZ L k kind/\kq L (aX L k) (aZ L k) kind=gh L k kind:=by
 have e:gp L k kind=0:=by unfold gp;rw[ar h,ar hk]
 have e2:dZ L k kind=0:=by unfold dZ;rw[ar e,aq hi]
 refine⟨by unfold D6;rw[e,Wd hi];rfl,?_,e2.symm,by unfold gh;rw[ar e]⟩
 unfold dh;rw[ar e2,R8 (kx h).2.1 hi];unfold cR mg;rcases hk with rfl|rfl<;>rfl
theorem GB{L:List Obj}{v:Key}(h:jK L v=true):bk L v=true:=by unfold jK at h;simp only[af]at h;exact h.1
def eU(L:List Obj)(k:Key):Int:=ff L (aX L k) (aZ L k)
def dP(L:List Obj)(k:Key):List Obj:=kq L (aX L k) (aZ L k) 1
def oi(M:List Obj)(f g:Int):Bool:=(List.range M.length).any fun(j:Nat)=>decide (f<=(j:Int))&&decide ((j:Int)<g)&&mU (aL M j free)
def mL(L:List Obj)(k:Key)(n:Int):Int:=if bx L k=0 then(if n<1\/aZ L k-aX L k<n then 4 else 0)else bx L k
def cX(L:List Obj)(k:Key)(n:Int):Int:=if mL L k n=0 then(if eU L k<0\/aZ L k-n<eU L k then 221 else if oi (dP L k) (aZ L k-n+1) (aZ L k+1)=true then 221 else 0)else mL L k n
def jE(o:Obj)(a b:Int):Obj:= {o with slots:=(o.slots.put 0 (dR a)).put 1 (dR b)}
def mQ(o:Obj)(b:Int):Obj:= {o with slots:=o.slots.put 1 (dR b)}
def bN(L:List Obj)(k:Key)(n:Int):List Obj:=if cX L k n=0 then eQ (eQ (dP L k) (eU L k).toNat (jE (aL (dP L k) (eU L k).toNat free) (aZ L k-n+1) (aZ L k))) k.oid.toNat (mQ (aL (dP L k) k.oid.toNat free) (aZ L k-n))else L
def cJ(L:List Obj)(k:Key)(n:Int):Key:=if cX L k n=0 then⟨4,eU L k,(aL (dP L k) (eU L k).toNat free).count,0,0,0⟩else void
theorem FG{L:List Obj}{k:Key}{n:Int}(h:bx L k≠0):cX L k n=bx L k:=by
 have e:mL L k n=bx L k:=by unfold mL;rw[aq h]
 unfold cX;rw[e,aq h]
theorem LD{L:List Obj}{k:Key}{n:Int}(h:bx L k=0)(hn:n<1\/aZ L k-aX L k<n):cX L k n=4:=by
 have e:mL L k n=4:=by unfold mL;rw[ar h,ar hn]
 unfold cX;rw[e];rfl
theorem Wh{L:List Obj}{k:Key}{n:Int}(h:bx L k=0)(h1:1<=n)(h2:n<=aZ L k-aX L k):mL L k n=0:=by
 unfold mL;rw[ar h,aq (by omega)]
theorem Fh{L:List Obj}{k:Key}{n:Int}(h:mL L k n=0)(hi:eU L k<0\/aZ L k-n<eU L k):cX L k n=221:=by
 unfold cX;rw[ar h,ar hi]
theorem MC{L:List Obj}{k:Key}{n:Int}(h:mL L k n=0)(hi:oi (dP L k) (aZ L k-n+1) (aZ L k+1)=true):cX L k n=221:=by
 unfold cX;rw[ar h,ar hi];split<;>rfl
theorem WA{L:List Obj}{k:Key}{n:Int}(h:mL L k n=0)(h1:0<=eU L k)(h2:eU L k<=aZ L k-n)(hi:oi (dP L k) (aZ L k-n+1) (aZ L k+1)=false):cX L k n=0:=by
 unfold cX;rw[ar h,aq (by omega),hi];rfl
theorem RK{M:List Obj}{f g e:Int}(h0:0<=g)(h1:g<(M.length:Int))(hf:f<=g)(he:g<e)(hr:mU (aL M g.toNat free)=true):oi M f e=true:=by
 unfold oi;rw[List.any_eq_true];exact⟨g.toNat,by simp;omega,by rw[hr];simp;omega⟩
theorem Ul{M:List Obj}{f g:Int}(h0:0<=g)(hr:mU (aL M g.toNat free)=false):oi M f (g+1)=oi M f g:=by
 unfold oi;rw[Bool.eq_iff_iff,List.any_eq_true,List.any_eq_true];refine exists_congr fun j=>and_congr_right fun _=>?_
 simp only[af,ah];constructor
 ·rintro⟨⟨a,b⟩,c⟩
  refine⟨⟨a,?_⟩,c⟩;by_cases e:(j:Int)=g
  ·rw[show j=g.toNat by omega,hr]at c;simp at c
  ·omega
 ·rintro⟨⟨a,b⟩,c⟩
  exact⟨⟨a,by omega⟩,c⟩
theorem Zs{L:List Obj}{k:Key}(h:bk L k=true):cz k=k.oid:=by
 unfold bk at h;simp only[af]at h;unfold cz;rw[ar h.1.1]
theorem IE{L:List Obj}{k:Key}(h:(!decide (0<aJ L))=true):bx L k=1:=by unfold bx;rw[Pn h];rfl
theorem bk2{L:List Obj}{k:Key}(h:(!decide (0<aJ L))=false)(h2:(!(bk L k&&decide (k.kind=4)))=true):bx L k=190:=by unfold bx;rw[L3 h h2];rfl
theorem bk3{L:List Obj}{k:Key}(h:(!decide (0<aJ L))=false)(h2:(!(bk L k&&decide (k.kind=4)))=false)(h3:(!jN (aG L k) (aJ L))=true):bx L k=220:=by
 have ha:=Kb h h2;rw[(eT (nO h2).1).2.2.2.1]at h3;exact(IG ha (show jN (aL L k.oid.toNat free) (aJ L)=false by simpa using h3)).1
theorem WN{L:List Obj}{k:Key}(h:(!decide (0<aJ L))=false)(h2:(!(bk L k&&decide (k.kind=4)))=false)(h3:(!jN (aG L k) (aJ L))=false):bx L k=0/\((aG L k).slots.at 0).value=aX L k/\((aG L k).slots.at 1).value=aZ L k:=by
 have ha:=Kb h h2;have e:=(eT (nO h2).1).2.2.2.1;rw[e]at h3;rw[e];exact⟨(zd ha (show jN (aL L k.oid.toNat free) (aJ L)=true by simpa using h3)).1,rfl,rfl⟩
theorem C8{L:List Obj}{k v:Key}{e:Int}(h:bx L k=e)(he:e≠0):false=nM L k v/\e=bx L k:=by
 refine⟨?_,h.symm⟩;unfold nM;rw[h];simp[he]
theorem ua{L:List Obj}{k v:Key}{e:Int}(h:eM L k v=e)(he:e≠0):e=eM L k v/\L=iU L k v:=by
 refine⟨h.symm,?_⟩;unfold iU;rw[h,aq he]
theorem sq{L:List Obj}{k v:Key}{e:Int}(h:bx L k=e)(he:e≠0):eM L k v=e:=by
 unfold eM;rw[h,aq he]
theorem zP{L:List Obj}{k:Key}{e:Int}(h:bx L k=e)(he:e≠0):(0=j7 L k/\e=bx L k)/\L=jF L k:=by
 unfold j7 jF;rw[h,aq he,aq he];exact⟨⟨rfl,rfl⟩,rfl⟩
theorem wm{L:List Obj}{k:Key}{kind e:Int}(h:gp L k kind=e)(he:e≠0):(void=dh L k kind/\e=dZ L k kind)/\L=gh L k kind:=by
 have e2:dZ L k kind=e:=by unfold dZ;rw[h,aq he]
 unfold dh gh;rw[e2,h,aq he,aq he];exact⟨⟨rfl,rfl⟩,rfl⟩
theorem qV{L:List Obj}{k:Key}{kind e:Int}(h:bx L k=e)(he:e≠0):gp L k kind=e:=by unfold gp;rw[h,aq he]
theorem Rn{L:List Obj}{k:Key}{kind:Int}(h:bx L k=0)(h2:(!(decide (kind=1)||decide (kind=2)))=true):gp L k kind=2:=by
 unfold gp;rw[ar h,aq];simp only[Bool.not_eq_true',Bool.or_eq_false_iff,decide_eq_false_iff_not]at h2;omega
theorem pW{L:List Obj}{k:Key}{n e:Int}(h:cX L k n=e)(he:e≠0):(void=cJ L k n/\e=cX L k n)/\L=bN L k n:=by
 unfold cJ bN;rw[h,aq he,aq he];exact⟨⟨rfl,rfl⟩,rfl⟩
theorem vf{L:List Obj}{k:Key}{n e:Int}(h:bx L k=e)(he:e≠0):cX L k n=e:=by rw[FG (by omega),h]
def T6:Ct:=FN (bJ sA kkB) (fun _=>none) fun x=> .tp [.bo (nM (vP x.1) x.2.1 x.2.2.1),.it .i64 (bx (vP x.1) x.2.1)]
def Wx:lg:=LC (Mw kiB) (fun L _=>aO L) (fun L x=> .tp [.key (dh L x.1 x.2.1),.it .i64 (dZ L x.1 x.2.1)]) fun L x=>gh L x.1 x.2.1
def ZJ:lg:=LC (Mw kkB) (fun L _=>aO L) (fun L x=> .it .i64 (eM L x.1 x.2.1)) fun L x=>iU L x.1 x.2.1
def Vk:lg:=LC (Mw kB) (fun L _=>aO L) (fun L x=> .tp [.it .i64 (j7 L x.1),.it .i64 (bx L x.1)]) fun L x=>jF L x.1
def QE:lg:=LC (Mw kiB) (fun L _=>aO L) (fun L x=> .tp [.key (cJ L x.1 x.2.1),.it .i64 (cX L x.1 x.2.1)]) fun L x=>bN L x.1 x.2.1
def qy(L:List Obj)(k:Key)(n g:Int):Prop:=aX L k<=g/\g<=aZ L k+1/\oi (dP L k) (aZ L k-n+1) g=false
def Sp(L M:List Obj)(g:Int):Int:=aL (dM L M) g.toNat 0
def Mv:List Obj->List Obj->Nat->List Obj
 |L,_,0=>L
 |L,M,g+1=>cV (Mv L M g) (Sp L M (g:Int)) (aQ M (Sp L M (g:Int)))
def mX(L M:List Obj)(g:Int):List Obj:=Mv L M g.toNat
def sC(L M:List Obj)(g:Int):Prop:=0<=g/\g<=((dM L M).length:Int)
def fh(L:List Obj)(k:Key)(g:Int):Obj:=aQ (cw L (aX L k) g) g
def qM(L:List Obj)(k:Key)(g:Int):List Obj:=cV (cw L (aX L k) g) g (Obj.mk 1 ((fh L k g).count+1) free.calls free.slots free.bytes)
def o5(x:Int):Key:=Key.mk 1 void.oid void.count void.call void.rights x
def D1(L:List Obj)(k:Key)(n g:Int):Obj:=Obj.mk (aQ (qM L k g) g).kind (aQ (qM L k g) g).count (aQ (qM L k g) g).calls (((aQ (qM L k g) g).slots.put 0 (o5 (((aG L k).slots.at 1).value-n+1))).put 1 (o5 ((aG L k).slots.at 1).value)) (aQ (qM L k g) g).bytes
def CZ(L:List Obj)(k:Key)(n g:Int):List Obj:=cV (qM L k g) g (D1 L k n g)
def Eh(L:List Obj)(k:Key)(n g:Int):Obj:=Obj.mk (aQ (CZ L k n g) k.oid).kind (aQ (CZ L k n g) k.oid).count (aQ (CZ L k n g) k.oid).calls ((aQ (CZ L k n g) k.oid).slots.put 1 (o5 (((aG L k).slots.at 1).value-n))) (aQ (CZ L k n g) k.oid).bytes
def mM(L:List Obj)(k:Key)(n g:Int):List Obj:=cV (CZ L k n g) k.oid (Eh L k n g)
def jI(L:List Obj)(k:Key)(g:Int):Prop:=aX L k<=g/\g<=aZ L k+1/\mr L (aX L k) g
def sV(L:List Obj)(k:Key)(g:Int):Prop:=aX L k<=g/\g<=aZ L k+1
theorem Bz{L:List Obj}{k:Key}(h:bk L k=true)(h2:k.kind=4):(aL L k.oid.toNat free).kind=1:=by
 unfold bk at h;simp only[af]at h;obtain⟨⟨h1,_⟩,h3⟩:=h;unfold cW at h3;simp only[af,Bool.or_eq_true,ah]at h3;rcases j5 k with⟨_,e,h0⟩|⟨e,_⟩
 ·rcases h3.2 with h|h
  ·omega
  ·rw[h.1.1];unfold jo;rw[aq (by omega),aq (by omega)]
 ·rw[e]at h1;simp at h1
theorem I9{o:Obj}{n b:Int}(h:bS o n=true)(hk:o.kind=1):bS (mQ o b) n=true:=by
 refine Az h hk fun i hi=>?_
 have:=(ly h).2.2.2.2.1;rw[ck.gg _ _ _ _ (by omega)]
 split
 ·exact sY (by omega) _
 ·exact sw h hk i hi
theorem JQ{o:Obj}{n a b:Int}(h:bS o n=true)(hk:o.kind=1):bS (jE o a b) n=true:=by
 refine Az h hk fun i hi=>?_
 have:=(ly h).2.2.2.2.1;rw[ck.gg _ _ _ _ (by omega),ck.gg _ _ _ _ (by omega)]
 split
 ·exact sY (by omega) _
 split
 ·exact sY (by omega) _
 ·exact sw h hk i hi
theorem Xd{L:List Obj}{k:Key}{g:Int}(hL:aO L)(e:bx L k=0)(hk:(aL L k.oid.toNat free).kind=1)(g0:aX L k<=g)(gl:g<=aZ L k)(g2:mr L (aX L k) g)(f2:ey (aL L g.toNat free)=true):
  eU L k=g/\fh L k g=aL L g.toNat free/\qM L k g=dP L k/\(dP L k).length=L.length/\aO (dP L k)/\aL (dP L k) g.toNat free=mg (aL L g.toNat free) 1/\aL (dP L k) k.oid.toNat free=aL L k.oid.toNat free/\k.oid.toNat≠g.toNat:=by
 obtain⟨_,a0,a1,a2,a3,a4⟩:=kx e;have hgn:g.toNat<L.length:=by omega
 have hgz:(cw L (aX L k) g).length=L.length:=lA;have hgt:aQ (cw L (aX L k) g) g=aL L g.toNat free:=by rw[ij (by omega) (by omega),GR (by omega)]
 obtain⟨m1,m2,m3⟩:=IP (l:=aZ L k) 1 a0 g0 gl (by omega) g2 f2
 have hO:fh L k g=aL L g.toNat free:=hgt;have hnew:=Ed (dA hL g.toNat hgn) f2 (.inl rfl);have hp:=(mn (L:=cw L (aX L k) g) (i:=g) (x:=mg (aL L g.toNat free) 1) (by omega) (by omega) (by rw[hgz];exact hnew)).1
 have hP:qM L k g=dP L k:=by
  unfold qM;rw[hO];exact hp.trans m3.symm
 have hne:k.oid.toNat≠g.toNat:=fun h=>by
  rw[h]at hk;unfold ey at f2;simp only[af,ah]at f2;omega
 have hM:dP L k=eQ (cw L (aX L k) g) g.toNat (mg (aL L g.toNat free) 1):=m3;have hko:k.oid.toNat<L.length:=by omega
 refine⟨m1,hO,hP,DJ,?_,?_,?_,hne⟩
 ·rw[hM];exact lk (HB hL) (by rw[hgz];exact hnew)
 ·rw[hM,dE (by rw[hgz];exact hgn),ar rfl]
 ·rw[hM,dE (by rw[hgz];exact hgn),aq hne]
  unfold cw;rw[ia hko,aq];simp only[kc,hk,af,ah];omega
theorem Wl{L:List Obj}{k:Key}{n g:Int}(hL:aO L)(e:bx L k=0)(hk:(aL L k.oid.toNat free).kind=1)(hB:((aG L k).slots.at 1).value=aZ L k)(g0:aX L k<=g)(gl:g<=aZ L k)(g2:mr L (aX L k) g)(f2:ey (aL L g.toNat free)=true)(h:cX L k n=0):
  mM L k n g=bN L k n/\aO (bN L k n)/\(bN L k n).length=L.length/\Key.mk 4 g ((fh L k g).count+1) 0 0 0=cJ L k n:=by
 obtain⟨i1,i2,i3,i4,i5,i6,i7,i8⟩:=Xd hL e hk g0 gl g2 f2;obtain⟨_,a0,a1,a2,a3,a4⟩:=kx e;have hgM:aQ (dP L k) g=aL (dP L k) g.toNat free:=ij (by omega) (by omega)
 have hR1:D1 L k n g=jE (aL (dP L k) g.toNat free) (aZ L k-n+1) (aZ L k):=by
  unfold D1;rw[i3,hgM,hB];rfl
 have o1:bS (jE (aL (dP L k) g.toNat free) (aZ L k-n+1) (aZ L k)) ((dP L k).length:Int)=true:=JQ (dA i5 g.toNat (by omega)) (by rw[i6];rfl)
 have hP2:CZ L k n g=eQ (dP L k) g.toNat (jE (aL (dP L k) g.toNat free) (aZ L k-n+1) (aZ L k)):=by
  unfold CZ;rw[i3,hR1];exact(mn (by omega) (by omega) o1).1
 have ok2:=lk (i:=g.toNat) i5 o1;have l2:(eQ (dP L k) g.toNat (jE (aL (dP L k) g.toNat free) (aZ L k-n+1) (aZ L k))).length=L.length:=by rw[fN];exact i4
 have g2':aQ (CZ L k n g) k.oid=aL (dP L k) k.oid.toNat free:=by
  rw[hP2,ij (by omega) (by omega),dE (by omega),aq i8]
 have hR2:Eh L k n g=mQ (aL (dP L k) k.oid.toNat free) (aZ L k-n):=by
  unfold Eh;rw[g2',hB];rfl
 have o2:bS (mQ (aL (dP L k) k.oid.toNat free) (aZ L k-n)) (L.length:Int)=true:=I9 (by rw[<-i4];exact dA i5 k.oid.toNat (by omega)) (by rw[i7];exact hk)
 have hlast:bN L k n=eQ (eQ (dP L k) g.toNat (jE (aL (dP L k) g.toNat free) (aZ L k-n+1) (aZ L k))) k.oid.toNat (mQ (aL (dP L k) k.oid.toNat free) (aZ L k-n)):=by
  unfold bN;rw[ar h,i1]
 refine⟨?_,?_,?_,?_⟩
 ·unfold mM;rw[hR2,hP2,hlast];exact(mn (by omega) (by omega) (by rw[l2];exact o2)).1
 ·rw[hlast];exact lk ok2 (by rw[l2];exact o2)
 ·rw[hlast,fN];exact l2
 ·unfold cJ;rw[ar h,i1,i6,i2];rfl
theorem Va{L M:List Obj}{x:Int}(h:x∈dM L M):0<=x/\x<(L.length:Int):=by
 unfold dM iT at h;rw[List.mem_map]at h;obtain⟨j,h1,rfl⟩:=h;have:=List.mem_range.1 (List.mem_filter.1 h1).1;unfold aK at this;exact⟨Int.natCast_nonneg j,by show(j:Int)<_;omega⟩
theorem aaO{L M:List Obj}{i:Nat}(h:i<(dM L M).length):aL (dM L M) i 0∈dM L M:=by
 unfold aL;rw[an,List.getElem?_eq_getElem h];exact List.getElem_mem h
theorem Tc{L M:List Obj}{j:Nat}(hj:j<L.length)(h:aL L j free≠aL M j free):∃i,i<(dM L M).length/\aL (dM L M) i 0=(j:Int):=by
 have:(j:Int)∈dM L M:=by
  unfold dM iT;rw[List.mem_map];refine⟨j,List.mem_filter.2 ⟨List.mem_range.2 (by unfold aK;omega),?_⟩,rfl⟩
  simp[GZ,h]
 obtain⟨i,hi,e⟩:=List.mem_iff_getElem.1 this;refine⟨i,hi,?_⟩;unfold aL;rw[an,List.getElem?_eq_getElem hi,e];rfl
theorem R1{L M:List Obj}(hl:M.length=L.length)(hM:aO M):∀g:Nat,g<=(dM L M).length->(Mv L M g).length=L.length/\(∀j,j<L.length->aL (Mv L M g) j free=aL L j free\/aL (Mv L M g) j free=aL M j free)/\
  ∀i,i<g->aL (Mv L M g) (aL (dM L M) i 0).toNat free=aL M (aL (dM L M) i 0).toNat free
 |0,_=>⟨rfl,fun j hj=> .inl rfl,fun i hi=>by omega⟩
 |g+1,hg=>by
  obtain⟨h1,h2,h3⟩:=R1 hl hM g (by omega)
  obtain⟨u1,u2⟩:=Va (aaO (L:=L) (M:=M) (i:=g) (by omega))
  have e:Sp L M (g:Int)=aL (dM L M) g 0:=rfl;generalize hu:aL (dM L M) g 0=u at *
  have hp:=(mn (L:=Mv L M g) (i:=u) (x:=aL M u.toNat free) u1 (by omega) (by rw[h1,<-hl];exact dA hM _ (by omega))).1
  have hs:Mv L M (g+1)=eQ (Mv L M g) u.toNat (aL M u.toNat free):=by
   simp only[Mv];rw[e,ij u1 (by omega)]
   exact hp
  rw[hs];refine⟨by rw[fN];exact h1,fun j hj=>?_,fun i hi=>?_⟩
  ·rw[dE (by omega)]
   split
   ·rename_i hj';rw[hj'];exact .inr rfl
   ·exact h2 j hj
  ·rw[dE (by omega)]
   split
   ·rename_i hj';rw[hj']
   ·rename_i hne;by_cases hig:i=g
    ·rw[hig,hu]at hne;exact absurd rfl hne
    ·exact h3 i (by omega)
theorem S0{L M:List Obj}(hl:M.length=L.length)(hM:aO M){g:Int}(hg:g=((dM L M).length:Int)):mX L M g=M:=by
 obtain⟨h1,h2,h3⟩:=R1 hl hM (dM L M).length (Nat.le_refl _);have e:mX L M g=Mv L M (dM L M).length:=by unfold mX;rw[hg];rfl
 rw[e];refine uE (by omega) fun j hj=>?_
 by_cases hne:aL L j free=aL M j free
 ·rcases h2 j (by omega)with h|h
  ·rw[h,hne]
  ·exact h
 ·obtain⟨i,hi,hij⟩:=Tc (by omega) hne
  have:=h3 i hi;rw[hij]at this;exact this
theorem OC{L M:List Obj}{g:Int}(h0:0<=g):cV (mX L M g) (aL (dM L M) g.toNat 0) (aQ M (aL (dM L M) g.toNat 0))=mX L M (g+1):=by
 unfold mX;rw[show(g+1).toNat=g.toNat+1 by omega]
 simp only[Mv];rfl
theorem QL{L M:List Obj}(hl:M.length=L.length)(h:1<=L.length):kb L M=false:=by
 unfold kb bD aK;simp only[hl,show decide (L.length=0)=false from decide_eq_false (by omega),Bool.false_or,decide_true,Bool.not_true]
theorem JM{M:List Obj}{f g:Int}(h:g<=f):oi M f g=false:=by
 unfold oi;rw[List.any_eq_false];intro j _;simp only[af,ah,not_and];intro h1 h2;omega
theorem TK{L M:List Obj}:(dM L M).length<=L.length:=by
 unfold dM iT;rw[List.length_map];have:=List.length_filter_le (fun j=> !GZ (aL L j free) (aL M j free)) (List.range (aK L:Int).toNat)
 simpa[aK]using this
structure Acb where
 kind:Int
 num:Int
 bank:Key
 key:Key
 obj:Int
def Acb.wf(x:Acb):Prop:=cB .i64 x.kind/\cB .i64 x.num/\x.bank.wf/\x.key.wf/\cB .i64 x.obj
theorem Lo{L M:List Obj}{k:Key}{d:Int}{c:Bool}(hl:M.length=L.length)(h1:(aL M k.oid.toNat free).kind=(aL L k.oid.toNat free).kind)(h2:(aL M k.oid.toNat free).count=(aL L k.oid.toNat free).count)(h3:(aL M k.oid.toNat free).calls=(aL L k.oid.toNat free).calls):bq M k d c=bq L k d c:=by
 have hi:bk M k=bk L k:=by
  unfold bk bH cW aK;rw[hl,h1,h2,h3]
 unfold bq aK;rw[hl,hi]
theorem VF{L:List Obj}{k:Key}(h:bx L k=0):jN (aL L k.oid.toNat free) (L.length:Int)=true/\(aL L k.oid.toNat free).kind=1:=by
 obtain⟨ha,_⟩:=kx h;obtain⟨i1,i2,_⟩:=jv ha;refine⟨?_,Bz i1 i2⟩;unfold bx at h;rw[ar ha]at h;split at h
 ·rename_i hc;exact hc
 ·omega
theorem NG{L:List Obj}{f l kind:Int}{j:Nat}(h0:0<=f)(hj:j<L.length)(hk:(aL L j free).kind≠0):aL (kq L f l kind) j free=aL L j free:=by
 have hG:∀g,aL (cw L f g) j free=aL L j free:=fun g=>by
  unfold cw;rw[ia hj,aq];simp only[kc,af,ah];omega
 unfold kq;split
 ·exact hG _
 ·rename_i hi;rcases qa (L:=L) (l:=l) h0 with e|⟨a,b,c,d⟩
  ·exact absurd e hi
  ·rw[dE (by rw[lA];omega),aq,hG]
   intro e;rw[<-e]at d;unfold ey at d;simp only[af,ah]at d;exact hk d.1
theorem Sr{L:List Obj}{f l kind:Int}(hL:aO L)(h0:0<=f)(hk:kind=1\/kind=2):aO (kq L f l kind):=by
 unfold kq;split
 ·exact HB hL
 ·rename_i hi;rcases qa (L:=L) (l:=l) h0 with e|⟨a,b,c,d⟩
  ·exact absurd e hi
  ·exact lk (HB hL) (by rw[lA];exact Ed (dA hL _ (by omega)) d hk)
theorem Jm{L:List Obj}{k:Key}{kind:Int}(hL:aO L):aO (gh L k kind):=by
 unfold gh;split
 ·rename_i h
  have he:bx L k=0:=by
   unfold gp at h;split at h
   ·assumption
   ·rename_i h';exact absurd h h'
  refine Sr hL (kx he).2.1 ?_;unfold gp at h;rw[ar he]at h;split at h
  ·assumption
  ·omega
 ·exact hL
theorem Tz{L:List Obj}{k:Key}{kind:Int}(h:dZ L k kind=0):bx L k=0/\(kind=1\/kind=2)/\aX L k<=(dh L k kind).oid/\(dh L k kind).oid<=aZ L k/\(dh L k kind).oid<(L.length:Int)/\ff L (aX L k) (aZ L k)=(dh L k kind).oid/\
  ey (aL L (dh L k kind).oid.toNat free)=true/\(dh L k kind).count=(aL L (dh L k kind).oid.toNat free).count+1:=by
 have h':=h;unfold dZ at h;split at h
 case isFalse h2=>exact absurd h h2
 rename_i hE0
 have he:bx L k=0:=by
  unfold gp at hE0;split at hE0
  ·assumption
  ·rename_i h2;exact absurd hE0 h2
 have hk:kind=1\/kind=2:=by
  unfold gp at hE0;rw[ar he]at hE0;split at hE0
  ·assumption
  ·omega
 split at h
 ·omega
 ·rename_i hi;have hK:dh L k kind=cR kind (ff L (aX L k) (aZ L k)) ((aL L (ff L (aX L k) (aZ L k)).toNat free).count+1):=by unfold dh;rw[ar h']
  rcases qa (L:=L) (l:=aZ L k) (kx he).2.1 with e|⟨a,b,c,d⟩
  ·exact absurd e hi
  ·rw[hK];exact⟨he,hk,a,b,c,rfl,d,rfl⟩
theorem OI{L:List Obj}{k:Key}{n:Int}(hL:aO L)(e:bx L k=0)(h:cX L k n=0):
 aO (bN L k n)/\(bN L k n).length=L.length/\bx (bN L k n) k=0/\aX (bN L k n) k=aX L k/\aZ (bN L k n) k=aZ L k-n/\bx (bN L k n) (cJ L k n)=0/\aX (bN L k n) (cJ L k n)=aZ L k-n+1/\aZ (bN L k n) (cJ L k n)=aZ L k/\aX L k<=(cJ L k n).oid/\(cJ L k n).oid<=aZ L k-n/\1<=n/\n<=aZ L k-aX L k/\ey (aL L (cJ L k n).oid.toNat free)=true:=by
 obtain⟨ha,a0,a1,a2,a3,a4⟩:=kx e;obtain⟨hok,hk1⟩:=VF e;obtain⟨x1,x2⟩:=fJ hL;have h':=h;unfold cX at h;split at h
 case isFalse h2=>exact absurd h h2
 rename_i hE0;split at h
 case isTrue=>omega
 rename_i hI
 have hn:1<=n/\n<=aZ L k-aX L k:=by
  unfold mL at hE0;rw[ar e]at hE0;split at hE0
  ·omega
  ·omega
 have hin:=qa (L:=L) (l:=aZ L k) a0;have hIe:ff L (aX L k) (aZ L k)=eU L k:=rfl;have hne1:ff L (aX L k) (aZ L k)≠ -1:=by rw[hIe];omega
 rw[hIe]at hin;rcases hin with hin|⟨i1,i2,i3,i4⟩
 ·omega
 have hMlen:(dP L k).length=L.length:=DJ;have hMok:aO (dP L k):=Sr hL a0 (.inl rfl);have hMI:aL (dP L k) (eU L k).toNat free=mg (aL L (eU L k).toNat free) 1:=R8 a0 hne1;have QB:aL (dP L k) k.oid.toNat free=aL L k.oid.toNat free:=NG a0 (by omega) (by omega)
 have hne:k.oid.toNat≠(eU L k).toNat:=fun hh=>by
  rw[hh]at hk1;unfold ey at i4;simp only[af,ah]at i4;omega
 have hLL:bN L k n=eQ (eQ (dP L k) (eU L k).toNat (jE (aL (dP L k) (eU L k).toNat free) (aZ L k-n+1) (aZ L k))) k.oid.toNat (mQ (aL (dP L k) k.oid.toNat free) (aZ L k-n)):=by
  unfold bN;rw[ar h']
 have hKK:cJ L k n=⟨4,eU L k,(aL L (eU L k).toNat free).count+1,0,0,0⟩:=by
  unfold cJ;rw[ar h',hMI];rfl
 have o1:bS (jE (aL (dP L k) (eU L k).toNat free) (aZ L k-n+1) (aZ L k)) (L.length:Int)=true:=JQ (by rw[<-hMlen];exact dA hMok _ (by omega)) (by rw[hMI];rfl)
 have o2:bS (mQ (aL (dP L k) k.oid.toNat free) (aZ L k-n)) (L.length:Int)=true:=I9 (by rw[<-hMlen];exact dA hMok _ (by omega)) (by rw[QB];exact hk1)
 have l1:(eQ (dP L k) (eU L k).toNat (jE (aL (dP L k) (eU L k).toNat free) (aZ L k-n+1) (aZ L k))).length=L.length:=by rw[fN];exact hMlen
 have okX:=lk (i:=(eU L k).toNat) hMok (by rw[hMlen];exact o1)
 have hlen:(bN L k n).length=L.length:=by rw[hLL,fN];exact l1
 have hokL:aO (bN L k n):=by rw[hLL];exact lk okX (by rw[l1];exact o2)
 have hgk:aL (bN L k n) k.oid.toNat free=mQ (aL L k.oid.toNat free) (aZ L k-n):=by
  rw[hLL,dE (by omega),ar rfl,QB]
 have hgI:aL (bN L k n) (eU L k).toNat free=jE (mg (aL L (eU L k).toNat free) 1) (aZ L k-n+1) (aZ L k):=by
  rw[hLL,dE (by omega),aq (Ne.symm hne),dE (by omega),ar rfl,hMI]
 have s2:∀(o:Obj) (b:Int),(mQ o b).slots.at 0=o.slots.at 0/\(mQ o b).slots.at 1=dR b:=fun o b=>by
  unfold mQ;simp only;rw[ck.gg _ _ _ _ (by omega),ck.gg _ _ _ _ (by omega)]
  exact⟨rfl,rfl⟩
 have s1:∀(o:Obj) (a b:Int),(jE o a b).slots.at 0=dR a/\(jE o a b).slots.at 1=dR b:=fun o a b=>by
  unfold jE;simp only;rw[ck.gg _ _ _ _ (by omega),ck.gg _ _ _ _ (by omega),ck.gg _ _ _ _ (by omega)]
  exact⟨rfl,rfl⟩
 have hask:bq (bN L k n) k 4 false=0:=by
  rw[Lo hlen (by rw[hgk];rfl) (by rw[hgk];rfl) (by rw[hgk];rfl)];exact ha
 unfold jN at hok;simp only[af,ah]at hok;obtain⟨⟨⟨⟨c1,c2⟩,c3⟩,c4⟩,c5⟩:=hok;have hA':aX (bN L k n) k=aX L k:=by unfold aX;rw[hgk,(s2 _ _).1]
 have hB':aZ (bN L k n) k=aZ L k-n:=by
  have:aZ (bN L k n) k=((mQ (aL L k.oid.toNat free) (aZ L k-n)).slots.at 1).value:=by rw[<-hgk];rfl
  rw[this,(s2 _ _).2];rfl
 have hE':bx (bN L k n) k=0:=(zd hask (by
  rw[hgk];unfold jN aK;rw[(s2 _ _).1,(s2 _ _).2,hlen];have v0:((aL L k.oid.toNat free).slots.at 0).value=aX L k:=rfl;simp only[dR,af,ah];refine⟨⟨⟨⟨c1,?_⟩,c3⟩,?_⟩,?_⟩
  ·trivial
  ·exact decide_eq_true (by omega)
  ·exact decide_eq_true (by omega))).1
 have i4':=i4;unfold ey at i4';simp only[af,ah]at i4';have hcb:=ly (dA hL (eU L k).toNat (by omega))
 have hkey:aR (cJ L k n)=true:=by
  rw[hKK];unfold aR eH;simp only[cG,fD,jc,dg];simp;omega
 have hoid:(cJ L k n).oid=eU L k:=by rw[hKK]
 have hisO:cG (cJ L k n).kind=true:=by rw[hKK];rfl
 have hnm:bc (cJ L k n)=true:=by unfold bc;rw[hkey,hisO];rfl
 have hnames:cx (cJ L k n)=eU L k:=by unfold cx;rw[hkey,hisO,hoid];rfl
 have hcounts:cW (cJ L k n) (aL (bN L k n) (cJ L k n).oid.toNat free)=true:=by
  unfold cW jo;rw[hkey,hnames,hoid,hgI,aq (by omega),hKK]
  simp[jE,mg]
 have his:bk (bN L k n) (cJ L k n)=true:=by
  unfold bk;rw[hnm,hcounts,jr.2 ⟨by omega,by omega⟩];rfl
 have hask2:bq (bN L k n) (cJ L k n) 4 false=0:=by
  unfold bq aK;rw[aq (by omega),aq (by rw[his,hKK];simp),aq (by simp)]
 have hobj:aL (bN L k n) (cJ L k n).oid.toNat free=jE (mg (aL L (eU L k).toNat free) 1) (aZ L k-n+1) (aZ L k):=by rw[hoid];exact hgI
 refine⟨hokL,hlen,hE',hA',hB',(zd hask2 ?_).1,?_,?_,by rw[hoid];exact i1,by rw[hoid];omega,hn.1,hn.2,by rw[hoid];exact i4⟩
 ·rw[hobj];unfold jN aK;rw[(s1 _ _ _).1,(s1 _ _ _).2,hlen];simp only[dR,af,ah];refine⟨⟨⟨⟨?_,?_⟩,?_⟩,?_⟩,?_⟩
  ·trivial
  ·trivial
  ·exact decide_eq_true (by omega)
  ·exact decide_eq_true (by omega)
  ·exact decide_eq_true (by omega)
 ·unfold aX;rw[hobj,(s1 _ _ _).1];rfl
 ·have:aZ (bN L k n) (cJ L k n)=((jE (mg (aL L (eU L k).toNat free) 1) (aZ L k-n+1) (aZ L k)).slots.at 1).value:=by rw[<-hobj];rfl
  rw[this,(s1 _ _ _).2];rfl
end Go.Sx
namespace Go.Proofs.YtmfbohanboiklaaGreat
open Go.Sx
theorem Vc(kind oid count:Int):
 (decide (kind=2)=true->Key.mk 3 oid count void.call void.rights void.value=cR kind oid count)/\(decide (kind=2)=false->Key.mk 2 oid count void.call void.rights void.value=cR kind
  oid count):=by
 unfold cR;exact⟨fun h=>by rw[ar (ak h)];rfl,fun h=>by rw[aq (aj h)];rfl⟩
theorem s7[Fen]:dO Tryz.prog 222 aaA:=
 RU (iO .i64) (iO .i64) (iO .i64) (fun _ _ _=>rfl) fun i j k _ _ _=>bP (inl:=cH) (ann:=bn) aP (Vc i j k) (by kernel_rfl)
theorem LB(k v:Key):
 aw (aw (au (!decide (0<aJ [])) (false=nM [] k v/\1=bx [] k) (aw (au (!(bk [] k&&decide (k.kind=4))) (false=nM [] k v/\190=bx [] k) (aw (au (!(decide ((ay [] k 0).kind=1)&&decide ((ay [] k 1).kind=1)&&decide (0<=(ay [] k 0).value)&&decide ((ay [] k 0).value<=(ay [] k 1).value)&&decide ((ay [] k 1).value<aJ []))) (false=nM [] k v/\220=bx [] k) (aw ((bk [] v&&(decide (v.kind=2)||decide (v.kind=3))&&decide ((ay [] k 0).value<=cz v)&&decide (cz v<=(ay [] k 1).value))=nM [] k v/\0=bx [] k)))))))):=by
 delta au ay aw
 exact⟨rfl,rfl,fun h=>C8 (IE h) (by omega),fun h=>absurd h (by decide)⟩
theorem Sw(L:List Sx.Obj)(k v:Key):
 aw (aw (au (!decide (0<aJ L)) (false=nM L k v/\1=bx L k) (aw (au (!(bk L k&&decide (k.kind=4))) (false=nM L k v/\190=bx L k) (aw (au (!(decide ((ay L k 0).kind=1)&&decide ((ay L k 1).kind=1)&&decide (0<=(ay L k 0).value)&&decide ((ay L k 0).value<=(ay L k 1).value)&&decide ((ay L k 1).value<aJ L))) (false=nM L k v/\220=bx L k) (aw ((bk L v&&(decide (v.kind=2)||decide (v.kind=3))&&decide ((ay L k 0).value<=cz v)&&decide (cz v<=(ay L k 1).value))=nM L k v/\0=bx L k)))))))):=by
 delta au ay aw
 refine⟨rfl,rfl,fun h=>C8 (IE h) (by omega),fun h=>⟨rfl,fun h2=>C8 (bk2 h h2) (by omega),fun h2=>⟨rfl,fun h3=>C8 (bk3 h h2 h3) (by omega),fun h3=>⟨rfl,?_,(WN h h2 h3).1.symm⟩⟩⟩⟩
 obtain⟨e,e1,e2⟩:=WN h h2 h3;rw[e1,e2];unfold nM jK;rw[e];cases hi:bk L v with
 |false=>simp
 |true=>
  cases hk:(decide (v.kind=2)||decide (v.kind=3))with
  |false=>simp
  |true=>
   have hn:cz v=v.oid:=Zs hi;rw[hn];simp
theorem Sg[Fen]:dO Tryz.prog 216 T6:=
 kW (ba tq Ri) (fun _=>rfl) fun a hq hok=>by
  obtain⟨S,k,v,_⟩:=a;cases S with
  |none=>exact bm (inl:=(aeq [205,204,206])) (ann:=bn) (aH bF (aH bT (aH dC aP))) aT (ek iq) (LB k v) (by kernel_rfl)
  |some L=>exact bm (inl:=(aeq [205,204,206])) (ann:=bn) (aH bF (aH bT (aH dC aP))) aT (ek iq) (Sw L k v) (by kernel_rfl)
theorem Sz(k v:Key):
 aw (aw (au (!decide (0<aJ [])) (1=eM [] k v) (aw (au (!(bk [] k&&decide (k.kind=4))) (190=eM [] k v) (aw (au (!(decide ((ay [] k 0).kind=1)&&decide ((ay [] k 1).kind=1)&&decide (0<=(ay [] k 0).value)&&decide ((ay [] k 0).value<=(ay [] k 1).value)&&decide ((ay [] k 1).value<aJ []))) (220=eM [] k v) (aw (aw (au (!(bk [] v&&(decide (v.kind=2)||decide (v.kind=3)))) (5=eM [] k v) (aw (aw (au (!(decide ((ay [] k 0).value<=v.oid)&&decide (v.oid<=(ay [] k 1).value)&& !decide (v.oid=k.oid))) (4=eM [] k v) (aw (aw (0=eM [] k v))))))))))))))):=by
 delta au ay aw
 exact⟨rfl,rfl,fun h=>(ua (sq (IE h) (by omega)) (by omega)).1,fun h=>absurd h (by decide)⟩
theorem RM(k v:Key):
 aw (aw (au (!decide (0<aJ [])) (1=eM [] k v) (aw (au (!(bk [] k&&decide (k.kind=4))) (190=eM [] k v) (aw (au (!(decide ((ay [] k 0).kind=1)&&decide ((ay [] k 1).kind=1)&&decide (0<=(ay [] k 0).value)&&decide ((ay [] k 0).value<=(ay [] k 1).value)&&decide ((ay [] k 1).value<aJ []))) (220=eM [] k v) (aw (aw (au (!(bk [] v&&(decide (v.kind=2)||decide (v.kind=3)))) (5=eM [] k v) (aw (aw (au (!(decide ((ay [] k 0).value<=v.oid)&&decide (v.oid<=(ay [] k 1).value)&& !decide (v.oid=k.oid))) (4=eM [] k v) (aw (aw False)))))))))))))):=by
 delta au ay aw
 exact⟨rfl,rfl,fun h=>(ua (sq (IE h) (by omega)) (by omega)).1,fun h=>absurd h (by decide)⟩
theorem VE(L:List Sx.Obj)(k v:Key)(hL:aO L):
 aw (aw (au (!decide (0<aJ L)) (1=eM L k v/\L=iU L k v) (aw (au (!(bk L k&&decide (k.kind=4))) (190=eM L k v/\L=iU L k v) (aw (au (!(decide ((ay L k 0).kind=1)&&decide ((ay L k 1).kind=1)&&decide (0<=(ay L k 0).value)&&decide ((ay L k 0).value<=(ay L k 1).value)&&decide ((ay L k 1).value<aJ L))) (220=eM L k v/\L=iU L k v) (aw (aw (au (!(bk L v&&(decide (v.kind=2)||decide (v.kind=3)))) (5=eM L k v/\L=iU L k v) (aw (aw (au (!(decide ((ay L k 0).value<=v.oid)&&decide (v.oid<=(ay L k 1).value)&& !decide (v.oid=k.oid))) (4=eM L k v/\L=iU L k v) (aw (aw (0=eM L k v/\cV L v.oid (Obj.mk free.kind (aQ L v.oid).count free.calls free.slots free.bytes)=iU L k v))))))))))))))):=by
 delta au ay aw
 refine⟨rfl,rfl,fun h=>ua (sq (IE h) (by omega)) (by omega),fun h=>⟨rfl,fun h2=>ua (sq (bk2 h h2) (by omega)) (by omega),fun h2=>⟨rfl,fun h3=>ua (sq (bk3 h h2 h3) (by omega)) (by omega),fun h3=>⟨rfl,rfl,fun h4=>?_,fun h4=>⟨rfl,rfl,fun h5=>?_,fun h5=>⟨rfl,rfl,?_⟩⟩⟩⟩⟩⟩
 ·obtain⟨e,e1,e2⟩:=WN h h2 h3;have ht:jK L v=false:=by have h4':(!jK L v)=true:=h4;simpa using h4'
  exact ua (by unfold eM;rw[ar e,ht];rfl) (by omega)
 ·obtain⟨e,e1,e2⟩:=WN h h2 h3;have ht:jK L v=true:=by have h4':(!jK L v)=false:=h4;simpa using h4'
  rw[e1,e2]at h5
  exact ua (by
   unfold eM;rw[ar e,ht,ar rfl,aq];intro hh;simp only[Bool.not_eq_true',Bool.and_eq_false_iff,Bool.not_eq_false',decide_eq_false_iff_not,ah]at h5;omega) (by omega)
 ·obtain⟨e,e1,e2⟩:=WN h h2 h3;have ht:jK L v=true:=by have h4':(!jK L v)=false:=h4;simpa using h4'
  rw[e1,e2]at h5
  have hE:eM L k v=0:=by
   unfold eM;rw[ar e,ht,ar rfl,ar];simp only[Bool.not_eq_false',af,Bool.not_eq_true',ah,decide_eq_false_iff_not]at h5;omega
  obtain⟨_,b2,b3,_⟩:=eT (GB ht);rw[ij b2 b3];refine⟨hE.symm,?_⟩;unfold iU;rw[ar hE];exact(mn b2 b3 (ym (dA hL v.oid.toNat (by omega)))).1
theorem T9[Fen](L:List Sx.Obj)(k v:Key)(hL:aO L):aM Tryz.prog 156 [.lp 0 0,.key k,.key v] [.store tS eS L] (Bb (.it .i64 (eM L k v)) (iU L k v)) (fun _ _=>False):=
 bm (inl:=(aeq [205,204,206,207,208])) (ann:=bn) (aH bF (aH bT (aH fi aP))) (aW dI aT) (ek iq) (VE L k v hL) (by kernel_rfl)
theorem Ua[Fen]:l5 Tryz.prog 156 ZJ:=
 nZ (m:=fun x=>kkB.cn x 0) (pc Ri (fun _=>rfl)) (fun _=>rfl) (fun _ _=>rfl) (fun x=>bm (inl:=(aeq [205,204,206,207,208])) (ann:=bn) (aH bF (aH bT (aH fi aP))) (aW dI aT) (ek iq) (Sz x.1 x.2.1) (by kernel_rfl)) (fun x=>bm (inl:=(aeq [205,204,206,207,208])) (ann:=bn) (aH bF (aH bT (aH fi aP))) (aW dI aT) (ek iq) (RM x.1 x.2.1) (by kernel_rfl)) fun L x hL _ _=>T9 L x.1 x.2.1 hL
theorem Lk(k:Key):
 aw (aw (au (!decide (0<aJ [])) (0=j7 [] k/\1=bx [] k) (aw (au (!(bk [] k&&decide (k.kind=4))) (0=j7 [] k/\190=bx [] k) (aw (au (!(decide ((ay [] k 0).kind=1)&&decide ((ay [] k 1).kind=1)&&decide (0<=(ay [] k 0).value)&&decide ((ay [] k 0).value<=(ay [] k 1).value)&&decide ((ay [] k 1).value<aJ []))) (0=j7 [] k/\220=bx [] k) (aw (aw (∀(r0:Loop),False))))))))):=by
 delta au ay aw
 exact⟨rfl,rfl,fun h=>(zP (IE h) (by omega)).1,fun h=>absurd h (by decide)⟩
theorem L6(k:Key):
 aw (aw (au (!decide (0<aJ [])) (0=j7 [] k/\1=bx [] k) (aw (au (!(bk [] k&&decide (k.kind=4))) (0=j7 [] k/\190=bx [] k) (aw (au (!(decide ((ay [] k 0).kind=1)&&decide ((ay [] k 1).kind=1)&&decide (0<=(ay [] k 0).value)&&decide ((ay [] k 0).value<=(ay [] k 1).value)&&decide ((ay [] k 1).value<aJ []))) (0=j7 [] k/\220=bx [] k) (aw (aw (∀(r0:Loop),False))))))))):=by
 delta au ay aw
 exact⟨rfl,rfl,fun h=>(zP (IE h) (by omega)).1,fun h=>absurd h (by decide)⟩
theorem NW(L:List Sx.Obj)(k:Key)(hL:aO L):
 aw (aw (au (!decide (0<aJ L)) ((0=j7 L k/\1=bx L k)/\L=jF L k) (aw (au (!(bk L k&&decide (k.kind=4))) ((0=j7 L k/\190=bx L k)/\L=jF L k) (aw (au (!(decide ((ay L k 0).kind=1)&&decide ((ay L k 1).kind=1)&&decide (0<=(ay L k 0).value)&&decide ((ay L k 0).value<=(ay L k 1).value)&&decide ((ay L k 1).value<aJ L))) ((0=j7 L k/\220=bx L k)/\L=jF L k) (aw (aw (∀(r0 :Loop),(∃g,sV L k g/\(ay L k 0).value=g/\L=gS L (aX L k) g k.oid/\k=k/\0=iZ L (aX L k) g k.oid/\k=k/\aG L k=aG L k/\k.oid=k.oid/\(ay L k 0).value=(ay L k 0).value/\(ay L k 1).value=(ay L k 1).value/\aG L k=aG L k/\ay L k 0=ay L k 0/\ay L k 1=ay L k 1/\aG L k=aG L k/\k.oid=k.oid/\(ay L k 0).value=(ay L k 0).value/\(ay L k 1).value=(ay L k 1).value/\aG L k=aG L k/\k.oid=k.oid/\(ay L k 0).value=(ay L k 0).value/\(ay L k 1).value=(ay L k 1).value/\r0=r0)/\∀(g:Int),sV L k g->au (decide (g<=(ay L k 1).value)) (r0=r0/\r0=r0/\au (decide ((aQ (gS L (aX L k) g k.oid) g).kind=1)||decide ((aQ (gS L (aX L k) g k.oid) g).kind=2)) (aw (au (decide ((ay L k 0).value<=g)&&decide (g<=(ay L k 1).value)&& !decide (g=k.oid)) (aw (aw (az (iZ L (aX L k) g k.oid+1)/\r0=r0/\az (g+1)/\∃g',sV L k g'/\(aZ L k+1-g').toNat<(aZ L k+1- g).toNat/\g+1=g'/\cV (gS L (aX L k) g k.oid) g (Obj.mk free.kind (aQ (gS L (aX L k) g k.oid) g).count free.calls free.slots free.bytes)=gS L (aX L k) g' k.oid/\k=k/\iZ L (aX L k) g k.oid+1=iZ L (aX L k) g' k.oid/\k=k/\aG L k=aG L k/\k.oid=k.oid/\(ay L k 0).value=(ay L k 0).value/\(ay L k 1).value=(ay L k 1).value/\aG L k=aG L k/\ay L k 0=ay L k 0/\ay L k 1=ay L k 1/\aG L k=aG L k/\k.oid=k.oid/\(ay L k 0).value=(ay L k 0).value/\(ay L k 1).value=(ay L k 1).value/\aG L k=aG L k/\k.oid=k.oid/\(ay L k 0).value=(ay L k 0).value/\(ay L k 1).value=(ay L k 1).value/\r0=r0))) (r0=r0/\az (g+1)/\∃g',sV L k g'/\(aZ L k+1-g').toNat<(aZ L k+1-g).toNat/\g+1=g'/\gS L (aX L k) g k.oid=gS L (aX L k) g' k.oid/\k=k/\iZ L (aX L k) g k.oid=iZ L (aX L k) g' k.oid/\k=k/\aG L k=aG L k/\k.oid=k.oid/\(ay L k 0).value=(ay L k 0).value/\(ay L k 1).value=(ay L k 1).value/\aG L k=aG L k/\ay L k 0=ay L k 0/\ay L k 1=ay L k 1/\aG L k=aG L k/\k.oid=k.oid/\(ay L k 0).value=(ay L k 0).value/\(ay L k 1).value=(ay L k 1).value/\aG L k=aG L k/\k.oid=k.oid/\(ay L k 0).value=(ay L k 0).value/\(ay L k 1).value=(ay L k 1).value/\r0=r0))) (r0=r0/\az (g+1)/\∃g',sV L k g'/\(aZ L k+1-g').toNat<(aZ L k+1-g).toNat/\g+1=g'/\gS L (aX L k) g k.oid=gS L (aX L k) g' k.oid/\k=k/\iZ L (aX L k) g k.oid=iZ L (aX L k) g' k.oid/\k=k/\aG L k=aG L k/\k.oid=k.oid/\(ay L k 0).value=(ay L k 0).value/\(ay L k 1).value=(ay L k 1).value/\aG L k=aG L k/\ay L k 0=ay L k 0/\ay L k 1=ay L k 1/\aG L k=aG L k/\k.oid=k.oid/\(ay L k 0).value=(ay L k 0).value/\(ay L k 1).value=(ay L k 1).value/\aG L k=aG L k/\k.oid=k.oid/\(ay L k 0).value=(ay L k 0).value/\(ay L k 1).value=(ay L k 1).value/\r0=r0)) ((iZ L (aX L k) g k.oid=j7 L k/\0=bx L k)/\gS L (aX L k) g k.oid=jF L k)))))))))):=by
 delta au ay az aw
 refine⟨rfl,rfl,fun h=>zP (IE h) (by omega),fun h=>⟨rfl,fun h2=>zP (bk2 h h2) (by omega),fun h2=>⟨rfl,fun h3=>zP (bk3 h h2 h3) (by omega),fun h3=>⟨rfl,rfl,fun r0=>?_⟩⟩⟩⟩
 obtain⟨e,e1,e2⟩:=WN h h2 h3;obtain⟨_,a0,a1,a2,_⟩:=kx e;rw[e1,e2];have hlen:=fJ hL;have hin:∀g:Int,aX L k<=g->g<=aZ L k->bh IntKind.i64 (g+1):=fun g h1 h2=>by simp only[bh,cB];omega
 have hnn:∀g:Int,bh IntKind.i64 (iZ L (aX L k) g k.oid+1):=fun g=>by
  have:=H6 (L:=L) (f:=aX L k) (g:=g) (oid:=k.oid);have:=YA (L:=L) (f:=aX L k) (g:=g) (oid:=k.oid);simp only[bh,cB];omega
 refine⟨⟨aX L k,⟨by omega,by omega⟩,rfl,MA,rfl,FB.symm,(by(repeat' apply And.intro)<;>rfl)⟩,fun g hg=>⟨fun hgl=>?_,fun hgl=>?_⟩⟩
 ·obtain⟨g0,g1⟩:=hg;have hgl:=ak hgl;have hgz:(gS L (aX L k) g k.oid).length=L.length:=DY;have hgt:aQ (gS L (aX L k) g k.oid) g=aL L g.toNat free:=by rw[ij (by omega) (by omega),aaz (by omega)]
  rw[hgt];refine⟨rfl,rfl,fun hk=>⟨rfl,fun hb=>?_,fun hb=>?_⟩,fun hk=>?_⟩
  ·have hne:¬g=k.oid:=by
    simp only[af,Bool.not_eq_true',decide_eq_false_iff_not]at hb;exact hb.2
   have hh:kU L g k.oid=true:=by unfold kU mU;rw[hk];simp[hne]
   have hs:=N6 (L:=L) (f:=aX L k) (oid:=k.oid) (by omega:0<=g) (by omega) g0 hh
   have hs2:=Uy (L:=L) (f:=aX L k) (oid:=k.oid) (by omega:0<=g) (by omega) g0 hh
   have hp:=(mn (L:=gS L (aX L k) g k.oid) (i:=g) (by omega) (by omega) (hgz▸ym (dA hL g.toNat (by omega)))).1
   exact⟨rfl,rfl,hnn g,rfl,hin g g0 hgl,g+1,⟨by omega,by omega⟩,by omega,rfl,hp.trans hs2,rfl,hs.symm,(by(repeat' apply And.intro)<;>rfl)⟩
  ·have hh:kU L g k.oid=false:=by
    have e3:decide (aX L k<=g)=true:=by simp;omega
    have e4:decide (g<=aZ L k)=true:=by simp;omega
    rw[e3,e4]at hb;unfold kU;rw[Bool.and_eq_false_iff];right
    simpa using hb
   have hs:=FL (L:=L) (f:=aX L k) (oid:=k.oid) (by omega:0<=g) g0 hh
   have hs2:=Fc (L:=L) (f:=aX L k) (oid:=k.oid) (by omega:0<=g) g0 hh
   exact⟨rfl,hin g g0 hgl,g+1,⟨by omega,by omega⟩,by omega,rfl,hs2.symm,rfl,hs.symm,(by(repeat' apply And.intro)<;>rfl)⟩
  ·have hh:kU L g k.oid=false:=by unfold kU mU;rw[hk];rfl
   have hs:=FL (L:=L) (f:=aX L k) (oid:=k.oid) (by omega:0<=g) g0 hh
   have hs2:=Fc (L:=L) (f:=aX L k) (oid:=k.oid) (by omega:0<=g) g0 hh
   exact⟨rfl,hin g g0 hgl,g+1,⟨by omega,by omega⟩,by omega,rfl,hs2.symm,rfl,hs.symm,(by(repeat' apply And.intro)<;>rfl)⟩
 ·obtain⟨g0,g1⟩:=hg;have hgl:=aj hgl;have:g=aZ L k+1:=by omega
  subst this;exact⟨⟨by unfold j7;rw[ar e],e.symm⟩,by unfold jF;rw[ar e]⟩
theorem NM[Fen](L:List Sx.Obj)(k:Key)(hL:aO L):aM Tryz.prog 217 [.lp 0 0,.key k] [.store tS eS L] (Bb (.tp [.it .i64 (j7 L k),.it .i64 (bx L k)]) (jF L k)) (fun _ _=>False):=
 bm (inl:=(aeq [205,204,207,208,210,1000000+223])) (ann:=(lf [(5000+223,1,lpT [0,1] (fun(g:Int)=> [(3,.it .i64 g)]) (fun g=> [(0,.store tS eS (gS L (aX L k) g k.oid)),(2,.blk 3 (.it .i64 (iZ L (aX L k) g k.oid)))]) (sV L k) (fun g=>ny (u9 (DE (aZ L k) 1) g)))])) (aH bF (aH bT (aH fi aP))) (aW dI aT) (ek iq) (NW L k hL) (by kernel_rfl)
theorem NO[Fen]:l5 Tryz.prog 217 Vk:=
 nZ (m:=fun x=>kB.cn x 0) (pc acr (fun _=>rfl)) (fun _=>rfl) (fun _ _=>rfl) (fun x=>bm (inl:=(aeq [205,204,207,208,210,1000000+223])) (ann:=bn) (aH bF (aH bT (aH fi aP))) (aW dI aT) (ek iq) (Lk x.1) (by kernel_rfl)) (fun x=>bm (inl:=(aeq [205,204,207,208,210,1000000+223])) (ann:=bn) (aH bF (aH bT (aH fi aP))) (aW dI aT) (ek iq) (L6 x.1) (by kernel_rfl)) fun L x hL _ _=>NM L x.1 hL
theorem LP(k:Key)(kind:Int):
 aw (aw (au (!decide (0<aJ [])) (void=dh [] k kind/\1=dZ [] k kind) (aw (au (!(bk [] k&&decide (k.kind=4))) (void=dh [] k kind/\190=dZ [] k kind) (aw (au (!(decide ((ay [] k 0).kind=1)&&decide ((ay [] k 1).kind=1)&&decide (0<=(ay [] k 0).value)&&decide ((ay [] k 0).value<=(ay [] k 1).value)&&decide ((ay [] k 1).value<aJ []))) (void=dh [] k kind/\220=dZ [] k kind) (aw (au (!(decide (kind=1)||decide (kind=2))) (void=dh [] k kind/\2=dZ [] k kind) (aw (aw (aw (∀(r0:Loop),False)))))))))))):=by
 delta au ay aw
 exact⟨rfl,rfl,fun h=>(wm (qV (IE h) (by omega)) (by omega)).1,fun h=>absurd h (by decide)⟩
theorem Ls(k:Key)(kind:Int):
 aw (aw (au (!decide (0<aJ [])) (void=dh [] k kind/\1=dZ [] k kind) (aw (au (!(bk [] k&&decide (k.kind=4))) (void=dh [] k kind/\190=dZ [] k kind) (aw (au (!(decide ((ay [] k 0).kind=1)&&decide ((ay [] k 1).kind=1)&&decide (0<=(ay [] k 0).value)&&decide ((ay [] k 0).value<=(ay [] k 1).value)&&decide ((ay [] k 1).value<aJ []))) (void=dh [] k kind/\220=dZ [] k kind) (aw (au (!(decide (kind=1)||decide (kind=2))) (void=dh [] k kind/\2=dZ [] k kind) (aw (aw (aw (∀(r0:Loop),False)))))))))))):=by
 delta au ay aw
 exact⟨rfl,rfl,fun h=>(wm (qV (IE h) (by omega)) (by omega)).1,fun h=>absurd h (by decide)⟩
theorem Qp(L:List Sx.Obj)(k:Key)(kind:Int)(hL:aO L):
 aw (aw (au (!decide (0<aJ L)) ((void=dh L k kind/\1=dZ L k kind)/\L=gh L k kind) (aw (au (!(bk L k&&decide (k.kind=4))) ((void=dh L k kind/\190=dZ L k kind)/\L=gh L k kind) (aw (au (!(decide ((ay L k 0).kind=1)&&decide ((ay L k 1).kind=1)&&decide (0<=(ay L k 0).value)&&decide ((ay L k 0).value<=(ay L k 1).value)&&decide ((ay L k 1).value<aJ L))) ((void=dh L k kind/\220=dZ L k kind)/\L=gh L k kind) (aw (au (!(decide (kind=1)||decide (kind=2))) ((void=dh L k kind/\2=dZ L k kind)/\L=gh L k kind) (aw (aw (aw (∀(r0:Loop),(∃g,jI L k g/\(ay L k 0).value=g/\L=cw L (aX L k) g/\k=k/\void=void/\k=k/\aG L k=aG L k/\k.oid=k.oid/\(ay L k 0).value=(ay L k 0).value/\(ay L k 1).value=(ay L k 1).value/\aG L k=aG L k/\ay L k 0=ay L k 0/\ay L k 1=ay L k 1/\aG L k=aG L k/\k.oid=k.oid/\(ay L k 0).value=(ay L k 0).value/\(ay L k 1).value=(ay L k 1).value/\aG L k=aG L k/\k.oid=k.oid/\(ay L k 0).value=(ay L k 0).value/\(ay L k 1).value=(ay L k 1).value/\kind=kind/\void=void/\false=false/\aG L k=aG L k/\k.oid=k.oid/\(ay L k 0).value=(ay L k 0).value/\(ay L k 1).value=(ay L k 1).value/\r0=r0)/\∀(g:Int),jI L k g->au (decide (g<=(ay L k 1).value)) (r0=r0/\r0=r0/\au (!decide ((aQ (cw L (aX L k) g) g).kind=0)) (r0=r0/\az (g+1)/\∃g',jI L k g'/\(aZ L k+1-g').toNat<(aZ L k+1-g).toNat/\g+1=g'/\cw L (aX L k) g=cw L (aX L k) g'/\k=k/\void=void/\k=k/\aG L k=aG L k/\k.oid=k.oid/\(ay L k 0).value=(ay L k 0).value/\(ay L k 1).value=(ay L k 1).value/\aG L k=aG L k/\ay L k 0=ay L k 0/\ay L k 1=ay L k 1/\aG L k=aG L k/\k.oid=k.oid/\(ay L k 0).value=(ay L k 0).value/\(ay L k 1).value=(ay L k 1).value/\aG L k=aG L k/\k.oid=k.oid/\(ay L k 0).value=(ay L k 0).value/\(ay L k 1).value=(ay L k 1).value/\kind=kind/\void=void/\false=false/\aG L k=aG L k/\k.oid=k.oid/\(ay L k 0).value=(ay L k 0).value/\(ay L k 1).value=(ay L k 1).value/\r0=r0) (au (decide ((aQ (cw L (aX L k) g) g).count=4294967295)) (aw (r0=r0/\az (g+1)/\∃g',jI L k g'/\(aZ L k+1-g').toNat<(aZ L k+1-g).toNat/\g+1=g'/\cV (cw L (aX L k) g) g (Obj.mk 3 (aQ (cw L (aX L k) g) g).count free.calls free.slots free.bytes)=cw L (aX L k) g'/\k=k/\void=void/\k=k/\aG L k=aG L k/\k.oid=k.oid/\(ay L k 0).value=(ay L k 0).value/\(ay L k 1).value=(ay L k 1).value/\aG L k=aG L k/\ay L k 0=ay L k 0/\ay L k 1=ay L k 1/\aG L k=aG L k/\k.oid=k.oid/\(ay L k 0).value=(ay L k 0).value/\(ay L k 1).value=(ay L k 1).value/\aG L k=aG L k/\k.oid=k.oid/\(ay L k 0).value=(ay L k 0).value/\(ay L k 1).value=(ay L k 1).value/\kind=kind/\void=void/\false=false/\aG L k=aG L k/\k.oid=k.oid/\(ay L k 0).value=(ay L k 0).value/\(ay L k 1).value=(ay L k 1).value/\r0=r0)) (az ((aQ (cw L (aX L k) g) g).count+1)/\aw (az ((aQ (cw L (aX L k) g) g).count+1)/\r0=r0/\aw ((cR kind g ((aQ (cw L (aX L k) g) g).count+1)=dh L k kind/\0=dZ L k kind)/\cV (cw L (aX L k) g) g (Obj.mk kind ((aQ (cw L (aX L k) g) g).count+1) free.calls free.slots free.bytes)=gh L k kind))))) (aw ((void=dh L k kind/\221=dZ L k kind)/\cw L (aX L k) g=gh L k kind)))))))))))))):=by
 delta au ay az aw
 refine⟨rfl,rfl,fun h=>wm (qV (IE h) (by omega)) (by omega),fun h=>⟨rfl,fun h2=>wm (qV (bk2 h h2) (by omega)) (by omega),fun h2=>⟨rfl,fun h3=>wm (qV (bk3 h h2 h3) (by omega)) (by omega),fun h3=>⟨rfl,fun h4=>wm (Rn (WN h h2 h3).1 h4) (by omega),fun h4=>⟨rfl,rfl,rfl,fun r0=>?_⟩⟩⟩⟩⟩
 obtain⟨e,e1,e2⟩:=WN h h2 h3;obtain⟨_,a0,a1,a2,_⟩:=kx e;rw[e1,e2]
 have hk:kind=1\/kind=2:=by
  simp only[Bool.not_eq_false',Bool.or_eq_true,ah]at h4;exact h4
 have hlen:=fJ hL;have hin:∀g:Int,aX L k<=g->g<=aZ L k->bh IntKind.i64 (g+1):=fun g h1 h2=>by simp only[bh,cB];omega
 have hcnt:∀j:Nat,j<L.length->0<=(aL L j free).count/\(aL L j free).count<=4294967295:=fun j hj=>⟨(ly (dA hL j hj)).1,(ly (dA hL j hj)).2.1⟩
 have hci:∀j:Nat,j<L.length->bh IntKind.i64 ((aL L j free).count+1):=fun j hj=>by have:=hcnt j hj;simp only[bh,cB];omega
 refine⟨⟨aX L k,⟨by omega,by omega,zJ⟩,rfl,Fw,(by(repeat' apply And.intro)<;>rfl)⟩,fun g hg=>⟨fun hgl=>?_,fun hgl=>?_⟩⟩
 ·obtain⟨g0,g1,g2⟩:=hg;have hgl:=ak hgl;have hgn:g.toNat<L.length:=by omega
  have hgz:(cw L (aX L k) g).length=L.length:=lA;have hgt:aQ (cw L (aX L k) g) g=aL L g.toNat free:=by rw[ij (by omega) (by omega),GR (by omega)]
  rw[hgt];refine⟨rfl,rfl,fun hk0=>?_,fun hk0=>⟨fun hc=>?_,fun hc=>?_⟩⟩
  ·obtain⟨f1,f2⟩:=Kx (o:=aL L g.toNat free) (by simpa using hk0)
   exact⟨rfl,hin g g0 hgl,g+1,⟨by omega,by omega,qj g2 f2⟩,by omega,rfl,(EJ (by omega) f1).symm,(by(repeat' apply And.intro)<;>rfl)⟩
  ·obtain⟨f1,f2⟩:=R5 (o:=aL L g.toNat free) (by simpa using hk0) (by have:=ak hc;omega)
   have hp:=(mn (L:=cw L (aX L k) g) (i:=g) (by omega) (by omega) (hgz▸DN (dA hL g.toNat hgn))).1
   exact⟨rfl,rfl,hin g g0 hgl,g+1,⟨by omega,by omega,qj g2 f2⟩,by omega,rfl,hp.trans (JD (by omega) (by omega) g0 f1),(by(repeat' apply And.intro)<;>rfl)⟩
  ·have hc:=aj hc;have:=hcnt _ hgn;obtain⟨f1,f2⟩:=RY (o:=aL L g.toNat free) (by simpa using hk0) (by omega)
   obtain⟨m1,m2,m3⟩:=IP kind a0 g0 hgl (by omega) g2 f2
   obtain⟨n1,n2,n3,n4⟩:=TB (kind:=kind) e hk (by rw[m1];omega)
   have hp:=(mn (L:=cw L (aX L k) g) (i:=g) (by omega) (by omega) (hgz▸Ed (dA hL g.toNat hgn) f2 hk)).1
   refine⟨hci _ hgn,rfl,hci _ hgn,rfl,rfl,⟨?_,n3⟩,hp.trans (m3.symm.trans n4)⟩;have hK:dh L k kind=cR kind (ff L (aX L k) (aZ L k)) ((aL L (ff L (aX L k) (aZ L k)).toNat free).count+1):=by unfold dh;rw[ar n3.symm]
   rw[hK,m1]
 ·obtain⟨g0,g1,g2⟩:=hg;have hgl:=aj hgl;have:g=aZ L k+1:=by omega
  subst this;obtain⟨m1,m2,m3⟩:=OD kind g2;obtain⟨n1,n2,n3,n4⟩:=NI (kind:=kind) e hk m1;exact⟨rfl,⟨n2,n3⟩,m2.symm.trans n4⟩
theorem MU[Fen](L:List Sx.Obj)(k:Key)(kind:Int)(hL:aO L):aM Tryz.prog 202 [.lp 0 0,.key k,.it .i64 kind] [.store tS eS L] (Bb (.tp [.key (dh L k kind),.it .i64 (dZ L k kind)]) (gh L k kind)) (fun _ _=>False):=
 bm (inl:=(aeq [205,204,209,210,1000000+223])) (ann:=(lf [(3000+223,1,lpR [0,1] (fun g=> [(3,.it .i64 g)]) 0 (fun g=> .store tS eS (cw L (aX L k) g)) (jI L k) (DE (aZ L k) 1))])) (aH bF (aH bT (aH fi (aH s7 aP)))) (aW dI aT) (ek iq) (Qp L k kind hL) (by kernel_rfl)
theorem EG[Fen]:l5 Tryz.prog 202 Wx:=
 nZ (m:=fun x=>kiB.cn x 0) (pc Nc (fun _=>rfl)) (fun _=>rfl) (fun _ _=>rfl) (fun x=>bm (inl:=(aeq [205,204,209,210,1000000+223])) (ann:=bn) (aH bF (aH bT (aH fi (aH s7 aP)))) (aW dI aT) (ek iq) (LP x.1 x.2.1) (by kernel_rfl)) (fun x=>bm (inl:=(aeq [205,204,209,210,1000000+223])) (ann:=bn) (aH bF (aH bT (aH fi (aH s7 aP)))) (aW dI aT) (ek iq) (Ls x.1 x.2.1) (by kernel_rfl)) fun L x hL _ _=>MU L x.1 x.2.1 hL
theorem aao[Fen]{P:Program}{f:Nat}{g g':Ct}(h:dO P f g)(ha:∀res nid args q x new,g' res nid args=some (q,x,new)->∃x0,g res nid args=some (q,x0,new)/\(∀J,den J x=den J x0)/\∀K,ok K x0->ok K x):dO P f g':=by
 intro J fps res K w0 F0 w nid args q x new hH hargs hg hq hfr;obtain⟨x0,h1,h2,h3⟩:=ha res nid args q x new hg;obtain⟨c1,c2⟩:=h J fps res K w0 F0 w nid args q x0 new hH hargs h1 hq hfr;refine⟨c1.mono fun e w' ⟨v,he,hv⟩=>⟨v,he,?_⟩,c2⟩
 obtain⟨ρ',hgr,hv,hx⟩:=hv;exact⟨ρ',hgr,by rw[h2];exact hv,h3 _ hx⟩
theorem vo[Fen]:dO Tryz.prog 45 IF:=by
 refine aao qt fun res nid args q x new h=>?_
 unfold IF at h;split at h
 ·rename_i a;split at h
  ·rename_i o L hr;split at h
   ·simp only[aa,ae]at h;obtain⟨rfl,rfl,rfl⟩:=h
    have hL:L= []:=by
     rcases yb hr with⟨_,rfl,_⟩|⟨k,h,_⟩
     ·rfl
     ·simp at h
    subst hL;exact⟨.bo (bD []),by unfold Ig mkS;simp only[hr],fun J=>by simp[den,su],fun _ _=>trivial⟩
   ·simp only[aa,ae]at h;obtain⟨rfl,rfl,rfl⟩:=h;exact⟨.bo (bD L),by unfold Ig mkS;simp only[hr],fun J=>rfl,fun _ h=>h⟩
  ·simp at h
 ·simp at h
theorem Qc:
 Value.pointer none=Value.pointer none:=by
 rfl
theorem Nj[Fen]:aM Tryz.prog 35 [lX] [] (sX lX) (fun _ _=>False):=bP (inl:=cH) (ann:=bn) (aH vo aP) Qc (by kernel_rfl)
theorem MT(L:List Sx.Obj)(hL:L.length<=1000):
 au (bD L) (bD L=true) ((∃g,p8 L g/\Value.pointer none=Value.pointer none/\bV (aK L)=bV (aK L)/\0=g/\L=L/\[]=lW L g)/\∀(g:Int),p8 L g->au (decide (g<bV (aK L))) ((0<=g/\g< ↑(aK L))/\g.toNat<aK L/\g.toNat<aK L/\lr (aK (lW L g)) 8/\bh IntKind.i64 (g+1)/\∃g',p8 L g'/\(bV (aK L)-g').toNat<(bV (aK L)-g).toNat/\Value.pointer none=Value.pointer none/\bV (aK L)=bV (aK L)/\g+1=g'/\L=L/\dn (lW L g) (aL L g.toNat free)=lW L g') (bD L=false/\lW L g=L)):=by
 delta au
 refine⟨fun h=>h,fun h=>⟨⟨0,⟨by omega,by omega⟩,rfl,rfl,rfl,rfl,rfl⟩,fun g hg=>⟨fun hlt=>?_,fun hge=>?_⟩⟩⟩
 ·obtain⟨g0,g1⟩:=hg;have hlt:g<bV (aK L):=ak hlt;have hn:=lu L;have hle:=pN L;rw[hn]at hlt⊢;have ht:=QU (L:=L) (g:=g);exact⟨⟨g0,by omega⟩,by omega,by omega,Ks (by omega),by simp only[bh,cB];omega,g+1,⟨by omega,by omega⟩,by omega,rfl,rfl,rfl,rfl,Ph g0 hlt⟩
 ·obtain⟨g0,g1⟩:=hg;have hge:¬g<bV (aK L):=aj hge;rw[lu]at hge;exact⟨h,RC (by omega)⟩
theorem Od{L:List Sx.Obj}(hb:bD L=true){v:V}{r:List aS}(h:Gp L v r):vZ lX v []:=by
 unfold Gp at h;split at h
 ·split at h
  ·exact fun J K=>tn.refl _ _ _
  ·exact h.elim
 ·split at h
  ·split at h
   ·rw[hb]at h;simp at h
   ·exact h.elim
  ·exact h.elim
 ·exact h.elim
theorem LQ{L:List Sx.Obj}(hb:bD L=false){v:V}{r:List aS}(h:Gp L v r):∃j r',1<=j/\(r'=r\/vI r j=some r')/\aN r' j= .store tS eS L/\∀(κ:Nat->Option Nat) (i:Nat),κ j=some i->kJ κ v (.lp i 0):=by
 unfold Gp at h;split at h
 ·split at h
  ·rw[hb]at h;simp at h
  ·exact h.elim
 ·split at h
  ·rename_i j off _ t e M hst;split at h
   ·rename_i hc;simp only[af,ai,Nat.ble_eq]at hc;obtain⟨⟨⟨rfl,rfl⟩,rfl⟩,hj⟩:=hc;obtain⟨_,rfl⟩:=h;have ht:∀(κ:Nat->Option Nat) (i:Nat),κ j=some i->kJ κ (.lp j 0) (.lp i 0):=fun κ i hi ρ2 ρ3 N N' hv hN hk=>⟨by simp only[den,(hv j i hi).1],hN j i hi hk⟩
    rcases EE hst with h1|⟨r',h1,h2⟩
    ·exact⟨j,r,hj,.inl rfl,h1,ht⟩
    ·exact⟨j,r',hj,.inr h1,h2,ht⟩
   ·exact h.elim
  ·exact h.elim
 ·exact h.elim
theorem UL{L M:List Sx.Obj}(hb:kb L M=true){v:V}{r:List aS}(h:Oq L M v r):vZ V5 v []:=by
 unfold Oq at h;split at h
 ·split at h
  ·exact fun J K=>tn.refl _ _ _
  ·exact h.elim
 ·split at h
  ·split at h
   ·split at h
    ·split at h
     ·split at h
      ·rw[hb]at h;simp at h
      ·exact h.elim
     ·exact h.elim
    ·exact h.elim
   ·exact h.elim
  ·exact h.elim
 ·exact h.elim
theorem Qo{L M:List Sx.Obj}(hb:kb L M=false){v:V}{r:List aS}(h:Oq L M v r):∃j,2<=j/\aN r j= .arr (some tI) 1 (.it .i64 (dM L M))/\∀(κ:Nat->Option Nat) (i:Nat),κ j=some i->kJ κ v (.sa i):=by
 unfold Oq at h;split at h
 ·split at h
  ·rw[hb]at h;simp at h
  ·exact h.elim
 ·split at h
  ·rename_i hj;split at h
   ·split at h
    ·split at h
     ·split at h
      ·rename_i hc;simp only[af,ai,Nat.ble_eq]at hc;obtain⟨⟨rfl,rfl⟩,hj2⟩:=hc;obtain⟨_,rfl⟩:=h;exact⟨_,hj2,hj,fun κ i hi ρ2 ρ3 N N' hv hN hk=>⟨by simp only[den,(hv _ i hi).2.1,(hv _ i hi).2.2.2.1,(hv _ i hi).2.2.2.2.1],hN _ i hi hk⟩⟩
      ·exact h.elim
     ·exact h.elim
    ·exact h.elim
   ·exact h.elim
  ·exact h.elim
 ·exact h.elim
theorem Gx[Fen](L:List Sx.Obj)(hL:L.length<=1000):aM Tryz.prog 35 [.lp 0 0] [.ro (.blk tS (.ag [.sa 1])),.ro (.obs eS 2 L),.gen 1] (Gp L) (fun _ _=>False):=bP (inl:=cH) (ann:=(lf [(35,5,lpB [0,2,3,14,15] (fun g=> [(16,.it .i64 g)]) 3 tS eS (lW L) (p8 L) (bV (aK L)))])) (aH vo aP) (MT L hL) (by kernel_rfl)
theorem tc[Fen]:l5 Tryz.prog 35 Nw:=by
 intro args res K KP h;unfold Nw at h;split at h
 ·split at h
  ·split at h
   ·exact aM.pure rfl rfl (Nj.mono (fun _ _ h=>eC h) fun _ _ h=>h) h
   ·exact h.elim
  ·rename_i k off;split at h
   ·rename_i hoff;have hoff:=ai.1 hoff;subst hoff;split at h
    ·rename_i t e L hr;split at h
     ·rename_i hc;simp only[af,ai]at hc;obtain⟨rfl,rfl⟩:=hc;obtain⟨hL,h1,h2⟩:=h;have hk:=eZ hr (by simp)
      have hlt:=aY hk;have hres:fz (lL 0 (dS [(k,false)])) res [(k,false)]= [.ro (.store tS eS L)]:=by simp[fz,hr,gB]
      cases hb:bD L with
      |true=>
       refine aM.Za (pl:= [(k,false)]) (x:=lX) (args0:= [.lp 0 0]) (by simp[fj,cI.2 hk]) (by simpa[jH,dS,qB]using hlt) (by simp) (by simp[eY,fP,lL,idxOf,dS]) rfl ?_ (h1 hb)
       rw[hres];exact(aM.fG (k:=0) rfl (Gx L hL)).mono (fun v r hv=>Od hb hv) fun _ _ h=>h
      |false=>
       refine aM.abi (pl:= [(k,false)]) (new:= .store tS eS L) (F:=fun j=> .lp j 0) (args0:= [.lp 0 0]) (by simp[fj,cI.2 hk]) (by simpa[jH,dS,qB]using hlt) (by simp) (by simp[eY,fP,lL,idxOf,dS]) rfl (by simp) (fun κ=>rfl) ?_ (h2 hb)
       rw[hres];refine aM.fG (k:=0) rfl (aM.shut (Gx L hL) fun v r hv=>?_)
       obtain⟨j,r',hj,h1,h2,h3⟩:=LQ hb hv;rcases h1 with rfl|h1
       ·exact .inl ⟨j,hj,h2,h3⟩
       ·exact .inr ⟨j,r',h1,j,hj,h2,h3⟩
     ·exact h.elim
    ·exact h.elim
   ·exact h.elim
  ·exact h.elim
 ·exact h.elim
theorem Ta(L:List Sx.Obj):
 Value.slice none 0 0=Value.slice none 0 0:=by
 rfl
theorem UM[Fen](L:List Sx.Obj):aM Tryz.prog 215 [lX,.lp 0 0] [.ro (.store tS eS L)] (sX V5) (fun _ _=>False):=bP (inl:=cH) (ann:=bn) (aH vo aP) (Ta L) (by kernel_rfl)
theorem TG(L M:List Sx.Obj)(hL:L.length<=1000):
 au (bD L||bD M|| !decide (bV (aK L)=bV (aK M))) (kb L M=true) (true=true/\true=true/\∀(r0:Loop),(∃g,p8 L g/\bV (aK L)=bV (aK L)/\0=g/\L=L/\M=M/\r0=r0/\[]=iT L M g)/\∀(g:Int),p8 L g->au (decide (g<bV (aK L))) ((0<=g/\g< ↑(aK L))/\g.toNat<aK L/\g.toNat<aK L/\(0<=g/\g< ↑(aK M))/\g.toNat<aK M/\g.toNat<aK M/\au (!GZ (aL L g.toNat free) (aL M g.toNat free)) (r0=r0/\r0=r0/\lr (aK (iT L M g)) 8/\r0=r0/\az (g+1)/\∃g',p8 L g'/\(bV (aK L)-g').toNat<(bV (aK L)-g).toNat/\bV (aK L)=bV (aK L)/\g+1=g'/\L=L/\M=M/\r0=r0/\dn (iT L M g) g=iT L M g') (az (g+1)/\∃g',p8 L g'/\(bV (aK L)-g').toNat<(bV (aK L)-g).toNat/\bV (aK L)=bV (aK L)/\g+1=g'/\L=L/\M=M/\r0=r0/\iT L M g=iT L M g')) (kb L M=false/\iT L M g=dM L M)):=by
 delta au az
 refine⟨fun h=>h,fun h=>⟨rfl,rfl,fun r0=>?_⟩⟩
 have hlm:L.length=M.length:=by
  have h2:((bD L||bD M)|| !decide (bV (aK L)=bV (aK M)))=false:=h
  rw[Bool.or_eq_false_iff]at h2;have h3:=h2.2;rw[lu,lu]at h3;have h4:(L.length:Int)=(M.length:Int):=by simpa using h3
  omega
 have hn:=lu L;have hle:=pN L;have hle2:=pN M;refine⟨⟨0,⟨by omega,by omega⟩,rfl,rfl,rfl,rfl,rfl,rfl⟩,fun g hg=>⟨fun hlt=>?_,fun hge=>?_⟩⟩
 obtain⟨g0,g1⟩:=hg;have hlt:g<bV (aK L):=ak hlt;rw[hn]at hlt⊢;have ht:=Sy (L:=L) (M:=M) (g:=g);have hr:bh IntKind.i64 (g+1):=by simp only[bh,cB];omega
 exact⟨⟨g0,by omega⟩,by omega,by omega,⟨g0,by omega⟩,by omega,by omega,fun h=>⟨rfl,rfl,Ks (by omega),rfl,hr,g+1,⟨by omega,by omega⟩,by omega,rfl,rfl,rfl,rfl,rfl,PX g0 h⟩,fun h=>⟨hr,g+1,⟨by omega,by omega⟩,by omega,rfl,rfl,rfl,rfl,rfl,WR g0 h⟩⟩
 obtain⟨g0,g1⟩:=hg;have hge:¬g<bV (aK L):=aj hge;rw[hn]at hge;exact⟨h,by unfold dM;rw[show g=(aK L:Int) by omega]⟩
theorem JH[Fen](L M:List Sx.Obj)(hL:L.length<=1000):aM Tryz.prog 215 [.lp 0 0,.lp 1 0] [.ro (.blk tS (.ag [.sa 2])),.ro (.blk tS (.ag [.sa 4])),.ro (.obs eS 3 L),.gen 2,.ro (.obs eS 5 M),.gen 4] (Oq L M) (fun _ _=>False):=bP (inl:=(aeq [215,224])) (ann:=(lf [(6000+226,1,lpV [0,1,2,6] (fun g=> [(7,.it .i64 g)]) 6 32 tI 1 (fun g=> .it .i64 (iT L M g)) (p8 L) (bV (aK L)))])) (aH vo aP) (TG L M hL) (by kernel_rfl)
theorem H7[Fen]:l5 Tryz.prog 215 XC:=by
 intro args res K KP h;unfold XC at h;split at h
 ·rename_i a b;split at h
  ·rename_i j off;split at h
   ·rename_i hoff;have hoff:=ai.1 hoff;subst hoff;split at h
    ·rename_i t e M hr;split at h
     ·rename_i hc;simp only[af,ai]at hc;obtain⟨rfl,rfl⟩:=hc;have hj:=eZ hr (by simp)
      have hjl:=aY hj;split at h
      ·split at h
       ·have hres:fz (lL 0 (dS [(j,false)])) res [(j,false)]= [.ro (.store tS eS M)]:=by simp[fz,hr,gB]
        refine aM.Za (pl:= [(j,false)]) (x:=V5) (args0:= [lX,.lp 0 0]) (by simp[fj,cI.2 hj]) (by simpa[jH,dS,qB]using hjl) (by simp) (by simp[eY,fP,lL,idxOf,dS,lX]) rfl ?_ h
        rw[hres];exact(UM M).mono (fun _ _ h=>eC h) fun _ _ h=>h
       ·exact h.elim
      ·rename_i k off';split at h
       ·rename_i hoff;simp only[af,ai,Bool.not_eq_true',beq_eq_false_iff_ne]at hoff;obtain⟨rfl,hkj⟩:=hoff;split at h
        ·rename_i t' e' L hrk;split at h
         ·rename_i hc;simp only[af,ai]at hc;obtain⟨rfl,rfl⟩:=hc;obtain⟨hL,h1,h2⟩:=h;have hk:=eZ hrk (by simp)
          have hkl:=aY hk;have hres:fz (lL 0 (dS [(k,false),(j,false)])) res [(k,false),(j,false)]= [.ro (.store tS eS L),.ro (.store tS eS M)]:=by simp[fz,hr,hrk,gB]
          have hargs:eY (lL 0 (dS [(k,false),(j,false)])) [.lp k 0,.lp j 0]=some [.lp 0 0,.lp 1 0]:=by
           simp[eY,fP,lL,idxOf,dS,hkj]
          have hka:fj res [(k,false),(j,false)]=true:=by simp[fj,cI.2 hk,cI.2 hj]
          have hoe:jH 0 res.length (dS [(k,false),(j,false)])=true:=by simpa[jH,dS,qB]using⟨⟨hkl,Ne.symm hkj⟩,hjl⟩
          cases hb:kb L M with
          |true=>
           refine aM.Za (x:=V5) hka hoe (by simp) hargs rfl ?_ (h1 hb)
           rw[hres];exact(aM.fG (k:=0) rfl (aM.fG (k:=1) rfl (JH L M hL))).mono (fun v r hv=>UL hb hv) fun _ _ h=>h
          |false=>
           refine aM.abi (new:= .arr (some tI) 1 (.it .i64 (dM L M))) (F:=fun j=> .sa j) hka hoe (by simp) hargs rfl (by simp) (fun κ=>rfl) ?_ (h2 hb)
           rw[hres];exact(aM.fG (k:=0) rfl (aM.fG (k:=1) rfl (JH L M hL))).mono (fun v r hv=>Qo hb hv) fun _ _ h=>h
         ·exact h.elim
        ·exact h.elim
       ·exact h.elim
      ·exact h.elim
     ·exact h.elim
    ·exact h.elim
   ·exact h.elim
  ·exact h.elim
 ·exact h.elim
end Go.Proofs.YtmfbohanboiklaaGreat
