import Derived.Test.YtlblcfaclmpekaaGreatMa10
set_option linter.unusedSimpArgs false
set_option linter.unusedVariables false
namespace Go.Sx
def jD (o:Obj):Bool:=decide (o.kind=0)&&decide (4294967295<=o.count)
def fH (o:Obj):Bool:=decide (o.kind=0)&&decide (o.count<4294967295)
def G9 (o:Obj):Obj:=⟨3,o.count,0,g9,e9⟩
def mn (o:Obj) (kind:Int):Obj:=⟨kind,o.count+1,0,g9,e9⟩
def zq (o:Obj):Obj:=⟨0,o.count,0,g9,e9⟩
def lA (L:List Obj) (p:Nat->Obj->Bool) (t:Obj->Obj):List Obj:=(List.range L.length).map fun j=>if p j (aj L j free)then t (aj L j free)else aj L j free
def bN (L:List Obj) (f g:Int):List Obj:=lA L (fun j o=>decide (f<=(j:Int))&&decide ((j:Int)<g)&&jD o) G9
def kQ (L:List Obj) (f g:Int):Prop:=∀j:Nat,f<=(j:Int)->(j:Int)<g->fH (aj L j free)=false
def mh (L:List Obj) (f g:Int):Bool:=(List.range L.length).any fun(j:Nat)=>decide (f<=(j:Int))&&decide ((j:Int)<g)&&jD (aj L j free)
def br (L:List Obj) (f l:Int):Int:=match (List.range L.length).find? fun(j:Nat)=>decide (f<=(j:Int))&&decide ((j:Int)<=l)&&fH (aj L j free)with
 |some j=>(j:Int)
 |none=> -1
def cH (L:List Obj) (f l kind:Int):List Obj:=if br L f l= -1 then bN L f (l+1)else b6 (bN L f (br L f l)) (br L f l).toNat (mn (aj L (br L f l).toNat free) kind)
def lH (L:List Obj) (f l:Int):Bool:= !decide (br L f l= -1)||mh L f (l+1)
def dq (kind oid count:Int):Key:=⟨if kind=2 then 3 else 2,oid,count,0,0,0⟩
def iM (o:Obj) (n:Int):Bool:=decide ((o.slots.at 0).kind=1)&&decide ((o.slots.at 1).kind=1)&&decide (0<=(o.slots.at 0).value)&&decide ((o.slots.at 0).value<=(o.slots.at 1).value)&&decide ((o.slots.at 1).value<n)
def aN (L:List Obj) (k:Key):Int:=if aB L k 4 false=0 then(if iM (aj L k.oid.toNat free) (ai L:Int)then 0 else 220)else aB L k 4 false
def ay (L:List Obj) (k:Key):Int:=((aj L k.oid.toNat free).slots.at 0).value
def aI (L:List Obj) (k:Key):Int:=((aj L k.oid.toNat free).slots.at 1).value
def aM (L:List Obj) (k:Key):Int:=if aN L k=0 then ay L k else 0
def aD (L:List Obj) (k:Key):Int:=if aN L k=0 then aI L k else 0
def gB (L:List Obj) (k:Key) (kind:Int):Int:=if aN L k=0 then(if kind=1\/kind=2 then 0 else 2)else aN L k
def cA (L:List Obj) (k:Key) (kind:Int):Int:=if gB L k kind=0 then(if br L (ay L k) (aI L k)= -1 then 221 else 0)else gB L k kind
def fx (L:List Obj) (k:Key) (kind:Int):List Obj:=if gB L k kind=0 then cH L (ay L k) (aI L k) kind else L
def gE (L:List Obj) (k:Key) (kind:Int):Bool:=decide (gB L k kind=0)&&lH L (ay L k) (aI L k)
def dh (L:List Obj) (k:Key) (kind:Int):Key:=if cA L k kind=0 then dq kind (br L (ay L k) (aI L k)) ((aj L (br L (ay L k) (aI L k)).toNat free).count+1)else void
def je (L:List Obj) (v:Key):Bool:=aU L v&&(decide (v.kind=2)||decide (v.kind=3))
def cE (L:List Obj) (k v:Key):Int:=if aN L k=0 then(if je L v then(if ay L k<=v.oid/\v.oid<=aI L k/\v.oid≠k.oid then 0 else 4)else 5)else aN L k
def gA (L:List Obj) (k v:Key):List Obj:=if cE L k v=0 then b6 L v.oid.toNat (zq (aj L v.oid.toNat free))else L
def jU (L:List Obj) (k v:Key):Bool:=decide (cE L k v=0)
def mY (o:Obj):Bool:=decide (o.kind=1)||decide (o.kind=2)
def lG (f g oid:Int) (j:Nat) (o:Obj):Bool:=decide (f<=(j:Int))&&decide ((j:Int)<g)&&mY o&& !decide ((j:Int)=oid)
def dT (L:List Obj) (f g oid:Int):List Obj:=lA L (lG f g oid) zq
def eW (L:List Obj) (f g oid:Int):Int:=(((List.range L.length).filter fun j=>lG f g oid j (aj L j free)).length:Int)
def ib (L:List Obj) (k:Key):List Obj:=if aN L k=0 then dT L (ay L k) (aI L k+1) k.oid else L
def fN (L:List Obj) (k:Key):Int:=if aN L k=0 then eW L (ay L k) (aI L k+1) k.oid else 0
def kX (L:List Obj) (k:Key):Bool:=decide (aN L k=0)&& !decide (eW L (ay L k) (aI L k+1) k.oid=0)
def jF (L:List Obj) (k v:Key):Bool:=decide (aN L k=0)&&je L v&&decide (ay L k<=v.oid)&&decide (v.oid<=aI L k)
theorem jo {L:List Obj} {p:Nat->Obj->Bool} {t:Obj->Obj}:(lA L p t).length=L.length:=by simp[lA]
theorem kK {L:List Obj} {p:Nat->Obj->Bool} {t:Obj->Obj} {j:Nat} (h:j<L.length):aj (lA L p t) j free=if p j (aj L j free)then t (aj L j free)else aj L j free:=by
 rw[show aj (lA L p t) j free=(lA L p t).getD j free from rfl,aa0];unfold lA;rw[List.getElem?_map,List.getElem?_range h];rfl
theorem zT {L:List Obj} {p:Nat->Obj->Bool} {t:Obj->Obj} (h:∀j,j<L.length->p j (aj L j free)=false):lA L p t=L:=by
 refine rE jo fun j hj=>?_
 rw[jo]at hj;rw[kK hj,h j hj];rfl
theorem ES {L:List Obj} {p p':Nat->Obj->Bool} {t:Obj->Obj} {g:Nat} (hg:g<L.length) (hp:∀j,j≠g->p' j (aj L j free)=p j (aj L j free)) (h1:p' g (aj L g free)=true):
  b6 (lA L p t) g (t (aj L g free))=lA L p' t:=by
 refine rE (by rw[iy,jo,jo]) fun j hj=>?_
 rw[iy,jo]at hj;rw[gh (by rw[jo];exact hg),kK hj,kK hj]
 by_cases e:j=g
 ·subst e;rw[aa2 rfl,h1,aa2 rfl]
 ·rw[aa1 e,hp j e]
theorem A1 {L:List Obj} {p p':Nat->Obj->Bool} {t:Obj->Obj} (hp:∀j,j<L.length->p' j (aj L j free)=p j (aj L j free)):lA L p' t=lA L p t:=by
 refine rE (by rw[jo,jo]) fun j hj=>?_
 rw[jo]at hj;rw[kK hj,kK hj,hp j hj]
theorem kR {L:List Obj} {f g:Int}:(bN L f g).length=L.length:=jo
theorem Ei {L:List Obj} {f:Int}:L=bN L f f:=by
 symm
 refine zT fun j hj=>?_
 simp only[Bool.and_eq_false_iff,decide_eq_false_iff_not];omega
theorem DD {L:List Obj} {f g:Int} (h0:0<=g):aj (bN L f g) g.toNat free=aj L g.toNat free:=by
 by_cases h:g.toNat<L.length
 ·unfold bN;rw[kK h,aa1];simp only[aaV,aaW];omega
 ·rw[show aj (bN L f g) g.toNat free=free by simp[aj,aa0,List.getElem?_eq_none (show(bN L f g).length<=g.toNat by rw[kR];omega)]]
  simp[aj,aa0,List.getElem?_eq_none (show L.length<=g.toNat by omega)]
theorem yi {L:List Obj} {f g:Int} (h0:0<=g) (h1:g<(L.length:Int)) (hf:f<=g) (hr:jD (aj L g.toNat free)=true):b6 (bN L f g) g.toNat (G9 (aj L g.toNat free))=bN L f (g+1):=by
 refine ES (by omega) (fun j hj=>?_) ?_
 ·have:decide ((j:Int)<g+1)=decide ((j:Int)<g):=by rw[decide_eq_decide];omega
  rw[this]
 ·rw[hr];simp;omega
theorem zM {L:List Obj} {f g:Int} (h0:0<=g) (hr:jD (aj L g.toNat free)=false):bN L f (g+1)=bN L f g:=by
 refine A1 fun j hj=>?_
 by_cases e:(j:Int)=g
 ·rw[show j=g.toNat by omega,hr,Bool.and_false,Bool.and_false]
 ·have:decide ((j:Int)<g+1)=decide ((j:Int)<g):=by rw[decide_eq_decide];omega
  rw[this]
theorem Yv {L:List Obj} {f l g:Int} (h0:0<=f) (hf:f<=g) (hl:g<=l) (hg:g<(L.length:Int)) (hn:kQ L f g) (hw:fH (aj L g.toNat free)=true):br L f l=g:=by
 unfold br
 have:(List.range L.length).find? (fun(j:Nat)=>decide (f<=(j:Int))&&decide ((j:Int)<=l)&&fH (aj L j free))=some g.toNat:=by
  rw[List.find?_eq_some_iff_getElem];refine⟨by rw[hw];simp;omega,g.toNat,by simp;omega,by simp,fun j hj=>?_⟩
  simp only[List.getElem_range,Bool.not_eq_true',Bool.and_eq_false_iff,decide_eq_false_iff_not];by_cases e:f<=(j:Int)
  ·right;exact hn j e (by omega)
  ·left;left;exact e
 rw[this];show((g.toNat:Nat):Int)=g
 omega
theorem Oc {L:List Obj} {f l:Int} (hn:kQ L f (l+1)):br L f l= -1:=by
 unfold br
 have:(List.range L.length).find? (fun(j:Nat)=>decide (f<=(j:Int))&&decide ((j:Int)<=l)&&fH (aj L j free))=none:=by
  rw[List.find?_eq_none];intro j hj h;simp only[aaV,aaW]at h;rw[hn j h.1.1 (by omega)]at h
  simp at h
 rw[this]
theorem jP {L:List Obj} {f g:Int} (h:kQ L f g) (hg:fH (aj L g.toNat free)=false):kQ L f (g+1):=fun j h1 h2=>by
 by_cases e:(j:Int)=g
 ·rw[show j=g.toNat by omega];exact hg
 ·exact h j h1 (by omega)
theorem uj {L:List Obj} {f:Int}:kQ L f f:=fun j h1 h2=>by omega
theorem JH {L:List Obj} {f:Int}:mh L f f=false:=by
 unfold mh;rw[List.any_eq_false];intro j hj h;simp only[aaV,aaW]at h;omega
theorem Ep {L:List Obj} {f g:Int} (h0:0<=g) (h1:g<(L.length:Int)) (hf:f<=g) (hr:jD (aj L g.toNat free)=true):mh L f (g+1)=true:=by
 unfold mh;rw[List.any_eq_true];exact⟨g.toNat,by simp;omega,by rw[hr];simp;omega⟩
theorem IL {L:List Obj} {f g:Int} (h0:0<=g) (hr:jD (aj L g.toNat free)=false):mh L f (g+1)=mh L f g:=by
 unfold mh;rw[Bool.eq_iff_iff,List.any_eq_true,List.any_eq_true];refine exists_congr fun j=>and_congr_right fun _=>?_
 simp only[aaV,aaW];constructor
 ·rintro⟨⟨a,b⟩,c⟩
  refine⟨⟨a,?_⟩,c⟩;by_cases e:(j:Int)=g
  ·rw[show j=g.toNat by omega,hr]at c;simp at c
  ·omega
 ·rintro⟨⟨a,b⟩,c⟩
  exact⟨⟨a,by omega⟩,c⟩
theorem Dw {L:List Obj} {f g oid:Int}:(dT L f g oid).length=L.length:=jo
theorem yH {L:List Obj} {f g oid:Int} (h:eW L f g oid=0):dT L f g oid=L:=by
 refine zT fun j hj=>?_
 unfold eW at h;have h2:((List.range L.length).filter fun j=>lG f g oid j (aj L j free))= []:=List.eq_nil_of_length_eq_zero (by omega)
 rw[List.filter_eq_nil_iff]at h2;have:=h2 j (by simp;omega)
 simpa using this
theorem u7 {L:List Obj} {f oid:Int}:eW L f f oid=0:=by
 unfold eW;rw[show((List.range L.length).filter fun j=>lG f f oid j (aj L j free))= []from ?_]
 ·rfl
 ·rw[List.filter_eq_nil_iff];intro j hj;unfold lG;simp only[aaV,aaW];omega
theorem Px {L:List Obj} {f oid:Int}:L=dT L f f oid:=(yH u7).symm
theorem Pn {L:List Obj} {f g oid:Int} (h0:0<=g):aj (dT L f g oid) g.toNat free=aj L g.toNat free:=by
 by_cases h:g.toNat<L.length
 ·unfold dT;rw[kK h,aa1];unfold lG;simp only[aaV,aaW];omega
 ·rw[show aj (dT L f g oid) g.toNat free=free by simp[aj,aa0,List.getElem?_eq_none (show(dT L f g oid).length<=g.toNat by rw[Dw];omega)]]
  simp[aj,aa0,List.getElem?_eq_none (show L.length<=g.toNat by omega)]
def j5 (L:List Obj) (g oid:Int):Bool:=mY (aj L g.toNat free)&& !decide (g=oid)
theorem Dg {L:List Obj} {f g oid:Int} (h0:0<=g) (hf:f<=g):lG f (g+1) oid g.toNat (aj L g.toNat free)=j5 L g oid:=by
 unfold lG j5;rw[show((g.toNat:Nat):Int)=g by omega]
 have a:decide (f<=g)=true:=by simp;omega
 have b:decide (g<g+1)=true:=by simp;omega
 rw[a,b];simp
theorem yo {L:List Obj} {f g oid:Int} {j:Nat} (h:(j:Int)≠g) (o:Obj):lG f (g+1) oid j o=lG f g oid j o:=by
 unfold lG;have:decide ((j:Int)<g+1)=decide ((j:Int)<g):=by rw[decide_eq_decide];omega
 rw[this]
theorem Cl {f g oid:Int} {j:Nat} (h:(j:Int)=g) (o:Obj):lG f g oid j o=false:=by
 unfold lG;have:decide ((j:Int)<g)=false:=by simp;omega
 rw[this];simp
theorem Dv {L:List Obj} {f g oid:Int} (h0:0<=g) (h1:g<(L.length:Int)) (hf:f<=g) (hr:j5 L g oid=true):b6 (dT L f g oid) g.toNat (zq (aj L g.toNat free))=dT L f (g+1) oid:=
 ES (by omega) (fun j hj=>yo (L:=L) (by omega) _) (by rw[Dg h0 hf];exact hr)
theorem zX {L:List Obj} {f g oid:Int} (h0:0<=g) (hf:f<=g) (hr:j5 L g oid=false):dT L f (g+1) oid=dT L f g oid:=by
 refine A1 fun j hj=>?_
 by_cases e:(j:Int)=g
 ·rw[show j=g.toNat by omega,Dg h0 hf,hr,Cl (by omega)]
 ·exact yo (L:=L) e _
theorem uL {L:List Obj} {f g oid:Int} (h0:0<=g) (hf:f<=g) (hr:j5 L g oid=false):eW L f (g+1) oid=eW L f g oid:=by
 unfold eW;rw[show((List.range L.length).filter fun j=>lG f (g+1) oid j (aj L j free))=(List.range L.length).filter fun j=>lG f g oid j (aj L j free)from List.filter_congr fun j hj=>?_]
 by_cases e:(j:Int)=g
 ·rw[show j=g.toNat by omega,Dg h0 hf,hr,Cl (by omega)]
 ·exact yo (L:=L) e _
theorem filter_one {l:List Nat} {p p':Nat->Bool} {g:Nat} (hn:l.Nodup) (hg:g∈l) (hp:∀j,j≠g->p' j=p j) (h0:p g=false) (h1:p' g=true):(l.filter p').length=(l.filter p).length+1:=by
 induction l with
 |nil=>simp at hg
 |cons a l ih=>
  rw[List.nodup_cons]at hn;by_cases e:a=g
  ·subst e;have:l.filter p'=l.filter p:=List.filter_congr fun j hj=>hp j fun e=>hn.1 (e▸hj)
   rw[List.filter_cons,List.filter_cons,h0,h1,aa2 rfl,aa1 (by simp),this]
   simp
  ·have hg2:g∈l:=by
    rcases List.mem_cons.1 hg with h|h
    ·exact absurd h.symm e
    ·exact h
   rw[List.filter_cons,List.filter_cons,hp a e];split
   ·simp only[List.length_cons];rw[ih hn.2 hg2]
   ·exact ih hn.2 hg2
theorem zS {L:List Obj} {f g oid:Int} (h0:0<=g) (h1:g<(L.length:Int)) (hf:f<=g) (hr:j5 L g oid=true):eW L f (g+1) oid=eW L f g oid+1:=by
 unfold eW;have:=filter_one (l:=List.range L.length) (p:=fun j=>lG f g oid j (aj L j free)) (p':=fun j=>lG f (g+1) oid j (aj L j free)) (g:=g.toNat) List.nodup_range (by simp;omega) (fun j hj=>yo (L:=L) (by omega) _) (Cl (by omega) _) (by show lG f (g+1) oid g.toNat (aj L g.toNat free)=true;rw[Dg h0 hf];exact hr)
 omega
theorem um {L:List Obj} {f g oid:Int}:0<=eW L f g oid:=by unfold eW;omega
theorem QN {L:List Obj} {f g oid:Int}:eW L f g oid<=(L.length:Int):=by
 unfold eW;have:=List.length_filter_le (fun j=>lG f g oid j (aj L j free)) (List.range L.length)
 rw[List.length_range]at this;omega
theorem C7 {n:Int} {kind count:Int} (h1:1<=n) (h2:n<=64) (h3:0<=kind) (h4:kind<=3) (h5:0<=count) (h6:count<=4294967295):bM ⟨kind,count,0,g9,e9⟩ n=true:=by
 rw[fo];refine⟨h1,h2,h3,h4,h5,h6,by simp,by simp,.inr rfl,fun i hi=>?_,fun i hi=>?_⟩
 ·simp only[Aa];unfold mM;rw[nb.1,nb.2];simp;omega
 ·have hz:=Ip.1 (show e9=e9 from rfl) i hi;first|exact .inr (.inr hz)|exact hz|simp[hz]
theorem kf {o:Obj} {n:Int} (h:bM o n=true):0<=o.count/\o.count<=4294967295/\0<=o.kind/\o.kind<=3/\1<=n/\n<=64:=by
 obtain⟨a1,a2,a3,a4,a5,a6,_⟩:=fo.1 h;exact⟨a5,a6,a3,a4,a1,a2⟩
theorem Cy {o:Obj} {n:Int} (h:bM o n=true):bM (G9 o) n=true:=by
 obtain⟨a,b,c,d,e,f⟩:=kf h;exact C7 e f (by omega) (by omega) a b
theorem xW {o:Obj} {n:Int} (h:bM o n=true):bM (zq o) n=true:=by
 obtain⟨a,b,c,d,e,f⟩:=kf h;exact C7 e f (by omega) (by omega) a b
theorem CE {o:Obj} {n kind:Int} (h:bM o n=true) (hn:fH o=true) (hk:kind=1\/kind=2):bM (mn o kind) n=true:=by
 obtain⟨a,b,c,d,e,f⟩:=kf h;unfold fH at hn;simp only[aaV,aaW]at hn;exact C7 e f (by omega) (by omega) (by omega) (by omega)
theorem IE {L:List Obj} {p:Nat->Obj->Bool} {t:Obj->Obj} (h:aq L) (ht:∀o,bM o (L.length:Int)=true->bM (t o) (L.length:Int)=true):aq (lA L p t):=by
 refine Ly h jo fun j hj=>?_
 rw[kK hj];split
 ·exact ht _ (dt h j hj)
 ·exact dt h j hj
theorem GN {L:List Obj} {f g:Int} (h:aq L):aq (bN L f g):=IE h fun o ho=>Cy ho
def kB:ly (Key×Unit):=ba kA gJ
def NY:ly (Key×Key×Unit):=ba kA (ba kA gJ)
def TW:ly (Key×Int×Unit):=ba kA (ba iA gJ)
def i3B:ly (Int×Int×Int×Unit):=ba iA (ba iA (ba iA gJ))
theorem D1:gR kB:=aA iI bV
theorem wj:gR NY:=aA iI (aA iI bV)
theorem CC:gR TW:=aA iI (aA dE bV)
theorem Yu:gR i3B:=aA dE (aA dE (aA dE bV))
def D8 (L:List Obj) (f l:Int):Prop:=aq L/\0<=f/\l<(ai L:Int)/\f<=l+1
def S6:Ct:=s7 (ba AE kB) (fun _=>none) fun x=> .tp [.it .i64 (aM x.1 x.2.1),.it .i64 (aD x.1 x.2.1),.it .i64 (aN x.1 x.2.1)]
def My:kq:=Az (uw i3B) (fun L x=>D8 L x.1 x.2.1) (fun L x=>lH L x.1 x.2.1) (fun L x=>cH L x.1 x.2.1 x.2.2.1) fun L x=> [.it .i64 (br L x.1 x.2.1)]
def Uy:kq:=Az (uw TW) (fun L _=>aq L) (fun L x=>gE L x.1 x.2.1) (fun L x=>fx L x.1 x.2.1) fun L x=> [.key (dh L x.1 x.2.1),.it .i64 (cA L x.1 x.2.1)]
def XX:kq:=Az (uw NY) (fun L _=>aq L) (fun L x=>jU L x.1 x.2.1) (fun L x=>gA L x.1 x.2.1) fun L x=> [.it .i64 (cE L x.1 x.2.1)]
def Uf:kq:=Az (uw kB) (fun L _=>aq L) (fun L x=>kX L x.1) (fun L x=>ib L x.1) fun L x=> [.it .i64 (fN L x.1),.it .i64 (aN L x.1)]
def RV:Ct:=s7 (ba AE NY) (fun _=>none) fun x=> .tp [.bo (jF x.1 x.2.1 x.2.2.1),.it .i64 (aN x.1 x.2.1)]
def uH (L:List Obj) (f l:Int) (g:Int):Prop:=f<=g/\g<=l+1/\kQ L f g/\mh L f g=false
def sP (L:List Obj) (f l:Int) (g:Int):Prop:=f<=g/\g<=l+1/\kQ L f g/\mh L f g=true
def Wc:Ct:=mk3 (rI .i64) (rI .i64) (rI .i64) fun a b c=> .key (dq a b c)
theorem zI {L:List Obj} {f g:Int} (h:mh L f g=false):bN L f g=L:=by
 refine zT fun j hj=>?_
 unfold mh at h;rw[List.any_eq_false]at h;simpa using h j (by simpa using hj)
theorem yy {o:Obj} (h:o.kind≠0):jD o=false/\fH o=false:=by simp[jD,fH,h]
theorem CD {o:Obj} (h:o.kind=0) (h2:4294967295<=o.count):jD o=true/\fH o=false:=by simp[jD,fH,h,h2]
theorem Cg {o:Obj} (h:o.kind=0) (h2:¬4294967295<=o.count):jD o=false/\fH o=true:=by
 refine⟨by simp[jD,h2],?_⟩
 simp only[fH,aaV,aaW];omega
theorem yD {L:List Obj} {f l g:Int} (kind:Int) (h0:0<=f) (hf:f<=g) (hl:g<=l) (hg:g<(L.length:Int)) (hn:kQ L f g) (hw:fH (aj L g.toNat free)=true):
  br L f l=g/\lH L f l=true/\cH L f l kind=b6 (bN L f g) g.toNat (mn (aj L g.toNat free) kind):=by
 have e:=Yv h0 hf hl hg hn hw;refine⟨e,?_,?_⟩
 ·unfold lH;rw[e];simp;left;omega
 ·unfold cH;rw[e,aa1 (by omega)]
theorem Du {L:List Obj} {f l:Int} (kind:Int) (hn:kQ L f (l+1)):br L f l= -1/\cH L f l kind=bN L f (l+1)/\lH L f l=mh L f (l+1):=by
 have e:=Oc hn;refine⟨e,?_,?_⟩
 ·unfold cH;rw[e,aa2 rfl]
 ·unfold lH;rw[e];rfl
theorem MH (o:Obj) (n:Nat):(!decide ((o.slots.at 0).kind=1)|| !decide ((o.slots.at 1).kind=1)||decide ((o.slots.at 0).value<0)||decide ((o.slots.at 1).value<(o.slots.at 0).value)||decide (bQ n<=(o.slots.at 1).value))= !iM o (n:Int):=by
 unfold iM bQ;rw[Bool.eq_iff_iff];simp only[Bool.or_eq_true,Bool.not_eq_true',Bool.and_eq_false_iff,aaW,decide_eq_false_iff_not];omega
theorem Gy {L:List Obj} {k:Key} (h:aB L k 4 false≠0):aN L k=aB L k 4 false/\aM L k=0/\aD L k=0:=by
 have e:aN L k=aB L k 4 false:=by unfold aN;rw[aa1 h]
 refine⟨e,?_,?_⟩
 ·unfold aM;rw[e,aa1 h]
 ·unfold aD;rw[e,aa1 h]
theorem C0 {L:List Obj} {k:Key} (h:aB L k 4 false=0) (h2:iM (aj L k.oid.toNat free) (ai L:Int)=false):aN L k=220/\aM L k=0/\aD L k=0:=by
 have e:aN L k=220:=by unfold aN;rw[aa2 h,h2];rfl
 refine⟨e,?_,?_⟩
 ·unfold aM;rw[e];rfl
 ·unfold aD;rw[e];rfl
theorem vI {L:List Obj} {k:Key} (h:aB L k 4 false=0) (h2:iM (aj L k.oid.toNat free) (ai L:Int)=true):aN L k=0/\aM L k=ay L k/\aD L k=aI L k:=by
 have e:aN L k=0:=by unfold aN;rw[aa2 h,h2];rfl
 refine⟨e,?_,?_⟩
 ·unfold aM;rw[e];rfl
 ·unfold aD;rw[e];rfl
theorem mP {L:List Obj} {k:Key} (h:aN L k=0):aB L k 4 false=0/\0<=ay L k/\ay L k<=aI L k/\aI L k<(L.length:Int)/\0<=k.oid/\k.oid<(L.length:Int):=by
 have ha:aB L k 4 false=0:=by
  unfold aN at h;split at h
  ·assumption
  ·rename_i h1;exact absurd h h1
 have hb:iM (aj L k.oid.toNat free) (ai L:Int)=true:=by
  cases hb:iM (aj L k.oid.toNat free) (ai L:Int)with
  |true=>rfl
  |false=>rw[(C0 ha hb).1]at h;simp at h
 obtain⟨_,b2,b3,_⟩:=ei (gw ha).1;unfold iM at hb;simp only[aaV,aaW]at hb;obtain⟨⟨⟨⟨_,_⟩,h3⟩,h4⟩,h5⟩:=hb;exact⟨ha,h3,h4,h5,b2,b3⟩
theorem wa {L:List Obj} {f l:Int} (h0:0<=f):br L f l= -1\/(f<=br L f l/\br L f l<=l/\br L f l<(L.length:Int)/\fH (aj L (br L f l).toNat free)=true):=by
 unfold br;split
 ·rename_i j hj;right
  have h1:=List.find?_some hj;have h2:=List.mem_of_find?_eq_some hj;simp only[aaV,aaW]at h1;rw[List.mem_range]at h2;exact⟨h1.1.1,h1.1.2,by omega,h1.2⟩
 ·exact .inl rfl
theorem uF {L:List Obj} {f l kind:Int}:(cH L f l kind).length=L.length:=by
 unfold cH;split
 ·exact kR
 ·rw[iy,kR]
theorem KH {L:List Obj} {f l kind:Int} (h0:0<=f) (h:br L f l≠ -1):aj (cH L f l kind) (br L f l).toNat free=mn (aj L (br L f l).toNat free) kind:=by
 rcases wa (L:=L) (l:=l) h0 with e|⟨a,b,c,d⟩
 ·exact absurd e h
 ·unfold cH;rw[aa1 h,gh (by rw[kR];omega),aa2 rfl]
theorem Dd {L:List Obj} {f l:Int} (h:br L f l≠ -1):lH L f l=true:=by unfold lH;simp[h]
theorem Ca {L:List Obj} {k:Key} (h:aN L k=0):aM L k=ay L k/\aD L k=aI L k:=by
 unfold aM aD;rw[aa2 h,aa2 h];exact⟨rfl,rfl⟩
theorem UB {L:List Obj} {k:Key} {kind:Int} (h:aN L k=0) (h1:kind≠1) (h2:kind≠2):gE L k kind=false/\void=dh L k kind/\2=cA L k kind:=by
 have e:gB L k kind=2:=by unfold gB;rw[aa2 h,aa1 (by omega)]
 have e2:cA L k kind=2:=by unfold cA;rw[e];rfl
 refine⟨by unfold gE;rw[e];rfl,by unfold dh;rw[e2];rfl,e2.symm⟩
theorem Rs {L:List Obj} {k:Key} {kind:Int} (h:aN L k≠0):gE L k kind=false/\void=dh L k kind/\aN L k=cA L k kind:=by
 have e:gB L k kind=aN L k:=by unfold gB;rw[aa1 h]
 have e2:cA L k kind=aN L k:=by unfold cA;rw[e,aa1 h]
 refine⟨by unfold gE;rw[e];simp[h],by unfold dh;rw[e2,aa1 h],e2.symm⟩
theorem zo {L:List Obj} {k:Key} {kind:Int} (h:aN L k=0) (hk:kind=1\/kind=2) (hi:br L (ay L k) (aI L k)= -1):gE L k kind=lH L (ay L k) (aI L k)/\void=dh L k kind/\221=cA L k kind/\cH L (ay L k) (aI L k) kind=fx L k kind:=by
 have e:gB L k kind=0:=by unfold gB;rw[aa2 h,aa2 hk]
 have e2:cA L k kind=221:=by unfold cA;rw[aa2 e,aa2 hi]
 refine⟨by unfold gE;rw[e];simp,by unfold dh;rw[e2];rfl,e2.symm,by unfold fx;rw[aa2 e]⟩
theorem HK {L:List Obj} {k:Key} {kind:Int} (h:aN L k=0) (hk:kind=1\/kind=2) (hi:br L (ay L k) (aI L k)≠ -1):gE L k kind=true/\Key.mk (1+kind) (br L (ay L k) (aI L k)) (aj (cH L (ay L k) (aI L k) kind) (br L (ay L k) (aI L k)).toNat free).count 0 0 0=dh L k kind/\0=cA L k kind/\cH L (ay L k) (aI L k) kind=fx L k kind:=by
 have e:gB L k kind=0:=by unfold gB;rw[aa2 h,aa2 hk]
 have e2:cA L k kind=0:=by unfold cA;rw[aa2 e,aa1 hi]
 refine⟨by unfold gE;rw[e,Dd hi];rfl,?_,e2.symm,by unfold fx;rw[aa2 e]⟩
 unfold dh;rw[aa2 e2,KH (mP h).2.1 hi];unfold dq mn;rcases hk with rfl|rfl<;>rfl
theorem zp {L:List Obj} {v:Key}:je L v= !(!aU L v|| !decide (v.kind=2)&& !decide (v.kind=3)):=by unfold je;cases aU L v<;>cases decide (v.kind=2)<;>cases decide (v.kind=3)<;>rfl
theorem Fe {L:List Obj} {v:Key} (h:je L v=true):aU L v=true:=by unfold je at h;simp only[aaV]at h;exact h.1
def gu (L:List Obj) (k:Key):Int:=br L (ay L k) (aI L k)
def dW (L:List Obj) (k:Key):List Obj:=cH L (ay L k) (aI L k) 1
def lI (M:List Obj) (f g:Int):Bool:=(List.range M.length).any fun(j:Nat)=>decide (f<=(j:Int))&&decide ((j:Int)<g)&&mY (aj M j free)
def mQ (L:List Obj) (k:Key) (n:Int):Int:=if aN L k=0 then(if n<1\/aI L k-ay L k<n then 4 else 0)else aN L k
def b8 (L:List Obj) (k:Key) (n:Int):Int:=if mQ L k n=0 then(if gu L k<0\/aI L k-n<gu L k then 221 else if lI (dW L k) (aI L k-n+1) (aI L k+1)=true then 221 else 0)else mQ L k n
def k9 (L:List Obj) (k:Key) (n:Int):Bool:=decide (b8 L k n=0)
def jL (o:Obj) (a b:Int):Obj:= {o with slots:=(o.slots.put 0 (bL a)).put 1 (bL b)}
def mS (o:Obj) (b:Int):Obj:= {o with slots:=o.slots.put 1 (bL b)}
def bE (L:List Obj) (k:Key) (n:Int):List Obj:=if b8 L k n=0 then b6 (b6 (dW L k) (gu L k).toNat (jL (aj (dW L k) (gu L k).toNat free) (aI L k-n+1) (aI L k))) k.oid.toNat (mS (aj (dW L k) k.oid.toNat free) (aI L k-n))else L
def ck (L:List Obj) (k:Key) (n:Int):Key:=if b8 L k n=0 then⟨4,gu L k,(aj (dW L k) (gu L k).toNat free).count,0,0,0⟩else void
def Mp:kq:=Az (uw TW) (fun L _=>aq L) (fun L x=>k9 L x.1 x.2.1) (fun L x=>bE L x.1 x.2.1) fun L x=> [.key (ck L x.1 x.2.1),.it .i64 (b8 L x.1 x.2.1)]
def pT (L:List Obj) (k:Key) (n g:Int):Prop:=aI L k-n+1<=g/\g<=aI L k+1/\lI (dW L k) (aI L k-n+1) g=false
theorem E0 {L:List Obj} {k:Key} {n e:Int} (h:b8 L k n=e) (he:e≠0):k9 L k n=false/\void=ck L k n/\e=b8 L k n:=by
 refine⟨by unfold k9;rw[h];simpa using he,by unfold ck;rw[h,aa1 he],h.symm⟩
theorem zb {L:List Obj} {k:Key} {n:Int} (h:aN L k≠0):b8 L k n=aN L k:=by
 have e:mQ L k n=aN L k:=by unfold mQ;rw[aa1 h]
 unfold b8;rw[e,aa1 h]
theorem B4 {L:List Obj} {k:Key} {n:Int} (h:aN L k=0) (hn:n<1\/aI L k-ay L k<n):b8 L k n=4:=by
 have e:mQ L k n=4:=by unfold mQ;rw[aa2 h,aa2 hn]
 unfold b8;rw[e];rfl
theorem Hf {L:List Obj} {k:Key} {n:Int} (h:aN L k=0) (h1:1<=n) (h2:n<=aI L k-ay L k):mQ L k n=0:=by
 unfold mQ;rw[aa2 h,aa1 (by omega)]
theorem va {L:List Obj} {k:Key} {n:Int} (h:mQ L k n=0) (hi:gu L k<0\/aI L k-n<gu L k):b8 L k n=221:=by
 unfold b8;rw[aa2 h,aa2 hi]
theorem D4 {L:List Obj} {k:Key} {n:Int} (h:mQ L k n=0) (hi:lI (dW L k) (aI L k-n+1) (aI L k+1)=true):b8 L k n=221:=by
 unfold b8;rw[aa2 h,aa2 hi];split<;>rfl
theorem Iv {L:List Obj} {k:Key} {n:Int} (h:mQ L k n=0) (h1:0<=gu L k) (h2:gu L k<=aI L k-n) (hi:lI (dW L k) (aI L k-n+1) (aI L k+1)=false):b8 L k n=0:=by
 unfold b8;rw[aa2 h,aa1 (by omega),hi];rfl
theorem Ju {M:List Obj} {f:Int}:lI M f f=false:=by
 unfold lI;rw[List.any_eq_false];intro j hj h;simp only[aaV,aaW]at h;omega
theorem EI {M:List Obj} {f g e:Int} (h0:0<=g) (h1:g<(M.length:Int)) (hf:f<=g) (he:g<e) (hr:mY (aj M g.toNat free)=true):lI M f e=true:=by
 unfold lI;rw[List.any_eq_true];exact⟨g.toNat,by simp;omega,by rw[hr];simp;omega⟩
theorem Hv {M:List Obj} {f g:Int} (h0:0<=g) (hr:mY (aj M g.toNat free)=false):lI M f (g+1)=lI M f g:=by
 unfold lI;rw[Bool.eq_iff_iff,List.any_eq_true,List.any_eq_true];refine exists_congr fun j=>and_congr_right fun _=>?_
 simp only[aaV,aaW];constructor
 ·rintro⟨⟨a,b⟩,c⟩
  refine⟨⟨a,?_⟩,c⟩;by_cases e:(j:Int)=g
  ·rw[show j=g.toNat by omega,hr]at c;simp at c
  ·omega
 ·rintro⟨⟨a,b⟩,c⟩
  exact⟨⟨a,by omega⟩,c⟩
theorem Xm {L:List Obj} {k:Key} (h:aU L k=true):cy k=k.oid:=by
 unfold aU at h;simp only[aaV]at h;unfold cy;rw[aa2 h.1.1]
theorem Il {L:List Obj} {k:Key} (h:(!decide (0<ak L))=true):aN L k=1:=by unfold aN;rw[PE h];rfl
theorem bk2 {L:List Obj} {k:Key} (h:(!decide (0<ak L))=false) (h2:(!(aU L k&&decide (k.kind=4)))=true):aN L k=190:=by unfold aN;rw[Jx h h2];rfl
theorem Zv {L:List Obj} {k:Key} (h:(!decide (0<ak L))=false) (h2:(!(aU L k&&decide (k.kind=4)))=false) (h3:(!iM (aa L k) (ak L))=true):aN L k=220:=by
 have ha:=HY h h2;rw[(ei (nO h2).1).2.2.2.1]at h3;exact(C0 ha (show iM (aj L k.oid.toNat free) (ak L)=false by simpa using h3)).1
theorem Rw {L:List Obj} {k:Key} (h:(!decide (0<ak L))=false) (h2:(!(aU L k&&decide (k.kind=4)))=false) (h3:(!iM (aa L k) (ak L))=false):aN L k=0/\((aa L k).slots.at 0).value=ay L k/\((aa L k).slots.at 1).value=aI L k:=by
 have ha:=HY h h2;have e:=(ei (nO h2).1).2.2.2.1;rw[e]at h3;rw[e];exact⟨(vI ha (show iM (aj L k.oid.toNat free) (ak L)=true by simpa using h3)).1,rfl,rfl⟩
theorem Cd {L:List Obj} {k v:Key} {e:Int} (h:aN L k=e) (he:e≠0):false=jF L k v/\e=aN L k:=by
 refine⟨?_,h.symm⟩;unfold jF;rw[h];simp[he]
theorem tw {L:List Obj} {k v:Key} {e:Int} (h:cE L k v=e) (he:e≠0):e=cE L k v/\L=gA L k v:=by
 refine⟨h.symm,?_⟩;unfold gA;rw[h,aa1 he]
theorem rJ {L:List Obj} {k v:Key} {e:Int} (h:aN L k=e) (he:e≠0):cE L k v=e:=by
 unfold cE;rw[h,aa1 he]
theorem yR {L:List Obj} {k:Key} {e:Int} (h:aN L k=e) (he:e≠0):(0=fN L k/\e=aN L k)/\L=ib L k:=by
 unfold fN ib;rw[h,aa1 he,aa1 he];exact⟨⟨rfl,rfl⟩,rfl⟩
theorem wh {L:List Obj} {k:Key} {kind e:Int} (h:gB L k kind=e) (he:e≠0):(void=dh L k kind/\e=cA L k kind)/\L=fx L k kind:=by
 have e2:cA L k kind=e:=by unfold cA;rw[h,aa1 he]
 unfold dh fx;rw[e2,h,aa1 he,aa1 he];exact⟨⟨rfl,rfl⟩,rfl⟩
theorem rX {L:List Obj} {k:Key} {kind e:Int} (h:aN L k=e) (he:e≠0):gB L k kind=e:=by unfold gB;rw[h,aa1 he]
theorem MD {L:List Obj} {k:Key} {kind:Int} (h:aN L k=0) (h2:(!(decide (kind=1)||decide (kind=2)))=true):gB L k kind=2:=by
 unfold gB;rw[aa2 h,aa1];simp only[Bool.not_eq_true',Bool.or_eq_false_iff,decide_eq_false_iff_not]at h2;omega
theorem p7 {L:List Obj} {k:Key} {n e:Int} (h:b8 L k n=e) (he:e≠0):(void=ck L k n/\e=b8 L k n)/\L=bE L k n:=by
 unfold ck bE;rw[h,aa1 he,aa1 he];exact⟨⟨rfl,rfl⟩,rfl⟩
theorem vo {L:List Obj} {k:Key} {n e:Int} (h:aN L k=e) (he:e≠0):b8 L k n=e:=by rw[zb (by omega),h]
def Rh:Ct:=s7 (ba sA NY) (fun _=>none) fun x=> .tp [.bo (jF (DG x.1) x.2.1 x.2.2.1),.it .i64 (aN (DG x.1) x.2.1)]
def Ub:kq:=JV (uw TW) (fun L _=>aq L) (fun L x=> .tp [.key (dh L x.1 x.2.1),.it .i64 (cA L x.1 x.2.1)]) fun L x=>fx L x.1 x.2.1
def X7:kq:=JV (uw NY) (fun L _=>aq L) (fun L x=> .it .i64 (cE L x.1 x.2.1)) fun L x=>gA L x.1 x.2.1
def RO:kq:=JV (uw kB) (fun L _=>aq L) (fun L x=> .tp [.it .i64 (fN L x.1),.it .i64 (aN L x.1)]) fun L x=>ib L x.1
def N0:kq:=JV (uw TW) (fun L _=>aq L) (fun L x=> .tp [.key (ck L x.1 x.2.1),.it .i64 (b8 L x.1 x.2.1)]) fun L x=>bE L x.1 x.2.1
def qp (L:List Obj) (k:Key) (n g:Int):Prop:=ay L k<=g/\g<=aI L k+1/\lI (dW L k) (aI L k-n+1) g=false
def LF (L M:List Obj) (g:Int):Int:=aj (dQ L M) g.toNat 0
def KD:List Obj->List Obj->Nat->List Obj
 |L,_,0=>L
 |L,M,g+1=>cK (KD L M g) (LF L M (g:Int)) (aL M (LF L M (g:Int)))
def m5 (L M:List Obj) (g:Int):List Obj:=KD L M g.toNat
def sH (L M:List Obj) (g:Int):Prop:=0<=g/\g<=((dQ L M).length:Int)
def fg (L:List Obj) (k:Key) (g:Int):Obj:=aL (bN L (ay L k) g) g
def qP (L:List Obj) (k:Key) (g:Int):List Obj:=cK (bN L (ay L k) g) g (Obj.mk 1 ((fg L k g).count+1) free.calls free.slots free.bytes)
def o9 (x:Int):Key:=Key.mk 1 void.oid void.count void.call void.rights x
def Dx (L:List Obj) (k:Key) (n g:Int):Obj:=Obj.mk (aL (qP L k g) g).kind (aL (qP L k g) g).count (aL (qP L k g) g).calls (((aL (qP L k g) g).slots.put 0 (o9 (((aa L k).slots.at 1).value-n+1))).put 1 (o9 ((aa L k).slots.at 1).value)) (aL (qP L k g) g).bytes
def CK (L:List Obj) (k:Key) (n g:Int):List Obj:=cK (qP L k g) g (Dx L k n g)
def C8 (L:List Obj) (k:Key) (n g:Int):Obj:=Obj.mk (aL (CK L k n g) k.oid).kind (aL (CK L k n g) k.oid).count (aL (CK L k n g) k.oid).calls ((aL (CK L k n g) k.oid).slots.put 1 (o9 (((aa L k).slots.at 1).value-n))) (aL (CK L k n g) k.oid).bytes
def mW (L:List Obj) (k:Key) (n g:Int):List Obj:=cK (CK L k n g) k.oid (C8 L k n g)
def jE (L:List Obj) (k:Key) (g:Int):Prop:=ay L k<=g/\g<=aI L k+1/\kQ L (ay L k) g
def sF (L:List Obj) (k:Key) (g:Int):Prop:=ay L k<=g/\g<=aI L k+1
def vT (L:List Obj) (k:Key) (g:Int):Prop:=ay L k<=g/\g<=aI L k+1/\eW L (ay L k) g k.oid=0
def sS (L:List Obj) (k:Key) (g:Int):Prop:=ay L k<=g/\g<=aI L k+1/\eW L (ay L k) g k.oid≠0
theorem B9 {L:List Obj} {k:Key} (h:aU L k=true) (h2:k.kind=4):(aj L k.oid.toNat free).kind=1:=by
 unfold aU at h;simp only[aaV]at h;obtain⟨⟨h1,_⟩,h3⟩:=h;unfold cI at h3;simp only[aaV,Bool.or_eq_true,aaW]at h3;rcases lq k with⟨_,e,h0⟩|⟨e,_⟩
 ·rcases h3.2 with h|h
  ·omega
  ·rw[h.1.1];unfold gz;rw[aa1 (by omega),aa1 (by omega)]
 ·rw[e]at h1;simp at h1
theorem Iz {o:Obj} {n b:Int} (h:bM o n=true) (hk:o.kind=1):bM (mS o b) n=true:=by
 refine zF h hk fun i hi=>?_
 have:=(kf h).2.2.2.2.1;rw[cZ.gd _ _ _ _ (by omega)]
 split
 ·exact sI (by omega) _
 ·exact sB h hk i hi
theorem HL {o:Obj} {n a b:Int} (h:bM o n=true) (hk:o.kind=1):bM (jL o a b) n=true:=by
 refine zF h hk fun i hi=>?_
 have:=(kf h).2.2.2.2.1;rw[cZ.gd _ _ _ _ (by omega),cZ.gd _ _ _ _ (by omega)]
 split
 ·exact sI (by omega) _
 split
 ·exact sI (by omega) _
 ·exact sB h hk i hi
theorem Vb {L:List Obj} {k:Key} {g:Int} (hL:aq L) (e:aN L k=0) (hk:(aj L k.oid.toNat free).kind=1) (g0:ay L k<=g) (gl:g<=aI L k) (g2:kQ L (ay L k) g) (f2:fH (aj L g.toNat free)=true):
  gu L k=g/\fg L k g=aj L g.toNat free/\qP L k g=dW L k/\(dW L k).length=L.length/\aq (dW L k)/\aj (dW L k) g.toNat free=mn (aj L g.toNat free) 1/\aj (dW L k) k.oid.toNat free=aj L k.oid.toNat free/\k.oid.toNat≠g.toNat:=by
 obtain⟨_,a0,a1,a2,a3,a4⟩:=mP e;have hgn:g.toNat<L.length:=by omega
 have hgz:(bN L (ay L k) g).length=L.length:=kR;have hgt:aL (bN L (ay L k) g) g=aj L g.toNat free:=by rw[fG (by omega) (by omega),DD (by omega)]
 obtain⟨m1,m2,m3⟩:=yD (l:=aI L k) 1 a0 g0 gl (by omega) g2 f2
 have hO:fg L k g=aj L g.toNat free:=hgt;have hnew:=CE (dt hL g.toNat hgn) f2 (.inl rfl);have hp:=(my (L:=bN L (ay L k) g) (i:=g) (x:=mn (aj L g.toNat free) 1) (by omega) (by omega) (by rw[hgz];exact hnew)).1
 have hP:qP L k g=dW L k:=by
  unfold qP;rw[hO];exact hp.trans m3.symm
 have hne:k.oid.toNat≠g.toNat:=fun h=>by
  rw[h]at hk;unfold fH at f2;simp only[aaV,aaW]at f2;omega
 have hM:dW L k=b6 (bN L (ay L k) g) g.toNat (mn (aj L g.toNat free) 1):=m3;have hko:k.oid.toNat<L.length:=by omega
 refine⟨m1,hO,hP,uF,?_,?_,?_,hne⟩
 ·rw[hM];exact kS (GN hL) (by rw[hgz];exact hnew)
 ·rw[hM,gh (by rw[hgz];exact hgn),aa2 rfl]
 ·rw[hM,gh (by rw[hgz];exact hgn),aa1 hne]
  unfold bN;rw[kK hko,aa1];simp only[jD,hk,aaV,aaW];omega
theorem SY {L:List Obj} {k:Key} {n g:Int} (hL:aq L) (e:aN L k=0) (hk:(aj L k.oid.toNat free).kind=1) (hB:((aa L k).slots.at 1).value=aI L k) (g0:ay L k<=g) (gl:g<=aI L k) (g2:kQ L (ay L k) g) (f2:fH (aj L g.toNat free)=true) (h:b8 L k n=0):
  mW L k n g=bE L k n/\aq (bE L k n)/\(bE L k n).length=L.length/\Key.mk 4 g ((fg L k g).count+1) 0 0 0=ck L k n:=by
 obtain⟨i1,i2,i3,i4,i5,i6,i7,i8⟩:=Vb hL e hk g0 gl g2 f2;obtain⟨_,a0,a1,a2,a3,a4⟩:=mP e;have hgM:aL (dW L k) g=aj (dW L k) g.toNat free:=fG (by omega) (by omega)
 have hR1:Dx L k n g=jL (aj (dW L k) g.toNat free) (aI L k-n+1) (aI L k):=by
  unfold Dx;rw[i3,hgM,hB];rfl
 have o1:bM (jL (aj (dW L k) g.toNat free) (aI L k-n+1) (aI L k)) ((dW L k).length:Int)=true:=HL (dt i5 g.toNat (by omega)) (by rw[i6];rfl)
 have hP2:CK L k n g=b6 (dW L k) g.toNat (jL (aj (dW L k) g.toNat free) (aI L k-n+1) (aI L k)):=by
  unfold CK;rw[i3,hR1];exact(my (by omega) (by omega) o1).1
 have ok2:=kS (i:=g.toNat) i5 o1;have l2:(b6 (dW L k) g.toNat (jL (aj (dW L k) g.toNat free) (aI L k-n+1) (aI L k))).length=L.length:=by rw[iy];exact i4
 have g2':aL (CK L k n g) k.oid=aj (dW L k) k.oid.toNat free:=by
  rw[hP2,fG (by omega) (by omega),gh (by omega),aa1 i8]
 have hR2:C8 L k n g=mS (aj (dW L k) k.oid.toNat free) (aI L k-n):=by
  unfold C8;rw[g2',hB];rfl
 have o2:bM (mS (aj (dW L k) k.oid.toNat free) (aI L k-n)) (L.length:Int)=true:=Iz (by rw[<-i4];exact dt i5 k.oid.toNat (by omega)) (by rw[i7];exact hk)
 have hlast:bE L k n=b6 (b6 (dW L k) g.toNat (jL (aj (dW L k) g.toNat free) (aI L k-n+1) (aI L k))) k.oid.toNat (mS (aj (dW L k) k.oid.toNat free) (aI L k-n)):=by
  unfold bE;rw[aa2 h,i1]
 refine⟨?_,?_,?_,?_⟩
 ·unfold mW;rw[hR2,hP2,hlast];exact(my (by omega) (by omega) (by rw[l2];exact o2)).1
 ·rw[hlast];exact kS ok2 (by rw[l2];exact o2)
 ·rw[hlast,iy];exact l2
 ·unfold ck;rw[aa2 h,i1,i6,i2];rfl
theorem Tz {L M:List Obj} {x:Int} (h:x∈dQ L M):0<=x/\x<(L.length:Int):=by
 unfold dQ iY at h;rw[List.mem_map]at h;obtain⟨j,h1,rfl⟩:=h;have:=List.mem_range.1 (List.mem_filter.1 h1).1;unfold ai at this;exact⟨Int.natCast_nonneg j,by show(j:Int)<_;omega⟩
theorem X6 {L M:List Obj} {i:Nat} (h:i<(dQ L M).length):aj (dQ L M) i 0∈dQ L M:=by
 unfold aj;rw[aa0,List.getElem?_eq_getElem h];exact List.getElem_mem h
theorem S5 {L M:List Obj} {j:Nat} (hj:j<L.length) (h:aj L j free≠aj M j free):∃i,i<(dQ L M).length/\aj (dQ L M) i 0=(j:Int):=by
 have:(j:Int)∈dQ L M:=by
  unfold dQ iY;rw[List.mem_map];refine⟨j,List.mem_filter.2 ⟨List.mem_range.2 (by unfold ai;omega),?_⟩,rfl⟩
  simp[CW,h]
 obtain⟨i,hi,e⟩:=List.mem_iff_getElem.1 this;refine⟨i,hi,?_⟩;unfold aj;rw[aa0,List.getElem?_eq_getElem hi,e];rfl
theorem LN {L M:List Obj} (hl:M.length=L.length) (hM:aq M):∀g:Nat,g<=(dQ L M).length->(KD L M g).length=L.length/\(∀j,j<L.length->aj (KD L M g) j free=aj L j free\/aj (KD L M g) j free=aj M j free)/\
  ∀i,i<g->aj (KD L M g) (aj (dQ L M) i 0).toNat free=aj M (aj (dQ L M) i 0).toNat free
 |0,_=>⟨rfl,fun j hj=> .inl rfl,fun i hi=>by omega⟩
 |g+1,hg=>by
  obtain⟨h1,h2,h3⟩:=LN hl hM g (by omega)
  obtain⟨u1,u2⟩:=Tz (X6 (L:=L) (M:=M) (i:=g) (by omega))
  have e:LF L M (g:Int)=aj (dQ L M) g 0:=rfl;generalize hu:aj (dQ L M) g 0=u at *
  have hp:=(my (L:=KD L M g) (i:=u) (x:=aj M u.toNat free) u1 (by omega) (by rw[h1,<-hl];exact dt hM _ (by omega))).1
  have hs:KD L M (g+1)=b6 (KD L M g) u.toNat (aj M u.toNat free):=by
   simp only[KD];rw[e,fG u1 (by omega)]
   exact hp
  rw[hs];refine⟨by rw[iy];exact h1,fun j hj=>?_,fun i hi=>?_⟩
  ·rw[gh (by omega)]
   split
   ·rename_i hj';rw[hj'];exact .inr rfl
   ·exact h2 j hj
  ·rw[gh (by omega)]
   split
   ·rename_i hj';rw[hj']
   ·rename_i hne;by_cases hig:i=g
    ·rw[hig,hu]at hne;exact absurd rfl hne
    ·exact h3 i (by omega)
theorem Uw {L M:List Obj} (hl:M.length=L.length) (hM:aq M) {g:Int} (hg:g=((dQ L M).length:Int)):m5 L M g=M:=by
 obtain⟨h1,h2,h3⟩:=LN hl hM (dQ L M).length (Nat.le_refl _);have e:m5 L M g=KD L M (dQ L M).length:=by unfold m5;rw[hg];rfl
 rw[e];refine rE (by omega) fun j hj=>?_
 by_cases hne:aj L j free=aj M j free
 ·rcases h2 j (by omega)with h|h
  ·rw[h,hne]
  ·exact h
 ·obtain⟨i,hi,hij⟩:=S5 (by omega) hne
  have:=h3 i hi;rw[hij]at this;exact this
theorem Pe {L M:List Obj} {g:Int} (h0:0<=g):cK (m5 L M g) (aj (dQ L M) g.toNat 0) (aL M (aj (dQ L M) g.toNat 0))=m5 L M (g+1):=by
 unfold m5;rw[show(g+1).toNat=g.toNat+1 by omega]
 simp only[KD];rfl
theorem Ni {L M:List Obj} (hl:M.length=L.length) (h:1<=L.length):j7 L M=false:=by
 unfold j7 bu ai;simp only[hl,show decide (L.length=0)=false from decide_eq_false (by omega),Bool.false_or,decide_true,Bool.not_true]
theorem Hs {M:List Obj} {f g:Int} (h:g<=f):lI M f g=false:=by
 unfold lI;rw[List.any_eq_false];intro j _;simp only[aaV,aaW,not_and];intro h1 h2;omega
theorem Rj {L M:List Obj}:(dQ L M).length<=L.length:=by
 unfold dQ iY;rw[List.length_map];have:=List.length_filter_le (fun j=> !CW (aj L j free) (aj M j free)) (List.range (ai L:Int).toNat)
 simpa[ai]using this
structure Acb where
 kind:Int
 num:Int
 bank:Key
 key:Key
 obj:Int
def Acb.wf (x:Acb):Prop:=cc .i64 x.kind/\cc .i64 x.num/\x.bank.wf/\x.key.wf/\cc .i64 x.obj
theorem I9 {L M:List Obj} {k:Key} {d:Int} {c:Bool} (hl:M.length=L.length) (h1:(aj M k.oid.toNat free).kind=(aj L k.oid.toNat free).kind) (h2:(aj M k.oid.toNat free).count=(aj L k.oid.toNat free).count) (h3:(aj M k.oid.toNat free).calls=(aj L k.oid.toNat free).calls):aB M k d c=aB L k d c:=by
 have hi:aU M k=aU L k:=by
  unfold aU dA cI ai;rw[hl,h1,h2,h3]
 unfold aB ai;rw[hl,hi]
theorem R2 {L:List Obj} {k:Key} (h:aN L k=0):iM (aj L k.oid.toNat free) (L.length:Int)=true/\(aj L k.oid.toNat free).kind=1:=by
 obtain⟨ha,_⟩:=mP h;obtain⟨i1,i2,_⟩:=gw ha;refine⟨?_,B9 i1 i2⟩;unfold aN at h;rw[aa2 ha]at h;split at h
 ·rename_i hc;exact hc
 ·omega
theorem NH {L:List Obj} {f l kind:Int} {j:Nat} (h0:0<=f) (hj:j<L.length) (hk:(aj L j free).kind≠0):aj (cH L f l kind) j free=aj L j free:=by
 have hG:∀g,aj (bN L f g) j free=aj L j free:=fun g=>by
  unfold bN;rw[kK hj,aa1];simp only[jD,aaV,aaW];omega
 unfold cH;split
 ·exact hG _
 ·rename_i hi;rcases wa (L:=L) (l:=l) h0 with e|⟨a,b,c,d⟩
  ·exact absurd e hi
  ·rw[gh (by rw[kR];omega),aa1,hG]
   intro e;rw[<-e]at d;unfold fH at d;simp only[aaV,aaW]at d;exact hk d.1
theorem Pv {L:List Obj} {f l kind:Int} (hL:aq L) (h0:0<=f) (hk:kind=1\/kind=2):aq (cH L f l kind):=by
 unfold cH;split
 ·exact GN hL
 ·rename_i hi;rcases wa (L:=L) (l:=l) h0 with e|⟨a,b,c,d⟩
  ·exact absurd e hi
  ·exact kS (GN hL) (by rw[kR];exact CE (dt hL _ (by omega)) d hk)
theorem HS {L:List Obj} {k:Key} {kind:Int} (hL:aq L):aq (fx L k kind):=by
 unfold fx;split
 ·rename_i h
  have he:aN L k=0:=by
   unfold gB at h;split at h
   ·assumption
   ·rename_i h';exact absurd h h'
  refine Pv hL (mP he).2.1 ?_;unfold gB at h;rw[aa2 he]at h;split at h
  ·assumption
  ·omega
 ·exact hL
theorem QM {L:List Obj} {k:Key} {n:Int} (hL:aq L) (e:aN L k=0) (h:b8 L k n=0):
 aq (bE L k n)/\(bE L k n).length=L.length/\aN (bE L k n) k=0/\ay (bE L k n) k=ay L k/\aI (bE L k n) k=aI L k-n/\aN (bE L k n) (ck L k n)=0/\ay (bE L k n) (ck L k n)=aI L k-n+1/\aI (bE L k n) (ck L k n)=aI L k/\ay L k<=(ck L k n).oid/\(ck L k n).oid<=aI L k-n/\1<=n/\n<=aI L k-ay L k/\fH (aj L (ck L k n).oid.toNat free)=true:=by
 obtain⟨ha,a0,a1,a2,a3,a4⟩:=mP e;obtain⟨hok,hk1⟩:=R2 e;obtain⟨x1,x2⟩:=gY hL;have h':=h;unfold b8 at h;split at h
 case isFalse h2=>exact absurd h h2
 rename_i hE0;split at h
 case isTrue=>omega
 rename_i hI
 have hn:1<=n/\n<=aI L k-ay L k:=by
  unfold mQ at hE0;rw[aa2 e]at hE0;split at hE0
  ·omega
  ·omega
 have hin:=wa (L:=L) (l:=aI L k) a0;have hIe:br L (ay L k) (aI L k)=gu L k:=rfl;have hne1:br L (ay L k) (aI L k)≠ -1:=by rw[hIe];omega
 rw[hIe]at hin;rcases hin with hin|⟨i1,i2,i3,i4⟩
 ·omega
 have hMlen:(dW L k).length=L.length:=uF;have hMok:aq (dW L k):=Pv hL a0 (.inl rfl);have hMI:aj (dW L k) (gu L k).toNat free=mn (aj L (gu L k).toNat free) 1:=KH a0 hne1;have UI:aj (dW L k) k.oid.toNat free=aj L k.oid.toNat free:=NH a0 (by omega) (by omega)
 have hne:k.oid.toNat≠(gu L k).toNat:=fun hh=>by
  rw[hh]at hk1;unfold fH at i4;simp only[aaV,aaW]at i4;omega
 have hLL:bE L k n=b6 (b6 (dW L k) (gu L k).toNat (jL (aj (dW L k) (gu L k).toNat free) (aI L k-n+1) (aI L k))) k.oid.toNat (mS (aj (dW L k) k.oid.toNat free) (aI L k-n)):=by
  unfold bE;rw[aa2 h']
 have hKK:ck L k n=⟨4,gu L k,(aj L (gu L k).toNat free).count+1,0,0,0⟩:=by
  unfold ck;rw[aa2 h',hMI];rfl
 have o1:bM (jL (aj (dW L k) (gu L k).toNat free) (aI L k-n+1) (aI L k)) (L.length:Int)=true:=HL (by rw[<-hMlen];exact dt hMok _ (by omega)) (by rw[hMI];rfl)
 have o2:bM (mS (aj (dW L k) k.oid.toNat free) (aI L k-n)) (L.length:Int)=true:=Iz (by rw[<-hMlen];exact dt hMok _ (by omega)) (by rw[UI];exact hk1)
 have l1:(b6 (dW L k) (gu L k).toNat (jL (aj (dW L k) (gu L k).toNat free) (aI L k-n+1) (aI L k))).length=L.length:=by rw[iy];exact hMlen
 have okX:=kS (i:=(gu L k).toNat) hMok (by rw[hMlen];exact o1)
 have hlen:(bE L k n).length=L.length:=by rw[hLL,iy];exact l1
 have hokL:aq (bE L k n):=by rw[hLL];exact kS okX (by rw[l1];exact o2)
 have hgk:aj (bE L k n) k.oid.toNat free=mS (aj L k.oid.toNat free) (aI L k-n):=by
  rw[hLL,gh (by omega),aa2 rfl,UI]
 have hgI:aj (bE L k n) (gu L k).toNat free=jL (mn (aj L (gu L k).toNat free) 1) (aI L k-n+1) (aI L k):=by
  rw[hLL,gh (by omega),aa1 (Ne.symm hne),gh (by omega),aa2 rfl,hMI]
 have s2:∀(o:Obj) (b:Int),(mS o b).slots.at 0=o.slots.at 0/\(mS o b).slots.at 1=bL b:=fun o b=>by
  unfold mS;simp only;rw[cZ.gd _ _ _ _ (by omega),cZ.gd _ _ _ _ (by omega)]
  exact⟨rfl,rfl⟩
 have s1:∀(o:Obj) (a b:Int),(jL o a b).slots.at 0=bL a/\(jL o a b).slots.at 1=bL b:=fun o a b=>by
  unfold jL;simp only;rw[cZ.gd _ _ _ _ (by omega),cZ.gd _ _ _ _ (by omega),cZ.gd _ _ _ _ (by omega)]
  exact⟨rfl,rfl⟩
 have hask:aB (bE L k n) k 4 false=0:=by
  rw[I9 hlen (by rw[hgk];rfl) (by rw[hgk];rfl) (by rw[hgk];rfl)];exact ha
 unfold iM at hok;simp only[aaV,aaW]at hok;obtain⟨⟨⟨⟨c1,c2⟩,c3⟩,c4⟩,c5⟩:=hok;have hA':ay (bE L k n) k=ay L k:=by unfold ay;rw[hgk,(s2 _ _).1]
 have hB':aI (bE L k n) k=aI L k-n:=by
  have:aI (bE L k n) k=((mS (aj L k.oid.toNat free) (aI L k-n)).slots.at 1).value:=by rw[<-hgk];rfl
  rw[this,(s2 _ _).2];rfl
 have hE':aN (bE L k n) k=0:=(vI hask (by
  rw[hgk];unfold iM ai;rw[(s2 _ _).1,(s2 _ _).2,hlen];have v0:((aj L k.oid.toNat free).slots.at 0).value=ay L k:=rfl;simp only[bL,aaV,aaW];refine⟨⟨⟨⟨c1,?_⟩,c3⟩,?_⟩,?_⟩
  ·trivial
  ·exact decide_eq_true (by omega)
  ·exact decide_eq_true (by omega))).1
 have i4':=i4;unfold fH at i4';simp only[aaV,aaW]at i4';have hcb:=kf (dt hL (gu L k).toNat (by omega))
 have hkey:aV (ck L k n)=true:=by
  rw[hKK];unfold aV fZ;simp only[ea,gO,kG,fy];simp;omega
 have hoid:(ck L k n).oid=gu L k:=by rw[hKK]
 have hisO:ea (ck L k n).kind=true:=by rw[hKK];rfl
 have hnm:aZ (ck L k n)=true:=by unfold aZ;rw[hkey,hisO];rfl
 have hnames:bf (ck L k n)=gu L k:=by unfold bf;rw[hkey,hisO,hoid];rfl
 have hcounts:cI (ck L k n) (aj (bE L k n) (ck L k n).oid.toNat free)=true:=by
  unfold cI gz;rw[hkey,hnames,hoid,hgI,aa1 (by omega),hKK]
  simp[jL,mn]
 have his:aU (bE L k n) (ck L k n)=true:=by
  unfold aU;rw[hnm,hcounts,mR.2 ⟨by omega,by omega⟩];rfl
 have hask2:aB (bE L k n) (ck L k n) 4 false=0:=by
  unfold aB ai;rw[aa1 (by omega),aa1 (by rw[his,hKK];simp),aa1 (by simp)]
 have hobj:aj (bE L k n) (ck L k n).oid.toNat free=jL (mn (aj L (gu L k).toNat free) 1) (aI L k-n+1) (aI L k):=by rw[hoid];exact hgI
 refine⟨hokL,hlen,hE',hA',hB',(vI hask2 ?_).1,?_,?_,by rw[hoid];exact i1,by rw[hoid];omega,hn.1,hn.2,by rw[hoid];exact i4⟩
 ·rw[hobj];unfold iM ai;rw[(s1 _ _ _).1,(s1 _ _ _).2,hlen];simp only[bL,aaV,aaW];refine⟨⟨⟨⟨?_,?_⟩,?_⟩,?_⟩,?_⟩
  ·trivial
  ·trivial
  ·exact decide_eq_true (by omega)
  ·exact decide_eq_true (by omega)
  ·exact decide_eq_true (by omega)
 ·unfold ay;rw[hobj,(s1 _ _ _).1];rfl
 ·have:aI (bE L k n) (ck L k n)=((jL (mn (aj L (gu L k).toNat free) 1) (aI L k-n+1) (aI L k)).slots.at 1).value:=by rw[<-hobj];rfl
  rw[this,(s1 _ _ _).2];rfl
end Go.Sx
