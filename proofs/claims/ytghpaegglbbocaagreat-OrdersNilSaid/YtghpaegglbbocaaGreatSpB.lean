import Derived.Test.YtghpaegglbbocaaGreatSpP
import Derived.Test.YtghpaegglbbocaaGreatKS
set_option linter.unusedSimpArgs false
set_option linter.unusedVariables false
namespace Go.Sx
def iI (o:Obj):Bool:=decide (o.kind=0)&&decide (4294967295<=o.count)
def eN (o:Obj):Bool:=decide (o.kind=0)&&decide (o.count<4294967295)
def DW (o:Obj):Obj:=⟨3,o.count,0,fY,fX⟩
def k7 (o:Obj) (kind:Int):Obj:=⟨kind,o.count+1,0,fY,fX⟩
def xm (o:Obj):Obj:=⟨0,o.count,0,fY,fX⟩
def ki (L:List Obj) (p:Nat->Obj->Bool) (t:Obj->Obj):List Obj:=(List.range L.length).map fun j=>if p j (ah L j free)then t (ah L j free)else ah L j free
def bE (L:List Obj) (f g:Int):List Obj:=ki L (fun j o=>decide (f<=(j:Int))&&decide ((j:Int)<g)&&iI o) DW
def jJ (L:List Obj) (f g:Int):Prop:=∀j:Nat,f<=(j:Int)->(j:Int)<g->eN (ah L j free)=false
def kV (L:List Obj) (f g:Int):Bool:=(List.range L.length).any fun(j:Nat)=>decide (f<=(j:Int))&&decide ((j:Int)<g)&&iI (ah L j free)
def bh (L:List Obj) (f l:Int):Int:=match (List.range L.length).find? fun(j:Nat)=>decide (f<=(j:Int))&&decide ((j:Int)<=l)&&eN (ah L j free)with
 |some j=>(j:Int)
 |none=> -1
def ca (L:List Obj) (f l kind:Int):List Obj:=if bh L f l= -1 then bE L f (l+1)else cC (bE L f (bh L f l)) (bh L f l).toNat (k7 (ah L (bh L f l).toNat free) kind)
def kD (L:List Obj) (f l:Int):Bool:= !decide (bh L f l= -1)||kV L f (l+1)
def cK (kind oid count:Int):Key:=⟨if kind=2 then 3 else 2,oid,count,0,0,0⟩
def gz (o:Obj) (n:Int):Bool:=decide ((o.slots.at 0).kind=1)&&decide ((o.slots.at 1).kind=1)&&decide (0<=(o.slots.at 0).value)&&decide ((o.slots.at 0).value<=(o.slots.at 1).value)&&decide ((o.slots.at 1).value<n)
def aK (L:List Obj) (k:Key):Int:=if ay L k 4 false=0 then(if gz (ah L k.oid.toNat free) (aj L:Int)then 0 else 220)else ay L k 4 false
def au (L:List Obj) (k:Key):Int:=((ah L k.oid.toNat free).slots.at 0).value
def aE (L:List Obj) (k:Key):Int:=((ah L k.oid.toNat free).slots.at 1).value
def aH (L:List Obj) (k:Key):Int:=if aK L k=0 then au L k else 0
def aA (L:List Obj) (k:Key):Int:=if aK L k=0 then aE L k else 0
def fQ (L:List Obj) (k:Key) (kind:Int):Int:=if aK L k=0 then(if kind=1\/kind=2 then 0 else 2)else aK L k
def bX (L:List Obj) (k:Key) (kind:Int):Int:=if fQ L k kind=0 then(if bh L (au L k) (aE L k)= -1 then 221 else 0)else fQ L k kind
def eI (L:List Obj) (k:Key) (kind:Int):List Obj:=if fQ L k kind=0 then ca L (au L k) (aE L k) kind else L
def fN (L:List Obj) (k:Key) (kind:Int):Bool:=decide (fQ L k kind=0)&&kD L (au L k) (aE L k)
def cL (L:List Obj) (k:Key) (kind:Int):Key:=if bX L k kind=0 then cK kind (bh L (au L k) (aE L k)) ((ah L (bh L (au L k) (aE L k)).toNat free).count+1)else void
def gX (L:List Obj) (v:Key):Bool:=aU L v&&(decide (v.kind=2)||decide (v.kind=3))
def b8 (L:List Obj) (k v:Key):Int:=if aK L k=0 then(if gX L v then(if au L k<=v.oid/\v.oid<=aE L k/\v.oid≠k.oid then 0 else 4)else 5)else aK L k
def fI (L:List Obj) (k v:Key):List Obj:=if b8 L k v=0 then cC L v.oid.toNat (xm (ah L v.oid.toNat free))else L
def iY (L:List Obj) (k v:Key):Bool:=decide (b8 L k v=0)
def lA (o:Obj):Bool:=decide (o.kind=1)||decide (o.kind=2)
def kg (f g oid:Int) (j:Nat) (o:Obj):Bool:=decide (f<=(j:Int))&&decide ((j:Int)<g)&&lA o&& !decide ((j:Int)=oid)
def dq (L:List Obj) (f g oid:Int):List Obj:=ki L (kg f g oid) xm
def dU (L:List Obj) (f g oid:Int):Int:=(((List.range L.length).filter fun j=>kg f g oid j (ah L j free)).length:Int)
def gi (L:List Obj) (k:Key):List Obj:=if aK L k=0 then dq L (au L k) (aE L k+1) k.oid else L
def eL (L:List Obj) (k:Key):Int:=if aK L k=0 then dU L (au L k) (aE L k+1) k.oid else 0
def jP (L:List Obj) (k:Key):Bool:=decide (aK L k=0)&& !decide (dU L (au L k) (aE L k+1) k.oid=0)
def iF (L:List Obj) (k v:Key):Bool:=decide (aK L k=0)&&gX L v&&decide (au L k<=v.oid)&&decide (v.oid<=aE L k)
theorem ib {L:List Obj} {p:Nat->Obj->Bool} {t:Obj->Obj}:(ki L p t).length=L.length:=by simp[ki]
theorem jD {L:List Obj} {p:Nat->Obj->Bool} {t:Obj->Obj} {j:Nat} (h:j<L.length):ah (ki L p t) j free=if p j (ah L j free)then t (ah L j free)else ah L j free:=by
 rw[show ah (ki L p t) j free=(ki L p t).getD j free from rfl,Yo];unfold ki;rw[List.getElem?_map,List.getElem?_range h];rfl
theorem xx {L:List Obj} {p:Nat->Obj->Bool} {t:Obj->Obj} (h:∀j,j<L.length->p j (ah L j free)=false):ki L p t=L:=by
 refine ql ib fun j hj=>?_
 rw[ib]at hj;rw[jD hj,h j hj];rfl
theorem C9 {L:List Obj} {p p':Nat->Obj->Bool} {t:Obj->Obj} {g:Nat} (hg:g<L.length) (hp:∀j,j≠g->p' j (ah L j free)=p j (ah L j free)) (h1:p' g (ah L g free)=true):
  cC (ki L p t) g (t (ah L g free))=ki L p' t:=by
 refine ql (by rw[jx,ib,ib]) fun j hj=>?_
 rw[jx,ib]at hj;rw[gk (by rw[ib];exact hg),jD hj,jD hj]
 by_cases e:j=g
 ·subst e;rw[Yq rfl,h1,Yq rfl]
 ·rw[Yp e,hp j e]
theorem zt {L:List Obj} {p p':Nat->Obj->Bool} {t:Obj->Obj} (hp:∀j,j<L.length->p' j (ah L j free)=p j (ah L j free)):ki L p' t=ki L p t:=by
 refine ql (by rw[ib,ib]) fun j hj=>?_
 rw[ib]at hj;rw[jD hj,jD hj,hp j hj]
theorem jL {L:List Obj} {f g:Int}:(bE L f g).length=L.length:=ib
theorem Ci {L:List Obj} {f:Int}:L=bE L f f:=by
 symm
 refine xx fun j hj=>?_
 simp only[Bool.and_eq_false_iff,decide_eq_false_iff_not];omega
theorem AE {L:List Obj} {f g:Int} (h0:0<=g):ah (bE L f g) g.toNat free=ah L g.toNat free:=by
 by_cases h:g.toNat<L.length
 ·unfold bE;rw[jD h,Yp];simp only[Yj,Yk];omega
 ·rw[show ah (bE L f g) g.toNat free=free by simp[ah,Yo,List.getElem?_eq_none (show(bE L f g).length<=g.toNat by rw[jL];omega)]]
  simp[ah,Yo,List.getElem?_eq_none (show L.length<=g.toNat by omega)]
theorem wQ {L:List Obj} {f g:Int} (h0:0<=g) (h1:g<(L.length:Int)) (hf:f<=g) (hr:iI (ah L g.toNat free)=true):cC (bE L f g) g.toNat (DW (ah L g.toNat free))=bE L f (g+1):=by
 refine C9 (by omega) (fun j hj=>?_) ?_
 ·have:decide ((j:Int)<g+1)=decide ((j:Int)<g):=by rw[decide_eq_decide];omega
  rw[this]
 ·rw[hr];simp;omega
theorem xf {L:List Obj} {f g:Int} (h0:0<=g) (hr:iI (ah L g.toNat free)=false):bE L f (g+1)=bE L f g:=by
 refine zt fun j hj=>?_
 by_cases e:(j:Int)=g
 ·rw[show j=g.toNat by omega,hr,Bool.and_false,Bool.and_false]
 ·have:decide ((j:Int)<g+1)=decide ((j:Int)<g):=by rw[decide_eq_decide];omega
  rw[this]
theorem TN {L:List Obj} {f l g:Int} (h0:0<=f) (hf:f<=g) (hl:g<=l) (hg:g<(L.length:Int)) (hn:jJ L f g) (hw:eN (ah L g.toNat free)=true):bh L f l=g:=by
 unfold bh
 have:(List.range L.length).find? (fun(j:Nat)=>decide (f<=(j:Int))&&decide ((j:Int)<=l)&&eN (ah L j free))=some g.toNat:=by
  rw[List.find?_eq_some_iff_getElem];refine⟨by rw[hw];simp;omega,g.toNat,by simp;omega,by simp,fun j hj=>?_⟩
  simp only[List.getElem_range,Bool.not_eq_true',Bool.and_eq_false_iff,decide_eq_false_iff_not];by_cases e:f<=(j:Int)
  ·right;exact hn j e (by omega)
  ·left;left;exact e
 rw[this];show((g.toNat:Nat):Int)=g
 omega
theorem MY {L:List Obj} {f l:Int} (hn:jJ L f (l+1)):bh L f l= -1:=by
 unfold bh
 have:(List.range L.length).find? (fun(j:Nat)=>decide (f<=(j:Int))&&decide ((j:Int)<=l)&&eN (ah L j free))=none:=by
  rw[List.find?_eq_none];intro j hj h;simp only[Yj,Yk]at h;rw[hn j h.1.1 (by omega)]at h
  simp at h
 rw[this]
theorem iR {L:List Obj} {f g:Int} (h:jJ L f g) (hg:eN (ah L g.toNat free)=false):jJ L f (g+1):=fun j h1 h2=>by
 by_cases e:(j:Int)=g
 ·rw[show j=g.toNat by omega];exact hg
 ·exact h j h1 (by omega)
theorem sw {L:List Obj} {f:Int}:jJ L f f:=fun j h1 h2=>by omega
theorem HX {L:List Obj} {f:Int}:kV L f f=false:=by
 unfold kV;rw[List.any_eq_false];intro j hj h;simp only[Yj,Yk]at h;omega
theorem Cx {L:List Obj} {f g:Int} (h0:0<=g) (h1:g<(L.length:Int)) (hf:f<=g) (hr:iI (ah L g.toNat free)=true):kV L f (g+1)=true:=by
 unfold kV;rw[List.any_eq_true];exact⟨g.toNat,by simp;omega,by rw[hr];simp;omega⟩
theorem FL {L:List Obj} {f g:Int} (h0:0<=g) (hr:iI (ah L g.toNat free)=false):kV L f (g+1)=kV L f g:=by
 unfold kV;rw[Bool.eq_iff_iff,List.any_eq_true,List.any_eq_true];refine exists_congr fun j=>and_congr_right fun _=>?_
 simp only[Yj,Yk];constructor
 ·rintro⟨⟨a,b⟩,c⟩
  refine⟨⟨a,?_⟩,c⟩;by_cases e:(j:Int)=g
  ·rw[show j=g.toNat by omega,hr]at c;simp at c
  ·omega
 ·rintro⟨⟨a,b⟩,c⟩
  exact⟨⟨a,by omega⟩,c⟩
theorem BD {L:List Obj} {f g oid:Int}:(dq L f g oid).length=L.length:=ib
theorem xI {L:List Obj} {f g oid:Int} (h:dU L f g oid=0):dq L f g oid=L:=by
 refine xx fun j hj=>?_
 unfold dU at h;have h2:((List.range L.length).filter fun j=>kg f g oid j (ah L j free))= []:=List.eq_nil_of_length_eq_zero (by omega)
 rw[List.filter_eq_nil_iff]at h2;have:=h2 j (by simp;omega)
 simpa using this
theorem tX {L:List Obj} {f oid:Int}:dU L f f oid=0:=by
 unfold dU;rw[show((List.range L.length).filter fun j=>kg f f oid j (ah L j free))= []from ?_]
 ·rfl
 ·rw[List.filter_eq_nil_iff];intro j hj;unfold kg;simp only[Yj,Yk];omega
theorem Ms {L:List Obj} {f oid:Int}:L=dq L f f oid:=(xI tX).symm
theorem LZ {L:List Obj} {f g oid:Int} (h0:0<=g):ah (dq L f g oid) g.toNat free=ah L g.toNat free:=by
 by_cases h:g.toNat<L.length
 ·unfold dq;rw[jD h,Yp];unfold kg;simp only[Yj,Yk];omega
 ·rw[show ah (dq L f g oid) g.toNat free=free by simp[ah,Yo,List.getElem?_eq_none (show(dq L f g oid).length<=g.toNat by rw[BD];omega)]]
  simp[ah,Yo,List.getElem?_eq_none (show L.length<=g.toNat by omega)]
def jl (L:List Obj) (g oid:Int):Bool:=lA (ah L g.toNat free)&& !decide (g=oid)
theorem Bq {L:List Obj} {f g oid:Int} (h0:0<=g) (hf:f<=g):kg f (g+1) oid g.toNat (ah L g.toNat free)=jl L g oid:=by
 unfold kg jl;rw[show((g.toNat:Nat):Int)=g by omega]
 have a:decide (f<=g)=true:=by simp;omega
 have b:decide (g<g+1)=true:=by simp;omega
 rw[a,b];simp
theorem v9 {L:List Obj} {f g oid:Int} {j:Nat} (h:(j:Int)≠g) (o:Obj):kg f (g+1) oid j o=kg f g oid j o:=by
 unfold kg;have:decide ((j:Int)<g+1)=decide ((j:Int)<g):=by rw[decide_eq_decide];omega
 rw[this]
theorem Bj {f g oid:Int} {j:Nat} (h:(j:Int)=g) (o:Obj):kg f g oid j o=false:=by
 unfold kg;have:decide ((j:Int)<g)=false:=by simp;omega
 rw[this];simp
theorem BE {L:List Obj} {f g oid:Int} (h0:0<=g) (h1:g<(L.length:Int)) (hf:f<=g) (hr:jl L g oid=true):cC (dq L f g oid) g.toNat (xm (ah L g.toNat free))=dq L f (g+1) oid:=
 C9 (by omega) (fun j hj=>v9 (L:=L) (by omega) _) (by rw[Bq h0 hf];exact hr)
theorem xc {L:List Obj} {f g oid:Int} (h0:0<=g) (hf:f<=g) (hr:jl L g oid=false):dq L f (g+1) oid=dq L f g oid:=by
 refine zt fun j hj=>?_
 by_cases e:(j:Int)=g
 ·rw[show j=g.toNat by omega,Bq h0 hf,hr,Bj (by omega)]
 ·exact v9 (L:=L) e _
theorem ue {L:List Obj} {f g oid:Int} (h0:0<=g) (hf:f<=g) (hr:jl L g oid=false):dU L f (g+1) oid=dU L f g oid:=by
 unfold dU;rw[show((List.range L.length).filter fun j=>kg f (g+1) oid j (ah L j free))=(List.range L.length).filter fun j=>kg f g oid j (ah L j free)from List.filter_congr fun j hj=>?_]
 by_cases e:(j:Int)=g
 ·rw[show j=g.toNat by omega,Bq h0 hf,hr,Bj (by omega)]
 ·exact v9 (L:=L) e _
theorem filter_one {l:List Nat} {p p':Nat->Bool} {g:Nat} (hn:l.Nodup) (hg:g∈l) (hp:∀j,j≠g->p' j=p j) (h0:p g=false) (h1:p' g=true):(l.filter p').length=(l.filter p).length+1:=by
 induction l with
 |nil=>simp at hg
 |cons a l ih=>
  rw[List.nodup_cons]at hn;by_cases e:a=g
  ·subst e;have:l.filter p'=l.filter p:=List.filter_congr fun j hj=>hp j fun e=>hn.1 (e▸hj)
   rw[List.filter_cons,List.filter_cons,h0,h1,Yq rfl,Yp (by simp),this]
   simp
  ·have hg2:g∈l:=by
    rcases List.mem_cons.1 hg with h|h
    ·exact absurd h.symm e
    ·exact h
   rw[List.filter_cons,List.filter_cons,hp a e];split
   ·simp only[List.length_cons];rw[ih hn.2 hg2]
   ·exact ih hn.2 hg2
theorem xh {L:List Obj} {f g oid:Int} (h0:0<=g) (h1:g<(L.length:Int)) (hf:f<=g) (hr:jl L g oid=true):dU L f (g+1) oid=dU L f g oid+1:=by
 unfold dU;have:=filter_one (l:=List.range L.length) (p:=fun j=>kg f g oid j (ah L j free)) (p':=fun j=>kg f (g+1) oid j (ah L j free)) (g:=g.toNat) List.nodup_range (by simp;omega) (fun j hj=>v9 (L:=L) (by omega) _) (Bj (by omega) _) (by show kg f (g+1) oid g.toNat (ah L g.toNat free)=true;rw[Bq h0 hf];exact hr)
 omega
theorem sf {L:List Obj} {f g oid:Int}:0<=dU L f g oid:=by unfold dU;omega
theorem MM {L:List Obj} {f g oid:Int}:dU L f g oid<=(L.length:Int):=by
 unfold dU;have:=List.length_filter_le (fun j=>kg f g oid j (ah L j free)) (List.range L.length)
 rw[List.length_range]at this;omega
theorem AF {n:Int} {kind count:Int} (h1:1<=n) (h2:n<=64) (h3:0<=kind) (h4:kind<=3) (h5:0<=count) (h6:count<=4294967295):bT ⟨kind,count,0,fY,fX⟩ n=true:=by
 rw[fj];refine⟨h1,h2,h3,h4,h5,h6,by simp,by simp,.inr rfl,fun i hi=>?_,fun i hi=>?_⟩
 ·simp only[xP];unfold hU;rw[ow.1,ow.2];simp;omega
 ·have hz:=Gr.1 (show fX=fX from rfl) i hi;first|exact .inr (.inr hz)|exact hz|simp[hz]
theorem jd {o:Obj} {n:Int} (h:bT o n=true):0<=o.count/\o.count<=4294967295/\0<=o.kind/\o.kind<=3/\1<=n/\n<=64:=by
 obtain⟨a1,a2,a3,a4,a5,a6,_⟩:=fj.1 h;exact⟨a5,a6,a3,a4,a1,a2⟩
theorem Aw {o:Obj} {n:Int} (h:bT o n=true):bT (DW o) n=true:=by
 obtain⟨a,b,c,d,e,f⟩:=jd h;exact AF e f (by omega) (by omega) a b
theorem wi {o:Obj} {n:Int} (h:bT o n=true):bT (xm o) n=true:=by
 obtain⟨a,b,c,d,e,f⟩:=jd h;exact AF e f (by omega) (by omega) a b
theorem BN {o:Obj} {n kind:Int} (h:bT o n=true) (hn:eN o=true) (hk:kind=1\/kind=2):bT (k7 o kind) n=true:=by
 obtain⟨a,b,c,d,e,f⟩:=jd h;unfold eN at hn;simp only[Yj,Yk]at hn;exact AF e f (by omega) (by omega) (by omega) (by omega)
theorem Gm {L:List Obj} {p:Nat->Obj->Bool} {t:Obj->Obj} (h:aq L) (ht:∀o,bT o (L.length:Int)=true->bT (t o) (L.length:Int)=true):aq (ki L p t):=by
 refine Jv h ib fun j hj=>?_
 rw[jD hj];split
 ·exact ht _ (dY h j hj)
 ·exact dY h j hj
theorem Ek {L:List Obj} {f g:Int} (h:aq L):aq (bE L f g):=Gm h fun o ho=>Aw ho
def kB:ly (Key×Unit):=bk kA iv
def Lv:ly (Key×Key×Unit):=bk kA (bk kA iv)
def Q3:ly (Key×Int×Unit):=bk kA (bk iA iv)
def Xd:ly (Int×Int×Int×Unit):=bk iA (bk iA (bk iA iv))
theorem C4:iB kB:=aJ gQ cF
theorem vj:iB Lv:=aJ gQ (aJ gQ cF)
theorem BG:iB Q3:=aJ gQ (aJ ft cF)
theorem Sr:iB Xd:=aJ ft (aJ ft (aJ ft cF))
def CJ (L:List Obj) (f l:Int):Prop:=aq L/\0<=f/\l<(aj L:Int)/\f<=l+1
def N2:Ct:=sE (bk AR kB) (fun _=>none) fun x=> .tp [.it .i64 (aH x.1 x.2.1),.it .i64 (aA x.1 x.2.1),.it .i64 (aK x.1 x.2.1)]
def Ia:kI:=zm (wO Xd) (fun L x=>CJ L x.1 x.2.1) (fun L x=>kD L x.1 x.2.1) (fun L x=>ca L x.1 x.2.1 x.2.2.1) fun L x=> [.it .i64 (bh L x.1 x.2.1)]
def QY:kI:=zm (wO Q3) (fun L _=>aq L) (fun L x=>fN L x.1 x.2.1) (fun L x=>eI L x.1 x.2.1) fun L x=> [.key (cL L x.1 x.2.1),.it .i64 (bX L x.1 x.2.1)]
def T1:kI:=zm (wO Lv) (fun L _=>aq L) (fun L x=>iY L x.1 x.2.1) (fun L x=>fI L x.1 x.2.1) fun L x=> [.it .i64 (b8 L x.1 x.2.1)]
def OT:kI:=zm (wO kB) (fun L _=>aq L) (fun L x=>jP L x.1) (fun L x=>gi L x.1) fun L x=> [.it .i64 (eL L x.1),.it .i64 (aK L x.1)]
def PZ:Ct:=sE (bk AR Lv) (fun _=>none) fun x=> .tp [.bo (iF x.1 x.2.1 x.2.2.1),.it .i64 (aK x.1 x.2.1)]
def uj (L:List Obj) (f l:Int) (g:Int):Prop:=f<=g/\g<=l+1/\jJ L f g/\kV L f g=false
def qF (L:List Obj) (f l:Int) (g:Int):Prop:=f<=g/\g<=l+1/\jJ L f g/\kV L f g=true
def Uc:Ct:=WI (rI .i64) (rI .i64) (rI .i64) fun a b c=> .key (cK a b c)
theorem ya {L:List Obj} {f g:Int} (h:kV L f g=false):bE L f g=L:=by
 refine xx fun j hj=>?_
 unfold kV at h;rw[List.any_eq_false]at h;simpa using h j (by simpa using hj)
theorem wm {o:Obj} (h:o.kind≠0):iI o=false/\eN o=false:=by simp[iI,eN,h]
theorem AD {o:Obj} (h:o.kind=0) (h2:4294967295<=o.count):iI o=true/\eN o=false:=by simp[iI,eN,h,h2]
theorem Bs {o:Obj} (h:o.kind=0) (h2:¬4294967295<=o.count):iI o=false/\eN o=true:=by
 refine⟨by simp[iI,h2],?_⟩
 simp only[eN,Yj,Yk];omega
theorem vZ {L:List Obj} {f l g:Int} (kind:Int) (h0:0<=f) (hf:f<=g) (hl:g<=l) (hg:g<(L.length:Int)) (hn:jJ L f g) (hw:eN (ah L g.toNat free)=true):
  bh L f l=g/\kD L f l=true/\ca L f l kind=cC (bE L f g) g.toNat (k7 (ah L g.toNat free) kind):=by
 have e:=TN h0 hf hl hg hn hw;refine⟨e,?_,?_⟩
 ·unfold kD;rw[e];simp;left;omega
 ·unfold ca;rw[e,Yp (by omega)]
theorem AA {L:List Obj} {f l:Int} (kind:Int) (hn:jJ L f (l+1)):bh L f l= -1/\ca L f l kind=bE L f (l+1)/\kD L f l=kV L f (l+1):=by
 have e:=MY hn;refine⟨e,?_,?_⟩
 ·unfold ca;rw[e,Yq rfl]
 ·unfold kD;rw[e];rfl
theorem Nh (o:Obj) (n:Nat):(!decide ((o.slots.at 0).kind=1)|| !decide ((o.slots.at 1).kind=1)||decide ((o.slots.at 0).value<0)||decide ((o.slots.at 1).value<(o.slots.at 0).value)||decide (b9 n<=(o.slots.at 1).value))= !gz o (n:Int):=by
 unfold gz b9;rw[Bool.eq_iff_iff];simp only[Bool.or_eq_true,Bool.not_eq_true',Bool.and_eq_false_iff,Yk,decide_eq_false_iff_not];omega
theorem EI {L:List Obj} {k:Key} (h:ay L k 4 false≠0):aK L k=ay L k 4 false/\aH L k=0/\aA L k=0:=by
 have e:aK L k=ay L k 4 false:=by unfold aK;rw[Yp h]
 refine⟨e,?_,?_⟩
 ·unfold aH;rw[e,Yp h]
 ·unfold aA;rw[e,Yp h]
theorem AX {L:List Obj} {k:Key} (h:ay L k 4 false=0) (h2:gz (ah L k.oid.toNat free) (aj L:Int)=false):aK L k=220/\aH L k=0/\aA L k=0:=by
 have e:aK L k=220:=by unfold aK;rw[Yq h,h2];rfl
 refine⟨e,?_,?_⟩
 ·unfold aH;rw[e];rfl
 ·unfold aA;rw[e];rfl
theorem ux {L:List Obj} {k:Key} (h:ay L k 4 false=0) (h2:gz (ah L k.oid.toNat free) (aj L:Int)=true):aK L k=0/\aH L k=au L k/\aA L k=aE L k:=by
 have e:aK L k=0:=by unfold aK;rw[Yq h,h2];rfl
 refine⟨e,?_,?_⟩
 ·unfold aH;rw[e];rfl
 ·unfold aA;rw[e];rfl
theorem lr {L:List Obj} {k:Key} (h:aK L k=0):ay L k 4 false=0/\0<=au L k/\au L k<=aE L k/\aE L k<(L.length:Int)/\0<=k.oid/\k.oid<(L.length:Int):=by
 have ha:ay L k 4 false=0:=by
  unfold aK at h;split at h
  ·assumption
  ·rename_i h1;exact absurd h h1
 have hb:gz (ah L k.oid.toNat free) (aj L:Int)=true:=by
  cases hb:gz (ah L k.oid.toNat free) (aj L:Int)with
  |true=>rfl
  |false=>rw[(AX ha hb).1]at h;simp at h
 obtain⟨_,b2,b3,_⟩:=dz (fG ha).1;unfold gz at hb;simp only[Yj,Yk]at hb;obtain⟨⟨⟨⟨_,_⟩,h3⟩,h4⟩,h5⟩:=hb;exact⟨ha,h3,h4,h5,b2,b3⟩
theorem vg {L:List Obj} {f l:Int} (h0:0<=f):bh L f l= -1\/(f<=bh L f l/\bh L f l<=l/\bh L f l<(L.length:Int)/\eN (ah L (bh L f l).toNat free)=true):=by
 unfold bh;split
 ·rename_i j hj;right
  have h1:=List.find?_some hj;have h2:=List.mem_of_find?_eq_some hj;simp only[Yj,Yk]at h1;rw[List.mem_range]at h2;exact⟨h1.1.1,h1.1.2,by omega,h1.2⟩
 ·exact .inl rfl
theorem sQ {L:List Obj} {f l kind:Int}:(ca L f l kind).length=L.length:=by
 unfold ca;split
 ·exact jL
 ·rw[jx,jL]
theorem Mh {L:List Obj} {f l kind:Int} (h0:0<=f) (h:bh L f l≠ -1):ah (ca L f l kind) (bh L f l).toNat free=k7 (ah L (bh L f l).toNat free) kind:=by
 rcases vg (L:=L) (l:=l) h0 with e|⟨a,b,c,d⟩
 ·exact absurd e h
 ·unfold ca;rw[Yp h,gk (by rw[jL];omega),Yq rfl]
theorem AB {L:List Obj} {f l:Int} (h:bh L f l≠ -1):kD L f l=true:=by unfold kD;simp[h]
theorem zg {L:List Obj} {k:Key} (h:aK L k=0):aH L k=au L k/\aA L k=aE L k:=by
 unfold aH aA;rw[Yq h,Yq h];exact⟨rfl,rfl⟩
theorem PE {L:List Obj} {k:Key} {kind:Int} (h:aK L k=0) (h1:kind≠1) (h2:kind≠2):fN L k kind=false/\void=cL L k kind/\2=bX L k kind:=by
 have e:fQ L k kind=2:=by unfold fQ;rw[Yq h,Yp (by omega)]
 have e2:bX L k kind=2:=by unfold bX;rw[e];rfl
 refine⟨by unfold fN;rw[e];rfl,by unfold cL;rw[e2];rfl,e2.symm⟩
theorem PY {L:List Obj} {k:Key} {kind:Int} (h:aK L k≠0):fN L k kind=false/\void=cL L k kind/\aK L k=bX L k kind:=by
 have e:fQ L k kind=aK L k:=by unfold fQ;rw[Yp h]
 have e2:bX L k kind=aK L k:=by unfold bX;rw[e,Yp h]
 refine⟨by unfold fN;rw[e];simp[h],by unfold cL;rw[e2,Yp h],e2.symm⟩
theorem xr {L:List Obj} {k:Key} {kind:Int} (h:aK L k=0) (hk:kind=1\/kind=2) (hi:bh L (au L k) (aE L k)= -1):fN L k kind=kD L (au L k) (aE L k)/\void=cL L k kind/\221=bX L k kind/\ca L (au L k) (aE L k) kind=eI L k kind:=by
 have e:fQ L k kind=0:=by unfold fQ;rw[Yq h,Yq hk]
 have e2:bX L k kind=221:=by unfold bX;rw[Yq e,Yq hi]
 refine⟨by unfold fN;rw[e];simp,by unfold cL;rw[e2];rfl,e2.symm,by unfold eI;rw[Yq e]⟩
theorem FP {L:List Obj} {k:Key} {kind:Int} (h:aK L k=0) (hk:kind=1\/kind=2) (hi:bh L (au L k) (aE L k)≠ -1):fN L k kind=true/\Key.mk (1+kind) (bh L (au L k) (aE L k)) (ah (ca L (au L k) (aE L k) kind) (bh L (au L k) (aE L k)).toNat free).count 0 0 0=cL L k kind/\0=bX L k kind/\ca L (au L k) (aE L k) kind=eI L k kind:=by
 have e:fQ L k kind=0:=by unfold fQ;rw[Yq h,Yq hk]
 have e2:bX L k kind=0:=by unfold bX;rw[Yq e,Yp hi]
 refine⟨by unfold fN;rw[e,AB hi];rfl,?_,e2.symm,by unfold eI;rw[Yq e]⟩
 unfold cL;rw[Yq e2,Mh (lr h).2.1 hi];unfold cK k7;rcases hk with rfl|rfl<;>rfl
theorem yD {L:List Obj} {v:Key}:gX L v= !(!aU L v|| !decide (v.kind=2)&& !decide (v.kind=3)):=by unfold gX;cases aU L v<;>cases decide (v.kind=2)<;>cases decide (v.kind=3)<;>rfl
theorem CL {L:List Obj} {v:Key} (h:gX L v=true):aU L v=true:=by unfold gX at h;simp only[Yj]at h;exact h.1
def fH (L:List Obj) (k:Key):Int:=bh L (au L k) (aE L k)
def du (L:List Obj) (k:Key):List Obj:=ca L (au L k) (aE L k) 1
def kc (M:List Obj) (f g:Int):Bool:=(List.range M.length).any fun(j:Nat)=>decide (f<=(j:Int))&&decide ((j:Int)<g)&&lA (ah M j free)
def lE (L:List Obj) (k:Key) (n:Int):Int:=if aK L k=0 then(if n<1\/aE L k-au L k<n then 4 else 0)else aK L k
def bM (L:List Obj) (k:Key) (n:Int):Int:=if lE L k n=0 then(if fH L k<0\/aE L k-n<fH L k then 221 else if kc (du L k) (aE L k-n+1) (aE L k+1)=true then 221 else 0)else lE L k n
def j5 (L:List Obj) (k:Key) (n:Int):Bool:=decide (bM L k n=0)
def iZ (o:Obj) (a b:Int):Obj:= {o with slots:=(o.slots.put 0 (cH a)).put 1 (cH b)}
def lD (o:Obj) (b:Int):Obj:= {o with slots:=o.slots.put 1 (cH b)}
def br (L:List Obj) (k:Key) (n:Int):List Obj:=if bM L k n=0 then cC (cC (du L k) (fH L k).toNat (iZ (ah (du L k) (fH L k).toNat free) (aE L k-n+1) (aE L k))) k.oid.toNat (lD (ah (du L k) k.oid.toNat free) (aE L k-n))else L
def bP (L:List Obj) (k:Key) (n:Int):Key:=if bM L k n=0 then⟨4,fH L k,(ah (du L k) (fH L k).toNat free).count,0,0,0⟩else void
def Iz:kI:=zm (wO Q3) (fun L _=>aq L) (fun L x=>j5 L x.1 x.2.1) (fun L x=>br L x.1 x.2.1) fun L x=> [.key (bP L x.1 x.2.1),.it .i64 (bM L x.1 x.2.1)]
def oN (L:List Obj) (k:Key) (n g:Int):Prop:=aE L k-n+1<=g/\g<=aE L k+1/\kc (du L k) (aE L k-n+1) g=false
theorem Dx {L:List Obj} {k:Key} {n e:Int} (h:bM L k n=e) (he:e≠0):j5 L k n=false/\void=bP L k n/\e=bM L k n:=by
 refine⟨by unfold j5;rw[h];simpa using he,by unfold bP;rw[h,Yp he],h.symm⟩
theorem xD {L:List Obj} {k:Key} {n:Int} (h:aK L k≠0):bM L k n=aK L k:=by
 have e:lE L k n=aK L k:=by unfold lE;rw[Yp h]
 unfold bM;rw[e,Yp h]
theorem zR {L:List Obj} {k:Key} {n:Int} (h:aK L k=0) (hn:n<1\/aE L k-au L k<n):bM L k n=4:=by
 have e:lE L k n=4:=by unfold lE;rw[Yq h,Yq hn]
 unfold bM;rw[e];rfl
theorem Fb {L:List Obj} {k:Key} {n:Int} (h:aK L k=0) (h1:1<=n) (h2:n<=aE L k-au L k):lE L k n=0:=by
 unfold lE;rw[Yq h,Yp (by omega)]
theorem sO {L:List Obj} {k:Key} {n:Int} (h:lE L k n=0) (hi:fH L k<0\/aE L k-n<fH L k):bM L k n=221:=by
 unfold bM;rw[Yq h,Yq hi]
theorem DA {L:List Obj} {k:Key} {n:Int} (h:lE L k n=0) (hi:kc (du L k) (aE L k-n+1) (aE L k+1)=true):bM L k n=221:=by
 unfold bM;rw[Yq h,Yq hi];split<;>rfl
theorem FE {L:List Obj} {k:Key} {n:Int} (h:lE L k n=0) (h1:0<=fH L k) (h2:fH L k<=aE L k-n) (hi:kc (du L k) (aE L k-n+1) (aE L k+1)=false):bM L k n=0:=by
 unfold bM;rw[Yq h,Yp (by omega),hi];rfl
theorem GV {M:List Obj} {f:Int}:kc M f f=false:=by
 unfold kc;rw[List.any_eq_false];intro j hj h;simp only[Yj,Yk]at h;omega
theorem C8 {M:List Obj} {f g e:Int} (h0:0<=g) (h1:g<(M.length:Int)) (hf:f<=g) (he:g<e) (hr:lA (ah M g.toNat free)=true):kc M f e=true:=by
 unfold kc;rw[List.any_eq_true];exact⟨g.toNat,by simp;omega,by rw[hr];simp;omega⟩
theorem FY {M:List Obj} {f g:Int} (h0:0<=g) (hr:lA (ah M g.toNat free)=false):kc M f (g+1)=kc M f g:=by
 unfold kc;rw[Bool.eq_iff_iff,List.any_eq_true,List.any_eq_true];refine exists_congr fun j=>and_congr_right fun _=>?_
 simp only[Yj,Yk];constructor
 ·rintro⟨⟨a,b⟩,c⟩
  refine⟨⟨a,?_⟩,c⟩;by_cases e:(j:Int)=g
  ·rw[show j=g.toNat by omega,hr]at c;simp at c
  ·omega
 ·rintro⟨⟨a,b⟩,c⟩
  exact⟨⟨a,by omega⟩,c⟩
theorem TX {L:List Obj} {k:Key} (h:aU L k=true):cS k=k.oid:=by
 unfold aU at h;simp only[Yj]at h;unfold cS;rw[Yq h.1.1]
theorem Fj {L:List Obj} {k:Key} (h:(!decide (0<an L))=true):aK L k=1:=by unfold aK;rw[H9 h];rfl
theorem U5 {L:List Obj} {k:Key} (h:(!decide (0<an L))=false) (h2:(!(aU L k&&decide (k.kind=4)))=true):aK L k=190:=by unfold aK;rw[GK h h2];rfl
theorem VA {L:List Obj} {k:Key} (h:(!decide (0<an L))=false) (h2:(!(aU L k&&decide (k.kind=4)))=false) (h3:(!gz (aa L k) (an L))=true):aK L k=220:=by
 have ha:=E0 h h2;rw[(dz (mW h2).1).2.2.2.1]at h3;exact(AX ha (show gz (ah L k.oid.toNat free) (an L)=false by simpa using h3)).1
theorem Qk {L:List Obj} {k:Key} (h:(!decide (0<an L))=false) (h2:(!(aU L k&&decide (k.kind=4)))=false) (h3:(!gz (aa L k) (an L))=false):aK L k=0/\((aa L k).slots.at 0).value=au L k/\((aa L k).slots.at 1).value=aE L k:=by
 have ha:=E0 h h2;have e:=(dz (mW h2).1).2.2.2.1;rw[e]at h3;rw[e];exact⟨(ux ha (show gz (ah L k.oid.toNat free) (an L)=true by simpa using h3)).1,rfl,rfl⟩
theorem AQ {L:List Obj} {k v:Key} {e:Int} (h:aK L k=e) (he:e≠0):false=iF L k v/\e=aK L k:=by
 refine⟨?_,h.symm⟩;unfold iF;rw[h];simp[he]
theorem r7 {L:List Obj} {k v:Key} {e:Int} (h:b8 L k v=e) (he:e≠0):e=b8 L k v/\L=fI L k v:=by
 refine⟨h.symm,?_⟩;unfold fI;rw[h,Yp he]
theorem pW {L:List Obj} {k v:Key} {e:Int} (h:aK L k=e) (he:e≠0):b8 L k v=e:=by
 unfold b8;rw[h,Yp he]
theorem xy {L:List Obj} {k:Key} {e:Int} (h:aK L k=e) (he:e≠0):(0=eL L k/\e=aK L k)/\L=gi L k:=by
 unfold eL gi;rw[h,Yp he,Yp he];exact⟨⟨rfl,rfl⟩,rfl⟩
theorem uS {L:List Obj} {k:Key} {kind e:Int} (h:fQ L k kind=e) (he:e≠0):(void=cL L k kind/\e=bX L k kind)/\L=eI L k kind:=by
 have e2:bX L k kind=e:=by unfold bX;rw[h,Yp he]
 unfold cL eI;rw[e2,h,Yp he,Yp he];exact⟨⟨rfl,rfl⟩,rfl⟩
theorem qv {L:List Obj} {k:Key} {kind e:Int} (h:aK L k=e) (he:e≠0):fQ L k kind=e:=by unfold fQ;rw[h,Yp he]
theorem Iv {L:List Obj} {k:Key} {kind:Int} (h:aK L k=0) (h2:(!(decide (kind=1)||decide (kind=2)))=true):fQ L k kind=2:=by
 unfold fQ;rw[Yq h,Yp];simp only[Bool.not_eq_true',Bool.or_eq_false_iff,decide_eq_false_iff_not]at h2;omega
theorem oT {L:List Obj} {k:Key} {n e:Int} (h:bM L k n=e) (he:e≠0):(void=bP L k n/\e=bM L k n)/\L=br L k n:=by
 unfold bP br;rw[h,Yp he,Yp he];exact⟨⟨rfl,rfl⟩,rfl⟩
theorem sW {L:List Obj} {k:Key} {n e:Int} (h:aK L k=e) (he:e≠0):bM L k n=e:=by rw[xD (by omega),h]
def Qg:Ct:=sE (bk sA Lv) (fun _=>none) fun x=> .tp [.bo (iF (DV x.1) x.2.1 x.2.2.1),.it .i64 (aK (DV x.1) x.2.1)]
def OY:kI:=GW (wO Q3) (fun L _=>aq L) (fun L x=> .tp [.key (cL L x.1 x.2.1),.it .i64 (bX L x.1 x.2.1)]) fun L x=>eI L x.1 x.2.1
def SV:kI:=GW (wO Lv) (fun L _=>aq L) (fun L x=> .it .i64 (b8 L x.1 x.2.1)) fun L x=>fI L x.1 x.2.1
def Rh:kI:=GW (wO kB) (fun L _=>aq L) (fun L x=> .tp [.it .i64 (eL L x.1),.it .i64 (aK L x.1)]) fun L x=>gi L x.1
def NG:kI:=GW (wO Q3) (fun L _=>aq L) (fun L x=> .tp [.key (bP L x.1 x.2.1),.it .i64 (bM L x.1 x.2.1)]) fun L x=>br L x.1 x.2.1
def oO (L:List Obj) (k:Key) (n g:Int):Prop:=au L k<=g/\g<=aE L k+1/\kc (du L k) (aE L k-n+1) g=false
def Nv (L M:List Obj) (g:Int):Int:=ah (dc L M) g.toNat 0
def H5:List Obj->List Obj->Nat->List Obj
 |L,_,0=>L
 |L,M,g+1=>cV (H5 L M g) (Nv L M (g:Int)) (aR M (Nv L M (g:Int)))
def lH (L M:List Obj) (g:Int):List Obj:=H5 L M g.toNat
def qY (L M:List Obj) (g:Int):Prop:=0<=g/\g<=((dc L M).length:Int)
def er (L:List Obj) (k:Key) (g:Int):Obj:=aR (bE L (au L k) g) g
def pz (L:List Obj) (k:Key) (g:Int):List Obj:=cV (bE L (au L k) g) g (Obj.mk 1 ((er L k g).count+1) free.calls free.slots free.bytes)
def np (x:Int):Key:=Key.mk 1 void.oid void.count void.call void.rights x
def BF (L:List Obj) (k:Key) (n g:Int):Obj:=Obj.mk (aR (pz L k g) g).kind (aR (pz L k g) g).count (aR (pz L k g) g).calls (((aR (pz L k g) g).slots.put 0 (np (((aa L k).slots.at 1).value-n+1))).put 1 (np ((aa L k).slots.at 1).value)) (aR (pz L k g) g).bytes
def Bu (L:List Obj) (k:Key) (n g:Int):List Obj:=cV (pz L k g) g (BF L k n g)
def BB (L:List Obj) (k:Key) (n g:Int):Obj:=Obj.mk (aR (Bu L k n g) k.oid).kind (aR (Bu L k n g) k.oid).count (aR (Bu L k n g) k.oid).calls ((aR (Bu L k n g) k.oid).slots.put 1 (np (((aa L k).slots.at 1).value-n))) (aR (Bu L k n g) k.oid).bytes
def lC (L:List Obj) (k:Key) (n g:Int):List Obj:=cV (Bu L k n g) k.oid (BB L k n g)
def iH (L:List Obj) (k:Key) (g:Int):Prop:=au L k<=g/\g<=aE L k+1/\jJ L (au L k) g
def qN (L:List Obj) (k:Key) (g:Int):Prop:=au L k<=g/\g<=aE L k+1
def sG (L:List Obj) (k:Key) (g:Int):Prop:=au L k<=g/\g<=aE L k+1/\dU L (au L k) g k.oid=0
def qX (L:List Obj) (k:Key) (g:Int):Prop:=au L k<=g/\g<=aE L k+1/\dU L (au L k) g k.oid≠0
theorem zV {L:List Obj} {k:Key} (h:aU L k=true) (h2:k.kind=4):(ah L k.oid.toNat free).kind=1:=by
 unfold aU at h;simp only[Yj]at h;obtain⟨⟨h1,_⟩,h3⟩:=h;unfold cc at h3;simp only[Yj,Bool.or_eq_true,Yk]at h3;rcases jX k with⟨_,e,h0⟩|⟨e,_⟩
 ·rcases h3.2 with h|h
  ·omega
  ·rw[h.1.1];unfold fP;rw[Yp (by omega),Yp (by omega)]
 ·rw[e]at h1;simp at h1
theorem Fe {o:Obj} {n b:Int} (h:bT o n=true) (hk:o.kind=1):bT (lD o b) n=true:=by
 refine A4 h hk fun i hi=>?_
 have:=(jd h).2.2.2.2.1;rw[cR.gI _ _ _ _ (by omega)]
 split
 ·exact wx (by omega) _
 ·exact vf h hk i hi
theorem FU {o:Obj} {n a b:Int} (h:bT o n=true) (hk:o.kind=1):bT (iZ o a b) n=true:=by
 refine A4 h hk fun i hi=>?_
 have:=(jd h).2.2.2.2.1;rw[cR.gI _ _ _ _ (by omega),cR.gI _ _ _ _ (by omega)]
 split
 ·exact wx (by omega) _
 split
 ·exact wx (by omega) _
 ·exact vf h hk i hi
theorem R6 {L:List Obj} {k:Key} {g:Int} (hL:aq L) (e:aK L k=0) (hk:(ah L k.oid.toNat free).kind=1) (g0:au L k<=g) (gl:g<=aE L k) (g2:jJ L (au L k) g) (f2:eN (ah L g.toNat free)=true):
  fH L k=g/\er L k g=ah L g.toNat free/\pz L k g=du L k/\(du L k).length=L.length/\aq (du L k)/\ah (du L k) g.toNat free=k7 (ah L g.toNat free) 1/\ah (du L k) k.oid.toNat free=ah L k.oid.toNat free/\k.oid.toNat≠g.toNat:=by
 obtain⟨_,a0,a1,a2,a3,a4⟩:=lr e;have hgn:g.toNat<L.length:=by omega
 have hgz:(bE L (au L k) g).length=L.length:=jL;have hgt:aR (bE L (au L k) g) g=ah L g.toNat free:=by rw[gG (by omega) (by omega),AE (by omega)]
 obtain⟨m1,m2,m3⟩:=vZ (l:=aE L k) 1 a0 g0 gl (by omega) g2 f2
 have hO:er L k g=ah L g.toNat free:=hgt;have hnew:=BN (dY hL g.toNat hgn) f2 (.inl rfl);have hp:=(nt (L:=bE L (au L k) g) (i:=g) (x:=k7 (ah L g.toNat free) 1) (by omega) (by omega) (by rw[hgz];exact hnew)).1
 have hP:pz L k g=du L k:=by
  unfold pz;rw[hO];exact hp.trans m3.symm
 have hne:k.oid.toNat≠g.toNat:=fun h=>by
  rw[h]at hk;unfold eN at f2;simp only[Yj,Yk]at f2;omega
 have hM:du L k=cC (bE L (au L k) g) g.toNat (k7 (ah L g.toNat free) 1):=m3;have hko:k.oid.toNat<L.length:=by omega
 refine⟨m1,hO,hP,sQ,?_,?_,?_,hne⟩
 ·rw[hM];exact nk (Ek hL) (by rw[hgz];exact hnew)
 ·rw[hM,gk (by rw[hgz];exact hgn),Yq rfl]
 ·rw[hM,gk (by rw[hgz];exact hgn),Yp hne]
  unfold bE;rw[jD hko,Yp];simp only[iI,hk,Yj,Yk];omega
theorem OJ {L:List Obj} {k:Key} {n g:Int} (hL:aq L) (e:aK L k=0) (hk:(ah L k.oid.toNat free).kind=1) (hB:((aa L k).slots.at 1).value=aE L k) (g0:au L k<=g) (gl:g<=aE L k) (g2:jJ L (au L k) g) (f2:eN (ah L g.toNat free)=true) (h:bM L k n=0):
  lC L k n g=br L k n/\aq (br L k n)/\(br L k n).length=L.length/\Key.mk 4 g ((er L k g).count+1) 0 0 0=bP L k n:=by
 obtain⟨i1,i2,i3,i4,i5,i6,i7,i8⟩:=R6 hL e hk g0 gl g2 f2;obtain⟨_,a0,a1,a2,a3,a4⟩:=lr e;have hgM:aR (du L k) g=ah (du L k) g.toNat free:=gG (by omega) (by omega)
 have hR1:BF L k n g=iZ (ah (du L k) g.toNat free) (aE L k-n+1) (aE L k):=by
  unfold BF;rw[i3,hgM,hB];rfl
 have o1:bT (iZ (ah (du L k) g.toNat free) (aE L k-n+1) (aE L k)) ((du L k).length:Int)=true:=FU (dY i5 g.toNat (by omega)) (by rw[i6];rfl)
 have hP2:Bu L k n g=cC (du L k) g.toNat (iZ (ah (du L k) g.toNat free) (aE L k-n+1) (aE L k)):=by
  unfold Bu;rw[i3,hR1];exact(nt (by omega) (by omega) o1).1
 have ok2:=nk (i:=g.toNat) i5 o1;have l2:(cC (du L k) g.toNat (iZ (ah (du L k) g.toNat free) (aE L k-n+1) (aE L k))).length=L.length:=by rw[jx];exact i4
 have g2':aR (Bu L k n g) k.oid=ah (du L k) k.oid.toNat free:=by
  rw[hP2,gG (by omega) (by omega),gk (by omega),Yp i8]
 have hR2:BB L k n g=lD (ah (du L k) k.oid.toNat free) (aE L k-n):=by
  unfold BB;rw[g2',hB];rfl
 have o2:bT (lD (ah (du L k) k.oid.toNat free) (aE L k-n)) (L.length:Int)=true:=Fe (by rw[<-i4];exact dY i5 k.oid.toNat (by omega)) (by rw[i7];exact hk)
 have hlast:br L k n=cC (cC (du L k) g.toNat (iZ (ah (du L k) g.toNat free) (aE L k-n+1) (aE L k))) k.oid.toNat (lD (ah (du L k) k.oid.toNat free) (aE L k-n)):=by
  unfold br;rw[Yq h,i1]
 refine⟨?_,?_,?_,?_⟩
 ·unfold lC;rw[hR2,hP2,hlast];exact(nt (by omega) (by omega) (by rw[l2];exact o2)).1
 ·rw[hlast];exact nk ok2 (by rw[l2];exact o2)
 ·rw[hlast,jx];exact l2
 ·unfold bP;rw[Yq h,i1,i6,i2];rfl
theorem Pp {L M:List Obj} {x:Int} (h:x∈dc L M):0<=x/\x<(L.length:Int):=by
 unfold dc gL at h;rw[List.mem_map]at h;obtain⟨j,h1,rfl⟩:=h;have:=List.mem_range.1 (List.mem_filter.1 h1).1;unfold aj at this;exact⟨Int.natCast_nonneg j,by show(j:Int)<_;omega⟩
theorem SL {L M:List Obj} {i:Nat} (h:i<(dc L M).length):ah (dc L M) i 0∈dc L M:=by
 unfold ah;rw[Yo,List.getElem?_eq_getElem h];exact List.getElem_mem h
theorem RC {L M:List Obj} {j:Nat} (hj:j<L.length) (h:ah L j free≠ah M j free):∃i,i<(dc L M).length/\ah (dc L M) i 0=(j:Int):=by
 have:(j:Int)∈dc L M:=by
  unfold dc gL;rw[List.mem_map];refine⟨j,List.mem_filter.2 ⟨List.mem_range.2 (by unfold aj;omega),?_⟩,rfl⟩
  simp[CU,h]
 obtain⟨i,hi,e⟩:=List.mem_iff_getElem.1 this;refine⟨i,hi,?_⟩;unfold ah;rw[Yo,List.getElem?_eq_getElem hi,e];rfl
theorem Nj {L M:List Obj} (hl:M.length=L.length) (hM:aq M):∀g:Nat,g<=(dc L M).length->(H5 L M g).length=L.length/\(∀j,j<L.length->ah (H5 L M g) j free=ah L j free\/ah (H5 L M g) j free=ah M j free)/\
  ∀i,i<g->ah (H5 L M g) (ah (dc L M) i 0).toNat free=ah M (ah (dc L M) i 0).toNat free
 |0,_=>⟨rfl,fun j hj=> .inl rfl,fun i hi=>by omega⟩
 |g+1,hg=>by
  obtain⟨h1,h2,h3⟩:=Nj hl hM g (by omega)
  obtain⟨u1,u2⟩:=Pp (SL (L:=L) (M:=M) (i:=g) (by omega))
  have e:Nv L M (g:Int)=ah (dc L M) g 0:=rfl;generalize hu:ah (dc L M) g 0=u at *
  have hp:=(nt (L:=H5 L M g) (i:=u) (x:=ah M u.toNat free) u1 (by omega) (by rw[h1,<-hl];exact dY hM _ (by omega))).1
  have hs:H5 L M (g+1)=cC (H5 L M g) u.toNat (ah M u.toNat free):=by
   simp only[H5];rw[e,gG u1 (by omega)]
   exact hp
  rw[hs];refine⟨by rw[jx];exact h1,fun j hj=>?_,fun i hi=>?_⟩
  ·rw[gk (by omega)]
   split
   ·rename_i hj';rw[hj'];exact .inr rfl
   ·exact h2 j hj
  ·rw[gk (by omega)]
   split
   ·rename_i hj';rw[hj']
   ·rename_i hne;by_cases hig:i=g
    ·rw[hig,hu]at hne;exact absurd rfl hne
    ·exact h3 i (by omega)
theorem Pq {L M:List Obj} (hl:M.length=L.length) (hM:aq M) {g:Int} (hg:g=((dc L M).length:Int)):lH L M g=M:=by
 obtain⟨h1,h2,h3⟩:=Nj hl hM (dc L M).length (Nat.le_refl _);have e:lH L M g=H5 L M (dc L M).length:=by unfold lH;rw[hg];rfl
 rw[e];refine ql (by omega) fun j hj=>?_
 by_cases hne:ah L j free=ah M j free
 ·rcases h2 j (by omega)with h|h
  ·rw[h,hne]
  ·exact h
 ·obtain⟨i,hi,hij⟩:=RC (by omega) hne
  have:=h3 i hi;rw[hij]at this;exact this
theorem I4 {L M:List Obj} {g:Int} (h0:0<=g):cV (lH L M g) (ah (dc L M) g.toNat 0) (aR M (ah (dc L M) g.toNat 0))=lH L M (g+1):=by
 unfold lH;rw[show(g+1).toNat=g.toNat+1 by omega]
 simp only[H5];rfl
theorem Kn {L M:List Obj} (hl:M.length=L.length) (h:1<=L.length):jf L M=false:=by
 unfold jf bB aj;simp only[hl,show decide (L.length=0)=false from decide_eq_false (by omega),Bool.false_or,decide_true,Bool.not_true]
theorem EY {M:List Obj} {f g:Int} (h:g<=f):kc M f g=false:=by
 unfold kc;rw[List.any_eq_false];intro j _;simp only[Yj,Yk,not_and];intro h1 h2;omega
theorem Pn {L M:List Obj}:(dc L M).length<=L.length:=by
 unfold dc gL;rw[List.length_map];have:=List.length_filter_le (fun j=> !CU (ah L j free) (ah M j free)) (List.range (aj L:Int).toNat)
 simpa[aj]using this
structure XX where
 kind:Int
 num:Int
 bank:Key
 key:Key
 obj:Int
def XX.wf (x:XX):Prop:=bY .i64 x.kind/\bY .i64 x.num/\x.bank.wf/\x.key.wf/\bY .i64 x.obj
theorem HR {L M:List Obj} {k:Key} {d:Int} {c:Bool} (hl:M.length=L.length) (h1:(ah M k.oid.toNat free).kind=(ah L k.oid.toNat free).kind) (h2:(ah M k.oid.toNat free).count=(ah L k.oid.toNat free).count) (h3:(ah M k.oid.toNat free).calls=(ah L k.oid.toNat free).calls):ay M k d c=ay L k d c:=by
 have hi:aU M k=aU L k:=by
  unfold aU cQ cc aj;rw[hl,h1,h2,h3]
 unfold ay aj;rw[hl,hi]
theorem QM {L:List Obj} {k:Key} (h:aK L k=0):gz (ah L k.oid.toNat free) (L.length:Int)=true/\(ah L k.oid.toNat free).kind=1:=by
 obtain⟨ha,_⟩:=lr h;obtain⟨i1,i2,_⟩:=fG ha;refine⟨?_,zV i1 i2⟩;unfold aK at h;rw[Yq ha]at h;split at h
 ·rename_i hc;exact hc
 ·omega
theorem J8 {L:List Obj} {f l kind:Int} {j:Nat} (h0:0<=f) (hj:j<L.length) (hk:(ah L j free).kind≠0):ah (ca L f l kind) j free=ah L j free:=by
 have hG:∀g,ah (bE L f g) j free=ah L j free:=fun g=>by
  unfold bE;rw[jD hj,Yp];simp only[iI,Yj,Yk];omega
 unfold ca;split
 ·exact hG _
 ·rename_i hi;rcases vg (L:=L) (l:=l) h0 with e|⟨a,b,c,d⟩
  ·exact absurd e hi
  ·rw[gk (by rw[jL];omega),Yp,hG]
   intro e;rw[<-e]at d;unfold eN at d;simp only[Yj,Yk]at d;exact hk d.1
theorem MD {L:List Obj} {f l kind:Int} (hL:aq L) (h0:0<=f) (hk:kind=1\/kind=2):aq (ca L f l kind):=by
 unfold ca;split
 ·exact Ek hL
 ·rename_i hi;rcases vg (L:=L) (l:=l) h0 with e|⟨a,b,c,d⟩
  ·exact absurd e hi
  ·exact nk (Ek hL) (by rw[jL];exact BN (dY hL _ (by omega)) d hk)
theorem Fg {L:List Obj} {k:Key} {kind:Int} (hL:aq L):aq (eI L k kind):=by
 unfold eI;split
 ·rename_i h
  have he:aK L k=0:=by
   unfold fQ at h;split at h
   ·assumption
   ·rename_i h';exact absurd h h'
  refine MD hL (lr he).2.1 ?_;unfold fQ at h;rw[Yq he]at h;split at h
  ·assumption
  ·omega
 ·exact hL
theorem I2 {L:List Obj} {k:Key} {n:Int} (hL:aq L) (e:aK L k=0) (h:bM L k n=0):
  aq (br L k n)/\(br L k n).length=L.length/\aK (br L k n) k=0/\au (br L k n) k=au L k/\aE (br L k n) k=aE L k-n/\
  aK (br L k n) (bP L k n)=0/\au (br L k n) (bP L k n)=aE L k-n+1/\aE (br L k n) (bP L k n)=aE L k/\au L k<=(bP L k n).oid/\(bP L k n).oid<=aE L k-n/\1<=n/\n<=aE L k-au L k/\
  eN (ah L (bP L k n).oid.toNat free)=true:=by
 obtain⟨ha,a0,a1,a2,a3,a4⟩:=lr e;obtain⟨hok,hk1⟩:=QM e;obtain⟨x1,x2⟩:=kh hL;have h':=h;unfold bM at h;split at h
 case isFalse h2=>exact absurd h h2
 rename_i hE0;split at h
 case isTrue=>omega
 rename_i hI
 have hn:1<=n/\n<=aE L k-au L k:=by
  unfold lE at hE0;rw[Yq e]at hE0;split at hE0
  ·omega
  ·omega
 have hin:=vg (L:=L) (l:=aE L k) a0;have hIe:bh L (au L k) (aE L k)=fH L k:=rfl;have hne1:bh L (au L k) (aE L k)≠ -1:=by rw[hIe];omega
 rw[hIe]at hin;rcases hin with hin|⟨i1,i2,i3,i4⟩
 ·omega
 have hMlen:(du L k).length=L.length:=sQ;have hMok:aq (du L k):=MD hL a0 (.inl rfl);have hMI:ah (du L k) (fH L k).toNat free=k7 (ah L (fH L k).toNat free) 1:=Mh a0 hne1;have UN:ah (du L k) k.oid.toNat free=ah L k.oid.toNat free:=J8 a0 (by omega) (by omega)
 have hne:k.oid.toNat≠(fH L k).toNat:=fun hh=>by
  rw[hh]at hk1;unfold eN at i4;simp only[Yj,Yk]at i4;omega
 have hLL:br L k n=cC (cC (du L k) (fH L k).toNat (iZ (ah (du L k) (fH L k).toNat free) (aE L k-n+1) (aE L k))) k.oid.toNat (lD (ah (du L k) k.oid.toNat free) (aE L k-n)):=by
  unfold br;rw[Yq h']
 have hKK:bP L k n=⟨4,fH L k,(ah L (fH L k).toNat free).count+1,0,0,0⟩:=by
  unfold bP;rw[Yq h',hMI];rfl
 have o1:bT (iZ (ah (du L k) (fH L k).toNat free) (aE L k-n+1) (aE L k)) (L.length:Int)=true:=FU (by rw[<-hMlen];exact dY hMok _ (by omega)) (by rw[hMI];rfl)
 have o2:bT (lD (ah (du L k) k.oid.toNat free) (aE L k-n)) (L.length:Int)=true:=Fe (by rw[<-hMlen];exact dY hMok _ (by omega)) (by rw[UN];exact hk1)
 have l1:(cC (du L k) (fH L k).toNat (iZ (ah (du L k) (fH L k).toNat free) (aE L k-n+1) (aE L k))).length=L.length:=by rw[jx];exact hMlen
 have okX:=nk (i:=(fH L k).toNat) hMok (by rw[hMlen];exact o1)
 have hlen:(br L k n).length=L.length:=by rw[hLL,jx];exact l1
 have hokL:aq (br L k n):=by rw[hLL];exact nk okX (by rw[l1];exact o2)
 have hgk:ah (br L k n) k.oid.toNat free=lD (ah L k.oid.toNat free) (aE L k-n):=by
  rw[hLL,gk (by omega),Yq rfl,UN]
 have hgI:ah (br L k n) (fH L k).toNat free=iZ (k7 (ah L (fH L k).toNat free) 1) (aE L k-n+1) (aE L k):=by
  rw[hLL,gk (by omega),Yp (Ne.symm hne),gk (by omega),Yq rfl,hMI]
 have s2:∀(o:Obj) (b:Int),(lD o b).slots.at 0=o.slots.at 0/\(lD o b).slots.at 1=cH b:=fun o b=>by
  unfold lD;simp only;rw[cR.gI _ _ _ _ (by omega),cR.gI _ _ _ _ (by omega)]
  exact⟨rfl,rfl⟩
 have s1:∀(o:Obj) (a b:Int),(iZ o a b).slots.at 0=cH a/\(iZ o a b).slots.at 1=cH b:=fun o a b=>by
  unfold iZ;simp only;rw[cR.gI _ _ _ _ (by omega),cR.gI _ _ _ _ (by omega),cR.gI _ _ _ _ (by omega)]
  exact⟨rfl,rfl⟩
 have hask:ay (br L k n) k 4 false=0:=by
  rw[HR hlen (by rw[hgk];rfl) (by rw[hgk];rfl) (by rw[hgk];rfl)];exact ha
 unfold gz at hok;simp only[Yj,Yk]at hok;obtain⟨⟨⟨⟨c1,c2⟩,c3⟩,c4⟩,c5⟩:=hok;have hA':au (br L k n) k=au L k:=by unfold au;rw[hgk,(s2 _ _).1]
 have hB':aE (br L k n) k=aE L k-n:=by
  have:aE (br L k n) k=((lD (ah L k.oid.toNat free) (aE L k-n)).slots.at 1).value:=by rw[<-hgk];rfl
  rw[this,(s2 _ _).2];rfl
 have hE':aK (br L k n) k=0:=(ux hask (by
  rw[hgk];unfold gz aj;rw[(s2 _ _).1,(s2 _ _).2,hlen];have v0:((ah L k.oid.toNat free).slots.at 0).value=au L k:=rfl;simp only[cH,Yj,Yk];refine⟨⟨⟨⟨c1,?_⟩,c3⟩,?_⟩,?_⟩
  ·trivial
  ·exact decide_eq_true (by omega)
  ·exact decide_eq_true (by omega))).1
 have i4':=i4;unfold eN at i4';simp only[Yj,Yk]at i4';have hcb:=jd (dY hL (fH L k).toNat (by omega))
 have hkey:aT (bP L k n)=true:=by
  rw[hKK];unfold aT fF;simp only[dG,gd,jY,eK];simp;omega
 have hoid:(bP L k n).oid=fH L k:=by rw[hKK]
 have hisO:dG (bP L k n).kind=true:=by rw[hKK];rfl
 have hnm:bf (bP L k n)=true:=by unfold bf;rw[hkey,hisO];rfl
 have hnames:aY (bP L k n)=fH L k:=by unfold aY;rw[hkey,hisO,hoid];rfl
 have hcounts:cc (bP L k n) (ah (br L k n) (bP L k n).oid.toNat free)=true:=by
  unfold cc fP;rw[hkey,hnames,hoid,hgI,Yp (by omega),hKK]
  simp[iZ,k7]
 have his:aU (br L k n) (bP L k n)=true:=by
  unfold aU;rw[hnm,hcounts,ky.2 ⟨by omega,by omega⟩];rfl
 have hask2:ay (br L k n) (bP L k n) 4 false=0:=by
  unfold ay aj;rw[Yp (by omega),Yp (by rw[his,hKK];simp),Yp (by simp)]
 have hobj:ah (br L k n) (bP L k n).oid.toNat free=iZ (k7 (ah L (fH L k).toNat free) 1) (aE L k-n+1) (aE L k):=by rw[hoid];exact hgI
 refine⟨hokL,hlen,hE',hA',hB',(ux hask2 ?_).1,?_,?_,by rw[hoid];exact i1,by rw[hoid];omega,hn.1,hn.2,by rw[hoid];exact i4⟩
 ·rw[hobj];unfold gz aj;rw[(s1 _ _ _).1,(s1 _ _ _).2,hlen];simp only[cH,Yj,Yk];refine⟨⟨⟨⟨?_,?_⟩,?_⟩,?_⟩,?_⟩
  ·trivial
  ·trivial
  ·exact decide_eq_true (by omega)
  ·exact decide_eq_true (by omega)
  ·exact decide_eq_true (by omega)
 ·unfold au;rw[hobj,(s1 _ _ _).1];rfl
 ·have:aE (br L k n) (bP L k n)=((iZ (k7 (ah L (fH L k).toNat free) 1) (aE L k-n+1) (aE L k)).slots.at 1).value:=by rw[<-hobj];rfl
  rw[this,(s1 _ _ _).2];rfl
end Go.Sx
