import Derived.Test.YtghpaegglbbocaaGreatSpP
import Derived.Test.YtghpaegglbbocaaGreatKS
namespace Go.Sx
def iF (o:Obj):Bool:=decide (o.kind=0)&&decide (4294967295<=o.count)
def eM (o:Obj):Bool:=decide (o.kind=0)&&decide (o.count<4294967295)
def EL (o:Obj):Obj:=⟨3,o.count,0,fY,fX⟩
def kN (o:Obj) (kind:Int):Obj:=⟨kind,o.count+1,0,fY,fX⟩
def xB (o:Obj):Obj:=⟨0,o.count,0,fY,fX⟩
def ky (L:List Obj) (p:Nat->Obj->Bool) (t:Obj->Obj):List Obj:=(List.range L.length).map fun j=>if p j (ah L j free)then t (ah L j free)else ah L j free
def bE (L:List Obj) (f g:Int):List Obj:=ky L (fun j o=>decide (f<=(j:Int))&&decide ((j:Int)<g)&&iF o) EL
def jL (L:List Obj) (f g:Int):Prop:=∀j:Nat,f<=(j:Int)->(j:Int)<g->eM (ah L j free)=false
def kX (L:List Obj) (f g:Int):Bool:=(List.range L.length).any fun(j:Nat)=>decide (f<=(j:Int))&&decide ((j:Int)<g)&&iF (ah L j free)
def bh (L:List Obj) (f l:Int):Int:=match (List.range L.length).find? fun(j:Nat)=>decide (f<=(j:Int))&&decide ((j:Int)<=l)&&eM (ah L j free)with
 |some j=>(j:Int)
 |none=> -1
def ca (L:List Obj) (f l kind:Int):List Obj:=if bh L f l= -1 then bE L f (l+1)else cB (bE L f (bh L f l)) (bh L f l).toNat (kN (ah L (bh L f l).toNat free) kind)
def j8 (L:List Obj) (f l:Int):Bool:= !decide (bh L f l= -1)||kX L f (l+1)
def cL (kind oid count:Int):Key:=⟨if kind=2 then 3 else 2,oid,count,0,0,0⟩
def gA (o:Obj) (n:Int):Bool:=decide ((o.slots.at 0).kind=1)&&decide ((o.slots.at 1).kind=1)&&decide (0<=(o.slots.at 0).value)&&decide ((o.slots.at 0).value<=(o.slots.at 1).value)&&decide ((o.slots.at 1).value<n)
def aK (L:List Obj) (k:Key):Int:=if ay L k 4 false=0 then(if gA (ah L k.oid.toNat free) (ai L:Int)then 0 else 220)else ay L k 4 false
def au (L:List Obj) (k:Key):Int:=((ah L k.oid.toNat free).slots.at 0).value
def aE (L:List Obj) (k:Key):Int:=((ah L k.oid.toNat free).slots.at 1).value
def aH (L:List Obj) (k:Key):Int:=if aK L k=0 then au L k else 0
def aA (L:List Obj) (k:Key):Int:=if aK L k=0 then aE L k else 0
def fJ (L:List Obj) (k:Key) (kind:Int):Int:=if aK L k=0 then(if kind=1\/kind=2 then 0 else 2)else aK L k
def bX (L:List Obj) (k:Key) (kind:Int):Int:=if fJ L k kind=0 then(if bh L (au L k) (aE L k)= -1 then 221 else 0)else fJ L k kind
def eH (L:List Obj) (k:Key) (kind:Int):List Obj:=if fJ L k kind=0 then ca L (au L k) (aE L k) kind else L
def fN (L:List Obj) (k:Key) (kind:Int):Bool:=decide (fJ L k kind=0)&&j8 L (au L k) (aE L k)
def cJ (L:List Obj) (k:Key) (kind:Int):Key:=if bX L k kind=0 then cL kind (bh L (au L k) (aE L k)) ((ah L (bh L (au L k) (aE L k)).toNat free).count+1)else void
def g8 (L:List Obj) (v:Key):Bool:=aU L v&&(decide (v.kind=2)||decide (v.kind=3))
def b8 (L:List Obj) (k v:Key):Int:=if aK L k=0 then(if g8 L v then(if au L k<=v.oid/\v.oid<=aE L k/\v.oid≠k.oid then 0 else 4)else 5)else aK L k
def fL (L:List Obj) (k v:Key):List Obj:=if b8 L k v=0 then cB L v.oid.toNat (xB (ah L v.oid.toNat free))else L
def iR (L:List Obj) (k v:Key):Bool:=decide (b8 L k v=0)
def lr (o:Obj):Bool:=decide (o.kind=1)||decide (o.kind=2)
def kq (f g oid:Int) (j:Nat) (o:Obj):Bool:=decide (f<=(j:Int))&&decide ((j:Int)<g)&&lr o&& !decide ((j:Int)=oid)
def dh (L:List Obj) (f g oid:Int):List Obj:=ky L (kq f g oid) xB
def dU (L:List Obj) (f g oid:Int):Int:=(((List.range L.length).filter fun j=>kq f g oid j (ah L j free)).length:Int)
def gi (L:List Obj) (k:Key):List Obj:=if aK L k=0 then dh L (au L k) (aE L k+1) k.oid else L
def eX (L:List Obj) (k:Key):Int:=if aK L k=0 then dU L (au L k) (aE L k+1) k.oid else 0
def jN (L:List Obj) (k:Key):Bool:=decide (aK L k=0)&& !decide (dU L (au L k) (aE L k+1) k.oid=0)
def iG (L:List Obj) (k v:Key):Bool:=decide (aK L k=0)&&g8 L v&&decide (au L k<=v.oid)&&decide (v.oid<=aE L k)
theorem ia {L:List Obj} {p:Nat->Obj->Bool} {t:Obj->Obj}:(ky L p t).length=L.length:=by simp[ky]
theorem jI {L:List Obj} {p:Nat->Obj->Bool} {t:Obj->Obj} {j:Nat} (h:j<L.length):ah (ky L p t) j free=if p j (ah L j free)then t (ah L j free)else ah L j free:=by
 rw[show ah (ky L p t) j free=(ky L p t).getD j free from rfl,Yo];unfold ky;rw[List.getElem?_map,List.getElem?_range h];rfl
theorem xL {L:List Obj} {p:Nat->Obj->Bool} {t:Obj->Obj} (h:∀j,j<L.length->p j (ah L j free)=false):ky L p t=L:=by
 refine pU ia fun j hj=>?_
 rw[ia]at hj;rw[jI hj,h j hj];rfl
theorem De {L:List Obj} {p p':Nat->Obj->Bool} {t:Obj->Obj} {g:Nat} (hg:g<L.length) (hp:∀j,j≠g->p' j (ah L j free)=p j (ah L j free)) (h1:p' g (ah L g free)=true):
  cB (ky L p t) g (t (ah L g free))=ky L p' t:=by
 refine pU (by rw[jz,ia,ia]) fun j hj=>?_
 rw[jz,ia]at hj;rw[gm (by rw[ia];exact hg),jI hj,jI hj]
 by_cases e:j=g
 ·subst e;rw[Yq rfl,h1,Yq rfl]
 ·rw[Yp e,hp j e]
theorem zn {L:List Obj} {p p':Nat->Obj->Bool} {t:Obj->Obj} (hp:∀j,j<L.length->p' j (ah L j free)=p j (ah L j free)):ky L p' t=ky L p t:=by
 refine pU (by rw[ia,ia]) fun j hj=>?_
 rw[ia]at hj;rw[jI hj,jI hj,hp j hj]
theorem jJ {L:List Obj} {f g:Int}:(bE L f g).length=L.length:=ia
theorem C7 {L:List Obj} {f:Int}:L=bE L f f:=by
 symm
 refine xL fun j hj=>?_
 simp only[Bool.and_eq_false_iff,decide_eq_false_iff_not];omega
theorem AZ {L:List Obj} {f g:Int} (h0:0<=g):ah (bE L f g) g.toNat free=ah L g.toNat free:=by
 by_cases h:g.toNat<L.length
 ·unfold bE;rw[jI h,Yp];simp only[Yj,Yk];omega
 ·rw[show ah (bE L f g) g.toNat free=free by simp[ah,Yo,List.getElem?_eq_none (show(bE L f g).length<=g.toNat by rw[jJ];omega)]]
  simp[ah,Yo,List.getElem?_eq_none (show L.length<=g.toNat by omega)]
theorem v8 {L:List Obj} {f g:Int} (h0:0<=g) (h1:g<(L.length:Int)) (hf:f<=g) (hr:iF (ah L g.toNat free)=true):cB (bE L f g) g.toNat (EL (ah L g.toNat free))=bE L f (g+1):=by
 refine De (by omega) (fun j hj=>?_) ?_
 ·have:decide ((j:Int)<g+1)=decide ((j:Int)<g):=by rw[decide_eq_decide];omega
  rw[this]
 ·rw[hr];simp;omega
theorem yv {L:List Obj} {f g:Int} (h0:0<=g) (hr:iF (ah L g.toNat free)=false):bE L f (g+1)=bE L f g:=by
 refine zn fun j hj=>?_
 by_cases e:(j:Int)=g
 ·rw[show j=g.toNat by omega,hr,Bool.and_false,Bool.and_false]
 ·have:decide ((j:Int)<g+1)=decide ((j:Int)<g):=by rw[decide_eq_decide];omega
  rw[this]
theorem Sy {L:List Obj} {f l g:Int} (h0:0<=f) (hf:f<=g) (hl:g<=l) (hg:g<(L.length:Int)) (hn:jL L f g) (hw:eM (ah L g.toNat free)=true):bh L f l=g:=by
 unfold bh
 have:(List.range L.length).find? (fun(j:Nat)=>decide (f<=(j:Int))&&decide ((j:Int)<=l)&&eM (ah L j free))=some g.toNat:=by
  rw[List.find?_eq_some_iff_getElem];refine⟨by rw[hw];simp;omega,g.toNat,by simp;omega,by simp,fun j hj=>?_⟩
  simp only[List.getElem_range,Bool.not_eq_true',Bool.and_eq_false_iff,decide_eq_false_iff_not];by_cases e:f<=(j:Int)
  ·right;exact hn j e (by omega)
  ·left;left;exact e
 rw[this];show((g.toNat:Nat):Int)=g
 omega
theorem JY {L:List Obj} {f l:Int} (hn:jL L f (l+1)):bh L f l= -1:=by
 unfold bh
 have:(List.range L.length).find? (fun(j:Nat)=>decide (f<=(j:Int))&&decide ((j:Int)<=l)&&eM (ah L j free))=none:=by
  rw[List.find?_eq_none];intro j hj h;simp only[Yj,Yk]at h;rw[hn j h.1.1 (by omega)]at h
  simp at h
 rw[this]
theorem iT {L:List Obj} {f g:Int} (h:jL L f g) (hg:eM (ah L g.toNat free)=false):jL L f (g+1):=fun j h1 h2=>by
 by_cases e:(j:Int)=g
 ·rw[show j=g.toNat by omega];exact hg
 ·exact h j h1 (by omega)
theorem r7 {L:List Obj} {f:Int}:jL L f f:=fun j h1 h2=>by omega
theorem GX {L:List Obj} {f:Int}:kX L f f=false:=by
 unfold kX;rw[List.any_eq_false];intro j hj h;simp only[Yj,Yk]at h;omega
theorem CR {L:List Obj} {f g:Int} (h0:0<=g) (h1:g<(L.length:Int)) (hf:f<=g) (hr:iF (ah L g.toNat free)=true):kX L f (g+1)=true:=by
 unfold kX;rw[List.any_eq_true];exact⟨g.toNat,by simp;omega,by rw[hr];simp;omega⟩
theorem FK {L:List Obj} {f g:Int} (h0:0<=g) (hr:iF (ah L g.toNat free)=false):kX L f (g+1)=kX L f g:=by
 unfold kX;rw[Bool.eq_iff_iff,List.any_eq_true,List.any_eq_true];refine exists_congr fun j=>and_congr_right fun _=>?_
 simp only[Yj,Yk];constructor
 ·rintro⟨⟨a,b⟩,c⟩
  refine⟨⟨a,?_⟩,c⟩;by_cases e:(j:Int)=g
  ·rw[show j=g.toNat by omega,hr]at c;simp at c
  ·omega
 ·rintro⟨⟨a,b⟩,c⟩
  exact⟨⟨a,by omega⟩,c⟩
theorem AW {L:List Obj} {f g oid:Int}:(dh L f g oid).length=L.length:=ia
theorem ym {L:List Obj} {f g oid:Int} (h:dU L f g oid=0):dh L f g oid=L:=by
 refine xL fun j hj=>?_
 unfold dU at h;have h2:((List.range L.length).filter fun j=>kq f g oid j (ah L j free))= []:=List.eq_nil_of_length_eq_zero (by omega)
 rw[List.filter_eq_nil_iff]at h2;have:=h2 j (by simp;omega)
 simpa using this
theorem s6 {L:List Obj} {f oid:Int}:dU L f f oid=0:=by
 unfold dU;rw[show((List.range L.length).filter fun j=>kq f f oid j (ah L j free))= []from ?_]
 ·rfl
 ·rw[List.filter_eq_nil_iff];intro j hj;unfold kq;simp only[Yj,Yk];omega
theorem Is {L:List Obj} {f oid:Int}:L=dh L f f oid:=(ym s6).symm
theorem M7 {L:List Obj} {f g oid:Int} (h0:0<=g):ah (dh L f g oid) g.toNat free=ah L g.toNat free:=by
 by_cases h:g.toNat<L.length
 ·unfold dh;rw[jI h,Yp];unfold kq;simp only[Yj,Yk];omega
 ·rw[show ah (dh L f g oid) g.toNat free=free by simp[ah,Yo,List.getElem?_eq_none (show(dh L f g oid).length<=g.toNat by rw[AW];omega)]]
  simp[ah,Yo,List.getElem?_eq_none (show L.length<=g.toNat by omega)]
def jn (L:List Obj) (g oid:Int):Bool:=lr (ah L g.toNat free)&& !decide (g=oid)
theorem AO {L:List Obj} {f g oid:Int} (h0:0<=g) (hf:f<=g):kq f (g+1) oid g.toNat (ah L g.toNat free)=jn L g oid:=by
 unfold kq jn;rw[show((g.toNat:Nat):Int)=g by omega]
 have a:decide (f<=g)=true:=by simp;omega
 have b:decide (g<g+1)=true:=by simp;omega
 rw[a,b];simp
theorem wL {L:List Obj} {f g oid:Int} {j:Nat} (h:(j:Int)≠g) (o:Obj):kq f (g+1) oid j o=kq f g oid j o:=by
 unfold kq;have:decide ((j:Int)<g+1)=decide ((j:Int)<g):=by rw[decide_eq_decide];omega
 rw[this]
theorem At {f g oid:Int} {j:Nat} (h:(j:Int)=g) (o:Obj):kq f g oid j o=false:=by
 unfold kq;have:decide ((j:Int)<g)=false:=by simp;omega
 rw[this];simp
theorem Bv {L:List Obj} {f g oid:Int} (h0:0<=g) (h1:g<(L.length:Int)) (hf:f<=g) (hr:jn L g oid=true):cB (dh L f g oid) g.toNat (xB (ah L g.toNat free))=dh L f (g+1) oid:=
 De (by omega) (fun j hj=>wL (L:=L) (by omega) _) (by rw[AO h0 hf];exact hr)
theorem xH {L:List Obj} {f g oid:Int} (h0:0<=g) (hf:f<=g) (hr:jn L g oid=false):dh L f (g+1) oid=dh L f g oid:=by
 refine zn fun j hj=>?_
 by_cases e:(j:Int)=g
 ·rw[show j=g.toNat by omega,AO h0 hf,hr,At (by omega)]
 ·exact wL (L:=L) e _
theorem tB {L:List Obj} {f g oid:Int} (h0:0<=g) (hf:f<=g) (hr:jn L g oid=false):dU L f (g+1) oid=dU L f g oid:=by
 unfold dU;rw[show((List.range L.length).filter fun j=>kq f (g+1) oid j (ah L j free))=(List.range L.length).filter fun j=>kq f g oid j (ah L j free)from List.filter_congr fun j hj=>?_]
 by_cases e:(j:Int)=g
 ·rw[show j=g.toNat by omega,AO h0 hf,hr,At (by omega)]
 ·exact wL (L:=L) e _
theorem filter_one {l:List Nat} {p p':Nat->Bool} {g:Nat} (hn:l.Nodup) (hg:g∈l) (hp:∀j,j≠g->p' j=p j) (h0:p g=false) (h1:p' g=true):(l.filter p').length=(l.filter p).length+1:=by
 induction l with
 |nil=>simp at hg
 |cons a l ih=>
  rw[List.nodup_cons]at hn;by_cases e:a=g
  ·subst e;have:l.filter p'=l.filter p:=List.filter_congr fun j hj=>hp j fun e=>hn.1 (e▸hj)
   rw[List.filter_cons,List.filter_cons,h0,h1,Yq rfl,Yp (by simp),this]
   simp
  ·have hg2:g∈l:=by
    rcases List.mem_cons.1 hg with h|h
    ·exact absurd h.symm e
    ·exact h
   rw[List.filter_cons,List.filter_cons,hp a e];split
   ·simp only[List.length_cons];rw[ih hn.2 hg2]
   ·exact ih hn.2 hg2
theorem xh {L:List Obj} {f g oid:Int} (h0:0<=g) (h1:g<(L.length:Int)) (hf:f<=g) (hr:jn L g oid=true):dU L f (g+1) oid=dU L f g oid+1:=by
 unfold dU;have:=filter_one (l:=List.range L.length) (p:=fun j=>kq f g oid j (ah L j free)) (p':=fun j=>kq f (g+1) oid j (ah L j free)) (g:=g.toNat) List.nodup_range (by simp;omega) (fun j hj=>wL (L:=L) (by omega) _) (At (by omega) _) (by show kq f (g+1) oid g.toNat (ah L g.toNat free)=true;rw[AO h0 hf];exact hr)
 omega
theorem rX {L:List Obj} {f g oid:Int}:0<=dU L f g oid:=by unfold dU;omega
theorem Mu {L:List Obj} {f g oid:Int}:dU L f g oid<=(L.length:Int):=by
 unfold dU;have:=List.length_filter_le (fun j=>kq f g oid j (ah L j free)) (List.range L.length)
 rw[List.length_range]at this;omega
theorem BA {n:Int} {kind count:Int} (h1:1<=n) (h2:n<=64) (h3:0<=kind) (h4:kind<=3) (h5:0<=count) (h6:count<=4294967295):bT ⟨kind,count,0,fY,fX⟩ n=true:=by
 rw[fg];refine⟨h1,h2,h3,h4,h5,h6,by simp,by simp,.inr rfl,fun i hi=>?_,fun i hi=>?_⟩
 ·simp only[yh];unfold ib;rw[oz.1,oz.2];simp;omega
 ·have hz:=Fy.1 (show fX=fX from rfl) i hi;first|exact .inr (.inr hz)|exact hz|simp[hz]
theorem jb {o:Obj} {n:Int} (h:bT o n=true):0<=o.count/\o.count<=4294967295/\0<=o.kind/\o.kind<=3/\1<=n/\n<=64:=by
 obtain⟨a1,a2,a3,a4,a5,a6,_⟩:=fg.1 h;exact⟨a5,a6,a3,a4,a1,a2⟩
theorem Bx {o:Obj} {n:Int} (h:bT o n=true):bT (EL o) n=true:=by
 obtain⟨a,b,c,d,e,f⟩:=jb h;exact BA e f (by omega) (by omega) a b
theorem wN {o:Obj} {n:Int} (h:bT o n=true):bT (xB o) n=true:=by
 obtain⟨a,b,c,d,e,f⟩:=jb h;exact BA e f (by omega) (by omega) a b
theorem AQ {o:Obj} {n kind:Int} (h:bT o n=true) (hn:eM o=true) (hk:kind=1\/kind=2):bT (kN o kind) n=true:=by
 obtain⟨a,b,c,d,e,f⟩:=jb h;unfold eM at hn;simp only[Yj,Yk]at hn;exact BA e f (by omega) (by omega) (by omega) (by omega)
theorem F5 {L:List Obj} {p:Nat->Obj->Bool} {t:Obj->Obj} (h:aq L) (ht:∀o,bT o (L.length:Int)=true->bT (t o) (L.length:Int)=true):aq (ky L p t):=by
 refine Ju h ia fun j hj=>?_
 rw[jI hj];split
 ·exact ht _ (dY h j hj)
 ·exact dY h j hj
theorem ED {L:List Obj} {f g:Int} (h:aq L):aq (bE L f g):=F5 h fun o ho=>Bx ho
def kB:lz (Key×Unit):=bk kA iw
def LY:lz (Key×Key×Unit):=bk kA (bk kA iw)
def Og:lz (Key×Int×Unit):=bk kA (bk iA iw)
def W4:lz (Int×Int×Int×Unit):=bk iA (bk iA (bk iA iw))
theorem Dv:iu kB:=aJ gQ cF
theorem uB:iu LY:=aJ gQ (aJ gQ cF)
theorem A4:iu Og:=aJ gQ (aJ fm cF)
theorem T3:iu W4:=aJ fm (aJ fm (aJ fm cF))
def Dp (L:List Obj) (f l:Int):Prop:=aq L/\0<=f/\l<(ai L:Int)/\f<=l+1
def OX:Ct:=sF (bk BI kB) (fun _=>none) fun x=> .tp [.it .i64 (aH x.1 x.2.1),.it .i64 (aA x.1 x.2.1),.it .i64 (aK x.1 x.2.1)]
def MG:kH:=An (wc W4) (fun L x=>Dp L x.1 x.2.1) (fun L x=>j8 L x.1 x.2.1) (fun L x=>ca L x.1 x.2.1 x.2.2.1) fun L x=> [.it .i64 (bh L x.1 x.2.1)]
def RE:kH:=An (wc Og) (fun L _=>aq L) (fun L x=>fN L x.1 x.2.1) (fun L x=>eH L x.1 x.2.1) fun L x=> [.key (cJ L x.1 x.2.1),.it .i64 (bX L x.1 x.2.1)]
def SM:kH:=An (wc LY) (fun L _=>aq L) (fun L x=>iR L x.1 x.2.1) (fun L x=>fL L x.1 x.2.1) fun L x=> [.it .i64 (b8 L x.1 x.2.1)]
def OU:kH:=An (wc kB) (fun L _=>aq L) (fun L x=>jN L x.1) (fun L x=>gi L x.1) fun L x=> [.it .i64 (eX L x.1),.it .i64 (aK L x.1)]
def Rx:Ct:=sF (bk BI LY) (fun _=>none) fun x=> .tp [.bo (iG x.1 x.2.1 x.2.2.1),.it .i64 (aK x.1 x.2.1)]
def tE (L:List Obj) (f l:Int) (g:Int):Prop:=f<=g/\g<=l+1/\jL L f g/\kX L f g=false
def qM (L:List Obj) (f l:Int) (g:Int):Prop:=f<=g/\g<=l+1/\jL L f g/\kX L f g=true
def TA:Ct:=W0 (rI .i64) (rI .i64) (rI .i64) fun a b c=> .key (cL a b c)
theorem wZ {L:List Obj} {f g:Int} (h:kX L f g=false):bE L f g=L:=by
 refine xL fun j hj=>?_
 unfold kX at h;rw[List.any_eq_false]at h;simpa using h j (by simpa using hj)
theorem wx {o:Obj} (h:o.kind≠0):iF o=false/\eM o=false:=by simp[iF,eM,h]
theorem Bo {o:Obj} (h:o.kind=0) (h2:4294967295<=o.count):iF o=true/\eM o=false:=by simp[iF,eM,h,h2]
theorem AG {o:Obj} (h:o.kind=0) (h2:¬4294967295<=o.count):iF o=false/\eM o=true:=by
 refine⟨by simp[iF,h2],?_⟩
 simp only[eM,Yj,Yk];omega
theorem wC {L:List Obj} {f l g:Int} (kind:Int) (h0:0<=f) (hf:f<=g) (hl:g<=l) (hg:g<(L.length:Int)) (hn:jL L f g) (hw:eM (ah L g.toNat free)=true):
  bh L f l=g/\j8 L f l=true/\ca L f l kind=cB (bE L f g) g.toNat (kN (ah L g.toNat free) kind):=by
 have e:=Sy h0 hf hl hg hn hw;refine⟨e,?_,?_⟩
 ·unfold j8;rw[e];simp;left;omega
 ·unfold ca;rw[e,Yp (by omega)]
theorem AR {L:List Obj} {f l:Int} (kind:Int) (hn:jL L f (l+1)):bh L f l= -1/\ca L f l kind=bE L f (l+1)/\j8 L f l=kX L f (l+1):=by
 have e:=JY hn;refine⟨e,?_,?_⟩
 ·unfold ca;rw[e,Yq rfl]
 ·unfold j8;rw[e];rfl
theorem Kk (o:Obj) (n:Nat):(!decide ((o.slots.at 0).kind=1)|| !decide ((o.slots.at 1).kind=1)||decide ((o.slots.at 0).value<0)||decide ((o.slots.at 1).value<(o.slots.at 0).value)||decide (b9 n<=(o.slots.at 1).value))= !gA o (n:Int):=by
 unfold gA b9;rw[Bool.eq_iff_iff];simp only[Bool.or_eq_true,Bool.not_eq_true',Bool.and_eq_false_iff,Yk,decide_eq_false_iff_not];omega
theorem DP {L:List Obj} {k:Key} (h:ay L k 4 false≠0):aK L k=ay L k 4 false/\aH L k=0/\aA L k=0:=by
 have e:aK L k=ay L k 4 false:=by unfold aK;rw[Yp h]
 refine⟨e,?_,?_⟩
 ·unfold aH;rw[e,Yp h]
 ·unfold aA;rw[e,Yp h]
theorem Au {L:List Obj} {k:Key} (h:ay L k 4 false=0) (h2:gA (ah L k.oid.toNat free) (ai L:Int)=false):aK L k=220/\aH L k=0/\aA L k=0:=by
 have e:aK L k=220:=by unfold aK;rw[Yq h,h2];rfl
 refine⟨e,?_,?_⟩
 ·unfold aH;rw[e];rfl
 ·unfold aA;rw[e];rfl
theorem tH {L:List Obj} {k:Key} (h:ay L k 4 false=0) (h2:gA (ah L k.oid.toNat free) (ai L:Int)=true):aK L k=0/\aH L k=au L k/\aA L k=aE L k:=by
 have e:aK L k=0:=by unfold aK;rw[Yq h,h2];rfl
 refine⟨e,?_,?_⟩
 ·unfold aH;rw[e];rfl
 ·unfold aA;rw[e];rfl
theorem lu {L:List Obj} {k:Key} (h:aK L k=0):ay L k 4 false=0/\0<=au L k/\au L k<=aE L k/\aE L k<(L.length:Int)/\0<=k.oid/\k.oid<(L.length:Int):=by
 have ha:ay L k 4 false=0:=by
  unfold aK at h;split at h
  ·assumption
  ·rename_i h1;exact absurd h h1
 have hb:gA (ah L k.oid.toNat free) (ai L:Int)=true:=by
  cases hb:gA (ah L k.oid.toNat free) (ai L:Int)with
  |true=>rfl
  |false=>rw[(Au ha hb).1]at h;simp at h
 obtain⟨_,b2,b3,_⟩:=dz (fH ha).1;unfold gA at hb;simp only[Yj,Yk]at hb;obtain⟨⟨⟨⟨_,_⟩,h3⟩,h4⟩,h5⟩:=hb;exact⟨ha,h3,h4,h5,b2,b3⟩
theorem uP {L:List Obj} {f l:Int} (h0:0<=f):bh L f l= -1\/(f<=bh L f l/\bh L f l<=l/\bh L f l<(L.length:Int)/\eM (ah L (bh L f l).toNat free)=true):=by
 unfold bh;split
 ·rename_i j hj;right
  have h1:=List.find?_some hj;have h2:=List.mem_of_find?_eq_some hj;simp only[Yj,Yk]at h1;rw[List.mem_range]at h2;exact⟨h1.1.1,h1.1.2,by omega,h1.2⟩
 ·exact .inl rfl
theorem sP {L:List Obj} {f l kind:Int}:(ca L f l kind).length=L.length:=by
 unfold ca;split
 ·exact jJ
 ·rw[jz,jJ]
theorem NJ {L:List Obj} {f l kind:Int} (h0:0<=f) (h:bh L f l≠ -1):ah (ca L f l kind) (bh L f l).toNat free=kN (ah L (bh L f l).toNat free) kind:=by
 rcases uP (L:=L) (l:=l) h0 with e|⟨a,b,c,d⟩
 ·exact absurd e h
 ·unfold ca;rw[Yp h,gm (by rw[jJ];omega),Yq rfl]
theorem AL {L:List Obj} {f l:Int} (h:bh L f l≠ -1):j8 L f l=true:=by unfold j8;simp[h]
theorem z9 {L:List Obj} {k:Key} (h:aK L k=0):aH L k=au L k/\aA L k=aE L k:=by
 unfold aH aA;rw[Yq h,Yq h];exact⟨rfl,rfl⟩
theorem Pb {L:List Obj} {k:Key} {kind:Int} (h:aK L k=0) (h1:kind≠1) (h2:kind≠2):fN L k kind=false/\void=cJ L k kind/\2=bX L k kind:=by
 have e:fJ L k kind=2:=by unfold fJ;rw[Yq h,Yp (by omega)]
 have e2:bX L k kind=2:=by unfold bX;rw[e];rfl
 refine⟨by unfold fN;rw[e];rfl,by unfold cJ;rw[e2];rfl,e2.symm⟩
theorem N0 {L:List Obj} {k:Key} {kind:Int} (h:aK L k≠0):fN L k kind=false/\void=cJ L k kind/\aK L k=bX L k kind:=by
 have e:fJ L k kind=aK L k:=by unfold fJ;rw[Yp h]
 have e2:bX L k kind=aK L k:=by unfold bX;rw[e,Yp h]
 refine⟨by unfold fN;rw[e];simp[h],by unfold cJ;rw[e2,Yp h],e2.symm⟩
theorem xI {L:List Obj} {k:Key} {kind:Int} (h:aK L k=0) (hk:kind=1\/kind=2) (hi:bh L (au L k) (aE L k)= -1):fN L k kind=j8 L (au L k) (aE L k)/\void=cJ L k kind/\221=bX L k kind/\ca L (au L k) (aE L k) kind=eH L k kind:=by
 have e:fJ L k kind=0:=by unfold fJ;rw[Yq h,Yq hk]
 have e2:bX L k kind=221:=by unfold bX;rw[Yq e,Yq hi]
 refine⟨by unfold fN;rw[e];simp,by unfold cJ;rw[e2];rfl,e2.symm,by unfold eH;rw[Yq e]⟩
theorem FN {L:List Obj} {k:Key} {kind:Int} (h:aK L k=0) (hk:kind=1\/kind=2) (hi:bh L (au L k) (aE L k)≠ -1):fN L k kind=true/\Key.mk (1+kind) (bh L (au L k) (aE L k)) (ah (ca L (au L k) (aE L k) kind) (bh L (au L k) (aE L k)).toNat free).count 0 0 0=cJ L k kind/\0=bX L k kind/\ca L (au L k) (aE L k) kind=eH L k kind:=by
 have e:fJ L k kind=0:=by unfold fJ;rw[Yq h,Yq hk]
 have e2:bX L k kind=0:=by unfold bX;rw[Yq e,Yp hi]
 refine⟨by unfold fN;rw[e,AL hi];rfl,?_,e2.symm,by unfold eH;rw[Yq e]⟩
 unfold cJ;rw[Yq e2,NJ (lu h).2.1 hi];unfold cL kN;rcases hk with rfl|rfl<;>rfl
theorem xm {L:List Obj} {v:Key}:g8 L v= !(!aU L v|| !decide (v.kind=2)&& !decide (v.kind=3)):=by unfold g8;cases aU L v<;>cases decide (v.kind=2)<;>cases decide (v.kind=3)<;>rfl
theorem DA {L:List Obj} {v:Key} (h:g8 L v=true):aU L v=true:=by unfold g8 at h;simp only[Yj]at h;exact h.1
def fF (L:List Obj) (k:Key):Int:=bh L (au L k) (aE L k)
def du (L:List Obj) (k:Key):List Obj:=ca L (au L k) (aE L k) 1
def kr (M:List Obj) (f g:Int):Bool:=(List.range M.length).any fun(j:Nat)=>decide (f<=(j:Int))&&decide ((j:Int)<g)&&lr (ah M j free)
def lG (L:List Obj) (k:Key) (n:Int):Int:=if aK L k=0 then(if n<1\/aE L k-au L k<n then 4 else 0)else aK L k
def bM (L:List Obj) (k:Key) (n:Int):Int:=if lG L k n=0 then(if fF L k<0\/aE L k-n<fF L k then 221 else if kr (du L k) (aE L k-n+1) (aE L k+1)=true then 221 else 0)else lG L k n
def jV (L:List Obj) (k:Key) (n:Int):Bool:=decide (bM L k n=0)
def iU (o:Obj) (a b:Int):Obj:= {o with slots:=(o.slots.put 0 (cH a)).put 1 (cH b)}
def lv (o:Obj) (b:Int):Obj:= {o with slots:=o.slots.put 1 (cH b)}
def br (L:List Obj) (k:Key) (n:Int):List Obj:=if bM L k n=0 then cB (cB (du L k) (fF L k).toNat (iU (ah (du L k) (fF L k).toNat free) (aE L k-n+1) (aE L k))) k.oid.toNat (lv (ah (du L k) k.oid.toNat free) (aE L k-n))else L
def bP (L:List Obj) (k:Key) (n:Int):Key:=if bM L k n=0 then⟨4,fF L k,(ah (du L k) (fF L k).toNat free).count,0,0,0⟩else void
def JC:kH:=An (wc Og) (fun L _=>aq L) (fun L x=>jV L x.1 x.2.1) (fun L x=>br L x.1 x.2.1) fun L x=> [.key (bP L x.1 x.2.1),.it .i64 (bM L x.1 x.2.1)]
def oG (L:List Obj) (k:Key) (n g:Int):Prop:=aE L k-n+1<=g/\g<=aE L k+1/\kr (du L k) (aE L k-n+1) g=false
theorem Cu {L:List Obj} {k:Key} {n e:Int} (h:bM L k n=e) (he:e≠0):jV L k n=false/\void=bP L k n/\e=bM L k n:=by
 refine⟨by unfold jV;rw[h];simpa using he,by unfold bP;rw[h,Yp he],h.symm⟩
theorem xN {L:List Obj} {k:Key} {n:Int} (h:aK L k≠0):bM L k n=aK L k:=by
 have e:lG L k n=aK L k:=by unfold lG;rw[Yp h]
 unfold bM;rw[e,Yp h]
theorem Ak {L:List Obj} {k:Key} {n:Int} (h:aK L k=0) (hn:n<1\/aE L k-au L k<n):bM L k n=4:=by
 have e:lG L k n=4:=by unfold lG;rw[Yq h,Yq hn]
 unfold bM;rw[e];rfl
theorem Ft {L:List Obj} {k:Key} {n:Int} (h:aK L k=0) (h1:1<=n) (h2:n<=aE L k-au L k):lG L k n=0:=by
 unfold lG;rw[Yq h,Yp (by omega)]
theorem tG {L:List Obj} {k:Key} {n:Int} (h:lG L k n=0) (hi:fF L k<0\/aE L k-n<fF L k):bM L k n=221:=by
 unfold bM;rw[Yq h,Yq hi]
theorem Cy {L:List Obj} {k:Key} {n:Int} (h:lG L k n=0) (hi:kr (du L k) (aE L k-n+1) (aE L k+1)=true):bM L k n=221:=by
 unfold bM;rw[Yq h,Yq hi];split<;>rfl
theorem FX {L:List Obj} {k:Key} {n:Int} (h:lG L k n=0) (h1:0<=fF L k) (h2:fF L k<=aE L k-n) (hi:kr (du L k) (aE L k-n+1) (aE L k+1)=false):bM L k n=0:=by
 unfold bM;rw[Yq h,Yp (by omega),hi];rfl
theorem GW {M:List Obj} {f:Int}:kr M f f=false:=by
 unfold kr;rw[List.any_eq_false];intro j hj h;simp only[Yj,Yk]at h;omega
theorem Dz {M:List Obj} {f g e:Int} (h0:0<=g) (h1:g<(M.length:Int)) (hf:f<=g) (he:g<e) (hr:lr (ah M g.toNat free)=true):kr M f e=true:=by
 unfold kr;rw[List.any_eq_true];exact⟨g.toNat,by simp;omega,by rw[hr];simp;omega⟩
theorem Gx {M:List Obj} {f g:Int} (h0:0<=g) (hr:lr (ah M g.toNat free)=false):kr M f (g+1)=kr M f g:=by
 unfold kr;rw[Bool.eq_iff_iff,List.any_eq_true,List.any_eq_true];refine exists_congr fun j=>and_congr_right fun _=>?_
 simp only[Yj,Yk];constructor
 ·rintro⟨⟨a,b⟩,c⟩
  refine⟨⟨a,?_⟩,c⟩;by_cases e:(j:Int)=g
  ·rw[show j=g.toNat by omega,hr]at c;simp at c
  ·omega
 ·rintro⟨⟨a,b⟩,c⟩
  exact⟨⟨a,by omega⟩,c⟩
theorem SD {L:List Obj} {k:Key} (h:aU L k=true):cS k=k.oid:=by
 unfold aU at h;simp only[Yj]at h;unfold cS;rw[Yq h.1.1]
theorem Gc {L:List Obj} {k:Key} (h:(!decide (0<an L))=true):aK L k=1:=by unfold aK;rw[IU h];rfl
theorem VX {L:List Obj} {k:Key} (h:(!decide (0<an L))=false) (h2:(!(aU L k&&decide (k.kind=4)))=true):aK L k=190:=by unfold aK;rw[He h h2];rfl
theorem V8 {L:List Obj} {k:Key} (h:(!decide (0<an L))=false) (h2:(!(aU L k&&decide (k.kind=4)))=false) (h3:(!gA (aa L k) (an L))=true):aK L k=220:=by
 have ha:=F3 h h2;rw[(dz (mB h2).1).2.2.2.1]at h3;exact(Au ha (show gA (ah L k.oid.toNat free) (an L)=false by simpa using h3)).1
theorem QH {L:List Obj} {k:Key} (h:(!decide (0<an L))=false) (h2:(!(aU L k&&decide (k.kind=4)))=false) (h3:(!gA (aa L k) (an L))=false):aK L k=0/\((aa L k).slots.at 0).value=au L k/\((aa L k).slots.at 1).value=aE L k:=by
 have ha:=F3 h h2;have e:=(dz (mB h2).1).2.2.2.1;rw[e]at h3;rw[e];exact⟨(tH ha (show gA (ah L k.oid.toNat free) (an L)=true by simpa using h3)).1,rfl,rfl⟩
theorem Bh {L:List Obj} {k v:Key} {e:Int} (h:aK L k=e) (he:e≠0):false=iG L k v/\e=aK L k:=by
 refine⟨?_,h.symm⟩;unfold iG;rw[h];simp[he]
theorem rM {L:List Obj} {k v:Key} {e:Int} (h:b8 L k v=e) (he:e≠0):e=b8 L k v/\L=fL L k v:=by
 refine⟨h.symm,?_⟩;unfold fL;rw[h,Yp he]
theorem pL {L:List Obj} {k v:Key} {e:Int} (h:aK L k=e) (he:e≠0):b8 L k v=e:=by
 unfold b8;rw[h,Yp he]
theorem xO {L:List Obj} {k:Key} {e:Int} (h:aK L k=e) (he:e≠0):(0=eX L k/\e=aK L k)/\L=gi L k:=by
 unfold eX gi;rw[h,Yp he,Yp he];exact⟨⟨rfl,rfl⟩,rfl⟩
theorem u0 {L:List Obj} {k:Key} {kind e:Int} (h:fJ L k kind=e) (he:e≠0):(void=cJ L k kind/\e=bX L k kind)/\L=eH L k kind:=by
 have e2:bX L k kind=e:=by unfold bX;rw[h,Yp he]
 unfold cJ eH;rw[e2,h,Yp he,Yp he];exact⟨⟨rfl,rfl⟩,rfl⟩
theorem pW {L:List Obj} {k:Key} {kind e:Int} (h:aK L k=e) (he:e≠0):fJ L k kind=e:=by unfold fJ;rw[h,Yp he]
theorem Ji {L:List Obj} {k:Key} {kind:Int} (h:aK L k=0) (h2:(!(decide (kind=1)||decide (kind=2)))=true):fJ L k kind=2:=by
 unfold fJ;rw[Yq h,Yp];simp only[Bool.not_eq_true',Bool.or_eq_false_iff,decide_eq_false_iff_not]at h2;omega
theorem oU {L:List Obj} {k:Key} {n e:Int} (h:bM L k n=e) (he:e≠0):(void=bP L k n/\e=bM L k n)/\L=br L k n:=by
 unfold bP br;rw[h,Yp he,Yp he];exact⟨⟨rfl,rfl⟩,rfl⟩
theorem uo {L:List Obj} {k:Key} {n e:Int} (h:aK L k=e) (he:e≠0):bM L k n=e:=by rw[xN (by omega),h]
def QW:Ct:=sF (bk sA LY) (fun _=>none) fun x=> .tp [.bo (iG (DJ x.1) x.2.1 x.2.2.1),.it .i64 (aK (DJ x.1) x.2.1)]
def Ol:kH:=HN (wc Og) (fun L _=>aq L) (fun L x=> .tp [.key (cJ L x.1 x.2.1),.it .i64 (bX L x.1 x.2.1)]) fun L x=>eH L x.1 x.2.1
def Sl:kH:=HN (wc LY) (fun L _=>aq L) (fun L x=> .it .i64 (b8 L x.1 x.2.1)) fun L x=>fL L x.1 x.2.1
def QA:kH:=HN (wc kB) (fun L _=>aq L) (fun L x=> .tp [.it .i64 (eX L x.1),.it .i64 (aK L x.1)]) fun L x=>gi L x.1
def L4:kH:=HN (wc Og) (fun L _=>aq L) (fun L x=> .tp [.key (bP L x.1 x.2.1),.it .i64 (bM L x.1 x.2.1)]) fun L x=>br L x.1 x.2.1
def oH (L:List Obj) (k:Key) (n g:Int):Prop:=au L k<=g/\g<=aE L k+1/\kr (du L k) (aE L k-n+1) g=false
def Ia (L M:List Obj) (g:Int):Int:=ah (dc L M) g.toNat 0
def H5:List Obj->List Obj->Nat->List Obj
 |L,_,0=>L
 |L,M,g+1=>cW (H5 L M g) (Ia L M (g:Int)) (aR M (Ia L M (g:Int)))
def lH (L M:List Obj) (g:Int):List Obj:=H5 L M g.toNat
def qI (L M:List Obj) (g:Int):Prop:=0<=g/\g<=((dc L M).length:Int)
def eu (L:List Obj) (k:Key) (g:Int):Obj:=aR (bE L (au L k) g) g
def py (L:List Obj) (k:Key) (g:Int):List Obj:=cW (bE L (au L k) g) g (Obj.mk 1 ((eu L k g).count+1) free.calls free.slots free.bytes)
def nE (x:Int):Key:=Key.mk 1 void.oid void.count void.call void.rights x
def BL (L:List Obj) (k:Key) (n g:Int):Obj:=Obj.mk (aR (py L k g) g).kind (aR (py L k g) g).count (aR (py L k g) g).calls (((aR (py L k g) g).slots.put 0 (nE (((aa L k).slots.at 1).value-n+1))).put 1 (nE ((aa L k).slots.at 1).value)) (aR (py L k g) g).bytes
def BG (L:List Obj) (k:Key) (n g:Int):List Obj:=cW (py L k g) g (BL L k n g)
def AU (L:List Obj) (k:Key) (n g:Int):Obj:=Obj.mk (aR (BG L k n g) k.oid).kind (aR (BG L k n g) k.oid).count (aR (BG L k n g) k.oid).calls ((aR (BG L k n g) k.oid).slots.put 1 (nE (((aa L k).slots.at 1).value-n))) (aR (BG L k n g) k.oid).bytes
def ly (L:List Obj) (k:Key) (n g:Int):List Obj:=cW (BG L k n g) k.oid (AU L k n g)
def iE (L:List Obj) (k:Key) (g:Int):Prop:=au L k<=g/\g<=aE L k+1/\jL L (au L k) g
def qV (L:List Obj) (k:Key) (g:Int):Prop:=au L k<=g/\g<=aE L k+1
def uy (L:List Obj) (k:Key) (g:Int):Prop:=au L k<=g/\g<=aE L k+1/\dU L (au L k) g k.oid=0
def qR (L:List Obj) (k:Key) (g:Int):Prop:=au L k<=g/\g<=aE L k+1/\dU L (au L k) g k.oid≠0
theorem As {L:List Obj} {k:Key} (h:aU L k=true) (h2:k.kind=4):(ah L k.oid.toNat free).kind=1:=by
 unfold aU at h;simp only[Yj]at h;obtain⟨⟨h1,_⟩,h3⟩:=h;unfold cc at h3;simp only[Yj,Bool.or_eq_true,Yk]at h3;rcases jY k with⟨_,e,h0⟩|⟨e,_⟩
 ·rcases h3.2 with h|h
  ·omega
  ·rw[h.1.1];unfold fM;rw[Yp (by omega),Yp (by omega)]
 ·rw[e]at h1;simp at h1
theorem FA {o:Obj} {n b:Int} (h:bT o n=true) (hk:o.kind=1):bT (lv o b) n=true:=by
 refine Ax h hk fun i hi=>?_
 have:=(jb h).2.2.2.2.1;rw[cR.gL _ _ _ _ (by omega)]
 split
 ·exact wT (by omega) _
 ·exact uY h hk i hi
theorem Fc {o:Obj} {n a b:Int} (h:bT o n=true) (hk:o.kind=1):bT (iU o a b) n=true:=by
 refine Ax h hk fun i hi=>?_
 have:=(jb h).2.2.2.2.1;rw[cR.gL _ _ _ _ (by omega),cR.gL _ _ _ _ (by omega)]
 split
 ·exact wT (by omega) _
 split
 ·exact wT (by omega) _
 ·exact uY h hk i hi
theorem R9 {L:List Obj} {k:Key} {g:Int} (hL:aq L) (e:aK L k=0) (hk:(ah L k.oid.toNat free).kind=1) (g0:au L k<=g) (gl:g<=aE L k) (g2:jL L (au L k) g) (f2:eM (ah L g.toNat free)=true):
  fF L k=g/\eu L k g=ah L g.toNat free/\py L k g=du L k/\(du L k).length=L.length/\aq (du L k)/\ah (du L k) g.toNat free=kN (ah L g.toNat free) 1/\ah (du L k) k.oid.toNat free=ah L k.oid.toNat free/\k.oid.toNat≠g.toNat:=by
 obtain⟨_,a0,a1,a2,a3,a4⟩:=lu e;have hgn:g.toNat<L.length:=by omega
 have hgz:(bE L (au L k) g).length=L.length:=jJ;have hgt:aR (bE L (au L k) g) g=ah L g.toNat free:=by rw[gE (by omega) (by omega),AZ (by omega)]
 obtain⟨m1,m2,m3⟩:=wC (l:=aE L k) 1 a0 g0 gl (by omega) g2 f2
 have hO:eu L k g=ah L g.toNat free:=hgt;have hnew:=AQ (dY hL g.toNat hgn) f2 (.inl rfl);have hp:=(nw (L:=bE L (au L k) g) (i:=g) (x:=kN (ah L g.toNat free) 1) (by omega) (by omega) (by rw[hgz];exact hnew)).1
 have hP:py L k g=du L k:=by
  unfold py;rw[hO];exact hp.trans m3.symm
 have hne:k.oid.toNat≠g.toNat:=fun h=>by
  rw[h]at hk;unfold eM at f2;simp only[Yj,Yk]at f2;omega
 have hM:du L k=cB (bE L (au L k) g) g.toNat (kN (ah L g.toNat free) 1):=m3;have hko:k.oid.toNat<L.length:=by omega
 refine⟨m1,hO,hP,sP,?_,?_,?_,hne⟩
 ·rw[hM];exact nf (ED hL) (by rw[hgz];exact hnew)
 ·rw[hM,gm (by rw[hgz];exact hgn),Yq rfl]
 ·rw[hM,gm (by rw[hgz];exact hgn),Yp hne]
  unfold bE;rw[jI hko,Yp];simp only[iF,hk,Yj,Yk];omega
theorem PV {L:List Obj} {k:Key} {n g:Int} (hL:aq L) (e:aK L k=0) (hk:(ah L k.oid.toNat free).kind=1) (hB:((aa L k).slots.at 1).value=aE L k) (g0:au L k<=g) (gl:g<=aE L k) (g2:jL L (au L k) g) (f2:eM (ah L g.toNat free)=true) (h:bM L k n=0):
  ly L k n g=br L k n/\aq (br L k n)/\(br L k n).length=L.length/\Key.mk 4 g ((eu L k g).count+1) 0 0 0=bP L k n:=by
 obtain⟨i1,i2,i3,i4,i5,i6,i7,i8⟩:=R9 hL e hk g0 gl g2 f2;obtain⟨_,a0,a1,a2,a3,a4⟩:=lu e;have hgM:aR (du L k) g=ah (du L k) g.toNat free:=gE (by omega) (by omega)
 have hR1:BL L k n g=iU (ah (du L k) g.toNat free) (aE L k-n+1) (aE L k):=by
  unfold BL;rw[i3,hgM,hB];rfl
 have o1:bT (iU (ah (du L k) g.toNat free) (aE L k-n+1) (aE L k)) ((du L k).length:Int)=true:=Fc (dY i5 g.toNat (by omega)) (by rw[i6];rfl)
 have hP2:BG L k n g=cB (du L k) g.toNat (iU (ah (du L k) g.toNat free) (aE L k-n+1) (aE L k)):=by
  unfold BG;rw[i3,hR1];exact(nw (by omega) (by omega) o1).1
 have ok2:=nf (i:=g.toNat) i5 o1;have l2:(cB (du L k) g.toNat (iU (ah (du L k) g.toNat free) (aE L k-n+1) (aE L k))).length=L.length:=by rw[jz];exact i4
 have g2':aR (BG L k n g) k.oid=ah (du L k) k.oid.toNat free:=by
  rw[hP2,gE (by omega) (by omega),gm (by omega),Yp i8]
 have hR2:AU L k n g=lv (ah (du L k) k.oid.toNat free) (aE L k-n):=by
  unfold AU;rw[g2',hB];rfl
 have o2:bT (lv (ah (du L k) k.oid.toNat free) (aE L k-n)) (L.length:Int)=true:=FA (by rw[<-i4];exact dY i5 k.oid.toNat (by omega)) (by rw[i7];exact hk)
 have hlast:br L k n=cB (cB (du L k) g.toNat (iU (ah (du L k) g.toNat free) (aE L k-n+1) (aE L k))) k.oid.toNat (lv (ah (du L k) k.oid.toNat free) (aE L k-n)):=by
  unfold br;rw[Yq h,i1]
 refine⟨?_,?_,?_,?_⟩
 ·unfold ly;rw[hR2,hP2,hlast];exact(nw (by omega) (by omega) (by rw[l2];exact o2)).1
 ·rw[hlast];exact nf ok2 (by rw[l2];exact o2)
 ·rw[hlast,jz];exact l2
 ·unfold bP;rw[Yq h,i1,i6,i2];rfl
theorem PJ {L M:List Obj} {x:Int} (h:x∈dc L M):0<=x/\x<(L.length:Int):=by
 unfold dc gJ at h;rw[List.mem_map]at h;obtain⟨j,h1,rfl⟩:=h;have:=List.mem_range.1 (List.mem_filter.1 h1).1;unfold ai at this;exact⟨Int.natCast_nonneg j,by show(j:Int)<_;omega⟩
theorem T9 {L M:List Obj} {i:Nat} (h:i<(dc L M).length):ah (dc L M) i 0∈dc L M:=by
 unfold ah;rw[Yo,List.getElem?_eq_getElem h];exact List.getElem_mem h
theorem Qn {L M:List Obj} {j:Nat} (hj:j<L.length) (h:ah L j free≠ah M j free):∃i,i<(dc L M).length/\ah (dc L M) i 0=(j:Int):=by
 have:(j:Int)∈dc L M:=by
  unfold dc gJ;rw[List.mem_map];refine⟨j,List.mem_filter.2 ⟨List.mem_range.2 (by unfold ai;omega),?_⟩,rfl⟩
  simp[CZ,h]
 obtain⟨i,hi,e⟩:=List.mem_iff_getElem.1 this;refine⟨i,hi,?_⟩;unfold ah;rw[Yo,List.getElem?_eq_getElem hi,e];rfl
theorem ML {L M:List Obj} (hl:M.length=L.length) (hM:aq M):∀g:Nat,g<=(dc L M).length->(H5 L M g).length=L.length/\(∀j,j<L.length->ah (H5 L M g) j free=ah L j free\/ah (H5 L M g) j free=ah M j free)/\
  ∀i,i<g->ah (H5 L M g) (ah (dc L M) i 0).toNat free=ah M (ah (dc L M) i 0).toNat free
 |0,_=>⟨rfl,fun j hj=> .inl rfl,fun i hi=>by omega⟩
 |g+1,hg=>by
  obtain⟨h1,h2,h3⟩:=ML hl hM g (by omega)
  obtain⟨u1,u2⟩:=PJ (T9 (L:=L) (M:=M) (i:=g) (by omega))
  have e:Ia L M (g:Int)=ah (dc L M) g 0:=rfl;generalize hu:ah (dc L M) g 0=u at *
  have hp:=(nw (L:=H5 L M g) (i:=u) (x:=ah M u.toNat free) u1 (by omega) (by rw[h1,<-hl];exact dY hM _ (by omega))).1
  have hs:H5 L M (g+1)=cB (H5 L M g) u.toNat (ah M u.toNat free):=by
   simp only[H5];rw[e,gE u1 (by omega)]
   exact hp
  rw[hs];refine⟨by rw[jz];exact h1,fun j hj=>?_,fun i hi=>?_⟩
  ·rw[gm (by omega)]
   split
   ·rename_i hj';rw[hj'];exact .inr rfl
   ·exact h2 j hj
  ·rw[gm (by omega)]
   split
   ·rename_i hj';rw[hj']
   ·rename_i hne;by_cases hig:i=g
    ·rw[hig,hu]at hne;exact absurd rfl hne
    ·exact h3 i (by omega)
theorem Rm {L M:List Obj} (hl:M.length=L.length) (hM:aq M) {g:Int} (hg:g=((dc L M).length:Int)):lH L M g=M:=by
 obtain⟨h1,h2,h3⟩:=ML hl hM (dc L M).length (Nat.le_refl _);have e:lH L M g=H5 L M (dc L M).length:=by unfold lH;rw[hg];rfl
 rw[e];refine pU (by omega) fun j hj=>?_
 by_cases hne:ah L j free=ah M j free
 ·rcases h2 j (by omega)with h|h
  ·rw[h,hne]
  ·exact h
 ·obtain⟨i,hi,hij⟩:=Qn (by omega) hne
  have:=h3 i hi;rw[hij]at this;exact this
theorem Jj {L M:List Obj} {g:Int} (h0:0<=g):cW (lH L M g) (ah (dc L M) g.toNat 0) (aR M (ah (dc L M) g.toNat 0))=lH L M (g+1):=by
 unfold lH;rw[show(g+1).toNat=g.toNat+1 by omega]
 simp only[H5];rfl
theorem JX {L M:List Obj} (hl:M.length=L.length) (h:1<=L.length):jl L M=false:=by
 unfold jl bC ai;simp only[hl,show decide (L.length=0)=false from decide_eq_false (by omega),Bool.false_or,decide_true,Bool.not_true]
theorem Gw {M:List Obj} {f g:Int} (h:g<=f):kr M f g=false:=by
 unfold kr;rw[List.any_eq_false];intro j _;simp only[Yj,Yk,not_and];intro h1 h2;omega
theorem Rp {L M:List Obj}:(dc L M).length<=L.length:=by
 unfold dc gJ;rw[List.length_map];have:=List.length_filter_le (fun j=> !CZ (ah L j free) (ah M j free)) (List.range (ai L:Int).toNat)
 simpa[ai]using this
structure XY where
 kind:Int
 num:Int
 bank:Key
 key:Key
 obj:Int
def XY.wf (x:XY):Prop:=bY .i64 x.kind/\bY .i64 x.num/\x.bank.wf/\x.key.wf/\bY .i64 x.obj
theorem HV {L M:List Obj} {k:Key} {d:Int} {c:Bool} (hl:M.length=L.length) (h1:(ah M k.oid.toNat free).kind=(ah L k.oid.toNat free).kind) (h2:(ah M k.oid.toNat free).count=(ah L k.oid.toNat free).count) (h3:(ah M k.oid.toNat free).calls=(ah L k.oid.toNat free).calls):ay M k d c=ay L k d c:=by
 have hi:aU M k=aU L k:=by
  unfold aU cQ cc ai;rw[hl,h1,h2,h3]
 unfold ay ai;rw[hl,hi]
theorem Q6 {L:List Obj} {k:Key} (h:aK L k=0):gA (ah L k.oid.toNat free) (L.length:Int)=true/\(ah L k.oid.toNat free).kind=1:=by
 obtain⟨ha,_⟩:=lu h;obtain⟨i1,i2,_⟩:=fH ha;refine⟨?_,As i1 i2⟩;unfold aK at h;rw[Yq ha]at h;split at h
 ·rename_i hc;exact hc
 ·omega
theorem Mh {L:List Obj} {f l kind:Int} {j:Nat} (h0:0<=f) (hj:j<L.length) (hk:(ah L j free).kind≠0):ah (ca L f l kind) j free=ah L j free:=by
 have hG:∀g,ah (bE L f g) j free=ah L j free:=fun g=>by
  unfold bE;rw[jI hj,Yp];simp only[iF,Yj,Yk];omega
 unfold ca;split
 ·exact hG _
 ·rename_i hi;rcases uP (L:=L) (l:=l) h0 with e|⟨a,b,c,d⟩
  ·exact absurd e hi
  ·rw[gm (by rw[jJ];omega),Yp,hG]
   intro e;rw[<-e]at d;unfold eM at d;simp only[Yj,Yk]at d;exact hk d.1
theorem NM {L:List Obj} {f l kind:Int} (hL:aq L) (h0:0<=f) (hk:kind=1\/kind=2):aq (ca L f l kind):=by
 unfold ca;split
 ·exact ED hL
 ·rename_i hi;rcases uP (L:=L) (l:=l) h0 with e|⟨a,b,c,d⟩
  ·exact absurd e hi
  ·exact nf (ED hL) (by rw[jJ];exact AQ (dY hL _ (by omega)) d hk)
theorem Fk {L:List Obj} {k:Key} {kind:Int} (hL:aq L):aq (eH L k kind):=by
 unfold eH;split
 ·rename_i h
  have he:aK L k=0:=by
   unfold fJ at h;split at h
   ·assumption
   ·rename_i h';exact absurd h h'
  refine NM hL (lu he).2.1 ?_;unfold fJ at h;rw[Yq he]at h;split at h
  ·assumption
  ·omega
 ·exact hL
theorem J8 {L:List Obj} {k:Key} {n:Int} (hL:aq L) (e:aK L k=0) (h:bM L k n=0):
  aq (br L k n)/\(br L k n).length=L.length/\aK (br L k n) k=0/\au (br L k n) k=au L k/\aE (br L k n) k=aE L k-n/\
  aK (br L k n) (bP L k n)=0/\au (br L k n) (bP L k n)=aE L k-n+1/\aE (br L k n) (bP L k n)=aE L k/\au L k<=(bP L k n).oid/\(bP L k n).oid<=aE L k-n/\1<=n/\n<=aE L k-au L k/\
  eM (ah L (bP L k n).oid.toNat free)=true:=by
 obtain⟨ha,a0,a1,a2,a3,a4⟩:=lu e;obtain⟨hok,hk1⟩:=Q6 e;obtain⟨x1,x2⟩:=kz hL;have h':=h;unfold bM at h;split at h
 case isFalse h2=>exact absurd h h2
 rename_i hE0;split at h
 case isTrue=>omega
 rename_i hI
 have hn:1<=n/\n<=aE L k-au L k:=by
  unfold lG at hE0;rw[Yq e]at hE0;split at hE0
  ·omega
  ·omega
 have hin:=uP (L:=L) (l:=aE L k) a0;have hIe:bh L (au L k) (aE L k)=fF L k:=rfl;have hne1:bh L (au L k) (aE L k)≠ -1:=by rw[hIe];omega
 rw[hIe]at hin;rcases hin with hin|⟨i1,i2,i3,i4⟩
 ·omega
 have hMlen:(du L k).length=L.length:=sP;have hMok:aq (du L k):=NM hL a0 (.inl rfl);have hMI:ah (du L k) (fF L k).toNat free=kN (ah L (fF L k).toNat free) 1:=NJ a0 hne1;have UP:ah (du L k) k.oid.toNat free=ah L k.oid.toNat free:=Mh a0 (by omega) (by omega)
 have hne:k.oid.toNat≠(fF L k).toNat:=fun hh=>by
  rw[hh]at hk1;unfold eM at i4;simp only[Yj,Yk]at i4;omega
 have hLL:br L k n=cB (cB (du L k) (fF L k).toNat (iU (ah (du L k) (fF L k).toNat free) (aE L k-n+1) (aE L k))) k.oid.toNat (lv (ah (du L k) k.oid.toNat free) (aE L k-n)):=by
  unfold br;rw[Yq h']
 have hKK:bP L k n=⟨4,fF L k,(ah L (fF L k).toNat free).count+1,0,0,0⟩:=by
  unfold bP;rw[Yq h',hMI];rfl
 have o1:bT (iU (ah (du L k) (fF L k).toNat free) (aE L k-n+1) (aE L k)) (L.length:Int)=true:=Fc (by rw[<-hMlen];exact dY hMok _ (by omega)) (by rw[hMI];rfl)
 have o2:bT (lv (ah (du L k) k.oid.toNat free) (aE L k-n)) (L.length:Int)=true:=FA (by rw[<-hMlen];exact dY hMok _ (by omega)) (by rw[UP];exact hk1)
 have l1:(cB (du L k) (fF L k).toNat (iU (ah (du L k) (fF L k).toNat free) (aE L k-n+1) (aE L k))).length=L.length:=by rw[jz];exact hMlen
 have okX:=nf (i:=(fF L k).toNat) hMok (by rw[hMlen];exact o1)
 have hlen:(br L k n).length=L.length:=by rw[hLL,jz];exact l1
 have hokL:aq (br L k n):=by rw[hLL];exact nf okX (by rw[l1];exact o2)
 have hgk:ah (br L k n) k.oid.toNat free=lv (ah L k.oid.toNat free) (aE L k-n):=by
  rw[hLL,gm (by omega),Yq rfl,UP]
 have hgI:ah (br L k n) (fF L k).toNat free=iU (kN (ah L (fF L k).toNat free) 1) (aE L k-n+1) (aE L k):=by
  rw[hLL,gm (by omega),Yp (Ne.symm hne),gm (by omega),Yq rfl,hMI]
 have s2:∀(o:Obj) (b:Int),(lv o b).slots.at 0=o.slots.at 0/\(lv o b).slots.at 1=cH b:=fun o b=>by
  unfold lv;simp only;rw[cR.gL _ _ _ _ (by omega),cR.gL _ _ _ _ (by omega)]
  exact⟨rfl,rfl⟩
 have s1:∀(o:Obj) (a b:Int),(iU o a b).slots.at 0=cH a/\(iU o a b).slots.at 1=cH b:=fun o a b=>by
  unfold iU;simp only;rw[cR.gL _ _ _ _ (by omega),cR.gL _ _ _ _ (by omega),cR.gL _ _ _ _ (by omega)]
  exact⟨rfl,rfl⟩
 have hask:ay (br L k n) k 4 false=0:=by
  rw[HV hlen (by rw[hgk];rfl) (by rw[hgk];rfl) (by rw[hgk];rfl)];exact ha
 unfold gA at hok;simp only[Yj,Yk]at hok;obtain⟨⟨⟨⟨c1,c2⟩,c3⟩,c4⟩,c5⟩:=hok;have hA':au (br L k n) k=au L k:=by unfold au;rw[hgk,(s2 _ _).1]
 have hB':aE (br L k n) k=aE L k-n:=by
  have:aE (br L k n) k=((lv (ah L k.oid.toNat free) (aE L k-n)).slots.at 1).value:=by rw[<-hgk];rfl
  rw[this,(s2 _ _).2];rfl
 have hE':aK (br L k n) k=0:=(tH hask (by
  rw[hgk];unfold gA ai;rw[(s2 _ _).1,(s2 _ _).2,hlen];have v0:((ah L k.oid.toNat free).slots.at 0).value=au L k:=rfl;simp only[cH,Yj,Yk];refine⟨⟨⟨⟨c1,?_⟩,c3⟩,?_⟩,?_⟩
  ·trivial
  ·exact decide_eq_true (by omega)
  ·exact decide_eq_true (by omega))).1
 have i4':=i4;unfold eM at i4';simp only[Yj,Yk]at i4';have hcb:=jb (dY hL (fF L k).toNat (by omega))
 have hkey:aT (bP L k n)=true:=by
  rw[hKK];unfold aT fG;simp only[dG,gd,j6,eK];simp;omega
 have hoid:(bP L k n).oid=fF L k:=by rw[hKK]
 have hisO:dG (bP L k n).kind=true:=by rw[hKK];rfl
 have hnm:bf (bP L k n)=true:=by unfold bf;rw[hkey,hisO];rfl
 have hnames:aX (bP L k n)=fF L k:=by unfold aX;rw[hkey,hisO,hoid];rfl
 have hcounts:cc (bP L k n) (ah (br L k n) (bP L k n).oid.toNat free)=true:=by
  unfold cc fM;rw[hkey,hnames,hoid,hgI,Yp (by omega),hKK]
  simp[iU,kN]
 have his:aU (br L k n) (bP L k n)=true:=by
  unfold aU;rw[hnm,hcounts,ki.2 ⟨by omega,by omega⟩];rfl
 have hask2:ay (br L k n) (bP L k n) 4 false=0:=by
  unfold ay ai;rw[Yp (by omega),Yp (by rw[his,hKK];simp),Yp (by simp)]
 have hobj:ah (br L k n) (bP L k n).oid.toNat free=iU (kN (ah L (fF L k).toNat free) 1) (aE L k-n+1) (aE L k):=by rw[hoid];exact hgI
 refine⟨hokL,hlen,hE',hA',hB',(tH hask2 ?_).1,?_,?_,by rw[hoid];exact i1,by rw[hoid];omega,hn.1,hn.2,by rw[hoid];exact i4⟩
 ·rw[hobj];unfold gA ai;rw[(s1 _ _ _).1,(s1 _ _ _).2,hlen];simp only[cH,Yj,Yk];refine⟨⟨⟨⟨?_,?_⟩,?_⟩,?_⟩,?_⟩
  ·trivial
  ·trivial
  ·exact decide_eq_true (by omega)
  ·exact decide_eq_true (by omega)
  ·exact decide_eq_true (by omega)
 ·unfold au;rw[hobj,(s1 _ _ _).1];rfl
 ·have:aE (br L k n) (bP L k n)=((iU (kN (ah L (fF L k).toNat free) 1) (aE L k-n+1) (aE L k)).slots.at 1).value:=by rw[<-hobj];rfl
  rw[this,(s1 _ _ _).2];rfl
end Go.Sx
