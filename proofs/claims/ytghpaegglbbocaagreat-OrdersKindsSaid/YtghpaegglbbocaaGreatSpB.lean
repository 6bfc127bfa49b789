import Derived.Test.YtghpaegglbbocaaGreatSpP
import Derived.Test.YtghpaegglbbocaaGreatKS
set_option linter.unusedSimpArgs false
set_option linter.unusedVariables false
namespace Go.Sx
def iJ (o:Obj):Bool:=decide (o.kind=0)&&decide (4294967295<=o.count)
def eL (o:Obj):Bool:=decide (o.kind=0)&&decide (o.count<4294967295)
def D6 (o:Obj):Obj:=⟨3,o.count,0,fX,fW⟩
def kP (o:Obj) (kind:Int):Obj:=⟨kind,o.count+1,0,fX,fW⟩
def xu (o:Obj):Obj:=⟨0,o.count,0,fX,fW⟩
def kh (L:List Obj) (p:Nat->Obj->Bool) (t:Obj->Obj):List Obj:=(List.range L.length).map fun j=>if p j (ah L j free)then t (ah L j free)else ah L j free
def bE (L:List Obj) (f g:Int):List Obj:=kh L (fun j o=>decide (f<=(j:Int))&&decide ((j:Int)<g)&&iJ o) D6
def jJ (L:List Obj) (f g:Int):Prop:=∀j:Nat,f<=(j:Int)->(j:Int)<g->eL (ah L j free)=false
def kS (L:List Obj) (f g:Int):Bool:=(List.range L.length).any fun(j:Nat)=>decide (f<=(j:Int))&&decide ((j:Int)<g)&&iJ (ah L j free)
def bh (L:List Obj) (f l:Int):Int:=match (List.range L.length).find? fun(j:Nat)=>decide (f<=(j:Int))&&decide ((j:Int)<=l)&&eL (ah L j free)with
 |some j=>(j:Int)
 |none=> -1
def cg (L:List Obj) (f l kind:Int):List Obj:=if bh L f l= -1 then bE L f (l+1)else cC (bE L f (bh L f l)) (bh L f l).toNat (kP (ah L (bh L f l).toNat free) kind)
def kC (L:List Obj) (f l:Int):Bool:= !decide (bh L f l= -1)||kS L f (l+1)
def cJ (kind oid count:Int):Key:=⟨if kind=2 then 3 else 2,oid,count,0,0,0⟩
def gB (o:Obj) (n:Int):Bool:=decide ((o.slots.at 0).kind=1)&&decide ((o.slots.at 1).kind=1)&&decide (0<=(o.slots.at 0).value)&&decide ((o.slots.at 0).value<=(o.slots.at 1).value)&&decide ((o.slots.at 1).value<n)
def aK (L:List Obj) (k:Key):Int:=if ay L k 4 false=0 then(if gB (ah L k.oid.toNat free) (aj L:Int)then 0 else 220)else ay L k 4 false
def au (L:List Obj) (k:Key):Int:=((ah L k.oid.toNat free).slots.at 0).value
def aE (L:List Obj) (k:Key):Int:=((ah L k.oid.toNat free).slots.at 1).value
def aH (L:List Obj) (k:Key):Int:=if aK L k=0 then au L k else 0
def aA (L:List Obj) (k:Key):Int:=if aK L k=0 then aE L k else 0
def fJ (L:List Obj) (k:Key) (kind:Int):Int:=if aK L k=0 then(if kind=1\/kind=2 then 0 else 2)else aK L k
def bX (L:List Obj) (k:Key) (kind:Int):Int:=if fJ L k kind=0 then(if bh L (au L k) (aE L k)= -1 then 221 else 0)else fJ L k kind
def eI (L:List Obj) (k:Key) (kind:Int):List Obj:=if fJ L k kind=0 then cg L (au L k) (aE L k) kind else L
def fN (L:List Obj) (k:Key) (kind:Int):Bool:=decide (fJ L k kind=0)&&kC L (au L k) (aE L k)
def cN (L:List Obj) (k:Key) (kind:Int):Key:=if bX L k kind=0 then cJ kind (bh L (au L k) (aE L k)) ((ah L (bh L (au L k) (aE L k)).toNat free).count+1)else void
def gW (L:List Obj) (v:Key):Bool:=aU L v&&(decide (v.kind=2)||decide (v.kind=3))
def b8 (L:List Obj) (k v:Key):Int:=if aK L k=0 then(if gW L v then(if au L k<=v.oid/\v.oid<=aE L k/\v.oid≠k.oid then 0 else 4)else 5)else aK L k
def fM (L:List Obj) (k v:Key):List Obj:=if b8 L k v=0 then cC L v.oid.toNat (xu (ah L v.oid.toNat free))else L
def iU (L:List Obj) (k v:Key):Bool:=decide (b8 L k v=0)
def lB (o:Obj):Bool:=decide (o.kind=1)||decide (o.kind=2)
def j9 (f g oid:Int) (j:Nat) (o:Obj):Bool:=decide (f<=(j:Int))&&decide ((j:Int)<g)&&lB o&& !decide ((j:Int)=oid)
def di (L:List Obj) (f g oid:Int):List Obj:=kh L (j9 f g oid) xu
def dX (L:List Obj) (f g oid:Int):Int:=(((List.range L.length).filter fun j=>j9 f g oid j (ah L j free)).length:Int)
def gf (L:List Obj) (k:Key):List Obj:=if aK L k=0 then di L (au L k) (aE L k+1) k.oid else L
def eJ (L:List Obj) (k:Key):Int:=if aK L k=0 then dX L (au L k) (aE L k+1) k.oid else 0
def jR (L:List Obj) (k:Key):Bool:=decide (aK L k=0)&& !decide (dX L (au L k) (aE L k+1) k.oid=0)
def iL (L:List Obj) (k v:Key):Bool:=decide (aK L k=0)&&gW L v&&decide (au L k<=v.oid)&&decide (v.oid<=aE L k)
theorem ij {L:List Obj} {p:Nat->Obj->Bool} {t:Obj->Obj}:(kh L p t).length=L.length:=by simp[kh]
theorem jH {L:List Obj} {p:Nat->Obj->Bool} {t:Obj->Obj} {j:Nat} (h:j<L.length):ah (kh L p t) j free=if p j (ah L j free)then t (ah L j free)else ah L j free:=by
 rw[show ah (kh L p t) j free=(kh L p t).getD j free from rfl,Yt];unfold kh;rw[List.getElem?_map,List.getElem?_range h];rfl
theorem xr {L:List Obj} {p:Nat->Obj->Bool} {t:Obj->Obj} (h:∀j,j<L.length->p j (ah L j free)=false):kh L p t=L:=by
 refine pL ij fun j hj=>?_
 rw[ij]at hj;rw[jH hj,h j hj];rfl
theorem Dz {L:List Obj} {p p':Nat->Obj->Bool} {t:Obj->Obj} {g:Nat} (hg:g<L.length) (hp:∀j,j≠g->p' j (ah L j free)=p j (ah L j free)) (h1:p' g (ah L g free)=true):
  cC (kh L p t) g (t (ah L g free))=kh L p' t:=by
 refine pL (by rw[jD,ij,ij]) fun j hj=>?_
 rw[jD,ij]at hj;rw[gp (by rw[ij];exact hg),jH hj,jH hj]
 by_cases e:j=g
 ·subst e;rw[Yv rfl,h1,Yv rfl]
 ·rw[Yu e,hp j e]
theorem zC {L:List Obj} {p p':Nat->Obj->Bool} {t:Obj->Obj} (hp:∀j,j<L.length->p' j (ah L j free)=p j (ah L j free)):kh L p' t=kh L p t:=by
 refine pL (by rw[ij,ij]) fun j hj=>?_
 rw[ij]at hj;rw[jH hj,jH hj,hp j hj]
theorem jK {L:List Obj} {f g:Int}:(bE L f g).length=L.length:=ij
theorem Dc {L:List Obj} {f:Int}:L=bE L f f:=by
 symm
 refine xr fun j hj=>?_
 simp only[Bool.and_eq_false_iff,decide_eq_false_iff_not];omega
theorem AD {L:List Obj} {f g:Int} (h0:0<=g):ah (bE L f g) g.toNat free=ah L g.toNat free:=by
 by_cases h:g.toNat<L.length
 ·unfold bE;rw[jH h,Yu];simp only[Yo,Yp];omega
 ·rw[show ah (bE L f g) g.toNat free=free by simp[ah,Yt,List.getElem?_eq_none (show(bE L f g).length<=g.toNat by rw[jK];omega)]]
  simp[ah,Yt,List.getElem?_eq_none (show L.length<=g.toNat by omega)]
theorem wR {L:List Obj} {f g:Int} (h0:0<=g) (h1:g<(L.length:Int)) (hf:f<=g) (hr:iJ (ah L g.toNat free)=true):cC (bE L f g) g.toNat (D6 (ah L g.toNat free))=bE L f (g+1):=by
 refine Dz (by omega) (fun j hj=>?_) ?_
 ·have:decide ((j:Int)<g+1)=decide ((j:Int)<g):=by rw[decide_eq_decide];omega
  rw[this]
 ·rw[hr];simp;omega
theorem xj {L:List Obj} {f g:Int} (h0:0<=g) (hr:iJ (ah L g.toNat free)=false):bE L f (g+1)=bE L f g:=by
 refine zC fun j hj=>?_
 by_cases e:(j:Int)=g
 ·rw[show j=g.toNat by omega,hr,Bool.and_false,Bool.and_false]
 ·have:decide ((j:Int)<g+1)=decide ((j:Int)<g):=by rw[decide_eq_decide];omega
  rw[this]
theorem Ul {L:List Obj} {f l g:Int} (h0:0<=f) (hf:f<=g) (hl:g<=l) (hg:g<(L.length:Int)) (hn:jJ L f g) (hw:eL (ah L g.toNat free)=true):bh L f l=g:=by
 unfold bh
 have:(List.range L.length).find? (fun(j:Nat)=>decide (f<=(j:Int))&&decide ((j:Int)<=l)&&eL (ah L j free))=some g.toNat:=by
  rw[List.find?_eq_some_iff_getElem];refine⟨by rw[hw];simp;omega,g.toNat,by simp;omega,by simp,fun j hj=>?_⟩
  simp only[List.getElem_range,Bool.not_eq_true',Bool.and_eq_false_iff,decide_eq_false_iff_not];by_cases e:f<=(j:Int)
  ·right;exact hn j e (by omega)
  ·left;left;exact e
 rw[this];show((g.toNat:Nat):Int)=g
 omega
theorem Mr {L:List Obj} {f l:Int} (hn:jJ L f (l+1)):bh L f l= -1:=by
 unfold bh
 have:(List.range L.length).find? (fun(j:Nat)=>decide (f<=(j:Int))&&decide ((j:Int)<=l)&&eL (ah L j free))=none:=by
  rw[List.find?_eq_none];intro j hj h;simp only[Yo,Yp]at h;rw[hn j h.1.1 (by omega)]at h
  simp at h
 rw[this]
theorem iY {L:List Obj} {f g:Int} (h:jJ L f g) (hg:eL (ah L g.toNat free)=false):jJ L f (g+1):=fun j h1 h2=>by
 by_cases e:(j:Int)=g
 ·rw[show j=g.toNat by omega];exact hg
 ·exact h j h1 (by omega)
theorem sd {L:List Obj} {f:Int}:jJ L f f:=fun j h1 h2=>by omega
theorem GR {L:List Obj} {f:Int}:kS L f f=false:=by
 unfold kS;rw[List.any_eq_false];intro j hj h;simp only[Yo,Yp]at h;omega
theorem C8 {L:List Obj} {f g:Int} (h0:0<=g) (h1:g<(L.length:Int)) (hf:f<=g) (hr:iJ (ah L g.toNat free)=true):kS L f (g+1)=true:=by
 unfold kS;rw[List.any_eq_true];exact⟨g.toNat,by simp;omega,by rw[hr];simp;omega⟩
theorem Fi {L:List Obj} {f g:Int} (h0:0<=g) (hr:iJ (ah L g.toNat free)=false):kS L f (g+1)=kS L f g:=by
 unfold kS;rw[Bool.eq_iff_iff,List.any_eq_true,List.any_eq_true];refine exists_congr fun j=>and_congr_right fun _=>?_
 simp only[Yo,Yp];constructor
 ·rintro⟨⟨a,b⟩,c⟩
  refine⟨⟨a,?_⟩,c⟩;by_cases e:(j:Int)=g
  ·rw[show j=g.toNat by omega,hr]at c;simp at c
  ·omega
 ·rintro⟨⟨a,b⟩,c⟩
  exact⟨⟨a,by omega⟩,c⟩
theorem AO {L:List Obj} {f g oid:Int}:(di L f g oid).length=L.length:=ij
theorem w8 {L:List Obj} {f g oid:Int} (h:dX L f g oid=0):di L f g oid=L:=by
 refine xr fun j hj=>?_
 unfold dX at h;have h2:((List.range L.length).filter fun j=>j9 f g oid j (ah L j free))= []:=List.eq_nil_of_length_eq_zero (by omega)
 rw[List.filter_eq_nil_iff]at h2;have:=h2 j (by simp;omega)
 simpa using this
theorem sK {L:List Obj} {f oid:Int}:dX L f f oid=0:=by
 unfold dX;rw[show((List.range L.length).filter fun j=>j9 f f oid j (ah L j free))= []from ?_]
 ·rfl
 ·rw[List.filter_eq_nil_iff];intro j hj;unfold j9;simp only[Yo,Yp];omega
theorem JM {L:List Obj} {f oid:Int}:L=di L f f oid:=(w8 sK).symm
theorem Lc {L:List Obj} {f g oid:Int} (h0:0<=g):ah (di L f g oid) g.toNat free=ah L g.toNat free:=by
 by_cases h:g.toNat<L.length
 ·unfold di;rw[jH h,Yu];unfold j9;simp only[Yo,Yp];omega
 ·rw[show ah (di L f g oid) g.toNat free=free by simp[ah,Yt,List.getElem?_eq_none (show(di L f g oid).length<=g.toNat by rw[AO];omega)]]
  simp[ah,Yt,List.getElem?_eq_none (show L.length<=g.toNat by omega)]
def jl (L:List Obj) (g oid:Int):Bool:=lB (ah L g.toNat free)&& !decide (g=oid)
theorem Ba {L:List Obj} {f g oid:Int} (h0:0<=g) (hf:f<=g):j9 f (g+1) oid g.toNat (ah L g.toNat free)=jl L g oid:=by
 unfold j9 jl;rw[show((g.toNat:Nat):Int)=g by omega]
 have a:decide (f<=g)=true:=by simp;omega
 have b:decide (g<g+1)=true:=by simp;omega
 rw[a,b];simp
theorem wz {L:List Obj} {f g oid:Int} {j:Nat} (h:(j:Int)≠g) (o:Obj):j9 f (g+1) oid j o=j9 f g oid j o:=by
 unfold j9;have:decide ((j:Int)<g+1)=decide ((j:Int)<g):=by rw[decide_eq_decide];omega
 rw[this]
theorem Az {f g oid:Int} {j:Nat} (h:(j:Int)=g) (o:Obj):j9 f g oid j o=false:=by
 unfold j9;have:decide ((j:Int)<g)=false:=by simp;omega
 rw[this];simp
theorem BG {L:List Obj} {f g oid:Int} (h0:0<=g) (h1:g<(L.length:Int)) (hf:f<=g) (hr:jl L g oid=true):cC (di L f g oid) g.toNat (xu (ah L g.toNat free))=di L f (g+1) oid:=
 Dz (by omega) (fun j hj=>wz (L:=L) (by omega) _) (by rw[Ba h0 hf];exact hr)
theorem wY {L:List Obj} {f g oid:Int} (h0:0<=g) (hf:f<=g) (hr:jl L g oid=false):di L f (g+1) oid=di L f g oid:=by
 refine zC fun j hj=>?_
 by_cases e:(j:Int)=g
 ·rw[show j=g.toNat by omega,Ba h0 hf,hr,Az (by omega)]
 ·exact wz (L:=L) e _
theorem tn {L:List Obj} {f g oid:Int} (h0:0<=g) (hf:f<=g) (hr:jl L g oid=false):dX L f (g+1) oid=dX L f g oid:=by
 unfold dX;rw[show((List.range L.length).filter fun j=>j9 f (g+1) oid j (ah L j free))=(List.range L.length).filter fun j=>j9 f g oid j (ah L j free)from List.filter_congr fun j hj=>?_]
 by_cases e:(j:Int)=g
 ·rw[show j=g.toNat by omega,Ba h0 hf,hr,Az (by omega)]
 ·exact wz (L:=L) e _
theorem filter_one {l:List Nat} {p p':Nat->Bool} {g:Nat} (hn:l.Nodup) (hg:g∈l) (hp:∀j,j≠g->p' j=p j) (h0:p g=false) (h1:p' g=true):(l.filter p').length=(l.filter p).length+1:=by
 induction l with
 |nil=>simp at hg
 |cons a l ih=>
  rw[List.nodup_cons]at hn;by_cases e:a=g
  ·subst e;have:l.filter p'=l.filter p:=List.filter_congr fun j hj=>hp j fun e=>hn.1 (e▸hj)
   rw[List.filter_cons,List.filter_cons,h0,h1,Yv rfl,Yu (by simp),this]
   simp
  ·have hg2:g∈l:=by
    rcases List.mem_cons.1 hg with h|h
    ·exact absurd h.symm e
    ·exact h
   rw[List.filter_cons,List.filter_cons,hp a e];split
   ·simp only[List.length_cons];rw[ih hn.2 hg2]
   ·exact ih hn.2 hg2
theorem yS {L:List Obj} {f g oid:Int} (h0:0<=g) (h1:g<(L.length:Int)) (hf:f<=g) (hr:jl L g oid=true):dX L f (g+1) oid=dX L f g oid+1:=by
 unfold dX;have:=filter_one (l:=List.range L.length) (p:=fun j=>j9 f g oid j (ah L j free)) (p':=fun j=>j9 f (g+1) oid j (ah L j free)) (g:=g.toNat) List.nodup_range (by simp;omega) (fun j hj=>wz (L:=L) (by omega) _) (Az (by omega) _) (by show j9 f (g+1) oid g.toNat (ah L g.toNat free)=true;rw[Ba h0 hf];exact hr)
 omega
theorem sC {L:List Obj} {f g oid:Int}:0<=dX L f g oid:=by unfold dX;omega
theorem Ly {L:List Obj} {f g oid:Int}:dX L f g oid<=(L.length:Int):=by
 unfold dX;have:=List.length_filter_le (fun j=>j9 f g oid j (ah L j free)) (List.range L.length)
 rw[List.length_range]at this;omega
theorem BH {n:Int} {kind count:Int} (h1:1<=n) (h2:n<=64) (h3:0<=kind) (h4:kind<=3) (h5:0<=count) (h6:count<=4294967295):bT ⟨kind,count,0,fX,fW⟩ n=true:=by
 rw[fg];refine⟨h1,h2,h3,h4,h5,h6,by simp,by simp,.inr rfl,fun i hi=>?_,fun i hi=>?_⟩
 ·simp only[xT];unfold h9;rw[pb.1,pb.2];simp;omega
 ·have hz:=FH.1 (show fW=fW from rfl) i hi;first|exact .inr (.inr hz)|exact hz|simp[hz]
theorem jg {o:Obj} {n:Int} (h:bT o n=true):0<=o.count/\o.count<=4294967295/\0<=o.kind/\o.kind<=3/\1<=n/\n<=64:=by
 obtain⟨a1,a2,a3,a4,a5,a6,_⟩:=fg.1 h;exact⟨a5,a6,a3,a4,a1,a2⟩
theorem BD {o:Obj} {n:Int} (h:bT o n=true):bT (D6 o) n=true:=by
 obtain⟨a,b,c,d,e,f⟩:=jg h;exact BH e f (by omega) (by omega) a b
theorem wc {o:Obj} {n:Int} (h:bT o n=true):bT (xu o) n=true:=by
 obtain⟨a,b,c,d,e,f⟩:=jg h;exact BH e f (by omega) (by omega) a b
theorem BO {o:Obj} {n kind:Int} (h:bT o n=true) (hn:eL o=true) (hk:kind=1\/kind=2):bT (kP o kind) n=true:=by
 obtain⟨a,b,c,d,e,f⟩:=jg h;unfold eL at hn;simp only[Yo,Yp]at hn;exact BH e f (by omega) (by omega) (by omega) (by omega)
theorem FG {L:List Obj} {p:Nat->Obj->Bool} {t:Obj->Obj} (h:aq L) (ht:∀o,bT o (L.length:Int)=true->bT (t o) (L.length:Int)=true):aq (kh L p t):=by
 refine Is h ij fun j hj=>?_
 rw[jH hj];split
 ·exact ht _ (dW h j hj)
 ·exact dW h j hj
theorem Ey {L:List Obj} {f g:Int} (h:aq L):aq (bE L f g):=FG h fun o ho=>BD ho
def kB:lA (Key×Unit):=bk kA iv
def NP:lA (Key×Key×Unit):=bk kA (bk kA iv)
def QT:lA (Key×Int×Unit):=bk kA (bk iA iv)
def XB:lA (Int×Int×Int×Unit):=bk iA (bk iA (bk iA iv))
theorem CR:iy kB:=aJ gR cF
theorem vn:iy NP:=aJ gR (aJ gR cF)
theorem Bv:iy QT:=aJ gR (aJ ft cF)
theorem Tc:iy XB:=aJ ft (aJ ft (aJ ft cF))
def Dh (L:List Obj) (f l:Int):Prop:=aq L/\0<=f/\l<(aj L:Int)/\f<=l+1
def Qf:Ct:=sF (bk Bq kB) (fun _=>none) fun x=> .tp [.it .i64 (aH x.1 x.2.1),.it .i64 (aA x.1 x.2.1),.it .i64 (aK x.1 x.2.1)]
def KN:kJ:=Ar (wv XB) (fun L x=>Dh L x.1 x.2.1) (fun L x=>kC L x.1 x.2.1) (fun L x=>cg L x.1 x.2.1 x.2.2.1) fun L x=> [.it .i64 (bh L x.1 x.2.1)]
def Ov:kJ:=Ar (wv QT) (fun L _=>aq L) (fun L x=>fN L x.1 x.2.1) (fun L x=>eI L x.1 x.2.1) fun L x=> [.key (cN L x.1 x.2.1),.it .i64 (bX L x.1 x.2.1)]
def TA:kJ:=Ar (wv NP) (fun L _=>aq L) (fun L x=>iU L x.1 x.2.1) (fun L x=>fM L x.1 x.2.1) fun L x=> [.it .i64 (b8 L x.1 x.2.1)]
def Ob:kJ:=Ar (wv kB) (fun L _=>aq L) (fun L x=>jR L x.1) (fun L x=>gf L x.1) fun L x=> [.it .i64 (eJ L x.1),.it .i64 (aK L x.1)]
def N7:Ct:=sF (bk Bq NP) (fun _=>none) fun x=> .tp [.bo (iL x.1 x.2.1 x.2.2.1),.it .i64 (aK x.1 x.2.1)]
def uv (L:List Obj) (f l:Int) (g:Int):Prop:=f<=g/\g<=l+1/\jJ L f g/\kS L f g=false
def qN (L:List Obj) (f l:Int) (g:Int):Prop:=f<=g/\g<=l+1/\jJ L f g/\kS L f g=true
def T3:Ct:=WV (rI .i64) (rI .i64) (rI .i64) fun a b c=> .key (cJ a b c)
theorem xJ {L:List Obj} {f g:Int} (h:kS L f g=false):bE L f g=L:=by
 refine xr fun j hj=>?_
 unfold kS at h;rw[List.any_eq_false]at h;simpa using h j (by simpa using hj)
theorem wA {o:Obj} (h:o.kind≠0):iJ o=false/\eL o=false:=by simp[iJ,eL,h]
theorem Bp {o:Obj} (h:o.kind=0) (h2:4294967295<=o.count):iJ o=true/\eL o=false:=by simp[iJ,eL,h,h2]
theorem AB {o:Obj} (h:o.kind=0) (h2:¬4294967295<=o.count):iJ o=false/\eL o=true:=by
 refine⟨by simp[iJ,h2],?_⟩
 simp only[eL,Yo,Yp];omega
theorem wP {L:List Obj} {f l g:Int} (kind:Int) (h0:0<=f) (hf:f<=g) (hl:g<=l) (hg:g<(L.length:Int)) (hn:jJ L f g) (hw:eL (ah L g.toNat free)=true):
  bh L f l=g/\kC L f l=true/\cg L f l kind=cC (bE L f g) g.toNat (kP (ah L g.toNat free) kind):=by
 have e:=Ul h0 hf hl hg hn hw;refine⟨e,?_,?_⟩
 ·unfold kC;rw[e];simp;left;omega
 ·unfold cg;rw[e,Yu (by omega)]
theorem Bl {L:List Obj} {f l:Int} (kind:Int) (hn:jJ L f (l+1)):bh L f l= -1/\cg L f l kind=bE L f (l+1)/\kC L f l=kS L f (l+1):=by
 have e:=Mr hn;refine⟨e,?_,?_⟩
 ·unfold cg;rw[e,Yv rfl]
 ·unfold kC;rw[e];rfl
theorem J8 (o:Obj) (n:Nat):(!decide ((o.slots.at 0).kind=1)|| !decide ((o.slots.at 1).kind=1)||decide ((o.slots.at 0).value<0)||decide ((o.slots.at 1).value<(o.slots.at 0).value)||decide (b9 n<=(o.slots.at 1).value))= !gB o (n:Int):=by
 unfold gB b9;rw[Bool.eq_iff_iff];simp only[Bool.or_eq_true,Bool.not_eq_true',Bool.and_eq_false_iff,Yp,decide_eq_false_iff_not];omega
theorem EO {L:List Obj} {k:Key} (h:ay L k 4 false≠0):aK L k=ay L k 4 false/\aH L k=0/\aA L k=0:=by
 have e:aK L k=ay L k 4 false:=by unfold aK;rw[Yu h]
 refine⟨e,?_,?_⟩
 ·unfold aH;rw[e,Yu h]
 ·unfold aA;rw[e,Yu h]
theorem BF {L:List Obj} {k:Key} (h:ay L k 4 false=0) (h2:gB (ah L k.oid.toNat free) (aj L:Int)=false):aK L k=220/\aH L k=0/\aA L k=0:=by
 have e:aK L k=220:=by unfold aK;rw[Yv h,h2];rfl
 refine⟨e,?_,?_⟩
 ·unfold aH;rw[e];rfl
 ·unfold aA;rw[e];rfl
theorem tg {L:List Obj} {k:Key} (h:ay L k 4 false=0) (h2:gB (ah L k.oid.toNat free) (aj L:Int)=true):aK L k=0/\aH L k=au L k/\aA L k=aE L k:=by
 have e:aK L k=0:=by unfold aK;rw[Yv h,h2];rfl
 refine⟨e,?_,?_⟩
 ·unfold aH;rw[e];rfl
 ·unfold aA;rw[e];rfl
theorem lE {L:List Obj} {k:Key} (h:aK L k=0):ay L k 4 false=0/\0<=au L k/\au L k<=aE L k/\aE L k<(L.length:Int)/\0<=k.oid/\k.oid<(L.length:Int):=by
 have ha:ay L k 4 false=0:=by
  unfold aK at h;split at h
  ·assumption
  ·rename_i h1;exact absurd h h1
 have hb:gB (ah L k.oid.toNat free) (aj L:Int)=true:=by
  cases hb:gB (ah L k.oid.toNat free) (aj L:Int)with
  |true=>rfl
  |false=>rw[(BF ha hb).1]at h;simp at h
 obtain⟨_,b2,b3,_⟩:=dC (fH ha).1;unfold gB at hb;simp only[Yo,Yp]at hb;obtain⟨⟨⟨⟨_,_⟩,h3⟩,h4⟩,h5⟩:=hb;exact⟨ha,h3,h4,h5,b2,b3⟩
theorem uN {L:List Obj} {f l:Int} (h0:0<=f):bh L f l= -1\/(f<=bh L f l/\bh L f l<=l/\bh L f l<(L.length:Int)/\eL (ah L (bh L f l).toNat free)=true):=by
 unfold bh;split
 ·rename_i j hj;right
  have h1:=List.find?_some hj;have h2:=List.mem_of_find?_eq_some hj;simp only[Yo,Yp]at h1;rw[List.mem_range]at h2;exact⟨h1.1.1,h1.1.2,by omega,h1.2⟩
 ·exact .inl rfl
theorem sO {L:List Obj} {f l kind:Int}:(cg L f l kind).length=L.length:=by
 unfold cg;split
 ·exact jK
 ·rw[jD,jK]
theorem LV {L:List Obj} {f l kind:Int} (h0:0<=f) (h:bh L f l≠ -1):ah (cg L f l kind) (bh L f l).toNat free=kP (ah L (bh L f l).toNat free) kind:=by
 rcases uN (L:=L) (l:=l) h0 with e|⟨a,b,c,d⟩
 ·exact absurd e h
 ·unfold cg;rw[Yu h,gp (by rw[jK];omega),Yv rfl]
theorem BQ {L:List Obj} {f l:Int} (h:bh L f l≠ -1):kC L f l=true:=by unfold kC;simp[h]
theorem zW {L:List Obj} {k:Key} (h:aK L k=0):aH L k=au L k/\aA L k=aE L k:=by
 unfold aH aA;rw[Yv h,Yv h];exact⟨rfl,rfl⟩
theorem Q0 {L:List Obj} {k:Key} {kind:Int} (h:aK L k=0) (h1:kind≠1) (h2:kind≠2):fN L k kind=false/\void=cN L k kind/\2=bX L k kind:=by
 have e:fJ L k kind=2:=by unfold fJ;rw[Yv h,Yu (by omega)]
 have e2:bX L k kind=2:=by unfold bX;rw[e];rfl
 refine⟨by unfold fN;rw[e];rfl,by unfold cN;rw[e2];rfl,e2.symm⟩
theorem RJ {L:List Obj} {k:Key} {kind:Int} (h:aK L k≠0):fN L k kind=false/\void=cN L k kind/\aK L k=bX L k kind:=by
 have e:fJ L k kind=aK L k:=by unfold fJ;rw[Yu h]
 have e2:bX L k kind=aK L k:=by unfold bX;rw[e,Yu h]
 refine⟨by unfold fN;rw[e];simp[h],by unfold cN;rw[e2,Yu h],e2.symm⟩
theorem xN {L:List Obj} {k:Key} {kind:Int} (h:aK L k=0) (hk:kind=1\/kind=2) (hi:bh L (au L k) (aE L k)= -1):fN L k kind=kC L (au L k) (aE L k)/\void=cN L k kind/\221=bX L k kind/\cg L (au L k) (aE L k) kind=eI L k kind:=by
 have e:fJ L k kind=0:=by unfold fJ;rw[Yv h,Yv hk]
 have e2:bX L k kind=221:=by unfold bX;rw[Yv e,Yv hi]
 refine⟨by unfold fN;rw[e];simp,by unfold cN;rw[e2];rfl,e2.symm,by unfold eI;rw[Yv e]⟩
theorem FK {L:List Obj} {k:Key} {kind:Int} (h:aK L k=0) (hk:kind=1\/kind=2) (hi:bh L (au L k) (aE L k)≠ -1):fN L k kind=true/\Key.mk (1+kind) (bh L (au L k) (aE L k)) (ah (cg L (au L k) (aE L k) kind) (bh L (au L k) (aE L k)).toNat free).count 0 0 0=cN L k kind/\0=bX L k kind/\cg L (au L k) (aE L k) kind=eI L k kind:=by
 have e:fJ L k kind=0:=by unfold fJ;rw[Yv h,Yv hk]
 have e2:bX L k kind=0:=by unfold bX;rw[Yv e,Yu hi]
 refine⟨by unfold fN;rw[e,BQ hi];rfl,?_,e2.symm,by unfold eI;rw[Yv e]⟩
 unfold cN;rw[Yv e2,LV (lE h).2.1 hi];unfold cJ kP;rcases hk with rfl|rfl<;>rfl
theorem ye {L:List Obj} {v:Key}:gW L v= !(!aU L v|| !decide (v.kind=2)&& !decide (v.kind=3)):=by unfold gW;cases aU L v<;>cases decide (v.kind=2)<;>cases decide (v.kind=3)<;>rfl
theorem DI {L:List Obj} {v:Key} (h:gW L v=true):aU L v=true:=by unfold gW at h;simp only[Yo]at h;exact h.1
def fF (L:List Obj) (k:Key):Int:=bh L (au L k) (aE L k)
def dw (L:List Obj) (k:Key):List Obj:=cg L (au L k) (aE L k) 1
def j8 (M:List Obj) (f g:Int):Bool:=(List.range M.length).any fun(j:Nat)=>decide (f<=(j:Int))&&decide ((j:Int)<g)&&lB (ah M j free)
def lu (L:List Obj) (k:Key) (n:Int):Int:=if aK L k=0 then(if n<1\/aE L k-au L k<n then 4 else 0)else aK L k
def bM (L:List Obj) (k:Key) (n:Int):Int:=if lu L k n=0 then(if fF L k<0\/aE L k-n<fF L k then 221 else if j8 (dw L k) (aE L k-n+1) (aE L k+1)=true then 221 else 0)else lu L k n
def jX (L:List Obj) (k:Key) (n:Int):Bool:=decide (bM L k n=0)
def iS (o:Obj) (a b:Int):Obj:= {o with slots:=(o.slots.put 0 (cI a)).put 1 (cI b)}
def lz (o:Obj) (b:Int):Obj:= {o with slots:=o.slots.put 1 (cI b)}
def bu (L:List Obj) (k:Key) (n:Int):List Obj:=if bM L k n=0 then cC (cC (dw L k) (fF L k).toNat (iS (ah (dw L k) (fF L k).toNat free) (aE L k-n+1) (aE L k))) k.oid.toNat (lz (ah (dw L k) k.oid.toNat free) (aE L k-n))else L
def bO (L:List Obj) (k:Key) (n:Int):Key:=if bM L k n=0 then⟨4,fF L k,(ah (dw L k) (fF L k).toNat free).count,0,0,0⟩else void
def MV:kJ:=Ar (wv QT) (fun L _=>aq L) (fun L x=>jX L x.1 x.2.1) (fun L x=>bu L x.1 x.2.1) fun L x=> [.key (bO L x.1 x.2.1),.it .i64 (bM L x.1 x.2.1)]
def oS (L:List Obj) (k:Key) (n g:Int):Prop:=aE L k-n+1<=g/\g<=aE L k+1/\j8 (dw L k) (aE L k-n+1) g=false
theorem CQ {L:List Obj} {k:Key} {n e:Int} (h:bM L k n=e) (he:e≠0):jX L k n=false/\void=bO L k n/\e=bM L k n:=by
 refine⟨by unfold jX;rw[h];simpa using he,by unfold bO;rw[h,Yu he],h.symm⟩
theorem xL {L:List Obj} {k:Key} {n:Int} (h:aK L k≠0):bM L k n=aK L k:=by
 have e:lu L k n=aK L k:=by unfold lu;rw[Yu h]
 unfold bM;rw[e,Yu h]
theorem Ao {L:List Obj} {k:Key} {n:Int} (h:aK L k=0) (hn:n<1\/aE L k-au L k<n):bM L k n=4:=by
 have e:lu L k n=4:=by unfold lu;rw[Yv h,Yv hn]
 unfold bM;rw[e];rfl
theorem Fl {L:List Obj} {k:Key} {n:Int} (h:aK L k=0) (h1:1<=n) (h2:n<=aE L k-au L k):lu L k n=0:=by
 unfold lu;rw[Yv h,Yu (by omega)]
theorem tD {L:List Obj} {k:Key} {n:Int} (h:lu L k n=0) (hi:fF L k<0\/aE L k-n<fF L k):bM L k n=221:=by
 unfold bM;rw[Yv h,Yv hi]
theorem Cf {L:List Obj} {k:Key} {n:Int} (h:lu L k n=0) (hi:j8 (dw L k) (aE L k-n+1) (aE L k+1)=true):bM L k n=221:=by
 unfold bM;rw[Yv h,Yv hi];split<;>rfl
theorem Ga {L:List Obj} {k:Key} {n:Int} (h:lu L k n=0) (h1:0<=fF L k) (h2:fF L k<=aE L k-n) (hi:j8 (dw L k) (aE L k-n+1) (aE L k+1)=false):bM L k n=0:=by
 unfold bM;rw[Yv h,Yu (by omega),hi];rfl
theorem HB {M:List Obj} {f:Int}:j8 M f f=false:=by
 unfold j8;rw[List.any_eq_false];intro j hj h;simp only[Yo,Yp]at h;omega
theorem C7 {M:List Obj} {f g e:Int} (h0:0<=g) (h1:g<(M.length:Int)) (hf:f<=g) (he:g<e) (hr:lB (ah M g.toNat free)=true):j8 M f e=true:=by
 unfold j8;rw[List.any_eq_true];exact⟨g.toNat,by simp;omega,by rw[hr];simp;omega⟩
theorem Fa {M:List Obj} {f g:Int} (h0:0<=g) (hr:lB (ah M g.toNat free)=false):j8 M f (g+1)=j8 M f g:=by
 unfold j8;rw[Bool.eq_iff_iff,List.any_eq_true,List.any_eq_true];refine exists_congr fun j=>and_congr_right fun _=>?_
 simp only[Yo,Yp];constructor
 ·rintro⟨⟨a,b⟩,c⟩
  refine⟨⟨a,?_⟩,c⟩;by_cases e:(j:Int)=g
  ·rw[show j=g.toNat by omega,hr]at c;simp at c
  ·omega
 ·rintro⟨⟨a,b⟩,c⟩
  exact⟨⟨a,by omega⟩,c⟩
theorem Uh {L:List Obj} {k:Key} (h:aU L k=true):cS k=k.oid:=by
 unfold aU at h;simp only[Yo]at h;unfold cS;rw[Yv h.1.1]
theorem F9 {L:List Obj} {k:Key} (h:(!decide (0<an L))=true):aK L k=1:=by unfold aK;rw[K6 h];rfl
theorem Vg {L:List Obj} {k:Key} (h:(!decide (0<an L))=false) (h2:(!(aU L k&&decide (k.kind=4)))=true):aK L k=190:=by unfold aK;rw[HI h h2];rfl
theorem VH {L:List Obj} {k:Key} (h:(!decide (0<an L))=false) (h2:(!(aU L k&&decide (k.kind=4)))=false) (h3:(!gB (aa L k) (an L))=true):aK L k=220:=by
 have ha:=Fg h h2;rw[(dC (mi h2).1).2.2.2.1]at h3;exact(BF ha (show gB (ah L k.oid.toNat free) (an L)=false by simpa using h3)).1
theorem OB {L:List Obj} {k:Key} (h:(!decide (0<an L))=false) (h2:(!(aU L k&&decide (k.kind=4)))=false) (h3:(!gB (aa L k) (an L))=false):aK L k=0/\((aa L k).slots.at 0).value=au L k/\((aa L k).slots.at 1).value=aE L k:=by
 have ha:=Fg h h2;have e:=(dC (mi h2).1).2.2.2.1;rw[e]at h3;rw[e];exact⟨(tg ha (show gB (ah L k.oid.toNat free) (an L)=true by simpa using h3)).1,rfl,rfl⟩
theorem BM {L:List Obj} {k v:Key} {e:Int} (h:aK L k=e) (he:e≠0):false=iL L k v/\e=aK L k:=by
 refine⟨?_,h.symm⟩;unfold iL;rw[h];simp[he]
theorem rW {L:List Obj} {k v:Key} {e:Int} (h:b8 L k v=e) (he:e≠0):e=b8 L k v/\L=fM L k v:=by
 refine⟨h.symm,?_⟩;unfold fM;rw[h,Yu he]
theorem pZ {L:List Obj} {k v:Key} {e:Int} (h:aK L k=e) (he:e≠0):b8 L k v=e:=by
 unfold b8;rw[h,Yu he]
theorem yA {L:List Obj} {k:Key} {e:Int} (h:aK L k=e) (he:e≠0):(0=eJ L k/\e=aK L k)/\L=gf L k:=by
 unfold eJ gf;rw[h,Yu he,Yu he];exact⟨⟨rfl,rfl⟩,rfl⟩
theorem u4 {L:List Obj} {k:Key} {kind e:Int} (h:fJ L k kind=e) (he:e≠0):(void=cN L k kind/\e=bX L k kind)/\L=eI L k kind:=by
 have e2:bX L k kind=e:=by unfold bX;rw[h,Yu he]
 unfold cN eI;rw[e2,h,Yu he,Yu he];exact⟨⟨rfl,rfl⟩,rfl⟩
theorem pV {L:List Obj} {k:Key} {kind e:Int} (h:aK L k=e) (he:e≠0):fJ L k kind=e:=by unfold fJ;rw[h,Yu he]
theorem Kp {L:List Obj} {k:Key} {kind:Int} (h:aK L k=0) (h2:(!(decide (kind=1)||decide (kind=2)))=true):fJ L k kind=2:=by
 unfold fJ;rw[Yv h,Yu];simp only[Bool.not_eq_true',Bool.or_eq_false_iff,decide_eq_false_iff_not]at h2;omega
theorem oW {L:List Obj} {k:Key} {n e:Int} (h:bM L k n=e) (he:e≠0):(void=bO L k n/\e=bM L k n)/\L=bu L k n:=by
 unfold bO bu;rw[h,Yu he,Yu he];exact⟨⟨rfl,rfl⟩,rfl⟩
theorem tx {L:List Obj} {k:Key} {n e:Int} (h:aK L k=e) (he:e≠0):bM L k n=e:=by rw[xL (by omega),h]
def Oa:Ct:=sF (bk sA NP) (fun _=>none) fun x=> .tp [.bo (iL (Ei x.1) x.2.1 x.2.2.1),.it .i64 (aK (Ei x.1) x.2.1)]
def Px:kJ:=G0 (wv QT) (fun L _=>aq L) (fun L x=> .tp [.key (cN L x.1 x.2.1),.it .i64 (bX L x.1 x.2.1)]) fun L x=>eI L x.1 x.2.1
def S3:kJ:=G0 (wv NP) (fun L _=>aq L) (fun L x=> .it .i64 (b8 L x.1 x.2.1)) fun L x=>fM L x.1 x.2.1
def Qp:kJ:=G0 (wv kB) (fun L _=>aq L) (fun L x=> .tp [.it .i64 (eJ L x.1),.it .i64 (aK L x.1)]) fun L x=>gf L x.1
def Nv:kJ:=G0 (wv QT) (fun L _=>aq L) (fun L x=> .tp [.key (bO L x.1 x.2.1),.it .i64 (bM L x.1 x.2.1)]) fun L x=>bu L x.1 x.2.1
def oP (L:List Obj) (k:Key) (n g:Int):Prop:=au L k<=g/\g<=aE L k+1/\j8 (dw L k) (aE L k-n+1) g=false
def I8 (L M:List Obj) (g:Int):Int:=ah (de L M) g.toNat 0
def H8:List Obj->List Obj->Nat->List Obj
 |L,_,0=>L
 |L,M,g+1=>cW (H8 L M g) (I8 L M (g:Int)) (aR M (I8 L M (g:Int)))
def lI (L M:List Obj) (g:Int):List Obj:=H8 L M g.toNat
def ra (L M:List Obj) (g:Int):Prop:=0<=g/\g<=((de L M).length:Int)
def eu (L:List Obj) (k:Key) (g:Int):Obj:=aR (bE L (au L k) g) g
def pA (L:List Obj) (k:Key) (g:Int):List Obj:=cW (bE L (au L k) g) g (Obj.mk 1 ((eu L k g).count+1) free.calls free.slots free.bytes)
def nu (x:Int):Key:=Key.mk 1 void.oid void.count void.call void.rights x
def Bi (L:List Obj) (k:Key) (n g:Int):Obj:=Obj.mk (aR (pA L k g) g).kind (aR (pA L k g) g).count (aR (pA L k g) g).calls (((aR (pA L k g) g).slots.put 0 (nu (((aa L k).slots.at 1).value-n+1))).put 1 (nu ((aa L k).slots.at 1).value)) (aR (pA L k g) g).bytes
def Bo (L:List Obj) (k:Key) (n g:Int):List Obj:=cW (pA L k g) g (Bi L k n g)
def AS (L:List Obj) (k:Key) (n g:Int):Obj:=Obj.mk (aR (Bo L k n g) k.oid).kind (aR (Bo L k n g) k.oid).count (aR (Bo L k n g) k.oid).calls ((aR (Bo L k n g) k.oid).slots.put 1 (nu (((aa L k).slots.at 1).value-n))) (aR (Bo L k n g) k.oid).bytes
def lF (L:List Obj) (k:Key) (n g:Int):List Obj:=cW (Bo L k n g) k.oid (AS L k n g)
def iG (L:List Obj) (k:Key) (g:Int):Prop:=au L k<=g/\g<=aE L k+1/\jJ L (au L k) g
def qL (L:List Obj) (k:Key) (g:Int):Prop:=au L k<=g/\g<=aE L k+1
def sS (L:List Obj) (k:Key) (g:Int):Prop:=au L k<=g/\g<=aE L k+1/\dX L (au L k) g k.oid=0
def qU (L:List Obj) (k:Key) (g:Int):Prop:=au L k<=g/\g<=aE L k+1/\dX L (au L k) g k.oid≠0
theorem zp {L:List Obj} {k:Key} (h:aU L k=true) (h2:k.kind=4):(ah L k.oid.toNat free).kind=1:=by
 unfold aU at h;simp only[Yo]at h;obtain⟨⟨h1,_⟩,h3⟩:=h;unfold ca at h3;simp only[Yo,Bool.or_eq_true,Yp]at h3;rcases jW k with⟨_,e,h0⟩|⟨e,_⟩
 ·rcases h3.2 with h|h
  ·omega
  ·rw[h.1.1];unfold fP;rw[Yu (by omega),Yu (by omega)]
 ·rw[e]at h1;simp at h1
theorem E8 {o:Obj} {n b:Int} (h:bT o n=true) (hk:o.kind=1):bT (lz o b) n=true:=by
 refine AY h hk fun i hi=>?_
 have:=(jg h).2.2.2.2.1;rw[cQ.gL _ _ _ _ (by omega)]
 split
 ·exact wG (by omega) _
 ·exact uX h hk i hi
theorem Gx {o:Obj} {n a b:Int} (h:bT o n=true) (hk:o.kind=1):bT (iS o a b) n=true:=by
 refine AY h hk fun i hi=>?_
 have:=(jg h).2.2.2.2.1;rw[cQ.gL _ _ _ _ (by omega),cQ.gL _ _ _ _ (by omega)]
 split
 ·exact wG (by omega) _
 split
 ·exact wG (by omega) _
 ·exact uX h hk i hi
theorem R8 {L:List Obj} {k:Key} {g:Int} (hL:aq L) (e:aK L k=0) (hk:(ah L k.oid.toNat free).kind=1) (g0:au L k<=g) (gl:g<=aE L k) (g2:jJ L (au L k) g) (f2:eL (ah L g.toNat free)=true):
  fF L k=g/\eu L k g=ah L g.toNat free/\pA L k g=dw L k/\(dw L k).length=L.length/\aq (dw L k)/\ah (dw L k) g.toNat free=kP (ah L g.toNat free) 1/\ah (dw L k) k.oid.toNat free=ah L k.oid.toNat free/\k.oid.toNat≠g.toNat:=by
 obtain⟨_,a0,a1,a2,a3,a4⟩:=lE e;have hgn:g.toNat<L.length:=by omega
 have hgz:(bE L (au L k) g).length=L.length:=jK;have hgt:aR (bE L (au L k) g) g=ah L g.toNat free:=by rw[gD (by omega) (by omega),AD (by omega)]
 obtain⟨m1,m2,m3⟩:=wP (l:=aE L k) 1 a0 g0 gl (by omega) g2 f2
 have hO:eu L k g=ah L g.toNat free:=hgt;have hnew:=BO (dW hL g.toNat hgn) f2 (.inl rfl);have hp:=(nn (L:=bE L (au L k) g) (i:=g) (x:=kP (ah L g.toNat free) 1) (by omega) (by omega) (by rw[hgz];exact hnew)).1
 have hP:pA L k g=dw L k:=by
  unfold pA;rw[hO];exact hp.trans m3.symm
 have hne:k.oid.toNat≠g.toNat:=fun h=>by
  rw[h]at hk;unfold eL at f2;simp only[Yo,Yp]at f2;omega
 have hM:dw L k=cC (bE L (au L k) g) g.toNat (kP (ah L g.toNat free) 1):=m3;have hko:k.oid.toNat<L.length:=by omega
 refine⟨m1,hO,hP,sO,?_,?_,?_,hne⟩
 ·rw[hM];exact m5 (Ey hL) (by rw[hgz];exact hnew)
 ·rw[hM,gp (by rw[hgz];exact hgn),Yv rfl]
 ·rw[hM,gp (by rw[hgz];exact hgn),Yu hne]
  unfold bE;rw[jH hko,Yu];simp only[iJ,hk,Yo,Yp];omega
theorem RI {L:List Obj} {k:Key} {n g:Int} (hL:aq L) (e:aK L k=0) (hk:(ah L k.oid.toNat free).kind=1) (hB:((aa L k).slots.at 1).value=aE L k) (g0:au L k<=g) (gl:g<=aE L k) (g2:jJ L (au L k) g) (f2:eL (ah L g.toNat free)=true) (h:bM L k n=0):
  lF L k n g=bu L k n/\aq (bu L k n)/\(bu L k n).length=L.length/\Key.mk 4 g ((eu L k g).count+1) 0 0 0=bO L k n:=by
 obtain⟨i1,i2,i3,i4,i5,i6,i7,i8⟩:=R8 hL e hk g0 gl g2 f2;obtain⟨_,a0,a1,a2,a3,a4⟩:=lE e;have hgM:aR (dw L k) g=ah (dw L k) g.toNat free:=gD (by omega) (by omega)
 have hR1:Bi L k n g=iS (ah (dw L k) g.toNat free) (aE L k-n+1) (aE L k):=by
  unfold Bi;rw[i3,hgM,hB];rfl
 have o1:bT (iS (ah (dw L k) g.toNat free) (aE L k-n+1) (aE L k)) ((dw L k).length:Int)=true:=Gx (dW i5 g.toNat (by omega)) (by rw[i6];rfl)
 have hP2:Bo L k n g=cC (dw L k) g.toNat (iS (ah (dw L k) g.toNat free) (aE L k-n+1) (aE L k)):=by
  unfold Bo;rw[i3,hR1];exact(nn (by omega) (by omega) o1).1
 have ok2:=m5 (i:=g.toNat) i5 o1;have l2:(cC (dw L k) g.toNat (iS (ah (dw L k) g.toNat free) (aE L k-n+1) (aE L k))).length=L.length:=by rw[jD];exact i4
 have g2':aR (Bo L k n g) k.oid=ah (dw L k) k.oid.toNat free:=by
  rw[hP2,gD (by omega) (by omega),gp (by omega),Yu i8]
 have hR2:AS L k n g=lz (ah (dw L k) k.oid.toNat free) (aE L k-n):=by
  unfold AS;rw[g2',hB];rfl
 have o2:bT (lz (ah (dw L k) k.oid.toNat free) (aE L k-n)) (L.length:Int)=true:=E8 (by rw[<-i4];exact dW i5 k.oid.toNat (by omega)) (by rw[i7];exact hk)
 have hlast:bu L k n=cC (cC (dw L k) g.toNat (iS (ah (dw L k) g.toNat free) (aE L k-n+1) (aE L k))) k.oid.toNat (lz (ah (dw L k) k.oid.toNat free) (aE L k-n)):=by
  unfold bu;rw[Yv h,i1]
 refine⟨?_,?_,?_,?_⟩
 ·unfold lF;rw[hR2,hP2,hlast];exact(nn (by omega) (by omega) (by rw[l2];exact o2)).1
 ·rw[hlast];exact m5 ok2 (by rw[l2];exact o2)
 ·rw[hlast,jD];exact l2
 ·unfold bO;rw[Yv h,i1,i6,i2];rfl
theorem Oo {L M:List Obj} {x:Int} (h:x∈de L M):0<=x/\x<(L.length:Int):=by
 unfold de gH at h;rw[List.mem_map]at h;obtain⟨j,h1,rfl⟩:=h;have:=List.mem_range.1 (List.mem_filter.1 h1).1;unfold aj at this;exact⟨Int.natCast_nonneg j,by show(j:Int)<_;omega⟩
theorem S5 {L M:List Obj} {i:Nat} (h:i<(de L M).length):ah (de L M) i 0∈de L M:=by
 unfold ah;rw[Yt,List.getElem?_eq_getElem h];exact List.getElem_mem h
theorem Qm {L M:List Obj} {j:Nat} (hj:j<L.length) (h:ah L j free≠ah M j free):∃i,i<(de L M).length/\ah (de L M) i 0=(j:Int):=by
 have:(j:Int)∈de L M:=by
  unfold de gH;rw[List.mem_map];refine⟨j,List.mem_filter.2 ⟨List.mem_range.2 (by unfold aj;omega),?_⟩,rfl⟩
  simp[Dm,h]
 obtain⟨i,hi,e⟩:=List.mem_iff_getElem.1 this;refine⟨i,hi,?_⟩;unfold ah;rw[Yt,List.getElem?_eq_getElem hi,e];rfl
theorem Ls {L M:List Obj} (hl:M.length=L.length) (hM:aq M):∀g:Nat,g<=(de L M).length->(H8 L M g).length=L.length/\(∀j,j<L.length->ah (H8 L M g) j free=ah L j free\/ah (H8 L M g) j free=ah M j free)/\
  ∀i,i<g->ah (H8 L M g) (ah (de L M) i 0).toNat free=ah M (ah (de L M) i 0).toNat free
 |0,_=>⟨rfl,fun j hj=> .inl rfl,fun i hi=>by omega⟩
 |g+1,hg=>by
  obtain⟨h1,h2,h3⟩:=Ls hl hM g (by omega)
  obtain⟨u1,u2⟩:=Oo (S5 (L:=L) (M:=M) (i:=g) (by omega))
  have e:I8 L M (g:Int)=ah (de L M) g 0:=rfl;generalize hu:ah (de L M) g 0=u at *
  have hp:=(nn (L:=H8 L M g) (i:=u) (x:=ah M u.toNat free) u1 (by omega) (by rw[h1,<-hl];exact dW hM _ (by omega))).1
  have hs:H8 L M (g+1)=cC (H8 L M g) u.toNat (ah M u.toNat free):=by
   simp only[H8];rw[e,gD u1 (by omega)]
   exact hp
  rw[hs];refine⟨by rw[jD];exact h1,fun j hj=>?_,fun i hi=>?_⟩
  ·rw[gp (by omega)]
   split
   ·rename_i hj';rw[hj'];exact .inr rfl
   ·exact h2 j hj
  ·rw[gp (by omega)]
   split
   ·rename_i hj';rw[hj']
   ·rename_i hne;by_cases hig:i=g
    ·rw[hig,hu]at hne;exact absurd rfl hne
    ·exact h3 i (by omega)
theorem NY {L M:List Obj} (hl:M.length=L.length) (hM:aq M) {g:Int} (hg:g=((de L M).length:Int)):lI L M g=M:=by
 obtain⟨h1,h2,h3⟩:=Ls hl hM (de L M).length (Nat.le_refl _);have e:lI L M g=H8 L M (de L M).length:=by unfold lI;rw[hg];rfl
 rw[e];refine pL (by omega) fun j hj=>?_
 by_cases hne:ah L j free=ah M j free
 ·rcases h2 j (by omega)with h|h
  ·rw[h,hne]
  ·exact h
 ·obtain⟨i,hi,hij⟩:=Qm (by omega) hne
  have:=h3 i hi;rw[hij]at this;exact this
theorem IK {L M:List Obj} {g:Int} (h0:0<=g):cW (lI L M g) (ah (de L M) g.toNat 0) (aR M (ah (de L M) g.toNat 0))=lI L M (g+1):=by
 unfold lI;rw[show(g+1).toNat=g.toNat+1 by omega]
 simp only[H8];rfl
theorem Ns {L M:List Obj} (hl:M.length=L.length) (h:1<=L.length):jo L M=false:=by
 unfold jo bC aj;simp only[hl,show decide (L.length=0)=false from decide_eq_false (by omega),Bool.false_or,decide_true,Bool.not_true]
theorem FV {M:List Obj} {f g:Int} (h:g<=f):j8 M f g=false:=by
 unfold j8;rw[List.any_eq_false];intro j _;simp only[Yo,Yp,not_and];intro h1 h2;omega
theorem PL {L M:List Obj}:(de L M).length<=L.length:=by
 unfold de gH;rw[List.length_map];have:=List.length_filter_le (fun j=> !Dm (ah L j free) (ah M j free)) (List.range (aj L:Int).toNat)
 simpa[aj]using this
structure X4 where
 kind:Int
 num:Int
 bank:Key
 key:Key
 obj:Int
def X4.wf (x:X4):Prop:=bY .i64 x.kind/\bY .i64 x.num/\x.bank.wf/\x.key.wf/\bY .i64 x.obj
theorem Hv {L M:List Obj} {k:Key} {d:Int} {c:Bool} (hl:M.length=L.length) (h1:(ah M k.oid.toNat free).kind=(ah L k.oid.toNat free).kind) (h2:(ah M k.oid.toNat free).count=(ah L k.oid.toNat free).count) (h3:(ah M k.oid.toNat free).calls=(ah L k.oid.toNat free).calls):ay M k d c=ay L k d c:=by
 have hi:aU M k=aU L k:=by
  unfold aU cR ca aj;rw[hl,h1,h2,h3]
 unfold ay aj;rw[hl,hi]
theorem Qa {L:List Obj} {k:Key} (h:aK L k=0):gB (ah L k.oid.toNat free) (L.length:Int)=true/\(ah L k.oid.toNat free).kind=1:=by
 obtain⟨ha,_⟩:=lE h;obtain⟨i1,i2,_⟩:=fH ha;refine⟨?_,zp i1 i2⟩;unfold aK at h;rw[Yv ha]at h;split at h
 ·rename_i hc;exact hc
 ·omega
theorem MZ {L:List Obj} {f l kind:Int} {j:Nat} (h0:0<=f) (hj:j<L.length) (hk:(ah L j free).kind≠0):ah (cg L f l kind) j free=ah L j free:=by
 have hG:∀g,ah (bE L f g) j free=ah L j free:=fun g=>by
  unfold bE;rw[jH hj,Yu];simp only[iJ,Yo,Yp];omega
 unfold cg;split
 ·exact hG _
 ·rename_i hi;rcases uN (L:=L) (l:=l) h0 with e|⟨a,b,c,d⟩
  ·exact absurd e hi
  ·rw[gp (by rw[jK];omega),Yu,hG]
   intro e;rw[<-e]at d;unfold eL at d;simp only[Yo,Yp]at d;exact hk d.1
theorem Lg {L:List Obj} {f l kind:Int} (hL:aq L) (h0:0<=f) (hk:kind=1\/kind=2):aq (cg L f l kind):=by
 unfold cg;split
 ·exact Ey hL
 ·rename_i hi;rcases uN (L:=L) (l:=l) h0 with e|⟨a,b,c,d⟩
  ·exact absurd e hi
  ·exact m5 (Ey hL) (by rw[jK];exact BO (dW hL _ (by omega)) d hk)
theorem Fm {L:List Obj} {k:Key} {kind:Int} (hL:aq L):aq (eI L k kind):=by
 unfold eI;split
 ·rename_i h
  have he:aK L k=0:=by
   unfold fJ at h;split at h
   ·assumption
   ·rename_i h';exact absurd h h'
  refine Lg hL (lE he).2.1 ?_;unfold fJ at h;rw[Yv he]at h;split at h
  ·assumption
  ·omega
 ·exact hL
theorem L2 {L:List Obj} {k:Key} {n:Int} (hL:aq L) (e:aK L k=0) (h:bM L k n=0):
  aq (bu L k n)/\(bu L k n).length=L.length/\aK (bu L k n) k=0/\au (bu L k n) k=au L k/\aE (bu L k n) k=aE L k-n/\
  aK (bu L k n) (bO L k n)=0/\au (bu L k n) (bO L k n)=aE L k-n+1/\aE (bu L k n) (bO L k n)=aE L k/\au L k<=(bO L k n).oid/\(bO L k n).oid<=aE L k-n/\1<=n/\n<=aE L k-au L k/\
  eL (ah L (bO L k n).oid.toNat free)=true:=by
 obtain⟨ha,a0,a1,a2,a3,a4⟩:=lE e;obtain⟨hok,hk1⟩:=Qa e;obtain⟨x1,x2⟩:=kG hL;have h':=h;unfold bM at h;split at h
 case isFalse h2=>exact absurd h h2
 rename_i hE0;split at h
 case isTrue=>omega
 rename_i hI
 have hn:1<=n/\n<=aE L k-au L k:=by
  unfold lu at hE0;rw[Yv e]at hE0;split at hE0
  ·omega
  ·omega
 have hin:=uN (L:=L) (l:=aE L k) a0;have hIe:bh L (au L k) (aE L k)=fF L k:=rfl;have hne1:bh L (au L k) (aE L k)≠ -1:=by rw[hIe];omega
 rw[hIe]at hin;rcases hin with hin|⟨i1,i2,i3,i4⟩
 ·omega
 have hMlen:(dw L k).length=L.length:=sO;have hMok:aq (dw L k):=Lg hL a0 (.inl rfl);have hMI:ah (dw L k) (fF L k).toNat free=kP (ah L (fF L k).toNat free) 1:=LV a0 hne1;have UO:ah (dw L k) k.oid.toNat free=ah L k.oid.toNat free:=MZ a0 (by omega) (by omega)
 have hne:k.oid.toNat≠(fF L k).toNat:=fun hh=>by
  rw[hh]at hk1;unfold eL at i4;simp only[Yo,Yp]at i4;omega
 have hLL:bu L k n=cC (cC (dw L k) (fF L k).toNat (iS (ah (dw L k) (fF L k).toNat free) (aE L k-n+1) (aE L k))) k.oid.toNat (lz (ah (dw L k) k.oid.toNat free) (aE L k-n)):=by
  unfold bu;rw[Yv h']
 have hKK:bO L k n=⟨4,fF L k,(ah L (fF L k).toNat free).count+1,0,0,0⟩:=by
  unfold bO;rw[Yv h',hMI];rfl
 have o1:bT (iS (ah (dw L k) (fF L k).toNat free) (aE L k-n+1) (aE L k)) (L.length:Int)=true:=Gx (by rw[<-hMlen];exact dW hMok _ (by omega)) (by rw[hMI];rfl)
 have o2:bT (lz (ah (dw L k) k.oid.toNat free) (aE L k-n)) (L.length:Int)=true:=E8 (by rw[<-hMlen];exact dW hMok _ (by omega)) (by rw[UO];exact hk1)
 have l1:(cC (dw L k) (fF L k).toNat (iS (ah (dw L k) (fF L k).toNat free) (aE L k-n+1) (aE L k))).length=L.length:=by rw[jD];exact hMlen
 have okX:=m5 (i:=(fF L k).toNat) hMok (by rw[hMlen];exact o1)
 have hlen:(bu L k n).length=L.length:=by rw[hLL,jD];exact l1
 have hokL:aq (bu L k n):=by rw[hLL];exact m5 okX (by rw[l1];exact o2)
 have hgk:ah (bu L k n) k.oid.toNat free=lz (ah L k.oid.toNat free) (aE L k-n):=by
  rw[hLL,gp (by omega),Yv rfl,UO]
 have hgI:ah (bu L k n) (fF L k).toNat free=iS (kP (ah L (fF L k).toNat free) 1) (aE L k-n+1) (aE L k):=by
  rw[hLL,gp (by omega),Yu (Ne.symm hne),gp (by omega),Yv rfl,hMI]
 have s2:∀(o:Obj) (b:Int),(lz o b).slots.at 0=o.slots.at 0/\(lz o b).slots.at 1=cI b:=fun o b=>by
  unfold lz;simp only;rw[cQ.gL _ _ _ _ (by omega),cQ.gL _ _ _ _ (by omega)]
  exact⟨rfl,rfl⟩
 have s1:∀(o:Obj) (a b:Int),(iS o a b).slots.at 0=cI a/\(iS o a b).slots.at 1=cI b:=fun o a b=>by
  unfold iS;simp only;rw[cQ.gL _ _ _ _ (by omega),cQ.gL _ _ _ _ (by omega),cQ.gL _ _ _ _ (by omega)]
  exact⟨rfl,rfl⟩
 have hask:ay (bu L k n) k 4 false=0:=by
  rw[Hv hlen (by rw[hgk];rfl) (by rw[hgk];rfl) (by rw[hgk];rfl)];exact ha
 unfold gB at hok;simp only[Yo,Yp]at hok;obtain⟨⟨⟨⟨c1,c2⟩,c3⟩,c4⟩,c5⟩:=hok;have hA':au (bu L k n) k=au L k:=by unfold au;rw[hgk,(s2 _ _).1]
 have hB':aE (bu L k n) k=aE L k-n:=by
  have:aE (bu L k n) k=((lz (ah L k.oid.toNat free) (aE L k-n)).slots.at 1).value:=by rw[<-hgk];rfl
  rw[this,(s2 _ _).2];rfl
 have hE':aK (bu L k n) k=0:=(tg hask (by
  rw[hgk];unfold gB aj;rw[(s2 _ _).1,(s2 _ _).2,hlen];have v0:((ah L k.oid.toNat free).slots.at 0).value=au L k:=rfl;simp only[cI,Yo,Yp];refine⟨⟨⟨⟨c1,?_⟩,c3⟩,?_⟩,?_⟩
  ·trivial
  ·exact decide_eq_true (by omega)
  ·exact decide_eq_true (by omega))).1
 have i4':=i4;unfold eL at i4';simp only[Yo,Yp]at i4';have hcb:=jg (dW hL (fF L k).toNat (by omega))
 have hkey:aT (bO L k n)=true:=by
  rw[hKK];unfold aT fG;simp only[dG,gd,jZ,eP];simp;omega
 have hoid:(bO L k n).oid=fF L k:=by rw[hKK]
 have hisO:dG (bO L k n).kind=true:=by rw[hKK];rfl
 have hnm:bg (bO L k n)=true:=by unfold bg;rw[hkey,hisO];rfl
 have hnames:aY (bO L k n)=fF L k:=by unfold aY;rw[hkey,hisO,hoid];rfl
 have hcounts:ca (bO L k n) (ah (bu L k n) (bO L k n).oid.toNat free)=true:=by
  unfold ca fP;rw[hkey,hnames,hoid,hgI,Yu (by omega),hKK]
  simp[iS,kP]
 have his:aU (bu L k n) (bO L k n)=true:=by
  unfold aU;rw[hnm,hcounts,kx.2 ⟨by omega,by omega⟩];rfl
 have hask2:ay (bu L k n) (bO L k n) 4 false=0:=by
  unfold ay aj;rw[Yu (by omega),Yu (by rw[his,hKK];simp),Yu (by simp)]
 have hobj:ah (bu L k n) (bO L k n).oid.toNat free=iS (kP (ah L (fF L k).toNat free) 1) (aE L k-n+1) (aE L k):=by rw[hoid];exact hgI
 refine⟨hokL,hlen,hE',hA',hB',(tg hask2 ?_).1,?_,?_,by rw[hoid];exact i1,by rw[hoid];omega,hn.1,hn.2,by rw[hoid];exact i4⟩
 ·rw[hobj];unfold gB aj;rw[(s1 _ _ _).1,(s1 _ _ _).2,hlen];simp only[cI,Yo,Yp];refine⟨⟨⟨⟨?_,?_⟩,?_⟩,?_⟩,?_⟩
  ·trivial
  ·trivial
  ·exact decide_eq_true (by omega)
  ·exact decide_eq_true (by omega)
  ·exact decide_eq_true (by omega)
 ·unfold au;rw[hobj,(s1 _ _ _).1];rfl
 ·have:aE (bu L k n) (bO L k n)=((iS (kP (ah L (fF L k).toNat free) 1) (aE L k-n+1) (aE L k)).slots.at 1).value:=by rw[<-hobj];rfl
  rw[this,(s1 _ _ _).2];rfl
end Go.Sx
