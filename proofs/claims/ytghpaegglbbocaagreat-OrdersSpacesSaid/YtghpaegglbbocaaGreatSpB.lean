import Derived.Test.YtghpaegglbbocaaGreatSpP
import Derived.Test.YtghpaegglbbocaaGreatKS
set_option linter.unusedSimpArgs false
set_option linter.unusedVariables false
namespace Go.Sx
def iy (o:Obj):Bool:=decide (o.kind=0)&&decide (4294967295<=o.count)
def eJ (o:Obj):Bool:=decide (o.kind=0)&&decide (o.count<4294967295)
def D1 (o:Obj):Obj:=⟨3,o.count,0,fV,fT⟩
def kT (o:Obj) (kind:Int):Obj:=⟨kind,o.count+1,0,fV,fT⟩
def x9 (o:Obj):Obj:=⟨0,o.count,0,fV,fT⟩
def kh (L:List Obj) (p:Nat->Obj->Bool) (t:Obj->Obj):List Obj:=(List.range L.length).map fun j=>if p j (ah L j free)then t (ah L j free)else ah L j free
def bE (L:List Obj) (f g:Int):List Obj:=kh L (fun j o=>decide (f<=(j:Int))&&decide ((j:Int)<g)&&iy o) D1
def jE (L:List Obj) (f g:Int):Prop:=∀j:Nat,f<=(j:Int)->(j:Int)<g->eJ (ah L j free)=false
def kQ (L:List Obj) (f g:Int):Bool:=(List.range L.length).any fun(j:Nat)=>decide (f<=(j:Int))&&decide ((j:Int)<g)&&iy (ah L j free)
def bj (L:List Obj) (f l:Int):Int:=match (List.range L.length).find? fun(j:Nat)=>decide (f<=(j:Int))&&decide ((j:Int)<=l)&&eJ (ah L j free)with
 |some j=>(j:Int)
 |none=> -1
def b9 (L:List Obj) (f l kind:Int):List Obj:=if bj L f l= -1 then bE L f (l+1)else cx (bE L f (bj L f l)) (bj L f l).toNat (kT (ah L (bj L f l).toNat free) kind)
def km (L:List Obj) (f l:Int):Bool:= !decide (bj L f l= -1)||kQ L f (l+1)
def cI (kind oid count:Int):Key:=⟨if kind=2 then 3 else 2,oid,count,0,0,0⟩
def gy (o:Obj) (n:Int):Bool:=decide ((o.slots.at 0).kind=1)&&decide ((o.slots.at 1).kind=1)&&decide (0<=(o.slots.at 0).value)&&decide ((o.slots.at 0).value<=(o.slots.at 1).value)&&decide ((o.slots.at 1).value<n)
def aK (L:List Obj) (k:Key):Int:=if aw L k 4 false=0 then(if gy (ah L k.oid.toNat free) (aj L:Int)then 0 else 220)else aw L k 4 false
def au (L:List Obj) (k:Key):Int:=((ah L k.oid.toNat free).slots.at 0).value
def aD (L:List Obj) (k:Key):Int:=((ah L k.oid.toNat free).slots.at 1).value
def aG (L:List Obj) (k:Key):Int:=if aK L k=0 then au L k else 0
def az (L:List Obj) (k:Key):Int:=if aK L k=0 then aD L k else 0
def fG (L:List Obj) (k:Key) (kind:Int):Int:=if aK L k=0 then(if kind=1\/kind=2 then 0 else 2)else aK L k
def bW (L:List Obj) (k:Key) (kind:Int):Int:=if fG L k kind=0 then(if bj L (au L k) (aD L k)= -1 then 221 else 0)else fG L k kind
def eF (L:List Obj) (k:Key) (kind:Int):List Obj:=if fG L k kind=0 then b9 L (au L k) (aD L k) kind else L
def fL (L:List Obj) (k:Key) (kind:Int):Bool:=decide (fG L k kind=0)&&km L (au L k) (aD L k)
def cH (L:List Obj) (k:Key) (kind:Int):Key:=if bW L k kind=0 then cI kind (bj L (au L k) (aD L k)) ((ah L (bj L (au L k) (aD L k)).toNat free).count+1)else void
def gU (L:List Obj) (v:Key):Bool:=aU L v&&(decide (v.kind=2)||decide (v.kind=3))
def b6 (L:List Obj) (k v:Key):Int:=if aK L k=0 then(if gU L v then(if au L k<=v.oid/\v.oid<=aD L k/\v.oid≠k.oid then 0 else 4)else 5)else aK L k
def fK (L:List Obj) (k v:Key):List Obj:=if b6 L k v=0 then cx L v.oid.toNat (x9 (ah L v.oid.toNat free))else L
def iP (L:List Obj) (k v:Key):Bool:=decide (b6 L k v=0)
def lg (o:Obj):Bool:=decide (o.kind=1)||decide (o.kind=2)
def kc (f g oid:Int) (j:Nat) (o:Obj):Bool:=decide (f<=(j:Int))&&decide ((j:Int)<g)&&lg o&& !decide ((j:Int)=oid)
def dn (L:List Obj) (f g oid:Int):List Obj:=kh L (kc f g oid) x9
def dY (L:List Obj) (f g oid:Int):Int:=(((List.range L.length).filter fun j=>kc f g oid j (ah L j free)).length:Int)
def ga (L:List Obj) (k:Key):List Obj:=if aK L k=0 then dn L (au L k) (aD L k+1) k.oid else L
def eO (L:List Obj) (k:Key):Int:=if aK L k=0 then dY L (au L k) (aD L k+1) k.oid else 0
def jI (L:List Obj) (k:Key):Bool:=decide (aK L k=0)&& !decide (dY L (au L k) (aD L k+1) k.oid=0)
def iD (L:List Obj) (k v:Key):Bool:=decide (aK L k=0)&&gU L v&&decide (au L k<=v.oid)&&decide (v.oid<=aD L k)
theorem gZ {L:List Obj} {p:Nat->Obj->Bool} {t:Obj->Obj}:(kh L p t).length=L.length:=by simp[kh]
theorem jy {L:List Obj} {p:Nat->Obj->Bool} {t:Obj->Obj} {j:Nat} (h:j<L.length):ah (kh L p t) j free=if p j (ah L j free)then t (ah L j free)else ah L j free:=by
 rw[show ah (kh L p t) j free=(kh L p t).getD j free from rfl,XP];unfold kh;rw[List.getElem?_map,List.getElem?_range h];rfl
theorem xE {L:List Obj} {p:Nat->Obj->Bool} {t:Obj->Obj} (h:∀j,j<L.length->p j (ah L j free)=false):kh L p t=L:=by
 refine qc gZ fun j hj=>?_
 rw[gZ]at hj;rw[jy hj,h j hj];rfl
theorem Dd {L:List Obj} {p p':Nat->Obj->Bool} {t:Obj->Obj} {g:Nat} (hg:g<L.length) (hp:∀j,j≠g->p' j (ah L j free)=p j (ah L j free)) (h1:p' g (ah L g free)=true):
  cx (kh L p t) g (t (ah L g free))=kh L p' t:=by
 refine qc (by rw[jt,gZ,gZ]) fun j hj=>?_
 rw[jt,gZ]at hj;rw[gh (by rw[gZ];exact hg),jy hj,jy hj]
 by_cases e:j=g
 ·subst e;rw[XR rfl,h1,XR rfl]
 ·rw[XQ e,hp j e]
theorem yH {L:List Obj} {p p':Nat->Obj->Bool} {t:Obj->Obj} (hp:∀j,j<L.length->p' j (ah L j free)=p j (ah L j free)):kh L p' t=kh L p t:=by
 refine qc (by rw[gZ,gZ]) fun j hj=>?_
 rw[gZ]at hj;rw[jy hj,jy hj,hp j hj]
theorem jH {L:List Obj} {f g:Int}:(bE L f g).length=L.length:=gZ
theorem Cf {L:List Obj} {f:Int}:L=bE L f f:=by
 symm
 refine xE fun j hj=>?_
 simp only[Bool.and_eq_false_iff,decide_eq_false_iff_not];omega
theorem AQ {L:List Obj} {f g:Int} (h0:0<=g):ah (bE L f g) g.toNat free=ah L g.toNat free:=by
 by_cases h:g.toNat<L.length
 ·unfold bE;rw[jy h,XQ];simp only[XK,XL];omega
 ·rw[show ah (bE L f g) g.toNat free=free by simp[ah,XP,List.getElem?_eq_none (show(bE L f g).length<=g.toNat by rw[jH];omega)]]
  simp[ah,XP,List.getElem?_eq_none (show L.length<=g.toNat by omega)]
theorem vP {L:List Obj} {f g:Int} (h0:0<=g) (h1:g<(L.length:Int)) (hf:f<=g) (hr:iy (ah L g.toNat free)=true):cx (bE L f g) g.toNat (D1 (ah L g.toNat free))=bE L f (g+1):=by
 refine Dd (by omega) (fun j hj=>?_) ?_
 ·have:decide ((j:Int)<g+1)=decide ((j:Int)<g):=by rw[decide_eq_decide];omega
  rw[this]
 ·rw[hr];simp;omega
theorem xN {L:List Obj} {f g:Int} (h0:0<=g) (hr:iy (ah L g.toNat free)=false):bE L f (g+1)=bE L f g:=by
 refine yH fun j hj=>?_
 by_cases e:(j:Int)=g
 ·rw[show j=g.toNat by omega,hr,Bool.and_false,Bool.and_false]
 ·have:decide ((j:Int)<g+1)=decide ((j:Int)<g):=by rw[decide_eq_decide];omega
  rw[this]
theorem SI {L:List Obj} {f l g:Int} (h0:0<=f) (hf:f<=g) (hl:g<=l) (hg:g<(L.length:Int)) (hn:jE L f g) (hw:eJ (ah L g.toNat free)=true):bj L f l=g:=by
 unfold bj
 have:(List.range L.length).find? (fun(j:Nat)=>decide (f<=(j:Int))&&decide ((j:Int)<=l)&&eJ (ah L j free))=some g.toNat:=by
  rw[List.find?_eq_some_iff_getElem];refine⟨by rw[hw];simp;omega,g.toNat,by simp;omega,by simp,fun j hj=>?_⟩
  simp only[List.getElem_range,Bool.not_eq_true',Bool.and_eq_false_iff,decide_eq_false_iff_not];by_cases e:f<=(j:Int)
  ·right;exact hn j e (by omega)
  ·left;left;exact e
 rw[this];show((g.toNat:Nat):Int)=g
 omega
theorem LL {L:List Obj} {f l:Int} (hn:jE L f (l+1)):bj L f l= -1:=by
 unfold bj
 have:(List.range L.length).find? (fun(j:Nat)=>decide (f<=(j:Int))&&decide ((j:Int)<=l)&&eJ (ah L j free))=none:=by
  rw[List.find?_eq_none];intro j hj h;simp only[XK,XL]at h;rw[hn j h.1.1 (by omega)]at h
  simp at h
 rw[this]
theorem iS {L:List Obj} {f g:Int} (h:jE L f g) (hg:eJ (ah L g.toNat free)=false):jE L f (g+1):=fun j h1 h2=>by
 by_cases e:(j:Int)=g
 ·rw[show j=g.toNat by omega];exact hg
 ·exact h j h1 (by omega)
theorem rG {L:List Obj} {f:Int}:jE L f f:=fun j h1 h2=>by omega
theorem Hm {L:List Obj} {f:Int}:kQ L f f=false:=by
 unfold kQ;rw[List.any_eq_false];intro j hj h;simp only[XK,XL]at h;omega
theorem CW {L:List Obj} {f g:Int} (h0:0<=g) (h1:g<(L.length:Int)) (hf:f<=g) (hr:iy (ah L g.toNat free)=true):kQ L f (g+1)=true:=by
 unfold kQ;rw[List.any_eq_true];exact⟨g.toNat,by simp;omega,by rw[hr];simp;omega⟩
theorem FA {L:List Obj} {f g:Int} (h0:0<=g) (hr:iy (ah L g.toNat free)=false):kQ L f (g+1)=kQ L f g:=by
 unfold kQ;rw[Bool.eq_iff_iff,List.any_eq_true,List.any_eq_true];refine exists_congr fun j=>and_congr_right fun _=>?_
 simp only[XK,XL];constructor
 ·rintro⟨⟨a,b⟩,c⟩
  refine⟨⟨a,?_⟩,c⟩;by_cases e:(j:Int)=g
  ·rw[show j=g.toNat by omega,hr]at c;simp at c
  ·omega
 ·rintro⟨⟨a,b⟩,c⟩
  exact⟨⟨a,by omega⟩,c⟩
theorem A1 {L:List Obj} {f g oid:Int}:(dn L f g oid).length=L.length:=gZ
theorem xW {L:List Obj} {f g oid:Int} (h:dY L f g oid=0):dn L f g oid=L:=by
 refine xE fun j hj=>?_
 unfold dY at h;have h2:((List.range L.length).filter fun j=>kc f g oid j (ah L j free))= []:=List.eq_nil_of_length_eq_zero (by omega)
 rw[List.filter_eq_nil_iff]at h2;have:=h2 j (by simp;omega)
 simpa using this
theorem sX {L:List Obj} {f oid:Int}:dY L f f oid=0:=by
 unfold dY;rw[show((List.range L.length).filter fun j=>kc f f oid j (ah L j free))= []from ?_]
 ·rfl
 ·rw[List.filter_eq_nil_iff];intro j hj;unfold kc;simp only[XK,XL];omega
theorem Ip {L:List Obj} {f oid:Int}:L=dn L f f oid:=(xW sX).symm
theorem Iz {L:List Obj} {f g oid:Int} (h0:0<=g):ah (dn L f g oid) g.toNat free=ah L g.toNat free:=by
 by_cases h:g.toNat<L.length
 ·unfold dn;rw[jy h,XQ];unfold kc;simp only[XK,XL];omega
 ·rw[show ah (dn L f g oid) g.toNat free=free by simp[ah,XP,List.getElem?_eq_none (show(dn L f g oid).length<=g.toNat by rw[A1];omega)]]
  simp[ah,XP,List.getElem?_eq_none (show L.length<=g.toNat by omega)]
def ja (L:List Obj) (g oid:Int):Bool:=lg (ah L g.toNat free)&& !decide (g=oid)
theorem Bk {L:List Obj} {f g oid:Int} (h0:0<=g) (hf:f<=g):kc f (g+1) oid g.toNat (ah L g.toNat free)=ja L g oid:=by
 unfold kc ja;rw[show((g.toNat:Nat):Int)=g by omega]
 have a:decide (f<=g)=true:=by simp;omega
 have b:decide (g<g+1)=true:=by simp;omega
 rw[a,b];simp
theorem vS {L:List Obj} {f g oid:Int} {j:Nat} (h:(j:Int)≠g) (o:Obj):kc f (g+1) oid j o=kc f g oid j o:=by
 unfold kc;have:decide ((j:Int)<g+1)=decide ((j:Int)<g):=by rw[decide_eq_decide];omega
 rw[this]
theorem At {f g oid:Int} {j:Nat} (h:(j:Int)=g) (o:Obj):kc f g oid j o=false:=by
 unfold kc;have:decide ((j:Int)<g)=false:=by simp;omega
 rw[this];simp
theorem Ac {L:List Obj} {f g oid:Int} (h0:0<=g) (h1:g<(L.length:Int)) (hf:f<=g) (hr:ja L g oid=true):cx (dn L f g oid) g.toNat (x9 (ah L g.toNat free))=dn L f (g+1) oid:=
 Dd (by omega) (fun j hj=>vS (L:=L) (by omega) _) (by rw[Bk h0 hf];exact hr)
theorem yd {L:List Obj} {f g oid:Int} (h0:0<=g) (hf:f<=g) (hr:ja L g oid=false):dn L f (g+1) oid=dn L f g oid:=by
 refine yH fun j hj=>?_
 by_cases e:(j:Int)=g
 ·rw[show j=g.toNat by omega,Bk h0 hf,hr,At (by omega)]
 ·exact vS (L:=L) e _
theorem ua {L:List Obj} {f g oid:Int} (h0:0<=g) (hf:f<=g) (hr:ja L g oid=false):dY L f (g+1) oid=dY L f g oid:=by
 unfold dY;rw[show((List.range L.length).filter fun j=>kc f (g+1) oid j (ah L j free))=(List.range L.length).filter fun j=>kc f g oid j (ah L j free)from List.filter_congr fun j hj=>?_]
 by_cases e:(j:Int)=g
 ·rw[show j=g.toNat by omega,Bk h0 hf,hr,At (by omega)]
 ·exact vS (L:=L) e _
theorem filter_one {l:List Nat} {p p':Nat->Bool} {g:Nat} (hn:l.Nodup) (hg:g∈l) (hp:∀j,j≠g->p' j=p j) (h0:p g=false) (h1:p' g=true):(l.filter p').length=(l.filter p).length+1:=by
 induction l with
 |nil=>simp at hg
 |cons a l ih=>
  rw[List.nodup_cons]at hn;by_cases e:a=g
  ·subst e;have:l.filter p'=l.filter p:=List.filter_congr fun j hj=>hp j fun e=>hn.1 (e▸hj)
   rw[List.filter_cons,List.filter_cons,h0,h1,XR rfl,XQ (by simp),this]
   simp
  ·have hg2:g∈l:=by
    rcases List.mem_cons.1 hg with h|h
    ·exact absurd h.symm e
    ·exact h
   rw[List.filter_cons,List.filter_cons,hp a e];split
   ·simp only[List.length_cons];rw[ih hn.2 hg2]
   ·exact ih hn.2 hg2
theorem wz {L:List Obj} {f g oid:Int} (h0:0<=g) (h1:g<(L.length:Int)) (hf:f<=g) (hr:ja L g oid=true):dY L f (g+1) oid=dY L f g oid+1:=by
 unfold dY;have:=filter_one (l:=List.range L.length) (p:=fun j=>kc f g oid j (ah L j free)) (p':=fun j=>kc f (g+1) oid j (ah L j free)) (g:=g.toNat) List.nodup_range (by simp;omega) (fun j hj=>vS (L:=L) (by omega) _) (At (by omega) _) (by show kc f (g+1) oid g.toNat (ah L g.toNat free)=true;rw[Bk h0 hf];exact hr)
 omega
theorem rz {L:List Obj} {f g oid:Int}:0<=dY L f g oid:=by unfold dY;omega
theorem Lk {L:List Obj} {f g oid:Int}:dY L f g oid<=(L.length:Int):=by
 unfold dY;have:=List.length_filter_le (fun j=>kc f g oid j (ah L j free)) (List.range L.length)
 rw[List.length_range]at this;omega
theorem Ae {n:Int} {kind count:Int} (h1:1<=n) (h2:n<=64) (h3:0<=kind) (h4:kind<=3) (h5:0<=count) (h6:count<=4294967295):bT ⟨kind,count,0,fV,fT⟩ n=true:=by
 rw[fg];refine⟨h1,h2,h3,h4,h5,h6,by simp,by simp,.inr rfl,fun i hi=>?_,fun i hi=>?_⟩
 ·simp only[xg];unfold h9;rw[oi.1,oi.2];simp;omega
 ·have hz:=Fu.1 (show fT=fT from rfl) i hi;first|exact .inr (.inr hz)|exact hz|simp[hz]
theorem jd {o:Obj} {n:Int} (h:bT o n=true):0<=o.count/\o.count<=4294967295/\0<=o.kind/\o.kind<=3/\1<=n/\n<=64:=by
 obtain⟨a1,a2,a3,a4,a5,a6,_⟩:=fg.1 h;exact⟨a5,a6,a3,a4,a1,a2⟩
theorem Bc {o:Obj} {n:Int} (h:bT o n=true):bT (D1 o) n=true:=by
 obtain⟨a,b,c,d,e,f⟩:=jd h;exact Ae e f (by omega) (by omega) a b
theorem v7 {o:Obj} {n:Int} (h:bT o n=true):bT (x9 o) n=true:=by
 obtain⟨a,b,c,d,e,f⟩:=jd h;exact Ae e f (by omega) (by omega) a b
theorem A2 {o:Obj} {n kind:Int} (h:bT o n=true) (hn:eJ o=true) (hk:kind=1\/kind=2):bT (kT o kind) n=true:=by
 obtain⟨a,b,c,d,e,f⟩:=jd h;unfold eJ at hn;simp only[XK,XL]at hn;exact Ae e f (by omega) (by omega) (by omega) (by omega)
theorem Fa {L:List Obj} {p:Nat->Obj->Bool} {t:Obj->Obj} (h:aq L) (ht:∀o,bT o (L.length:Int)=true->bT (t o) (L.length:Int)=true):aq (kh L p t):=by
 refine LQ h gZ fun j hj=>?_
 rw[jy hj];split
 ·exact ht _ (dW h j hj)
 ·exact dW h j hj
theorem DU {L:List Obj} {f g:Int} (h:aq L):aq (bE L f g):=Fa h fun o ho=>Bc ho
def kB:lj (Key×Unit):=bk kA iI
def J4:lj (Key×Key×Unit):=bk kA (bk kA iI)
def Py:lj (Key×Int×Unit):=bk kA (bk iA iI)
def W4:lj (Int×Int×Int×Unit):=bk iA (bk iA (bk iA iI))
theorem BM:iu kB:=aJ gM cK
theorem uX:iu J4:=aJ gM (aJ gM cK)
theorem AE:iu Py:=aJ gM (aJ fl cK)
theorem TI:iu W4:=aJ fl (aJ fl (aJ fl cK))
def B5 (L:List Obj) (f l:Int):Prop:=aq L/\0<=f/\l<(aj L:Int)/\f<=l+1
def QQ:Ct:=tB (bk A6 kB) (fun _=>none) fun x=> .tp [.it .i64 (aG x.1 x.2.1),.it .i64 (az x.1 x.2.1),.it .i64 (aK x.1 x.2.1)]
def Jx:kz:=yW (vJ W4) (fun L x=>B5 L x.1 x.2.1) (fun L x=>km L x.1 x.2.1) (fun L x=>b9 L x.1 x.2.1 x.2.2.1) fun L x=> [.it .i64 (bj L x.1 x.2.1)]
def NN:kz:=yW (vJ Py) (fun L _=>aq L) (fun L x=>fL L x.1 x.2.1) (fun L x=>eF L x.1 x.2.1) fun L x=> [.key (cH L x.1 x.2.1),.it .i64 (bW L x.1 x.2.1)]
def RQ:kz:=yW (vJ J4) (fun L _=>aq L) (fun L x=>iP L x.1 x.2.1) (fun L x=>fK L x.1 x.2.1) fun L x=> [.it .i64 (b6 L x.1 x.2.1)]
def Qz:kz:=yW (vJ kB) (fun L _=>aq L) (fun L x=>jI L x.1) (fun L x=>ga L x.1) fun L x=> [.it .i64 (eO L x.1),.it .i64 (aK L x.1)]
def Oo:Ct:=tB (bk A6 J4) (fun _=>none) fun x=> .tp [.bo (iD x.1 x.2.1 x.2.2.1),.it .i64 (aK x.1 x.2.1)]
def ti (L:List Obj) (f l:Int) (g:Int):Prop:=f<=g/\g<=l+1/\jE L f g/\kQ L f g=false
def qD (L:List Obj) (f l:Int) (g:Int):Prop:=f<=g/\g<=l+1/\jE L f g/\kQ L f g=true
def RW:Ct:=Wq (rI .i64) (rI .i64) (rI .i64) fun a b c=> .key (cI a b c)
theorem wE {L:List Obj} {f g:Int} (h:kQ L f g=false):bE L f g=L:=by
 refine xE fun j hj=>?_
 unfold kQ at h;rw[List.any_eq_false]at h;simpa using h j (by simpa using hj)
theorem wb {o:Obj} (h:o.kind≠0):iy o=false/\eJ o=false:=by simp[iy,eJ,h]
theorem z7 {o:Obj} (h:o.kind=0) (h2:4294967295<=o.count):iy o=true/\eJ o=false:=by simp[iy,eJ,h,h2]
theorem AH {o:Obj} (h:o.kind=0) (h2:¬4294967295<=o.count):iy o=false/\eJ o=true:=by
 refine⟨by simp[iy,h2],?_⟩
 simp only[eJ,XK,XL];omega
theorem wv {L:List Obj} {f l g:Int} (kind:Int) (h0:0<=f) (hf:f<=g) (hl:g<=l) (hg:g<(L.length:Int)) (hn:jE L f g) (hw:eJ (ah L g.toNat free)=true):
  bj L f l=g/\km L f l=true/\b9 L f l kind=cx (bE L f g) g.toNat (kT (ah L g.toNat free) kind):=by
 have e:=SI h0 hf hl hg hn hw;refine⟨e,?_,?_⟩
 ·unfold km;rw[e];simp;left;omega
 ·unfold b9;rw[e,XQ (by omega)]
theorem A3 {L:List Obj} {f l:Int} (kind:Int) (hn:jE L f (l+1)):bj L f l= -1/\b9 L f l kind=bE L f (l+1)/\km L f l=kQ L f (l+1):=by
 have e:=LL hn;refine⟨e,?_,?_⟩
 ·unfold b9;rw[e,XR rfl]
 ·unfold km;rw[e];rfl
theorem Jz (o:Obj) (n:Nat):(!decide ((o.slots.at 0).kind=1)|| !decide ((o.slots.at 1).kind=1)||decide ((o.slots.at 0).value<0)||decide ((o.slots.at 1).value<(o.slots.at 0).value)||decide (cw n<=(o.slots.at 1).value))= !gy o (n:Int):=by
 unfold gy cw;rw[Bool.eq_iff_iff];simp only[Bool.or_eq_true,Bool.not_eq_true',Bool.and_eq_false_iff,XL,decide_eq_false_iff_not];omega
theorem D2 {L:List Obj} {k:Key} (h:aw L k 4 false≠0):aK L k=aw L k 4 false/\aG L k=0/\az L k=0:=by
 have e:aK L k=aw L k 4 false:=by unfold aK;rw[XQ h]
 refine⟨e,?_,?_⟩
 ·unfold aG;rw[e,XQ h]
 ·unfold az;rw[e,XQ h]
theorem AJ {L:List Obj} {k:Key} (h:aw L k 4 false=0) (h2:gy (ah L k.oid.toNat free) (aj L:Int)=false):aK L k=220/\aG L k=0/\az L k=0:=by
 have e:aK L k=220:=by unfold aK;rw[XR h,h2];rfl
 refine⟨e,?_,?_⟩
 ·unfold aG;rw[e];rfl
 ·unfold az;rw[e];rfl
theorem sN {L:List Obj} {k:Key} (h:aw L k 4 false=0) (h2:gy (ah L k.oid.toNat free) (aj L:Int)=true):aK L k=0/\aG L k=au L k/\az L k=aD L k:=by
 have e:aK L k=0:=by unfold aK;rw[XR h,h2];rfl
 refine⟨e,?_,?_⟩
 ·unfold aG;rw[e];rfl
 ·unfold az;rw[e];rfl
theorem lr {L:List Obj} {k:Key} (h:aK L k=0):aw L k 4 false=0/\0<=au L k/\au L k<=aD L k/\aD L k<(L.length:Int)/\0<=k.oid/\k.oid<(L.length:Int):=by
 have ha:aw L k 4 false=0:=by
  unfold aK at h;split at h
  ·assumption
  ·rename_i h1;exact absurd h h1
 have hb:gy (ah L k.oid.toNat free) (aj L:Int)=true:=by
  cases hb:gy (ah L k.oid.toNat free) (aj L:Int)with
  |true=>rfl
  |false=>rw[(AJ ha hb).1]at h;simp at h
 obtain⟨_,b2,b3,_⟩:=dB (fD ha).1;unfold gy at hb;simp only[XK,XL]at hb;obtain⟨⟨⟨⟨_,_⟩,h3⟩,h4⟩,h5⟩:=hb;exact⟨ha,h3,h4,h5,b2,b3⟩
theorem uU {L:List Obj} {f l:Int} (h0:0<=f):bj L f l= -1\/(f<=bj L f l/\bj L f l<=l/\bj L f l<(L.length:Int)/\eJ (ah L (bj L f l).toNat free)=true):=by
 unfold bj;split
 ·rename_i j hj;right
  have h1:=List.find?_some hj;have h2:=List.mem_of_find?_eq_some hj;simp only[XK,XL]at h1;rw[List.mem_range]at h2;exact⟨h1.1.1,h1.1.2,by omega,h1.2⟩
 ·exact .inl rfl
theorem sj {L:List Obj} {f l kind:Int}:(b9 L f l kind).length=L.length:=by
 unfold b9;split
 ·exact jH
 ·rw[jt,jH]
theorem IY {L:List Obj} {f l kind:Int} (h0:0<=f) (h:bj L f l≠ -1):ah (b9 L f l kind) (bj L f l).toNat free=kT (ah L (bj L f l).toNat free) kind:=by
 rcases uU (L:=L) (l:=l) h0 with e|⟨a,b,c,d⟩
 ·exact absurd e h
 ·unfold b9;rw[XQ h,gh (by rw[jH];omega),XR rfl]
theorem Ar {L:List Obj} {f l:Int} (h:bj L f l≠ -1):km L f l=true:=by unfold km;simp[h]
theorem zx {L:List Obj} {k:Key} (h:aK L k=0):aG L k=au L k/\az L k=aD L k:=by
 unfold aG az;rw[XR h,XR h];exact⟨rfl,rfl⟩
theorem PS {L:List Obj} {k:Key} {kind:Int} (h:aK L k=0) (h1:kind≠1) (h2:kind≠2):fL L k kind=false/\void=cH L k kind/\2=bW L k kind:=by
 have e:fG L k kind=2:=by unfold fG;rw[XR h,XQ (by omega)]
 have e2:bW L k kind=2:=by unfold bW;rw[e];rfl
 refine⟨by unfold fL;rw[e];rfl,by unfold cH;rw[e2];rfl,e2.symm⟩
theorem Ov {L:List Obj} {k:Key} {kind:Int} (h:aK L k≠0):fL L k kind=false/\void=cH L k kind/\aK L k=bW L k kind:=by
 have e:fG L k kind=aK L k:=by unfold fG;rw[XQ h]
 have e2:bW L k kind=aK L k:=by unfold bW;rw[e,XQ h]
 refine⟨by unfold fL;rw[e];simp[h],by unfold cH;rw[e2,XQ h],e2.symm⟩
theorem xI {L:List Obj} {k:Key} {kind:Int} (h:aK L k=0) (hk:kind=1\/kind=2) (hi:bj L (au L k) (aD L k)= -1):fL L k kind=km L (au L k) (aD L k)/\void=cH L k kind/\221=bW L k kind/\b9 L (au L k) (aD L k) kind=eF L k kind:=by
 have e:fG L k kind=0:=by unfold fG;rw[XR h,XR hk]
 have e2:bW L k kind=221:=by unfold bW;rw[XR e,XR hi]
 refine⟨by unfold fL;rw[e];simp,by unfold cH;rw[e2];rfl,e2.symm,by unfold eF;rw[XR e]⟩
theorem F2 {L:List Obj} {k:Key} {kind:Int} (h:aK L k=0) (hk:kind=1\/kind=2) (hi:bj L (au L k) (aD L k)≠ -1):fL L k kind=true/\Key.mk (1+kind) (bj L (au L k) (aD L k)) (ah (b9 L (au L k) (aD L k) kind) (bj L (au L k) (aD L k)).toNat free).count 0 0 0=cH L k kind/\0=bW L k kind/\b9 L (au L k) (aD L k) kind=eF L k kind:=by
 have e:fG L k kind=0:=by unfold fG;rw[XR h,XR hk]
 have e2:bW L k kind=0:=by unfold bW;rw[XR e,XQ hi]
 refine⟨by unfold fL;rw[e,Ar hi];rfl,?_,e2.symm,by unfold eF;rw[XR e]⟩
 unfold cH;rw[XR e2,IY (lr h).2.1 hi];unfold cI kT;rcases hk with rfl|rfl<;>rfl
theorem xh {L:List Obj} {v:Key}:gU L v= !(!aU L v|| !decide (v.kind=2)&& !decide (v.kind=3)):=by unfold gU;cases aU L v<;>cases decide (v.kind=2)<;>cases decide (v.kind=3)<;>rfl
theorem B0 {L:List Obj} {v:Key} (h:gU L v=true):aU L v=true:=by unfold gU at h;simp only[XK]at h;exact h.1
def fE (L:List Obj) (k:Key):Int:=bj L (au L k) (aD L k)
def dw (L:List Obj) (k:Key):List Obj:=b9 L (au L k) (aD L k) 1
def ko (M:List Obj) (f g:Int):Bool:=(List.range M.length).any fun(j:Nat)=>decide (f<=(j:Int))&&decide ((j:Int)<g)&&lg (ah M j free)
def lA (L:List Obj) (k:Key) (n:Int):Int:=if aK L k=0 then(if n<1\/aD L k-au L k<n then 4 else 0)else aK L k
def bL (L:List Obj) (k:Key) (n:Int):Int:=if lA L k n=0 then(if fE L k<0\/aD L k-n<fE L k then 221 else if ko (dw L k) (aD L k-n+1) (aD L k+1)=true then 221 else 0)else lA L k n
def jU (L:List Obj) (k:Key) (n:Int):Bool:=decide (bL L k n=0)
def iR (o:Obj) (a b:Int):Obj:= {o with slots:=(o.slots.put 0 (cG a)).put 1 (cG b)}
def lv (o:Obj) (b:Int):Obj:= {o with slots:=o.slots.put 1 (cG b)}
def bq (L:List Obj) (k:Key) (n:Int):List Obj:=if bL L k n=0 then cx (cx (dw L k) (fE L k).toNat (iR (ah (dw L k) (fE L k).toNat free) (aD L k-n+1) (aD L k))) k.oid.toNat (lv (ah (dw L k) k.oid.toNat free) (aD L k-n))else L
def bQ (L:List Obj) (k:Key) (n:Int):Key:=if bL L k n=0 then⟨4,fE L k,(ah (dw L k) (fE L k).toNat free).count,0,0,0⟩else void
def Mf:kz:=yW (vJ Py) (fun L _=>aq L) (fun L x=>jU L x.1 x.2.1) (fun L x=>bq L x.1 x.2.1) fun L x=> [.key (bQ L x.1 x.2.1),.it .i64 (bL L x.1 x.2.1)]
def oO (L:List Obj) (k:Key) (n g:Int):Prop:=aD L k-n+1<=g/\g<=aD L k+1/\ko (dw L k) (aD L k-n+1) g=false
theorem Cq {L:List Obj} {k:Key} {n e:Int} (h:bL L k n=e) (he:e≠0):jU L k n=false/\void=bQ L k n/\e=bL L k n:=by
 refine⟨by unfold jU;rw[h];simpa using he,by unfold bQ;rw[h,XQ he],h.symm⟩
theorem yi {L:List Obj} {k:Key} {n:Int} (h:aK L k≠0):bL L k n=aK L k:=by
 have e:lA L k n=aK L k:=by unfold lA;rw[XQ h]
 unfold bL;rw[e,XQ h]
theorem zj {L:List Obj} {k:Key} {n:Int} (h:aK L k=0) (hn:n<1\/aD L k-au L k<n):bL L k n=4:=by
 have e:lA L k n=4:=by unfold lA;rw[XR h,XR hn]
 unfold bL;rw[e];rfl
theorem ER {L:List Obj} {k:Key} {n:Int} (h:aK L k=0) (h1:1<=n) (h2:n<=aD L k-au L k):lA L k n=0:=by
 unfold lA;rw[XR h,XQ (by omega)]
theorem tQ {L:List Obj} {k:Key} {n:Int} (h:lA L k n=0) (hi:fE L k<0\/aD L k-n<fE L k):bL L k n=221:=by
 unfold bL;rw[XR h,XR hi]
theorem BG {L:List Obj} {k:Key} {n:Int} (h:lA L k n=0) (hi:ko (dw L k) (aD L k-n+1) (aD L k+1)=true):bL L k n=221:=by
 unfold bL;rw[XR h,XR hi];split<;>rfl
theorem FL {L:List Obj} {k:Key} {n:Int} (h:lA L k n=0) (h1:0<=fE L k) (h2:fE L k<=aD L k-n) (hi:ko (dw L k) (aD L k-n+1) (aD L k+1)=false):bL L k n=0:=by
 unfold bL;rw[XR h,XQ (by omega),hi];rfl
theorem G6 {M:List Obj} {f:Int}:ko M f f=false:=by
 unfold ko;rw[List.any_eq_false];intro j hj h;simp only[XK,XL]at h;omega
theorem C4 {M:List Obj} {f g e:Int} (h0:0<=g) (h1:g<(M.length:Int)) (hf:f<=g) (he:g<e) (hr:lg (ah M g.toNat free)=true):ko M f e=true:=by
 unfold ko;rw[List.any_eq_true];exact⟨g.toNat,by simp;omega,by rw[hr];simp;omega⟩
theorem FG {M:List Obj} {f g:Int} (h0:0<=g) (hr:lg (ah M g.toNat free)=false):ko M f (g+1)=ko M f g:=by
 unfold ko;rw[Bool.eq_iff_iff,List.any_eq_true,List.any_eq_true];refine exists_congr fun j=>and_congr_right fun _=>?_
 simp only[XK,XL];constructor
 ·rintro⟨⟨a,b⟩,c⟩
  refine⟨⟨a,?_⟩,c⟩;by_cases e:(j:Int)=g
  ·rw[show j=g.toNat by omega,hr]at c;simp at c
  ·omega
 ·rintro⟨⟨a,b⟩,c⟩
  exact⟨⟨a,by omega⟩,c⟩
theorem SS {L:List Obj} {k:Key} (h:aU L k=true):cR k=k.oid:=by
 unfold aU at h;simp only[XK]at h;unfold cR;rw[XR h.1.1]
theorem Ey {L:List Obj} {k:Key} (h:(!decide (0<ak L))=true):aK L k=1:=by unfold aK;rw[HH h];rfl
theorem UJ {L:List Obj} {k:Key} (h:(!decide (0<ak L))=false) (h2:(!(aU L k&&decide (k.kind=4)))=true):aK L k=190:=by unfold aK;rw[Gw h h2];rfl
theorem Vb {L:List Obj} {k:Key} (h:(!decide (0<ak L))=false) (h2:(!(aU L k&&decide (k.kind=4)))=false) (h3:(!gy (aa L k) (ak L))=true):aK L k=220:=by
 have ha:=Fo h h2;rw[(dB (mF h2).1).2.2.2.1]at h3;exact(AJ ha (show gy (ah L k.oid.toNat free) (ak L)=false by simpa using h3)).1
theorem Qj {L:List Obj} {k:Key} (h:(!decide (0<ak L))=false) (h2:(!(aU L k&&decide (k.kind=4)))=false) (h3:(!gy (aa L k) (ak L))=false):aK L k=0/\((aa L k).slots.at 0).value=au L k/\((aa L k).slots.at 1).value=aD L k:=by
 have ha:=Fo h h2;have e:=(dB (mF h2).1).2.2.2.1;rw[e]at h3;rw[e];exact⟨(sN ha (show gy (ah L k.oid.toNat free) (ak L)=true by simpa using h3)).1,rfl,rfl⟩
theorem A9 {L:List Obj} {k v:Key} {e:Int} (h:aK L k=e) (he:e≠0):false=iD L k v/\e=aK L k:=by
 refine⟨?_,h.symm⟩;unfold iD;rw[h];simp[he]
theorem rr {L:List Obj} {k v:Key} {e:Int} (h:b6 L k v=e) (he:e≠0):e=b6 L k v/\L=fK L k v:=by
 refine⟨h.symm,?_⟩;unfold fK;rw[h,XQ he]
theorem pN {L:List Obj} {k v:Key} {e:Int} (h:aK L k=e) (he:e≠0):b6 L k v=e:=by
 unfold b6;rw[h,XQ he]
theorem w8 {L:List Obj} {k:Key} {e:Int} (h:aK L k=e) (he:e≠0):(0=eO L k/\e=aK L k)/\L=ga L k:=by
 unfold eO ga;rw[h,XQ he,XQ he];exact⟨⟨rfl,rfl⟩,rfl⟩
theorem uc {L:List Obj} {k:Key} {kind e:Int} (h:fG L k kind=e) (he:e≠0):(void=cH L k kind/\e=bW L k kind)/\L=eF L k kind:=by
 have e2:bW L k kind=e:=by unfold bW;rw[h,XQ he]
 unfold cH eF;rw[e2,h,XQ he,XQ he];exact⟨⟨rfl,rfl⟩,rfl⟩
theorem ph {L:List Obj} {k:Key} {kind e:Int} (h:aK L k=e) (he:e≠0):fG L k kind=e:=by unfold fG;rw[h,XQ he]
theorem I6 {L:List Obj} {k:Key} {kind:Int} (h:aK L k=0) (h2:(!(decide (kind=1)||decide (kind=2)))=true):fG L k kind=2:=by
 unfold fG;rw[XR h,XQ];simp only[Bool.not_eq_true',Bool.or_eq_false_iff,decide_eq_false_iff_not]at h2;omega
theorem oV {L:List Obj} {k:Key} {n e:Int} (h:bL L k n=e) (he:e≠0):(void=bQ L k n/\e=bL L k n)/\L=bq L k n:=by
 unfold bQ bq;rw[h,XQ he,XQ he];exact⟨⟨rfl,rfl⟩,rfl⟩
theorem tV {L:List Obj} {k:Key} {n e:Int} (h:aK L k=e) (he:e≠0):bL L k n=e:=by rw[yi (by omega),h]
def O2:Ct:=tB (bk sA J4) (fun _=>none) fun x=> .tp [.bo (iD (D9 x.1) x.2.1 x.2.2.1),.it .i64 (aK (D9 x.1) x.2.1)]
def Ph:kz:=GM (vJ Py) (fun L _=>aq L) (fun L x=> .tp [.key (cH L x.1 x.2.1),.it .i64 (bW L x.1 x.2.1)]) fun L x=>eF L x.1 x.2.1
def RG:kz:=GM (vJ J4) (fun L _=>aq L) (fun L x=> .it .i64 (b6 L x.1 x.2.1)) fun L x=>fK L x.1 x.2.1
def Qr:kz:=GM (vJ kB) (fun L _=>aq L) (fun L x=> .tp [.it .i64 (eO L x.1),.it .i64 (aK L x.1)]) fun L x=>ga L x.1
def Mz:kz:=GM (vJ Py) (fun L _=>aq L) (fun L x=> .tp [.key (bQ L x.1 x.2.1),.it .i64 (bL L x.1 x.2.1)]) fun L x=>bq L x.1 x.2.1
def n8 (L:List Obj) (k:Key) (n g:Int):Prop:=au L k<=g/\g<=aD L k+1/\ko (dw L k) (aD L k-n+1) g=false
def MC (L M:List Obj) (g:Int):Int:=ah (dg L M) g.toNat 0
def HA:List Obj->List Obj->Nat->List Obj
 |L,_,0=>L
 |L,M,g+1=>cW (HA L M g) (MC L M (g:Int)) (aR M (MC L M (g:Int)))
def lC (L M:List Obj) (g:Int):List Obj:=HA L M g.toNat
def qC (L M:List Obj) (g:Int):Prop:=0<=g/\g<=((dg L M).length:Int)
def eu (L:List Obj) (k:Key) (g:Int):Obj:=aR (bE L (au L k) g) g
def pd (L:List Obj) (k:Key) (g:Int):List Obj:=cW (bE L (au L k) g) g (Obj.mk 1 ((eu L k g).count+1) free.calls free.slots free.bytes)
def nr (x:Int):Key:=Key.mk 1 void.oid void.count void.call void.rights x
def A4 (L:List Obj) (k:Key) (n g:Int):Obj:=Obj.mk (aR (pd L k g) g).kind (aR (pd L k g) g).count (aR (pd L k g) g).calls (((aR (pd L k g) g).slots.put 0 (nr (((aa L k).slots.at 1).value-n+1))).put 1 (nr ((aa L k).slots.at 1).value)) (aR (pd L k g) g).bytes
def Bd (L:List Obj) (k:Key) (n g:Int):List Obj:=cW (pd L k g) g (A4 L k n g)
def Ad (L:List Obj) (k:Key) (n g:Int):Obj:=Obj.mk (aR (Bd L k n g) k.oid).kind (aR (Bd L k n g) k.oid).count (aR (Bd L k n g) k.oid).calls ((aR (Bd L k n g) k.oid).slots.put 1 (nr (((aa L k).slots.at 1).value-n))) (aR (Bd L k n g) k.oid).bytes
def lq (L:List Obj) (k:Key) (n g:Int):List Obj:=cW (Bd L k n g) k.oid (Ad L k n g)
def iB (L:List Obj) (k:Key) (g:Int):Prop:=au L k<=g/\g<=aD L k+1/\jE L (au L k) g
def qN (L:List Obj) (k:Key) (g:Int):Prop:=au L k<=g/\g<=aD L k+1
def tt (L:List Obj) (k:Key) (g:Int):Prop:=au L k<=g/\g<=aD L k+1/\dY L (au L k) g k.oid=0
def qo (L:List Obj) (k:Key) (g:Int):Prop:=au L k<=g/\g<=aD L k+1/\dY L (au L k) g k.oid≠0
theorem ze {L:List Obj} {k:Key} (h:aU L k=true) (h2:k.kind=4):(ah L k.oid.toNat free).kind=1:=by
 unfold aU at h;simp only[XK]at h;obtain⟨⟨h1,_⟩,h3⟩:=h;unfold b7 at h3;simp only[XK,Bool.or_eq_true,XL]at h3;rcases jX k with⟨_,e,h0⟩|⟨e,_⟩
 ·rcases h3.2 with h|h
  ·omega
  ·rw[h.1.1];unfold fN;rw[XQ (by omega),XQ (by omega)]
 ·rw[e]at h1;simp at h1
theorem Fj {o:Obj} {n b:Int} (h:bT o n=true) (hk:o.kind=1):bT (lv o b) n=true:=by
 refine Ag h hk fun i hi=>?_
 have:=(jd h).2.2.2.2.1;rw[cQ.gC _ _ _ _ (by omega)]
 split
 ·exact vY (by omega) _
 ·exact ui h hk i hi
theorem EG {o:Obj} {n a b:Int} (h:bT o n=true) (hk:o.kind=1):bT (iR o a b) n=true:=by
 refine Ag h hk fun i hi=>?_
 have:=(jd h).2.2.2.2.1;rw[cQ.gC _ _ _ _ (by omega),cQ.gC _ _ _ _ (by omega)]
 split
 ·exact vY (by omega) _
 split
 ·exact vY (by omega) _
 ·exact ui h hk i hi
theorem Rw {L:List Obj} {k:Key} {g:Int} (hL:aq L) (e:aK L k=0) (hk:(ah L k.oid.toNat free).kind=1) (g0:au L k<=g) (gl:g<=aD L k) (g2:jE L (au L k) g) (f2:eJ (ah L g.toNat free)=true):
  fE L k=g/\eu L k g=ah L g.toNat free/\pd L k g=dw L k/\(dw L k).length=L.length/\aq (dw L k)/\ah (dw L k) g.toNat free=kT (ah L g.toNat free) 1/\ah (dw L k) k.oid.toNat free=ah L k.oid.toNat free/\k.oid.toNat≠g.toNat:=by
 obtain⟨_,a0,a1,a2,a3,a4⟩:=lr e;have hgn:g.toNat<L.length:=by omega
 have hgz:(bE L (au L k) g).length=L.length:=jH;have hgt:aR (bE L (au L k) g) g=ah L g.toNat free:=by rw[gF (by omega) (by omega),AQ (by omega)]
 obtain⟨m1,m2,m3⟩:=wv (l:=aD L k) 1 a0 g0 gl (by omega) g2 f2
 have hO:eu L k g=ah L g.toNat free:=hgt;have hnew:=A2 (dW hL g.toNat hgn) f2 (.inl rfl);have hp:=(nt (L:=bE L (au L k) g) (i:=g) (x:=kT (ah L g.toNat free) 1) (by omega) (by omega) (by rw[hgz];exact hnew)).1
 have hP:pd L k g=dw L k:=by
  unfold pd;rw[hO];exact hp.trans m3.symm
 have hne:k.oid.toNat≠g.toNat:=fun h=>by
  rw[h]at hk;unfold eJ at f2;simp only[XK,XL]at f2;omega
 have hM:dw L k=cx (bE L (au L k) g) g.toNat (kT (ah L g.toNat free) 1):=m3;have hko:k.oid.toNat<L.length:=by omega
 refine⟨m1,hO,hP,sj,?_,?_,?_,hne⟩
 ·rw[hM];exact m8 (DU hL) (by rw[hgz];exact hnew)
 ·rw[hM,gh (by rw[hgz];exact hgn),XR rfl]
 ·rw[hM,gh (by rw[hgz];exact hgn),XQ hne]
  unfold bE;rw[jy hko,XQ];simp only[iy,hk,XK,XL];omega
theorem QU {L:List Obj} {k:Key} {n g:Int} (hL:aq L) (e:aK L k=0) (hk:(ah L k.oid.toNat free).kind=1) (hB:((aa L k).slots.at 1).value=aD L k) (g0:au L k<=g) (gl:g<=aD L k) (g2:jE L (au L k) g) (f2:eJ (ah L g.toNat free)=true) (h:bL L k n=0):
  lq L k n g=bq L k n/\aq (bq L k n)/\(bq L k n).length=L.length/\Key.mk 4 g ((eu L k g).count+1) 0 0 0=bQ L k n:=by
 obtain⟨i1,i2,i3,i4,i5,i6,i7,i8⟩:=Rw hL e hk g0 gl g2 f2;obtain⟨_,a0,a1,a2,a3,a4⟩:=lr e;have hgM:aR (dw L k) g=ah (dw L k) g.toNat free:=gF (by omega) (by omega)
 have hR1:A4 L k n g=iR (ah (dw L k) g.toNat free) (aD L k-n+1) (aD L k):=by
  unfold A4;rw[i3,hgM,hB];rfl
 have o1:bT (iR (ah (dw L k) g.toNat free) (aD L k-n+1) (aD L k)) ((dw L k).length:Int)=true:=EG (dW i5 g.toNat (by omega)) (by rw[i6];rfl)
 have hP2:Bd L k n g=cx (dw L k) g.toNat (iR (ah (dw L k) g.toNat free) (aD L k-n+1) (aD L k)):=by
  unfold Bd;rw[i3,hR1];exact(nt (by omega) (by omega) o1).1
 have ok2:=m8 (i:=g.toNat) i5 o1;have l2:(cx (dw L k) g.toNat (iR (ah (dw L k) g.toNat free) (aD L k-n+1) (aD L k))).length=L.length:=by rw[jt];exact i4
 have g2':aR (Bd L k n g) k.oid=ah (dw L k) k.oid.toNat free:=by
  rw[hP2,gF (by omega) (by omega),gh (by omega),XQ i8]
 have hR2:Ad L k n g=lv (ah (dw L k) k.oid.toNat free) (aD L k-n):=by
  unfold Ad;rw[g2',hB];rfl
 have o2:bT (lv (ah (dw L k) k.oid.toNat free) (aD L k-n)) (L.length:Int)=true:=Fj (by rw[<-i4];exact dW i5 k.oid.toNat (by omega)) (by rw[i7];exact hk)
 have hlast:bq L k n=cx (cx (dw L k) g.toNat (iR (ah (dw L k) g.toNat free) (aD L k-n+1) (aD L k))) k.oid.toNat (lv (ah (dw L k) k.oid.toNat free) (aD L k-n)):=by
  unfold bq;rw[XR h,i1]
 refine⟨?_,?_,?_,?_⟩
 ·unfold lq;rw[hR2,hP2,hlast];exact(nt (by omega) (by omega) (by rw[l2];exact o2)).1
 ·rw[hlast];exact m8 ok2 (by rw[l2];exact o2)
 ·rw[hlast,jt];exact l2
 ·unfold bQ;rw[XR h,i1,i6,i2];rfl
theorem PL {L M:List Obj} {x:Int} (h:x∈dg L M):0<=x/\x<(L.length:Int):=by
 unfold dg gE at h;rw[List.mem_map]at h;obtain⟨j,h1,rfl⟩:=h;have:=List.mem_range.1 (List.mem_filter.1 h1).1;unfold aj at this;exact⟨Int.natCast_nonneg j,by show(j:Int)<_;omega⟩
theorem Ty {L M:List Obj} {i:Nat} (h:i<(dg L M).length):ah (dg L M) i 0∈dg L M:=by
 unfold ah;rw[XP,List.getElem?_eq_getElem h];exact List.getElem_mem h
theorem Nt {L M:List Obj} {j:Nat} (hj:j<L.length) (h:ah L j free≠ah M j free):∃i,i<(dg L M).length/\ah (dg L M) i 0=(j:Int):=by
 have:(j:Int)∈dg L M:=by
  unfold dg gE;rw[List.mem_map];refine⟨j,List.mem_filter.2 ⟨List.mem_range.2 (by unfold aj;omega),?_⟩,rfl⟩
  simp[BH,h]
 obtain⟨i,hi,e⟩:=List.mem_iff_getElem.1 this;refine⟨i,hi,?_⟩;unfold ah;rw[XP,List.getElem?_eq_getElem hi,e];rfl
theorem IA {L M:List Obj} (hl:M.length=L.length) (hM:aq M):∀g:Nat,g<=(dg L M).length->(HA L M g).length=L.length/\(∀j,j<L.length->ah (HA L M g) j free=ah L j free\/ah (HA L M g) j free=ah M j free)/\
  ∀i,i<g->ah (HA L M g) (ah (dg L M) i 0).toNat free=ah M (ah (dg L M) i 0).toNat free
 |0,_=>⟨rfl,fun j hj=> .inl rfl,fun i hi=>by omega⟩
 |g+1,hg=>by
  obtain⟨h1,h2,h3⟩:=IA hl hM g (by omega)
  obtain⟨u1,u2⟩:=PL (Ty (L:=L) (M:=M) (i:=g) (by omega))
  have e:MC L M (g:Int)=ah (dg L M) g 0:=rfl;generalize hu:ah (dg L M) g 0=u at *
  have hp:=(nt (L:=HA L M g) (i:=u) (x:=ah M u.toNat free) u1 (by omega) (by rw[h1,<-hl];exact dW hM _ (by omega))).1
  have hs:HA L M (g+1)=cx (HA L M g) u.toNat (ah M u.toNat free):=by
   simp only[HA];rw[e,gF u1 (by omega)]
   exact hp
  rw[hs];refine⟨by rw[jt];exact h1,fun j hj=>?_,fun i hi=>?_⟩
  ·rw[gh (by omega)]
   split
   ·rename_i hj';rw[hj'];exact .inr rfl
   ·exact h2 j hj
  ·rw[gh (by omega)]
   split
   ·rename_i hj';rw[hj']
   ·rename_i hne;by_cases hig:i=g
    ·rw[hig,hu]at hne;exact absurd rfl hne
    ·exact h3 i (by omega)
theorem QB {L M:List Obj} (hl:M.length=L.length) (hM:aq M) {g:Int} (hg:g=((dg L M).length:Int)):lC L M g=M:=by
 obtain⟨h1,h2,h3⟩:=IA hl hM (dg L M).length (Nat.le_refl _);have e:lC L M g=HA L M (dg L M).length:=by unfold lC;rw[hg];rfl
 rw[e];refine qc (by omega) fun j hj=>?_
 by_cases hne:ah L j free=ah M j free
 ·rcases h2 j (by omega)with h|h
  ·rw[h,hne]
  ·exact h
 ·obtain⟨i,hi,hij⟩:=Nt (by omega) hne
  have:=h3 i hi;rw[hij]at this;exact this
theorem ML {L M:List Obj} {g:Int} (h0:0<=g):cW (lC L M g) (ah (dg L M) g.toNat 0) (aR M (ah (dg L M) g.toNat 0))=lC L M (g+1):=by
 unfold lC;rw[show(g+1).toNat=g.toNat+1 by omega]
 simp only[HA];rfl
theorem JK {L M:List Obj} (hl:M.length=L.length) (h:1<=L.length):iW L M=false:=by
 unfold iW bC aj;simp only[hl,show decide (L.length=0)=false from decide_eq_false (by omega),Bool.false_or,decide_true,Bool.not_true]
theorem Fm {M:List Obj} {f g:Int} (h:g<=f):ko M f g=false:=by
 unfold ko;rw[List.any_eq_false];intro j _;simp only[XK,XL,not_and];intro h1 h2;omega
theorem PM {L M:List Obj}:(dg L M).length<=L.length:=by
 unfold dg gE;rw[List.length_map];have:=List.length_filter_le (fun j=> !BH (ah L j free) (ah M j free)) (List.range (aj L:Int).toNat)
 simpa[aj]using this
structure Xh where
 kind:Int
 num:Int
 bank:Key
 key:Key
 obj:Int
def Xh.wf (x:Xh):Prop:=cg .i64 x.kind/\cg .i64 x.num/\x.bank.wf/\x.key.wf/\cg .i64 x.obj
theorem Ho {L M:List Obj} {k:Key} {d:Int} {c:Bool} (hl:M.length=L.length) (h1:(ah M k.oid.toNat free).kind=(ah L k.oid.toNat free).kind) (h2:(ah M k.oid.toNat free).count=(ah L k.oid.toNat free).count) (h3:(ah M k.oid.toNat free).calls=(ah L k.oid.toNat free).calls):aw M k d c=aw L k d c:=by
 have hi:aU M k=aU L k:=by
  unfold aU cS b7 aj;rw[hl,h1,h2,h3]
 unfold aw aj;rw[hl,hi]
theorem Ou {L:List Obj} {k:Key} (h:aK L k=0):gy (ah L k.oid.toNat free) (L.length:Int)=true/\(ah L k.oid.toNat free).kind=1:=by
 obtain⟨ha,_⟩:=lr h;obtain⟨i1,i2,_⟩:=fD ha;refine⟨?_,ze i1 i2⟩;unfold aK at h;rw[XR ha]at h;split at h
 ·rename_i hc;exact hc
 ·omega
theorem HM {L:List Obj} {f l kind:Int} {j:Nat} (h0:0<=f) (hj:j<L.length) (hk:(ah L j free).kind≠0):ah (b9 L f l kind) j free=ah L j free:=by
 have hG:∀g,ah (bE L f g) j free=ah L j free:=fun g=>by
  unfold bE;rw[jy hj,XQ];simp only[iy,XK,XL];omega
 unfold b9;split
 ·exact hG _
 ·rename_i hi;rcases uU (L:=L) (l:=l) h0 with e|⟨a,b,c,d⟩
  ·exact absurd e hi
  ·rw[gh (by rw[jH];omega),XQ,hG]
   intro e;rw[<-e]at d;unfold eJ at d;simp only[XK,XL]at d;exact hk d.1
theorem Ke {L:List Obj} {f l kind:Int} (hL:aq L) (h0:0<=f) (hk:kind=1\/kind=2):aq (b9 L f l kind):=by
 unfold b9;split
 ·exact DU hL
 ·rename_i hi;rcases uU (L:=L) (l:=l) h0 with e|⟨a,b,c,d⟩
  ·exact absurd e hi
  ·exact m8 (DU hL) (by rw[jH];exact A2 (dW hL _ (by omega)) d hk)
theorem EK {L:List Obj} {k:Key} {kind:Int} (hL:aq L):aq (eF L k kind):=by
 unfold eF;split
 ·rename_i h
  have he:aK L k=0:=by
   unfold fG at h;split at h
   ·assumption
   ·rename_i h';exact absurd h h'
  refine Ke hL (lr he).2.1 ?_;unfold fG at h;rw[XR he]at h;split at h
  ·assumption
  ·omega
 ·exact hL
theorem Nf {L:List Obj} {k:Key} {n:Int} (hL:aq L) (e:aK L k=0) (h:bL L k n=0):
  aq (bq L k n)/\(bq L k n).length=L.length/\aK (bq L k n) k=0/\au (bq L k n) k=au L k/\aD (bq L k n) k=aD L k-n/\
  aK (bq L k n) (bQ L k n)=0/\au (bq L k n) (bQ L k n)=aD L k-n+1/\aD (bq L k n) (bQ L k n)=aD L k/\au L k<=(bQ L k n).oid/\(bQ L k n).oid<=aD L k-n/\1<=n/\n<=aD L k-au L k/\
  eJ (ah L (bQ L k n).oid.toNat free)=true:=by
 obtain⟨ha,a0,a1,a2,a3,a4⟩:=lr e;obtain⟨hok,hk1⟩:=Ou e;obtain⟨x1,x2⟩:=ku hL;have h':=h;unfold bL at h;split at h
 case isFalse h2=>exact absurd h h2
 rename_i hE0;split at h
 case isTrue=>omega
 rename_i hI
 have hn:1<=n/\n<=aD L k-au L k:=by
  unfold lA at hE0;rw[XR e]at hE0;split at hE0
  ·omega
  ·omega
 have hin:=uU (L:=L) (l:=aD L k) a0;have hIe:bj L (au L k) (aD L k)=fE L k:=rfl;have hne1:bj L (au L k) (aD L k)≠ -1:=by rw[hIe];omega
 rw[hIe]at hin;rcases hin with hin|⟨i1,i2,i3,i4⟩
 ·omega
 have hMlen:(dw L k).length=L.length:=sj;have hMok:aq (dw L k):=Ke hL a0 (.inl rfl);have hMI:ah (dw L k) (fE L k).toNat free=kT (ah L (fE L k).toNat free) 1:=IY a0 hne1;have Uj:ah (dw L k) k.oid.toNat free=ah L k.oid.toNat free:=HM a0 (by omega) (by omega)
 have hne:k.oid.toNat≠(fE L k).toNat:=fun hh=>by
  rw[hh]at hk1;unfold eJ at i4;simp only[XK,XL]at i4;omega
 have hLL:bq L k n=cx (cx (dw L k) (fE L k).toNat (iR (ah (dw L k) (fE L k).toNat free) (aD L k-n+1) (aD L k))) k.oid.toNat (lv (ah (dw L k) k.oid.toNat free) (aD L k-n)):=by
  unfold bq;rw[XR h']
 have hKK:bQ L k n=⟨4,fE L k,(ah L (fE L k).toNat free).count+1,0,0,0⟩:=by
  unfold bQ;rw[XR h',hMI];rfl
 have o1:bT (iR (ah (dw L k) (fE L k).toNat free) (aD L k-n+1) (aD L k)) (L.length:Int)=true:=EG (by rw[<-hMlen];exact dW hMok _ (by omega)) (by rw[hMI];rfl)
 have o2:bT (lv (ah (dw L k) k.oid.toNat free) (aD L k-n)) (L.length:Int)=true:=Fj (by rw[<-hMlen];exact dW hMok _ (by omega)) (by rw[Uj];exact hk1)
 have l1:(cx (dw L k) (fE L k).toNat (iR (ah (dw L k) (fE L k).toNat free) (aD L k-n+1) (aD L k))).length=L.length:=by rw[jt];exact hMlen
 have okX:=m8 (i:=(fE L k).toNat) hMok (by rw[hMlen];exact o1)
 have hlen:(bq L k n).length=L.length:=by rw[hLL,jt];exact l1
 have hokL:aq (bq L k n):=by rw[hLL];exact m8 okX (by rw[l1];exact o2)
 have hgk:ah (bq L k n) k.oid.toNat free=lv (ah L k.oid.toNat free) (aD L k-n):=by
  rw[hLL,gh (by omega),XR rfl,Uj]
 have hgI:ah (bq L k n) (fE L k).toNat free=iR (kT (ah L (fE L k).toNat free) 1) (aD L k-n+1) (aD L k):=by
  rw[hLL,gh (by omega),XQ (Ne.symm hne),gh (by omega),XR rfl,hMI]
 have s2:∀(o:Obj) (b:Int),(lv o b).slots.at 0=o.slots.at 0/\(lv o b).slots.at 1=cG b:=fun o b=>by
  unfold lv;simp only;rw[cQ.gC _ _ _ _ (by omega),cQ.gC _ _ _ _ (by omega)]
  exact⟨rfl,rfl⟩
 have s1:∀(o:Obj) (a b:Int),(iR o a b).slots.at 0=cG a/\(iR o a b).slots.at 1=cG b:=fun o a b=>by
  unfold iR;simp only;rw[cQ.gC _ _ _ _ (by omega),cQ.gC _ _ _ _ (by omega),cQ.gC _ _ _ _ (by omega)]
  exact⟨rfl,rfl⟩
 have hask:aw (bq L k n) k 4 false=0:=by
  rw[Ho hlen (by rw[hgk];rfl) (by rw[hgk];rfl) (by rw[hgk];rfl)];exact ha
 unfold gy at hok;simp only[XK,XL]at hok;obtain⟨⟨⟨⟨c1,c2⟩,c3⟩,c4⟩,c5⟩:=hok;have hA':au (bq L k n) k=au L k:=by unfold au;rw[hgk,(s2 _ _).1]
 have hB':aD (bq L k n) k=aD L k-n:=by
  have:aD (bq L k n) k=((lv (ah L k.oid.toNat free) (aD L k-n)).slots.at 1).value:=by rw[<-hgk];rfl
  rw[this,(s2 _ _).2];rfl
 have hE':aK (bq L k n) k=0:=(sN hask (by
  rw[hgk];unfold gy aj;rw[(s2 _ _).1,(s2 _ _).2,hlen];have v0:((ah L k.oid.toNat free).slots.at 0).value=au L k:=rfl;simp only[cG,XK,XL];refine⟨⟨⟨⟨c1,?_⟩,c3⟩,?_⟩,?_⟩
  ·trivial
  ·exact decide_eq_true (by omega)
  ·exact decide_eq_true (by omega))).1
 have i4':=i4;unfold eJ at i4';simp only[XK,XL]at i4';have hcb:=jd (dW hL (fE L k).toNat (by omega))
 have hkey:aT (bQ L k n)=true:=by
  rw[hKK];unfold aT fF;simp only[dH,fY,jZ,eN];simp;omega
 have hoid:(bQ L k n).oid=fE L k:=by rw[hKK]
 have hisO:dH (bQ L k n).kind=true:=by rw[hKK];rfl
 have hnm:bg (bQ L k n)=true:=by unfold bg;rw[hkey,hisO];rfl
 have hnames:aX (bQ L k n)=fE L k:=by unfold aX;rw[hkey,hisO,hoid];rfl
 have hcounts:b7 (bQ L k n) (ah (bq L k n) (bQ L k n).oid.toNat free)=true:=by
  unfold b7 fN;rw[hkey,hnames,hoid,hgI,XQ (by omega),hKK]
  simp[iR,kT]
 have his:aU (bq L k n) (bQ L k n)=true:=by
  unfold aU;rw[hnm,hcounts,kq.2 ⟨by omega,by omega⟩];rfl
 have hask2:aw (bq L k n) (bQ L k n) 4 false=0:=by
  unfold aw aj;rw[XQ (by omega),XQ (by rw[his,hKK];simp),XQ (by simp)]
 have hobj:ah (bq L k n) (bQ L k n).oid.toNat free=iR (kT (ah L (fE L k).toNat free) 1) (aD L k-n+1) (aD L k):=by rw[hoid];exact hgI
 refine⟨hokL,hlen,hE',hA',hB',(sN hask2 ?_).1,?_,?_,by rw[hoid];exact i1,by rw[hoid];omega,hn.1,hn.2,by rw[hoid];exact i4⟩
 ·rw[hobj];unfold gy aj;rw[(s1 _ _ _).1,(s1 _ _ _).2,hlen];simp only[cG,XK,XL];refine⟨⟨⟨⟨?_,?_⟩,?_⟩,?_⟩,?_⟩
  ·trivial
  ·trivial
  ·exact decide_eq_true (by omega)
  ·exact decide_eq_true (by omega)
  ·exact decide_eq_true (by omega)
 ·unfold au;rw[hobj,(s1 _ _ _).1];rfl
 ·have:aD (bq L k n) (bQ L k n)=((iR (kT (ah L (fE L k).toNat free) 1) (aD L k-n+1) (aD L k)).slots.at 1).value:=by rw[<-hobj];rfl
  rw[this,(s1 _ _ _).2];rfl
end Go.Sx
