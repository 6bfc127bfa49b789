import Derived.Test.YtlblcfaclmpekaaGreatMa10
set_option linter.unusedSimpArgs false
set_option linter.unusedVariables false
namespace Go.Sx
def jB (o:Obj):Bool:=decide (o.kind=0)&&decide (4294967295<=o.count)
def fz (o:Obj):Bool:=decide (o.kind=0)&&decide (o.count<4294967295)
def FV (o:Obj):Obj:=⟨3,o.count,0,gV,fa⟩
def lS (o:Obj) (kind:Int):Obj:=⟨kind,o.count+1,0,gV,fa⟩
def yT (o:Obj):Obj:=⟨0,o.count,0,gV,fa⟩
def lq (L:List Obj) (p:Nat->Obj->Bool) (t:Obj->Obj):List Obj:=(List.range L.length).map fun j=>if p j (aj L j free)then t (aj L j free)else aj L j free
def bM (L:List Obj) (f g:Int):List Obj:=lq L (fun j o=>decide (f<=(j:Int))&&decide ((j:Int)<g)&&jB o) FV
def kK (L:List Obj) (f g:Int):Prop:=∀j:Nat,f<=(j:Int)->(j:Int)<g->fz (aj L j free)=false
def mc (L:List Obj) (f g:Int):Bool:=(List.range L.length).any fun(j:Nat)=>decide (f<=(j:Int))&&decide ((j:Int)<g)&&jB (aj L j free)
def bu (L:List Obj) (f l:Int):Int:=match (List.range L.length).find? fun(j:Nat)=>decide (f<=(j:Int))&&decide ((j:Int)<=l)&&fz (aj L j free)with
 |some j=>(j:Int)
 |none=> -1
def cI (L:List Obj) (f l kind:Int):List Obj:=if bu L f l= -1 then bM L f (l+1)else cA (bM L f (bu L f l)) (bu L f l).toNat (lS (aj L (bu L f l).toNat free) kind)
def lr (L:List Obj) (f l:Int):Bool:= !decide (bu L f l= -1)||mc L f (l+1)
def dg (kind oid count:Int):Key:=⟨if kind=2 then 3 else 2,oid,count,0,0,0⟩
def iG (o:Obj) (n:Int):Bool:=decide ((o.slots.at 0).kind=1)&&decide ((o.slots.at 1).kind=1)&&decide (0<=(o.slots.at 0).value)&&decide ((o.slots.at 0).value<=(o.slots.at 1).value)&&decide ((o.slots.at 1).value<n)
def aN (L:List Obj) (k:Key):Int:=if aC L k 4 false=0 then(if iG (aj L k.oid.toNat free) (ai L:Int)then 0 else 220)else aC L k 4 false
def az (L:List Obj) (k:Key):Int:=((aj L k.oid.toNat free).slots.at 0).value
def aI (L:List Obj) (k:Key):Int:=((aj L k.oid.toNat free).slots.at 1).value
def aM (L:List Obj) (k:Key):Int:=if aN L k=0 then az L k else 0
def aE (L:List Obj) (k:Key):Int:=if aN L k=0 then aI L k else 0
def gx (L:List Obj) (k:Key) (kind:Int):Int:=if aN L k=0 then(if kind=1\/kind=2 then 0 else 2)else aN L k
def cx (L:List Obj) (k:Key) (kind:Int):Int:=if gx L k kind=0 then(if bu L (az L k) (aI L k)= -1 then 221 else 0)else gx L k kind
def fu (L:List Obj) (k:Key) (kind:Int):List Obj:=if gx L k kind=0 then cI L (az L k) (aI L k) kind else L
def gD (L:List Obj) (k:Key) (kind:Int):Bool:=decide (gx L k kind=0)&&lr L (az L k) (aI L k)
def de (L:List Obj) (k:Key) (kind:Int):Key:=if cx L k kind=0 then dg kind (bu L (az L k) (aI L k)) ((aj L (bu L (az L k) (aI L k)).toNat free).count+1)else void
def jc (L:List Obj) (v:Key):Bool:=aU L v&&(decide (v.kind=2)||decide (v.kind=3))
def cD (L:List Obj) (k v:Key):Int:=if aN L k=0 then(if jc L v then(if az L k<=v.oid/\v.oid<=aI L k/\v.oid≠k.oid then 0 else 4)else 5)else aN L k
def gE (L:List Obj) (k v:Key):List Obj:=if cD L k v=0 then cA L v.oid.toNat (yT (aj L v.oid.toNat free))else L
def jK (L:List Obj) (k v:Key):Bool:=decide (cD L k v=0)
def mL (o:Obj):Bool:=decide (o.kind=1)||decide (o.kind=2)
def lM (f g oid:Int) (j:Nat) (o:Obj):Bool:=decide (f<=(j:Int))&&decide ((j:Int)<g)&&mL o&& !decide ((j:Int)=oid)
def dQ (L:List Obj) (f g oid:Int):List Obj:=lq L (lM f g oid) yT
def eU (L:List Obj) (f g oid:Int):Int:=(((List.range L.length).filter fun j=>lM f g oid j (aj L j free)).length:Int)
def gZ (L:List Obj) (k:Key):List Obj:=if aN L k=0 then dQ L (az L k) (aI L k+1) k.oid else L
def fG (L:List Obj) (k:Key):Int:=if aN L k=0 then eU L (az L k) (aI L k+1) k.oid else 0
def kR (L:List Obj) (k:Key):Bool:=decide (aN L k=0)&& !decide (eU L (az L k) (aI L k+1) k.oid=0)
def jy (L:List Obj) (k v:Key):Bool:=decide (aN L k=0)&&jc L v&&decide (az L k<=v.oid)&&decide (v.oid<=aI L k)
theorem jl {L:List Obj} {p:Nat->Obj->Bool} {t:Obj->Obj}:(lq L p t).length=L.length:=by simp[lq]
theorem ku {L:List Obj} {p:Nat->Obj->Bool} {t:Obj->Obj} {j:Nat} (h:j<L.length):aj (lq L p t) j free=if p j (aj L j free)then t (aj L j free)else aj L j free:=by
 rw[show aj (lq L p t) j free=(lq L p t).getD j free from rfl,aa7];unfold lq;rw[List.getElem?_map,List.getElem?_range h];rfl
theorem ze {L:List Obj} {p:Nat->Obj->Bool} {t:Obj->Obj} (h:∀j,j<L.length->p j (aj L j free)=false):lq L p t=L:=by
 refine rP jl fun j hj=>?_
 rw[jl]at hj;rw[ku hj,h j hj];rfl
theorem EZ {L:List Obj} {p p':Nat->Obj->Bool} {t:Obj->Obj} {g:Nat} (hg:g<L.length) (hp:∀j,j≠g->p' j (aj L j free)=p j (aj L j free)) (h1:p' g (aj L g free)=true):
  cA (lq L p t) g (t (aj L g free))=lq L p' t:=by
 refine rP (by rw[ib,jl,jl]) fun j hj=>?_
 rw[ib,jl]at hj;rw[gh (by rw[jl];exact hg),ku hj,ku hj]
 by_cases e:j=g
 ·subst e;rw[aa9 rfl,h1,aa9 rfl]
 ·rw[aa8 e,hp j e]
theorem Bg {L:List Obj} {p p':Nat->Obj->Bool} {t:Obj->Obj} (hp:∀j,j<L.length->p' j (aj L j free)=p j (aj L j free)):lq L p' t=lq L p t:=by
 refine rP (by rw[jl,jl]) fun j hj=>?_
 rw[jl]at hj;rw[ku hj,ku hj,hp j hj]
theorem kH {L:List Obj} {f g:Int}:(bM L f g).length=L.length:=jl
theorem DA {L:List Obj} {f:Int}:L=bM L f f:=by
 symm
 refine ze fun j hj=>?_
 simp only[Bool.and_eq_false_iff,decide_eq_false_iff_not];omega
theorem Cp {L:List Obj} {f g:Int} (h0:0<=g):aj (bM L f g) g.toNat free=aj L g.toNat free:=by
 by_cases h:g.toNat<L.length
 ·unfold bM;rw[ku h,aa8];simp only[aa2,aa3];omega
 ·rw[show aj (bM L f g) g.toNat free=free by simp[aj,aa7,List.getElem?_eq_none (show(bM L f g).length<=g.toNat by rw[kH];omega)]]
  simp[aj,aa7,List.getElem?_eq_none (show L.length<=g.toNat by omega)]
theorem yr {L:List Obj} {f g:Int} (h0:0<=g) (h1:g<(L.length:Int)) (hf:f<=g) (hr:jB (aj L g.toNat free)=true):cA (bM L f g) g.toNat (FV (aj L g.toNat free))=bM L f (g+1):=by
 refine EZ (by omega) (fun j hj=>?_) ?_
 ·have:decide ((j:Int)<g+1)=decide ((j:Int)<g):=by rw[decide_eq_decide];omega
  rw[this]
 ·rw[hr];simp;omega
theorem Ag {L:List Obj} {f g:Int} (h0:0<=g) (hr:jB (aj L g.toNat free)=false):bM L f (g+1)=bM L f g:=by
 refine Bg fun j hj=>?_
 by_cases e:(j:Int)=g
 ·rw[show j=g.toNat by omega,hr,Bool.and_false,Bool.and_false]
 ·have:decide ((j:Int)<g+1)=decide ((j:Int)<g):=by rw[decide_eq_decide];omega
  rw[this]
theorem VC {L:List Obj} {f l g:Int} (h0:0<=f) (hf:f<=g) (hl:g<=l) (hg:g<(L.length:Int)) (hn:kK L f g) (hw:fz (aj L g.toNat free)=true):bu L f l=g:=by
 unfold bu
 have:(List.range L.length).find? (fun(j:Nat)=>decide (f<=(j:Int))&&decide ((j:Int)<=l)&&fz (aj L j free))=some g.toNat:=by
  rw[List.find?_eq_some_iff_getElem];refine⟨by rw[hw];simp;omega,g.toNat,by simp;omega,by simp,fun j hj=>?_⟩
  simp only[List.getElem_range,Bool.not_eq_true',Bool.and_eq_false_iff,decide_eq_false_iff_not];by_cases e:f<=(j:Int)
  ·right;exact hn j e (by omega)
  ·left;left;exact e
 rw[this];show((g.toNat:Nat):Int)=g
 omega
theorem Pz {L:List Obj} {f l:Int} (hn:kK L f (l+1)):bu L f l= -1:=by
 unfold bu
 have:(List.range L.length).find? (fun(j:Nat)=>decide (f<=(j:Int))&&decide ((j:Int)<=l)&&fz (aj L j free))=none:=by
  rw[List.find?_eq_none];intro j hj h;simp only[aa2,aa3]at h;rw[hn j h.1.1 (by omega)]at h
  simp at h
 rw[this]
theorem jX {L:List Obj} {f g:Int} (h:kK L f g) (hg:fz (aj L g.toNat free)=false):kK L f (g+1):=fun j h1 h2=>by
 by_cases e:(j:Int)=g
 ·rw[show j=g.toNat by omega];exact hg
 ·exact h j h1 (by omega)
theorem ui {L:List Obj} {f:Int}:kK L f f:=fun j h1 h2=>by omega
theorem IW {L:List Obj} {f:Int}:mc L f f=false:=by
 unfold mc;rw[List.any_eq_false];intro j hj h;simp only[aa2,aa3]at h;omega
theorem Fw {L:List Obj} {f g:Int} (h0:0<=g) (h1:g<(L.length:Int)) (hf:f<=g) (hr:jB (aj L g.toNat free)=true):mc L f (g+1)=true:=by
 unfold mc;rw[List.any_eq_true];exact⟨g.toNat,by simp;omega,by rw[hr];simp;omega⟩
theorem Hp {L:List Obj} {f g:Int} (h0:0<=g) (hr:jB (aj L g.toNat free)=false):mc L f (g+1)=mc L f g:=by
 unfold mc;rw[Bool.eq_iff_iff,List.any_eq_true,List.any_eq_true];refine exists_congr fun j=>and_congr_right fun _=>?_
 simp only[aa2,aa3];constructor
 ·rintro⟨⟨a,b⟩,c⟩
  refine⟨⟨a,?_⟩,c⟩;by_cases e:(j:Int)=g
  ·rw[show j=g.toNat by omega,hr]at c;simp at c
  ·omega
 ·rintro⟨⟨a,b⟩,c⟩
  exact⟨⟨a,by omega⟩,c⟩
theorem B5 {L:List Obj} {f g oid:Int}:(dQ L f g oid).length=L.length:=jl
theorem zw {L:List Obj} {f g oid:Int} (h:eU L f g oid=0):dQ L f g oid=L:=by
 refine ze fun j hj=>?_
 unfold eU at h;have h2:((List.range L.length).filter fun j=>lM f g oid j (aj L j free))= []:=List.eq_nil_of_length_eq_zero (by omega)
 rw[List.filter_eq_nil_iff]at h2;have:=h2 j (by simp;omega)
 simpa using this
theorem uE {L:List Obj} {f oid:Int}:eU L f f oid=0:=by
 unfold eU;rw[show((List.range L.length).filter fun j=>lM f f oid j (aj L j free))= []from ?_]
 ·rfl
 ·rw[List.filter_eq_nil_iff];intro j hj;unfold lM;simp only[aa2,aa3];omega
theorem KJ {L:List Obj} {f oid:Int}:L=dQ L f f oid:=(zw uE).symm
theorem NI {L:List Obj} {f g oid:Int} (h0:0<=g):aj (dQ L f g oid) g.toNat free=aj L g.toNat free:=by
 by_cases h:g.toNat<L.length
 ·unfold dQ;rw[ku h,aa8];unfold lM;simp only[aa2,aa3];omega
 ·rw[show aj (dQ L f g oid) g.toNat free=free by simp[aj,aa7,List.getElem?_eq_none (show(dQ L f g oid).length<=g.toNat by rw[B5];omega)]]
  simp[aj,aa7,List.getElem?_eq_none (show L.length<=g.toNat by omega)]
def j6 (L:List Obj) (g oid:Int):Bool:=mL (aj L g.toNat free)&& !decide (g=oid)
theorem Dt {L:List Obj} {f g oid:Int} (h0:0<=g) (hf:f<=g):lM f (g+1) oid g.toNat (aj L g.toNat free)=j6 L g oid:=by
 unfold lM j6;rw[show((g.toNat:Nat):Int)=g by omega]
 have a:decide (f<=g)=true:=by simp;omega
 have b:decide (g<g+1)=true:=by simp;omega
 rw[a,b];simp
theorem xJ {L:List Obj} {f g oid:Int} {j:Nat} (h:(j:Int)≠g) (o:Obj):lM f (g+1) oid j o=lM f g oid j o:=by
 unfold lM;have:decide ((j:Int)<g+1)=decide ((j:Int)<g):=by rw[decide_eq_decide];omega
 rw[this]
theorem C5 {f g oid:Int} {j:Nat} (h:(j:Int)=g) (o:Obj):lM f g oid j o=false:=by
 unfold lM;have:decide ((j:Int)<g)=false:=by simp;omega
 rw[this];simp
theorem Cv {L:List Obj} {f g oid:Int} (h0:0<=g) (h1:g<(L.length:Int)) (hf:f<=g) (hr:j6 L g oid=true):cA (dQ L f g oid) g.toNat (yT (aj L g.toNat free))=dQ L f (g+1) oid:=
 EZ (by omega) (fun j hj=>xJ (L:=L) (by omega) _) (by rw[Dt h0 hf];exact hr)
theorem yC {L:List Obj} {f g oid:Int} (h0:0<=g) (hf:f<=g) (hr:j6 L g oid=false):dQ L f (g+1) oid=dQ L f g oid:=by
 refine Bg fun j hj=>?_
 by_cases e:(j:Int)=g
 ·rw[show j=g.toNat by omega,Dt h0 hf,hr,C5 (by omega)]
 ·exact xJ (L:=L) e _
theorem uX {L:List Obj} {f g oid:Int} (h0:0<=g) (hf:f<=g) (hr:j6 L g oid=false):eU L f (g+1) oid=eU L f g oid:=by
 unfold eU;rw[show((List.range L.length).filter fun j=>lM f (g+1) oid j (aj L j free))=(List.range L.length).filter fun j=>lM f g oid j (aj L j free)from List.filter_congr fun j hj=>?_]
 by_cases e:(j:Int)=g
 ·rw[show j=g.toNat by omega,Dt h0 hf,hr,C5 (by omega)]
 ·exact xJ (L:=L) e _
theorem filter_one {l:List Nat} {p p':Nat->Bool} {g:Nat} (hn:l.Nodup) (hg:g∈l) (hp:∀j,j≠g->p' j=p j) (h0:p g=false) (h1:p' g=true):(l.filter p').length=(l.filter p).length+1:=by
 induction l with
 |nil=>simp at hg
 |cons a l ih=>
  rw[List.nodup_cons]at hn;by_cases e:a=g
  ·subst e;have:l.filter p'=l.filter p:=List.filter_congr fun j hj=>hp j fun e=>hn.1 (e▸hj)
   rw[List.filter_cons,List.filter_cons,h0,h1,aa9 rfl,aa8 (by simp),this]
   simp
  ·have hg2:g∈l:=by
    rcases List.mem_cons.1 hg with h|h
    ·exact absurd h.symm e
    ·exact h
   rw[List.filter_cons,List.filter_cons,hp a e];split
   ·simp only[List.length_cons];rw[ih hn.2 hg2]
   ·exact ih hn.2 hg2
theorem yz {L:List Obj} {f g oid:Int} (h0:0<=g) (h1:g<(L.length:Int)) (hf:f<=g) (hr:j6 L g oid=true):eU L f (g+1) oid=eU L f g oid+1:=by
 unfold eU;have:=filter_one (l:=List.range L.length) (p:=fun j=>lM f g oid j (aj L j free)) (p':=fun j=>lM f (g+1) oid j (aj L j free)) (g:=g.toNat) List.nodup_range (by simp;omega) (fun j hj=>xJ (L:=L) (by omega) _) (C5 (by omega) _) (by show lM f (g+1) oid g.toNat (aj L g.toNat free)=true;rw[Dt h0 hf];exact hr)
 omega
theorem tz {L:List Obj} {f g oid:Int}:0<=eU L f g oid:=by unfold eU;omega
theorem Pn {L:List Obj} {f g oid:Int}:eU L f g oid<=(L.length:Int):=by
 unfold eU;have:=List.length_filter_le (fun j=>lM f g oid j (aj L j free)) (List.range L.length)
 rw[List.length_range]at this;omega
theorem CY {n:Int} {kind count:Int} (h1:1<=n) (h2:n<=64) (h3:0<=kind) (h4:kind<=3) (h5:0<=count) (h6:count<=4294967295):bP ⟨kind,count,0,gV,fa⟩ n=true:=by
 rw[dS];refine⟨h1,h2,h3,h4,h5,h6,by simp,by simp,.inr rfl,fun i hi=>?_,fun i hi=>?_⟩
 ·simp only[yO];unfold jk;rw[mV.1,mV.2];simp;omega
 ·have hz:=Hh.1 (show fa=fa from rfl) i hi;first|exact .inr (.inr hz)|exact hz|simp[hz]
theorem j3 {o:Obj} {n:Int} (h:bP o n=true):0<=o.count/\o.count<=4294967295/\0<=o.kind/\o.kind<=3/\1<=n/\n<=64:=by
 obtain⟨a1,a2,a3,a4,a5,a6,_⟩:=dS.1 h;exact⟨a5,a6,a3,a4,a1,a2⟩
theorem CG {o:Obj} {n:Int} (h:bP o n=true):bP (FV o) n=true:=by
 obtain⟨a,b,c,d,e,f⟩:=j3 h;exact CY e f (by omega) (by omega) a b
theorem xL {o:Obj} {n:Int} (h:bP o n=true):bP (yT o) n=true:=by
 obtain⟨a,b,c,d,e,f⟩:=j3 h;exact CY e f (by omega) (by omega) a b
theorem CX {o:Obj} {n kind:Int} (h:bP o n=true) (hn:fz o=true) (hk:kind=1\/kind=2):bP (lS o kind) n=true:=by
 obtain⟨a,b,c,d,e,f⟩:=j3 h;unfold fz at hn;simp only[aa2,aa3]at hn;exact CY e f (by omega) (by omega) (by omega) (by omega)
theorem HN {L:List Obj} {p:Nat->Obj->Bool} {t:Obj->Obj} (h:ar L) (ht:∀o,bP o (L.length:Int)=true->bP (t o) (L.length:Int)=true):ar (lq L p t):=by
 refine Nw h jl fun j hj=>?_
 rw[ku hj];split
 ·exact ht _ (dq h j hj)
 ·exact dq h j hj
theorem F8 {L:List Obj} {f g:Int} (h:ar L):ar (bM L f g):=HN h fun o ho=>CG ho
def kB:ld (Key×Unit):=bc kA gK
def Oc:ld (Key×Key×Unit):=bc kA (bc kA gK)
def RN:ld (Key×Int×Unit):=bc kA (bc iA gK)
def i3B:ld (Int×Int×Int×Unit):=bc iA (bc iA (bc iA gK))
theorem Fm:gS kB:=aA iF bV
theorem wq:gS Oc:=aA iF (aA iF bV)
theorem CS:gS RN:=aA iF (aA dN bV)
theorem X7:gS i3B:=aA dN (aA dN (aA dN bV))
def Fj (L:List Obj) (f l:Int):Prop:=ar L/\0<=f/\l<(ai L:Int)/\f<=l+1
def Ts:Ct:=ti (bc As kB) (fun _=>none) fun x=> .tp [.it .i64 (aM x.1 x.2.1),.it .i64 (aE x.1 x.2.1),.it .i64 (aN x.1 x.2.1)]
def LZ:kc:=Ar (uk i3B) (fun L x=>Fj L x.1 x.2.1) (fun L x=>lr L x.1 x.2.1) (fun L x=>cI L x.1 x.2.1 x.2.2.1) fun L x=> [.it .i64 (bu L x.1 x.2.1)]
def RG:kc:=Ar (uk RN) (fun L _=>ar L) (fun L x=>gD L x.1 x.2.1) (fun L x=>fu L x.1 x.2.1) fun L x=> [.key (de L x.1 x.2.1),.it .i64 (cx L x.1 x.2.1)]
def Xj:kc:=Ar (uk Oc) (fun L _=>ar L) (fun L x=>jK L x.1 x.2.1) (fun L x=>gE L x.1 x.2.1) fun L x=> [.it .i64 (cD L x.1 x.2.1)]
def Rn:kc:=Ar (uk kB) (fun L _=>ar L) (fun L x=>kR L x.1) (fun L x=>gZ L x.1) fun L x=> [.it .i64 (fG L x.1),.it .i64 (aN L x.1)]
def Um:Ct:=ti (bc As Oc) (fun _=>none) fun x=> .tp [.bo (jy x.1 x.2.1 x.2.2.1),.it .i64 (aN x.1 x.2.1)]
def vM (L:List Obj) (f l:Int) (g:Int):Prop:=f<=g/\g<=l+1/\kK L f g/\mc L f g=false
def si (L:List Obj) (f l:Int) (g:Int):Prop:=f<=g/\g<=l+1/\kK L f g/\mc L f g=true
def X1:Ct:=mk3 (rI .i64) (rI .i64) (rI .i64) fun a b c=> .key (dg a b c)
theorem yJ {L:List Obj} {f g:Int} (h:mc L f g=false):bM L f g=L:=by
 refine ze fun j hj=>?_
 unfold mc at h;rw[List.any_eq_false]at h;simpa using h j (by simpa using hj)
theorem yq {o:Obj} (h:o.kind≠0):jB o=false/\fz o=false:=by simp[jB,fz,h]
theorem CE {o:Obj} (h:o.kind=0) (h2:4294967295<=o.count):jB o=true/\fz o=false:=by simp[jB,fz,h,h2]
theorem CW {o:Obj} (h:o.kind=0) (h2:¬4294967295<=o.count):jB o=false/\fz o=true:=by
 refine⟨by simp[jB,h2],?_⟩
 simp only[fz,aa2,aa3];omega
theorem xT {L:List Obj} {f l g:Int} (kind:Int) (h0:0<=f) (hf:f<=g) (hl:g<=l) (hg:g<(L.length:Int)) (hn:kK L f g) (hw:fz (aj L g.toNat free)=true):
  bu L f l=g/\lr L f l=true/\cI L f l kind=cA (bM L f g) g.toNat (lS (aj L g.toNat free) kind):=by
 have e:=VC h0 hf hl hg hn hw;refine⟨e,?_,?_⟩
 ·unfold lr;rw[e];simp;left;omega
 ·unfold cI;rw[e,aa8 (by omega)]
theorem CJ {L:List Obj} {f l:Int} (kind:Int) (hn:kK L f (l+1)):bu L f l= -1/\cI L f l kind=bM L f (l+1)/\lr L f l=mc L f (l+1):=by
 have e:=Pz hn;refine⟨e,?_,?_⟩
 ·unfold cI;rw[e,aa9 rfl]
 ·unfold lr;rw[e];rfl
theorem Mo (o:Obj) (n:Nat):(!decide ((o.slots.at 0).kind=1)|| !decide ((o.slots.at 1).kind=1)||decide ((o.slots.at 0).value<0)||decide ((o.slots.at 1).value<(o.slots.at 0).value)||decide (bD n<=(o.slots.at 1).value))= !iG o (n:Int):=by
 unfold iG bD;rw[Bool.eq_iff_iff];simp only[Bool.or_eq_true,Bool.not_eq_true',Bool.and_eq_false_iff,aa3,decide_eq_false_iff_not];omega
theorem Gq {L:List Obj} {k:Key} (h:aC L k 4 false≠0):aN L k=aC L k 4 false/\aM L k=0/\aE L k=0:=by
 have e:aN L k=aC L k 4 false:=by unfold aN;rw[aa8 h]
 refine⟨e,?_,?_⟩
 ·unfold aM;rw[e,aa8 h]
 ·unfold aE;rw[e,aa8 h]
theorem CZ {L:List Obj} {k:Key} (h:aC L k 4 false=0) (h2:iG (aj L k.oid.toNat free) (ai L:Int)=false):aN L k=220/\aM L k=0/\aE L k=0:=by
 have e:aN L k=220:=by unfold aN;rw[aa9 h,h2];rfl
 refine⟨e,?_,?_⟩
 ·unfold aM;rw[e];rfl
 ·unfold aE;rw[e];rfl
theorem vD {L:List Obj} {k:Key} (h:aC L k 4 false=0) (h2:iG (aj L k.oid.toNat free) (ai L:Int)=true):aN L k=0/\aM L k=az L k/\aE L k=aI L k:=by
 have e:aN L k=0:=by unfold aN;rw[aa9 h,h2];rfl
 refine⟨e,?_,?_⟩
 ·unfold aM;rw[e];rfl
 ·unfold aE;rw[e];rfl
theorem mI {L:List Obj} {k:Key} (h:aN L k=0):aC L k 4 false=0/\0<=az L k/\az L k<=aI L k/\aI L k<(L.length:Int)/\0<=k.oid/\k.oid<(L.length:Int):=by
 have ha:aC L k 4 false=0:=by
  unfold aN at h;split at h
  ·assumption
  ·rename_i h1;exact absurd h h1
 have hb:iG (aj L k.oid.toNat free) (ai L:Int)=true:=by
  cases hb:iG (aj L k.oid.toNat free) (ai L:Int)with
  |true=>rfl
  |false=>rw[(CZ ha hb).1]at h;simp at h
 obtain⟨_,b2,b3,_⟩:=eg (gr ha).1;unfold iG at hb;simp only[aa2,aa3]at hb;obtain⟨⟨⟨⟨_,_⟩,h3⟩,h4⟩,h5⟩:=hb;exact⟨ha,h3,h4,h5,b2,b3⟩
theorem v7 {L:List Obj} {f l:Int} (h0:0<=f):bu L f l= -1\/(f<=bu L f l/\bu L f l<=l/\bu L f l<(L.length:Int)/\fz (aj L (bu L f l).toNat free)=true):=by
 unfold bu;split
 ·rename_i j hj;right
  have h1:=List.find?_some hj;have h2:=List.mem_of_find?_eq_some hj;simp only[aa2,aa3]at h1;rw[List.mem_range]at h2;exact⟨h1.1.1,h1.1.2,by omega,h1.2⟩
 ·exact .inl rfl
theorem ve {L:List Obj} {f l kind:Int}:(cI L f l kind).length=L.length:=by
 unfold cI;split
 ·exact kH
 ·rw[ib,kH]
theorem Nf {L:List Obj} {f l kind:Int} (h0:0<=f) (h:bu L f l≠ -1):aj (cI L f l kind) (bu L f l).toNat free=lS (aj L (bu L f l).toNat free) kind:=by
 rcases v7 (L:=L) (l:=l) h0 with e|⟨a,b,c,d⟩
 ·exact absurd e h
 ·unfold cI;rw[aa8 h,gh (by rw[kH];omega),aa9 rfl]
theorem Cg {L:List Obj} {f l:Int} (h:bu L f l≠ -1):lr L f l=true:=by unfold lr;simp[h]
theorem B2 {L:List Obj} {k:Key} (h:aN L k=0):aM L k=az L k/\aE L k=aI L k:=by
 unfold aM aE;rw[aa9 h,aa9 h];exact⟨rfl,rfl⟩
theorem SJ {L:List Obj} {k:Key} {kind:Int} (h:aN L k=0) (h1:kind≠1) (h2:kind≠2):gD L k kind=false/\void=de L k kind/\2=cx L k kind:=by
 have e:gx L k kind=2:=by unfold gx;rw[aa9 h,aa8 (by omega)]
 have e2:cx L k kind=2:=by unfold cx;rw[e];rfl
 refine⟨by unfold gD;rw[e];rfl,by unfold de;rw[e2];rfl,e2.symm⟩
theorem R8 {L:List Obj} {k:Key} {kind:Int} (h:aN L k≠0):gD L k kind=false/\void=de L k kind/\aN L k=cx L k kind:=by
 have e:gx L k kind=aN L k:=by unfold gx;rw[aa8 h]
 have e2:cx L k kind=aN L k:=by unfold cx;rw[e,aa8 h]
 refine⟨by unfold gD;rw[e];simp[h],by unfold de;rw[e2,aa8 h],e2.symm⟩
theorem yY {L:List Obj} {k:Key} {kind:Int} (h:aN L k=0) (hk:kind=1\/kind=2) (hi:bu L (az L k) (aI L k)= -1):gD L k kind=lr L (az L k) (aI L k)/\void=de L k kind/\221=cx L k kind/\cI L (az L k) (aI L k) kind=fu L k kind:=by
 have e:gx L k kind=0:=by unfold gx;rw[aa9 h,aa9 hk]
 have e2:cx L k kind=221:=by unfold cx;rw[aa9 e,aa9 hi]
 refine⟨by unfold gD;rw[e];simp,by unfold de;rw[e2];rfl,e2.symm,by unfold fu;rw[aa9 e]⟩
theorem Hy {L:List Obj} {k:Key} {kind:Int} (h:aN L k=0) (hk:kind=1\/kind=2) (hi:bu L (az L k) (aI L k)≠ -1):gD L k kind=true/\Key.mk (1+kind) (bu L (az L k) (aI L k)) (aj (cI L (az L k) (aI L k) kind) (bu L (az L k) (aI L k)).toNat free).count 0 0 0=de L k kind/\0=cx L k kind/\cI L (az L k) (aI L k) kind=fu L k kind:=by
 have e:gx L k kind=0:=by unfold gx;rw[aa9 h,aa9 hk]
 have e2:cx L k kind=0:=by unfold cx;rw[aa9 e,aa8 hi]
 refine⟨by unfold gD;rw[e,Cg hi];rfl,?_,e2.symm,by unfold fu;rw[aa9 e]⟩
 unfold de;rw[aa9 e2,Nf (mI h).2.1 hi];unfold dg lS;rcases hk with rfl|rfl<;>rfl
theorem zO {L:List Obj} {v:Key}:jc L v= !(!aU L v|| !decide (v.kind=2)&& !decide (v.kind=3)):=by unfold jc;cases aU L v<;>cases decide (v.kind=2)<;>cases decide (v.kind=3)<;>rfl
theorem ET {L:List Obj} {v:Key} (h:jc L v=true):aU L v=true:=by unfold jc at h;simp only[aa2]at h;exact h.1
def gu (L:List Obj) (k:Key):Int:=bu L (az L k) (aI L k)
def dU (L:List Obj) (k:Key):List Obj:=cI L (az L k) (aI L k) 1
def lL (M:List Obj) (f g:Int):Bool:=(List.range M.length).any fun(j:Nat)=>decide (f<=(j:Int))&&decide ((j:Int)<g)&&mL (aj M j free)
def mN (L:List Obj) (k:Key) (n:Int):Int:=if aN L k=0 then(if n<1\/aI L k-az L k<n then 4 else 0)else aN L k
def bZ (L:List Obj) (k:Key) (n:Int):Int:=if mN L k n=0 then(if gu L k<0\/aI L k-n<gu L k then 221 else if lL (dU L k) (aI L k-n+1) (aI L k+1)=true then 221 else 0)else mN L k n
def kZ (L:List Obj) (k:Key) (n:Int):Bool:=decide (bZ L k n=0)
def jL (o:Obj) (a b:Int):Obj:= {o with slots:=(o.slots.put 0 (cK a)).put 1 (cK b)}
def mJ (o:Obj) (b:Int):Obj:= {o with slots:=o.slots.put 1 (cK b)}
def bF (L:List Obj) (k:Key) (n:Int):List Obj:=if bZ L k n=0 then cA (cA (dU L k) (gu L k).toNat (jL (aj (dU L k) (gu L k).toNat free) (aI L k-n+1) (aI L k))) k.oid.toNat (mJ (aj (dU L k) k.oid.toNat free) (aI L k-n))else L
def cc (L:List Obj) (k:Key) (n:Int):Key:=if bZ L k n=0 then⟨4,gu L k,(aj (dU L k) (gu L k).toNat free).count,0,0,0⟩else void
def OT:kc:=Ar (uk RN) (fun L _=>ar L) (fun L x=>kZ L x.1 x.2.1) (fun L x=>bF L x.1 x.2.1) fun L x=> [.key (cc L x.1 x.2.1),.it .i64 (bZ L x.1 x.2.1)]
def qc (L:List Obj) (k:Key) (n g:Int):Prop:=aI L k-n+1<=g/\g<=aI L k+1/\lL (dU L k) (aI L k-n+1) g=false
theorem Eo {L:List Obj} {k:Key} {n e:Int} (h:bZ L k n=e) (he:e≠0):kZ L k n=false/\void=cc L k n/\e=bZ L k n:=by
 refine⟨by unfold kZ;rw[h];simpa using he,by unfold cc;rw[h,aa8 he],h.symm⟩
theorem yH {L:List Obj} {k:Key} {n:Int} (h:aN L k≠0):bZ L k n=aN L k:=by
 have e:mN L k n=aN L k:=by unfold mN;rw[aa8 h]
 unfold bZ;rw[e,aa8 h]
theorem AF {L:List Obj} {k:Key} {n:Int} (h:aN L k=0) (hn:n<1\/aI L k-az L k<n):bZ L k n=4:=by
 have e:mN L k n=4:=by unfold mN;rw[aa9 h,aa9 hn]
 unfold bZ;rw[e];rfl
theorem HL {L:List Obj} {k:Key} {n:Int} (h:aN L k=0) (h1:1<=n) (h2:n<=aI L k-az L k):mN L k n=0:=by
 unfold mN;rw[aa9 h,aa8 (by omega)]
theorem vb {L:List Obj} {k:Key} {n:Int} (h:mN L k n=0) (hi:gu L k<0\/aI L k-n<gu L k):bZ L k n=221:=by
 unfold bZ;rw[aa9 h,aa9 hi]
theorem Fo {L:List Obj} {k:Key} {n:Int} (h:mN L k n=0) (hi:lL (dU L k) (aI L k-n+1) (aI L k+1)=true):bZ L k n=221:=by
 unfold bZ;rw[aa9 h,aa9 hi];split<;>rfl
theorem IG {L:List Obj} {k:Key} {n:Int} (h:mN L k n=0) (h1:0<=gu L k) (h2:gu L k<=aI L k-n) (hi:lL (dU L k) (aI L k-n+1) (aI L k+1)=false):bZ L k n=0:=by
 unfold bZ;rw[aa9 h,aa8 (by omega),hi];rfl
theorem I2 {M:List Obj} {f:Int}:lL M f f=false:=by
 unfold lL;rw[List.any_eq_false];intro j hj h;simp only[aa2,aa3]at h;omega
theorem DJ {M:List Obj} {f g e:Int} (h0:0<=g) (h1:g<(M.length:Int)) (hf:f<=g) (he:g<e) (hr:mL (aj M g.toNat free)=true):lL M f e=true:=by
 unfold lL;rw[List.any_eq_true];exact⟨g.toNat,by simp;omega,by rw[hr];simp;omega⟩
theorem HH {M:List Obj} {f g:Int} (h0:0<=g) (hr:mL (aj M g.toNat free)=false):lL M f (g+1)=lL M f g:=by
 unfold lL;rw[Bool.eq_iff_iff,List.any_eq_true,List.any_eq_true];refine exists_congr fun j=>and_congr_right fun _=>?_
 simp only[aa2,aa3];constructor
 ·rintro⟨⟨a,b⟩,c⟩
  refine⟨⟨a,?_⟩,c⟩;by_cases e:(j:Int)=g
  ·rw[show j=g.toNat by omega,hr]at c;simp at c
  ·omega
 ·rintro⟨⟨a,b⟩,c⟩
  exact⟨⟨a,by omega⟩,c⟩
theorem VR {L:List Obj} {k:Key} (h:aU L k=true):cw k=k.oid:=by
 unfold aU at h;simp only[aa2]at h;unfold cw;rw[aa9 h.1.1]
theorem ID {L:List Obj} {k:Key} (h:(!decide (0<ak L))=true):aN L k=1:=by unfold aN;rw[Lc h];rfl
theorem Y2 {L:List Obj} {k:Key} (h:(!decide (0<ak L))=false) (h2:(!(aU L k&&decide (k.kind=4)))=true):aN L k=190:=by unfold aN;rw[IL h h2];rfl
theorem Zp {L:List Obj} {k:Key} (h:(!decide (0<ak L))=false) (h2:(!(aU L k&&decide (k.kind=4)))=false) (h3:(!iG (aa L k) (ak L))=true):aN L k=220:=by
 have ha:=HR h h2;rw[(eg (nu h2).1).2.2.2.1]at h3;exact(CZ ha (show iG (aj L k.oid.toNat free) (ak L)=false by simpa using h3)).1
theorem TG {L:List Obj} {k:Key} (h:(!decide (0<ak L))=false) (h2:(!(aU L k&&decide (k.kind=4)))=false) (h3:(!iG (aa L k) (ak L))=false):aN L k=0/\((aa L k).slots.at 0).value=az L k/\((aa L k).slots.at 1).value=aI L k:=by
 have ha:=HR h h2;have e:=(eg (nu h2).1).2.2.2.1;rw[e]at h3;rw[e];exact⟨(vD ha (show iG (aj L k.oid.toNat free) (ak L)=true by simpa using h3)).1,rfl,rfl⟩
theorem Cw {L:List Obj} {k v:Key} {e:Int} (h:aN L k=e) (he:e≠0):false=jy L k v/\e=aN L k:=by
 refine⟨?_,h.symm⟩;unfold jy;rw[h];simp[he]
theorem tn {L:List Obj} {k v:Key} {e:Int} (h:cD L k v=e) (he:e≠0):e=cD L k v/\L=gE L k v:=by
 refine⟨h.symm,?_⟩;unfold gE;rw[h,aa8 he]
theorem re {L:List Obj} {k v:Key} {e:Int} (h:aN L k=e) (he:e≠0):cD L k v=e:=by
 unfold cD;rw[h,aa8 he]
theorem yI {L:List Obj} {k:Key} {e:Int} (h:aN L k=e) (he:e≠0):(0=fG L k/\e=aN L k)/\L=gZ L k:=by
 unfold fG gZ;rw[h,aa8 he,aa8 he];exact⟨⟨rfl,rfl⟩,rfl⟩
theorem wG {L:List Obj} {k:Key} {kind e:Int} (h:gx L k kind=e) (he:e≠0):(void=de L k kind/\e=cx L k kind)/\L=fu L k kind:=by
 have e2:cx L k kind=e:=by unfold cx;rw[h,aa8 he]
 unfold de fu;rw[e2,h,aa8 he,aa8 he];exact⟨⟨rfl,rfl⟩,rfl⟩
theorem rv {L:List Obj} {k:Key} {kind e:Int} (h:aN L k=e) (he:e≠0):gx L k kind=e:=by unfold gx;rw[h,aa8 he]
theorem NT {L:List Obj} {k:Key} {kind:Int} (h:aN L k=0) (h2:(!(decide (kind=1)||decide (kind=2)))=true):gx L k kind=2:=by
 unfold gx;rw[aa9 h,aa8];simp only[Bool.not_eq_true',Bool.or_eq_false_iff,decide_eq_false_iff_not]at h2;omega
theorem pK {L:List Obj} {k:Key} {n e:Int} (h:bZ L k n=e) (he:e≠0):(void=cc L k n/\e=bZ L k n)/\L=bF L k n:=by
 unfold cc bF;rw[h,aa8 he,aa8 he];exact⟨⟨rfl,rfl⟩,rfl⟩
theorem vm {L:List Obj} {k:Key} {n e:Int} (h:aN L k=e) (he:e≠0):bZ L k n=e:=by rw[yH (by omega),h]
def QK:Ct:=ti (bc sA Oc) (fun _=>none) fun x=> .tp [.bo (jy (Dx x.1) x.2.1 x.2.2.1),.it .i64 (aN (Dx x.1) x.2.1)]
def QV:kc:=Jd (uk RN) (fun L _=>ar L) (fun L x=> .tp [.key (de L x.1 x.2.1),.it .i64 (cx L x.1 x.2.1)]) fun L x=>fu L x.1 x.2.1
def WL:kc:=Jd (uk Oc) (fun L _=>ar L) (fun L x=> .it .i64 (cD L x.1 x.2.1)) fun L x=>gE L x.1 x.2.1
def RV:kc:=Jd (uk kB) (fun L _=>ar L) (fun L x=> .tp [.it .i64 (fG L x.1),.it .i64 (aN L x.1)]) fun L x=>gZ L x.1
def Qr:kc:=Jd (uk RN) (fun L _=>ar L) (fun L x=> .tp [.key (cc L x.1 x.2.1),.it .i64 (bZ L x.1 x.2.1)]) fun L x=>bF L x.1 x.2.1
def qk (L:List Obj) (k:Key) (n g:Int):Prop:=az L k<=g/\g<=aI L k+1/\lL (dU L k) (aI L k-n+1) g=false
def PB (L M:List Obj) (g:Int):Int:=aj (dM L M) g.toNat 0
def Kp:List Obj->List Obj->Nat->List Obj
 |L,_,0=>L
 |L,M,g+1=>cN (Kp L M g) (PB L M (g:Int)) (aL M (PB L M (g:Int)))
def mS (L M:List Obj) (g:Int):List Obj:=Kp L M g.toNat
def sH (L M:List Obj) (g:Int):Prop:=0<=g/\g<=((dM L M).length:Int)
def fg (L:List Obj) (k:Key) (g:Int):Obj:=aL (bM L (az L k) g) g
def qA (L:List Obj) (k:Key) (g:Int):List Obj:=cN (bM L (az L k) g) g (Obj.mk 1 ((fg L k g).count+1) free.calls free.slots free.bytes)
def oI (x:Int):Key:=Key.mk 1 void.oid void.count void.call void.rights x
def Ds (L:List Obj) (k:Key) (n g:Int):Obj:=Obj.mk (aL (qA L k g) g).kind (aL (qA L k g) g).count (aL (qA L k g) g).calls (((aL (qA L k g) g).slots.put 0 (oI (((aa L k).slots.at 1).value-n+1))).put 1 (oI ((aa L k).slots.at 1).value)) (aL (qA L k g) g).bytes
def C7 (L:List Obj) (k:Key) (n g:Int):List Obj:=cN (qA L k g) g (Ds L k n g)
def CB (L:List Obj) (k:Key) (n g:Int):Obj:=Obj.mk (aL (C7 L k n g) k.oid).kind (aL (C7 L k n g) k.oid).count (aL (C7 L k n g) k.oid).calls ((aL (C7 L k n g) k.oid).slots.put 1 (oI (((aa L k).slots.at 1).value-n))) (aL (C7 L k n g) k.oid).bytes
def mK (L:List Obj) (k:Key) (n g:Int):List Obj:=cN (C7 L k n g) k.oid (CB L k n g)
def jA (L:List Obj) (k:Key) (g:Int):Prop:=az L k<=g/\g<=aI L k+1/\kK L (az L k) g
def r8 (L:List Obj) (k:Key) (g:Int):Prop:=az L k<=g/\g<=aI L k+1
def uY (L:List Obj) (k:Key) (g:Int):Prop:=az L k<=g/\g<=aI L k+1/\eU L (az L k) g k.oid=0
def rX (L:List Obj) (k:Key) (g:Int):Prop:=az L k<=g/\g<=aI L k+1/\eU L (az L k) g k.oid≠0
theorem A0 {L:List Obj} {k:Key} (h:aU L k=true) (h2:k.kind=4):(aj L k.oid.toNat free).kind=1:=by
 unfold aU at h;simp only[aa2]at h;obtain⟨⟨h1,_⟩,h3⟩:=h;unfold cG at h3;simp only[aa2,Bool.or_eq_true,aa3]at h3;rcases k9 k with⟨_,e,h0⟩|⟨e,_⟩
 ·rcases h3.2 with h|h
  ·omega
  ·rw[h.1.1];unfold gB;rw[aa8 (by omega),aa8 (by omega)]
 ·rw[e]at h1;simp at h1
theorem Hj {o:Obj} {n b:Int} (h:bP o n=true) (hk:o.kind=1):bP (mJ o b) n=true:=by
 refine yZ h hk fun i hi=>?_
 have:=(j3 h).2.2.2.2.1;rw[cL.fY _ _ _ _ (by omega)]
 split
 ·exact rZ (by omega) _
 ·exact sg h hk i hi
theorem Ho {o:Obj} {n a b:Int} (h:bP o n=true) (hk:o.kind=1):bP (jL o a b) n=true:=by
 refine yZ h hk fun i hi=>?_
 have:=(j3 h).2.2.2.2.1;rw[cL.fY _ _ _ _ (by omega),cL.fY _ _ _ _ (by omega)]
 split
 ·exact rZ (by omega) _
 split
 ·exact rZ (by omega) _
 ·exact sg h hk i hi
theorem Vh {L:List Obj} {k:Key} {g:Int} (hL:ar L) (e:aN L k=0) (hk:(aj L k.oid.toNat free).kind=1) (g0:az L k<=g) (gl:g<=aI L k) (g2:kK L (az L k) g) (f2:fz (aj L g.toNat free)=true):
  gu L k=g/\fg L k g=aj L g.toNat free/\qA L k g=dU L k/\(dU L k).length=L.length/\ar (dU L k)/\aj (dU L k) g.toNat free=lS (aj L g.toNat free) 1/\aj (dU L k) k.oid.toNat free=aj L k.oid.toNat free/\k.oid.toNat≠g.toNat:=by
 obtain⟨_,a0,a1,a2,a3,a4⟩:=mI e;have hgn:g.toNat<L.length:=by omega
 have hgz:(bM L (az L k) g).length=L.length:=kH;have hgt:aL (bM L (az L k) g) g=aj L g.toNat free:=by rw[fF (by omega) (by omega),Cp (by omega)]
 obtain⟨m1,m2,m3⟩:=xT (l:=aI L k) 1 a0 g0 gl (by omega) g2 f2
 have hO:fg L k g=aj L g.toNat free:=hgt;have hnew:=CX (dq hL g.toNat hgn) f2 (.inl rfl);have hp:=(lY (L:=bM L (az L k) g) (i:=g) (x:=lS (aj L g.toNat free) 1) (by omega) (by omega) (by rw[hgz];exact hnew)).1
 have hP:qA L k g=dU L k:=by
  unfold qA;rw[hO];exact hp.trans m3.symm
 have hne:k.oid.toNat≠g.toNat:=fun h=>by
  rw[h]at hk;unfold fz at f2;simp only[aa2,aa3]at f2;omega
 have hM:dU L k=cA (bM L (az L k) g) g.toNat (lS (aj L g.toNat free) 1):=m3;have hko:k.oid.toNat<L.length:=by omega
 refine⟨m1,hO,hP,ve,?_,?_,?_,hne⟩
 ·rw[hM];exact lH (F8 hL) (by rw[hgz];exact hnew)
 ·rw[hM,gh (by rw[hgz];exact hgn),aa9 rfl]
 ·rw[hM,gh (by rw[hgz];exact hgn),aa8 hne]
  unfold bM;rw[ku hko,aa8];simp only[jB,hk,aa2,aa3];omega
theorem TB {L:List Obj} {k:Key} {n g:Int} (hL:ar L) (e:aN L k=0) (hk:(aj L k.oid.toNat free).kind=1) (hB:((aa L k).slots.at 1).value=aI L k) (g0:az L k<=g) (gl:g<=aI L k) (g2:kK L (az L k) g) (f2:fz (aj L g.toNat free)=true) (h:bZ L k n=0):
  mK L k n g=bF L k n/\ar (bF L k n)/\(bF L k n).length=L.length/\Key.mk 4 g ((fg L k g).count+1) 0 0 0=cc L k n:=by
 obtain⟨i1,i2,i3,i4,i5,i6,i7,i8⟩:=Vh hL e hk g0 gl g2 f2;obtain⟨_,a0,a1,a2,a3,a4⟩:=mI e;have hgM:aL (dU L k) g=aj (dU L k) g.toNat free:=fF (by omega) (by omega)
 have hR1:Ds L k n g=jL (aj (dU L k) g.toNat free) (aI L k-n+1) (aI L k):=by
  unfold Ds;rw[i3,hgM,hB];rfl
 have o1:bP (jL (aj (dU L k) g.toNat free) (aI L k-n+1) (aI L k)) ((dU L k).length:Int)=true:=Ho (dq i5 g.toNat (by omega)) (by rw[i6];rfl)
 have hP2:C7 L k n g=cA (dU L k) g.toNat (jL (aj (dU L k) g.toNat free) (aI L k-n+1) (aI L k)):=by
  unfold C7;rw[i3,hR1];exact(lY (by omega) (by omega) o1).1
 have ok2:=lH (i:=g.toNat) i5 o1;have l2:(cA (dU L k) g.toNat (jL (aj (dU L k) g.toNat free) (aI L k-n+1) (aI L k))).length=L.length:=by rw[ib];exact i4
 have g2':aL (C7 L k n g) k.oid=aj (dU L k) k.oid.toNat free:=by
  rw[hP2,fF (by omega) (by omega),gh (by omega),aa8 i8]
 have hR2:CB L k n g=mJ (aj (dU L k) k.oid.toNat free) (aI L k-n):=by
  unfold CB;rw[g2',hB];rfl
 have o2:bP (mJ (aj (dU L k) k.oid.toNat free) (aI L k-n)) (L.length:Int)=true:=Hj (by rw[<-i4];exact dq i5 k.oid.toNat (by omega)) (by rw[i7];exact hk)
 have hlast:bF L k n=cA (cA (dU L k) g.toNat (jL (aj (dU L k) g.toNat free) (aI L k-n+1) (aI L k))) k.oid.toNat (mJ (aj (dU L k) k.oid.toNat free) (aI L k-n)):=by
  unfold bF;rw[aa9 h,i1]
 refine⟨?_,?_,?_,?_⟩
 ·unfold mK;rw[hR2,hP2,hlast];exact(lY (by omega) (by omega) (by rw[l2];exact o2)).1
 ·rw[hlast];exact lH ok2 (by rw[l2];exact o2)
 ·rw[hlast,ib];exact l2
 ·unfold cc;rw[aa9 h,i1,i6,i2];rfl
theorem SS {L M:List Obj} {x:Int} (h:x∈dM L M):0<=x/\x<(L.length:Int):=by
 unfold dM iT at h;rw[List.mem_map]at h;obtain⟨j,h1,rfl⟩:=h;have:=List.mem_range.1 (List.mem_filter.1 h1).1;unfold ai at this;exact⟨Int.natCast_nonneg j,by show(j:Int)<_;omega⟩
theorem XH {L M:List Obj} {i:Nat} (h:i<(dM L M).length):aj (dM L M) i 0∈dM L M:=by
 unfold aj;rw[aa7,List.getElem?_eq_getElem h];exact List.getElem_mem h
theorem Tm {L M:List Obj} {j:Nat} (hj:j<L.length) (h:aj L j free≠aj M j free):∃i,i<(dM L M).length/\aj (dM L M) i 0=(j:Int):=by
 have:(j:Int)∈dM L M:=by
  unfold dM iT;rw[List.mem_map];refine⟨j,List.mem_filter.2 ⟨List.mem_range.2 (by unfold ai;omega),?_⟩,rfl⟩
  simp[CR,h]
 obtain⟨i,hi,e⟩:=List.mem_iff_getElem.1 this;refine⟨i,hi,?_⟩;unfold aj;rw[aa7,List.getElem?_eq_getElem hi,e];rfl
theorem P3 {L M:List Obj} (hl:M.length=L.length) (hM:ar M):∀g:Nat,g<=(dM L M).length->(Kp L M g).length=L.length/\(∀j,j<L.length->aj (Kp L M g) j free=aj L j free\/aj (Kp L M g) j free=aj M j free)/\
  ∀i,i<g->aj (Kp L M g) (aj (dM L M) i 0).toNat free=aj M (aj (dM L M) i 0).toNat free
 |0,_=>⟨rfl,fun j hj=> .inl rfl,fun i hi=>by omega⟩
 |g+1,hg=>by
  obtain⟨h1,h2,h3⟩:=P3 hl hM g (by omega)
  obtain⟨u1,u2⟩:=SS (XH (L:=L) (M:=M) (i:=g) (by omega))
  have e:PB L M (g:Int)=aj (dM L M) g 0:=rfl;generalize hu:aj (dM L M) g 0=u at *
  have hp:=(lY (L:=Kp L M g) (i:=u) (x:=aj M u.toNat free) u1 (by omega) (by rw[h1,<-hl];exact dq hM _ (by omega))).1
  have hs:Kp L M (g+1)=cA (Kp L M g) u.toNat (aj M u.toNat free):=by
   simp only[Kp];rw[e,fF u1 (by omega)]
   exact hp
  rw[hs];refine⟨by rw[ib];exact h1,fun j hj=>?_,fun i hi=>?_⟩
  ·rw[gh (by omega)]
   split
   ·rename_i hj';rw[hj'];exact .inr rfl
   ·exact h2 j hj
  ·rw[gh (by omega)]
   split
   ·rename_i hj';rw[hj']
   ·rename_i hne;by_cases hig:i=g
    ·rw[hig,hu]at hne;exact absurd rfl hne
    ·exact h3 i (by omega)
theorem RE {L M:List Obj} (hl:M.length=L.length) (hM:ar M) {g:Int} (hg:g=((dM L M).length:Int)):mS L M g=M:=by
 obtain⟨h1,h2,h3⟩:=P3 hl hM (dM L M).length (Nat.le_refl _);have e:mS L M g=Kp L M (dM L M).length:=by unfold mS;rw[hg];rfl
 rw[e];refine rP (by omega) fun j hj=>?_
 by_cases hne:aj L j free=aj M j free
 ·rcases h2 j (by omega)with h|h
  ·rw[h,hne]
  ·exact h
 ·obtain⟨i,hi,hij⟩:=Tm (by omega) hne
  have:=h3 i hi;rw[hij]at this;exact this
theorem Qk {L M:List Obj} {g:Int} (h0:0<=g):cN (mS L M g) (aj (dM L M) g.toNat 0) (aL M (aj (dM L M) g.toNat 0))=mS L M (g+1):=by
 unfold mS;rw[show(g+1).toNat=g.toNat+1 by omega]
 simp only[Kp];rfl
theorem NL {L M:List Obj} (hl:M.length=L.length) (h:1<=L.length):j4 L M=false:=by
 unfold j4 bn ai;simp only[hl,show decide (L.length=0)=false from decide_eq_false (by omega),Bool.false_or,decide_true,Bool.not_true]
theorem Hx {M:List Obj} {f g:Int} (h:g<=f):lL M f g=false:=by
 unfold lL;rw[List.any_eq_false];intro j _;simp only[aa2,aa3,not_and];intro h1 h2;omega
theorem Ty {L M:List Obj}:(dM L M).length<=L.length:=by
 unfold dM iT;rw[List.length_map];have:=List.length_filter_le (fun j=> !CR (aj L j free) (aj M j free)) (List.range (ai L:Int).toNat)
 simpa[ai]using this
structure Acb where
 kind:Int
 num:Int
 bank:Key
 key:Key
 obj:Int
def Acb.wf (x:Acb):Prop:=bY .i64 x.kind/\bY .i64 x.num/\x.bank.wf/\x.key.wf/\bY .i64 x.obj
theorem Jy {L M:List Obj} {k:Key} {d:Int} {c:Bool} (hl:M.length=L.length) (h1:(aj M k.oid.toNat free).kind=(aj L k.oid.toNat free).kind) (h2:(aj M k.oid.toNat free).count=(aj L k.oid.toNat free).count) (h3:(aj M k.oid.toNat free).calls=(aj L k.oid.toNat free).calls):aC M k d c=aC L k d c:=by
 have hi:aU M k=aU L k:=by
  unfold aU du cG ai;rw[hl,h1,h2,h3]
 unfold aC ai;rw[hl,hi]
theorem TS {L:List Obj} {k:Key} (h:aN L k=0):iG (aj L k.oid.toNat free) (L.length:Int)=true/\(aj L k.oid.toNat free).kind=1:=by
 obtain⟨ha,_⟩:=mI h;obtain⟨i1,i2,_⟩:=gr ha;refine⟨?_,A0 i1 i2⟩;unfold aN at h;rw[aa9 ha]at h;split at h
 ·rename_i hc;exact hc
 ·omega
theorem M6 {L:List Obj} {f l kind:Int} {j:Nat} (h0:0<=f) (hj:j<L.length) (hk:(aj L j free).kind≠0):aj (cI L f l kind) j free=aj L j free:=by
 have hG:∀g,aj (bM L f g) j free=aj L j free:=fun g=>by
  unfold bM;rw[ku hj,aa8];simp only[jB,aa2,aa3];omega
 unfold cI;split
 ·exact hG _
 ·rename_i hi;rcases v7 (L:=L) (l:=l) h0 with e|⟨a,b,c,d⟩
  ·exact absurd e hi
  ·rw[gh (by rw[kH];omega),aa8,hG]
   intro e;rw[<-e]at d;unfold fz at d;simp only[aa2,aa3]at d;exact hk d.1
theorem OS {L:List Obj} {f l kind:Int} (hL:ar L) (h0:0<=f) (hk:kind=1\/kind=2):ar (cI L f l kind):=by
 unfold cI;split
 ·exact F8 hL
 ·rename_i hi;rcases v7 (L:=L) (l:=l) h0 with e|⟨a,b,c,d⟩
  ·exact absurd e hi
  ·exact lH (F8 hL) (by rw[kH];exact CX (dq hL _ (by omega)) d hk)
theorem Ic {L:List Obj} {k:Key} {kind:Int} (hL:ar L):ar (fu L k kind):=by
 unfold fu;split
 ·rename_i h
  have he:aN L k=0:=by
   unfold gx at h;split at h
   ·assumption
   ·rename_i h';exact absurd h h'
  refine OS hL (mI he).2.1 ?_;unfold gx at h;rw[aa9 he]at h;split at h
  ·assumption
  ·omega
 ·exact hL
theorem PQ {L:List Obj} {k:Key} {n:Int} (hL:ar L) (e:aN L k=0) (h:bZ L k n=0):
 ar (bF L k n)/\(bF L k n).length=L.length/\aN (bF L k n) k=0/\az (bF L k n) k=az L k/\aI (bF L k n) k=aI L k-n/\aN (bF L k n) (cc L k n)=0/\az (bF L k n) (cc L k n)=aI L k-n+1/\aI (bF L k n) (cc L k n)=aI L k/\az L k<=(cc L k n).oid/\(cc L k n).oid<=aI L k-n/\1<=n/\n<=aI L k-az L k/\fz (aj L (cc L k n).oid.toNat free)=true:=by
 obtain⟨ha,a0,a1,a2,a3,a4⟩:=mI e;obtain⟨hok,hk1⟩:=TS e;obtain⟨x1,x2⟩:=gA hL;have h':=h;unfold bZ at h;split at h
 case isFalse h2=>exact absurd h h2
 rename_i hE0;split at h
 case isTrue=>omega
 rename_i hI
 have hn:1<=n/\n<=aI L k-az L k:=by
  unfold mN at hE0;rw[aa9 e]at hE0;split at hE0
  ·omega
  ·omega
 have hin:=v7 (L:=L) (l:=aI L k) a0;have hIe:bu L (az L k) (aI L k)=gu L k:=rfl;have hne1:bu L (az L k) (aI L k)≠ -1:=by rw[hIe];omega
 rw[hIe]at hin;rcases hin with hin|⟨i1,i2,i3,i4⟩
 ·omega
 have hMlen:(dU L k).length=L.length:=ve;have hMok:ar (dU L k):=OS hL a0 (.inl rfl);have hMI:aj (dU L k) (gu L k).toNat free=lS (aj L (gu L k).toNat free) 1:=Nf a0 hne1;have QG:aj (dU L k) k.oid.toNat free=aj L k.oid.toNat free:=M6 a0 (by omega) (by omega)
 have hne:k.oid.toNat≠(gu L k).toNat:=fun hh=>by
  rw[hh]at hk1;unfold fz at i4;simp only[aa2,aa3]at i4;omega
 have hLL:bF L k n=cA (cA (dU L k) (gu L k).toNat (jL (aj (dU L k) (gu L k).toNat free) (aI L k-n+1) (aI L k))) k.oid.toNat (mJ (aj (dU L k) k.oid.toNat free) (aI L k-n)):=by
  unfold bF;rw[aa9 h']
 have hKK:cc L k n=⟨4,gu L k,(aj L (gu L k).toNat free).count+1,0,0,0⟩:=by
  unfold cc;rw[aa9 h',hMI];rfl
 have o1:bP (jL (aj (dU L k) (gu L k).toNat free) (aI L k-n+1) (aI L k)) (L.length:Int)=true:=Ho (by rw[<-hMlen];exact dq hMok _ (by omega)) (by rw[hMI];rfl)
 have o2:bP (mJ (aj (dU L k) k.oid.toNat free) (aI L k-n)) (L.length:Int)=true:=Hj (by rw[<-hMlen];exact dq hMok _ (by omega)) (by rw[QG];exact hk1)
 have l1:(cA (dU L k) (gu L k).toNat (jL (aj (dU L k) (gu L k).toNat free) (aI L k-n+1) (aI L k))).length=L.length:=by rw[ib];exact hMlen
 have okX:=lH (i:=(gu L k).toNat) hMok (by rw[hMlen];exact o1)
 have hlen:(bF L k n).length=L.length:=by rw[hLL,ib];exact l1
 have hokL:ar (bF L k n):=by rw[hLL];exact lH okX (by rw[l1];exact o2)
 have hgk:aj (bF L k n) k.oid.toNat free=mJ (aj L k.oid.toNat free) (aI L k-n):=by
  rw[hLL,gh (by omega),aa9 rfl,QG]
 have hgI:aj (bF L k n) (gu L k).toNat free=jL (lS (aj L (gu L k).toNat free) 1) (aI L k-n+1) (aI L k):=by
  rw[hLL,gh (by omega),aa8 (Ne.symm hne),gh (by omega),aa9 rfl,hMI]
 have s2:∀(o:Obj) (b:Int),(mJ o b).slots.at 0=o.slots.at 0/\(mJ o b).slots.at 1=cK b:=fun o b=>by
  unfold mJ;simp only;rw[cL.fY _ _ _ _ (by omega),cL.fY _ _ _ _ (by omega)]
  exact⟨rfl,rfl⟩
 have s1:∀(o:Obj) (a b:Int),(jL o a b).slots.at 0=cK a/\(jL o a b).slots.at 1=cK b:=fun o a b=>by
  unfold jL;simp only;rw[cL.fY _ _ _ _ (by omega),cL.fY _ _ _ _ (by omega),cL.fY _ _ _ _ (by omega)]
  exact⟨rfl,rfl⟩
 have hask:aC (bF L k n) k 4 false=0:=by
  rw[Jy hlen (by rw[hgk];rfl) (by rw[hgk];rfl) (by rw[hgk];rfl)];exact ha
 unfold iG at hok;simp only[aa2,aa3]at hok;obtain⟨⟨⟨⟨c1,c2⟩,c3⟩,c4⟩,c5⟩:=hok;have hA':az (bF L k n) k=az L k:=by unfold az;rw[hgk,(s2 _ _).1]
 have hB':aI (bF L k n) k=aI L k-n:=by
  have:aI (bF L k n) k=((mJ (aj L k.oid.toNat free) (aI L k-n)).slots.at 1).value:=by rw[<-hgk];rfl
  rw[this,(s2 _ _).2];rfl
 have hE':aN (bF L k n) k=0:=(vD hask (by
  rw[hgk];unfold iG ai;rw[(s2 _ _).1,(s2 _ _).2,hlen];have v0:((aj L k.oid.toNat free).slots.at 0).value=az L k:=rfl;simp only[cK,aa2,aa3];refine⟨⟨⟨⟨c1,?_⟩,c3⟩,?_⟩,?_⟩
  ·trivial
  ·exact decide_eq_true (by omega)
  ·exact decide_eq_true (by omega))).1
 have i4':=i4;unfold fz at i4';simp only[aa2,aa3]at i4';have hcb:=j3 (dq hL (gu L k).toNat (by omega))
 have hkey:aV (cc L k n)=true:=by
  rw[hKK];unfold aV fX;simp only[ee,gM,kx,fq];simp;omega
 have hoid:(cc L k n).oid=gu L k:=by rw[hKK]
 have hisO:ee (cc L k n).kind=true:=by rw[hKK];rfl
 have hnm:aZ (cc L k n)=true:=by unfold aZ;rw[hkey,hisO];rfl
 have hnames:bd (cc L k n)=gu L k:=by unfold bd;rw[hkey,hisO,hoid];rfl
 have hcounts:cG (cc L k n) (aj (bF L k n) (cc L k n).oid.toNat free)=true:=by
  unfold cG gB;rw[hkey,hnames,hoid,hgI,aa8 (by omega),hKK]
  simp[jL,lS]
 have his:aU (bF L k n) (cc L k n)=true:=by
  unfold aU;rw[hnm,hcounts,lE.2 ⟨by omega,by omega⟩];rfl
 have hask2:aC (bF L k n) (cc L k n) 4 false=0:=by
  unfold aC ai;rw[aa8 (by omega),aa8 (by rw[his,hKK];simp),aa8 (by simp)]
 have hobj:aj (bF L k n) (cc L k n).oid.toNat free=jL (lS (aj L (gu L k).toNat free) 1) (aI L k-n+1) (aI L k):=by rw[hoid];exact hgI
 refine⟨hokL,hlen,hE',hA',hB',(vD hask2 ?_).1,?_,?_,by rw[hoid];exact i1,by rw[hoid];omega,hn.1,hn.2,by rw[hoid];exact i4⟩
 ·rw[hobj];unfold iG ai;rw[(s1 _ _ _).1,(s1 _ _ _).2,hlen];simp only[cK,aa2,aa3];refine⟨⟨⟨⟨?_,?_⟩,?_⟩,?_⟩,?_⟩
  ·trivial
  ·trivial
  ·exact decide_eq_true (by omega)
  ·exact decide_eq_true (by omega)
  ·exact decide_eq_true (by omega)
 ·unfold az;rw[hobj,(s1 _ _ _).1];rfl
 ·have:aI (bF L k n) (cc L k n)=((jL (lS (aj L (gu L k).toNat free) 1) (aI L k-n+1) (aI L k)).slots.at 1).value:=by rw[<-hobj];rfl
  rw[this,(s1 _ _ _).2];rfl
end Go.Sx
