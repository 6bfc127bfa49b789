import Derived.Test.YtlblcfaclmpekaaGreatSpP
import Derived.Test.YtlblcfaclmpekaaGreatKS
set_option linter.unusedSimpArgs false
set_option linter.unusedVariables false
namespace Go.Sx
def iX (o:Obj):Bool:=decide (o.kind=0)&&decide (4294967295<=o.count)
def ea (o:Obj):Bool:=decide (o.kind=0)&&decide (o.count<4294967295)
def Cf (o:Obj):Obj:=⟨3,o.count,0,fT,ej⟩
def jQ (o:Obj) (kind:Int):Obj:=⟨kind,o.count+1,0,fT,ej⟩
def vx (o:Obj):Obj:=⟨0,o.count,0,fT,ej⟩
def ju (L:List Obj) (p:Nat->Obj->Bool) (t:Obj->Obj):List Obj:=(List.range L.length).map fun j=>if p j (ai L j free)then t (ai L j free)else ai L j free
def bF (L:List Obj) (f g:Int):List Obj:=ju L (fun j o=>decide (f<=(j:Int))&&decide ((j:Int)<g)&&iX o) Cf
def j5 (L:List Obj) (f g:Int):Prop:=∀j:Nat,f<=(j:Int)->(j:Int)<g->ea (ai L j free)=false
def JD (L:List Obj) (f g:Int):Bool:=(List.range L.length).any fun(j:Nat)=>decide (f<=(j:Int))&&decide ((j:Int)<g)&&iX (ai L j free)
def eQ (L:List Obj) (f l:Int):Int:=match (List.range L.length).find? fun(j:Nat)=>decide (f<=(j:Int))&&decide ((j:Int)<=l)&&ea (ai L j free)with
 |some j=>(j:Int)
 |none=> -1
def kf (L:List Obj) (f l kind:Int):List Obj:=if eQ L f l= -1 then bF L f (l+1)else cS (bF L f (eQ L f l)) (eQ L f l).toNat (jQ (ai L (eQ L f l).toNat free) kind)
def tJ (L:List Obj) (f l:Int):Bool:= !decide (eQ L f l= -1)||JD L f (l+1)
def bT (kind oid count:Int):Key:=⟨if kind=2 then 3 else 2,oid,count,0,0,0⟩
def gV (o:Obj) (n:Int):Bool:=decide ((o.slots.at 0).kind=1)&&decide ((o.slots.at 1).kind=1)&&decide (0<=(o.slots.at 0).value)&&decide ((o.slots.at 0).value<=(o.slots.at 1).value)&&decide ((o.slots.at 1).value<n)
def aV (L:List Obj) (k:Key):Int:=if aM L k 4 false=0 then(if gV (ai L k.oid.toNat free) (ar L:Int)then 0 else 220)else aM L k 4 false
def aC (L:List Obj) (k:Key):Int:=((ai L k.oid.toNat free).slots.at 0).value
def aE (L:List Obj) (k:Key):Int:=((ai L k.oid.toNat free).slots.at 1).value
def yS (L:List Obj) (k:Key):Int:=if aV L k=0 then aC L k else 0
def zO (L:List Obj) (k:Key):Int:=if aV L k=0 then aE L k else 0
def gw (L:List Obj) (k:Key) (kind:Int):Int:=if aV L k=0 then(if kind=1\/kind=2 then 0 else 2)else aV L k
def cZ (L:List Obj) (k:Key) (kind:Int):Int:=if gw L k kind=0 then(if eQ L (aC L k) (aE L k)= -1 then 221 else 0)else gw L k kind
def fz (L:List Obj) (k:Key) (kind:Int):List Obj:=if gw L k kind=0 then kf L (aC L k) (aE L k) kind else L
def ze (L:List Obj) (k:Key) (kind:Int):Bool:=decide (gw L k kind=0)&&tJ L (aC L k) (aE L k)
def ei (L:List Obj) (k:Key) (kind:Int):Key:=if cZ L k kind=0 then bT kind (eQ L (aC L k) (aE L k)) ((ai L (eQ L (aC L k) (aE L k)).toNat free).count+1)else void
def jL (L:List Obj) (v:Key):Bool:=aO L v&&(decide (v.kind=2)||decide (v.kind=3))
def du (L:List Obj) (k v:Key):Int:=if aV L k=0 then(if jL L v then(if aC L k<=v.oid/\v.oid<=aE L k/\v.oid≠k.oid then 0 else 4)else 5)else aV L k
def iJ (L:List Obj) (k v:Key):List Obj:=if du L k v=0 then cS L v.oid.toNat (vx (ai L v.oid.toNat free))else L
def lI (o:Obj):Bool:=decide (o.kind=1)||decide (o.kind=2)
def jG (f g oid:Int) (j:Nat) (o:Obj):Bool:=decide (f<=(j:Int))&&decide ((j:Int)<g)&&lI o&& !decide ((j:Int)=oid)
def fD (L:List Obj) (f g oid:Int):List Obj:=ju L (jG f g oid) vx
def gp (L:List Obj) (f g oid:Int):Int:=(((List.range L.length).filter fun j=>jG f g oid j (ai L j free)).length:Int)
def jo (L:List Obj) (k:Key):List Obj:=if aV L k=0 then fD L (aC L k) (aE L k+1) k.oid else L
def ir (L:List Obj) (k:Key):Int:=if aV L k=0 then gp L (aC L k) (aE L k+1) k.oid else 0
def lH (L:List Obj) (k v:Key):Bool:=decide (aV L k=0)&&jL L v&&decide (aC L k<=v.oid)&&decide (v.oid<=aE L k)
theorem gG {L:List Obj} {p:Nat->Obj->Bool} {t:Obj->Obj}:(ju L p t).length=L.length:=by simp[ju]
theorem iR {L:List Obj} {p:Nat->Obj->Bool} {t:Obj->Obj} {j:Nat} (h:j<L.length):ai (ju L p t) j free=if p j (ai L j free)then t (ai L j free)else ai L j free:=by
 rw[show ai (ju L p t) j free=(ju L p t).getD j free from rfl,UY];unfold ju;rw[List.getElem?_map,List.getElem?_range h];rfl
theorem BD {L:List Obj} {p:Nat->Obj->Bool} {t:Obj->Obj} (h:∀j,j<L.length->p j (ai L j free)=false):ju L p t=L:=by
 refine ra gG fun j hj=>?_
 rw[gG]at hj;rw[iR hj,h j hj];rfl
theorem Ab {L:List Obj} {p p':Nat->Obj->Bool} {t:Obj->Obj} {g:Nat} (hg:g<L.length) (hp:∀j,j≠g->p' j (ai L j free)=p j (ai L j free)) (h1:p' g (ai L g free)=true):
  cS (ju L p t) g (t (ai L g free))=ju L p' t:=by
 refine ra (by rw[gJ,gG,gG]) fun j hj=>?_
 rw[gJ,gG]at hj;rw[eJ (by rw[gG];exact hg),iR hj,iR hj]
 by_cases e:j=g
 ·subst e;rw[U0 rfl,h1,U0 rfl]
 ·rw[UZ e,hp j e]
theorem xh {L:List Obj} {p p':Nat->Obj->Bool} {t:Obj->Obj} (hp:∀j,j<L.length->p' j (ai L j free)=p j (ai L j free)):ju L p' t=ju L p t:=by
 refine ra (by rw[gG,gG]) fun j hj=>?_
 rw[gG]at hj;rw[iR hj,iR hj,hp j hj]
theorem kV {L:List Obj} {f g:Int}:(bF L f g).length=L.length:=gG
theorem Bp {L:List Obj} {f:Int}:L=bF L f f:=by
 symm
 refine BD fun j hj=>?_
 simp only[Bool.and_eq_false_iff,decide_eq_false_iff_not];omega
theorem CU {L:List Obj} {f g:Int} (h0:0<=g):ai (bF L f g) g.toNat free=ai L g.toNat free:=by
 by_cases h:g.toNat<L.length
 ·unfold bF;rw[iR h,UZ];simp only[US,UT];omega
 ·rw[show ai (bF L f g) g.toNat free=free by simp[ai,UY,List.getElem?_eq_none (show(bF L f g).length<=g.toNat by rw[kV];omega)]]
  simp[ai,UY,List.getElem?_eq_none (show L.length<=g.toNat by omega)]
theorem Dv {L:List Obj} {f g:Int} (h0:0<=g) (h1:g<(L.length:Int)) (hf:f<=g) (hr:iX (ai L g.toNat free)=true):cS (bF L f g) g.toNat (Cf (ai L g.toNat free))=bF L f (g+1):=by
 refine Ab (by omega) (fun j hj=>?_) ?_
 ·have:decide ((j:Int)<g+1)=decide ((j:Int)<g):=by rw[decide_eq_decide];omega
  rw[this]
 ·rw[hr];simp;omega
theorem AY {L:List Obj} {f g:Int} (h0:0<=g) (hr:iX (ai L g.toNat free)=false):bF L f (g+1)=bF L f g:=by
 refine xh fun j hj=>?_
 by_cases e:(j:Int)=g
 ·rw[show j=g.toNat by omega,hr,Bool.and_false,Bool.and_false]
 ·have:decide ((j:Int)<g+1)=decide ((j:Int)<g):=by rw[decide_eq_decide];omega
  rw[this]
theorem P9 {L:List Obj} {f l g:Int} (h0:0<=f) (hf:f<=g) (hl:g<=l) (hg:g<(L.length:Int)) (hn:j5 L f g) (hw:ea (ai L g.toNat free)=true):eQ L f l=g:=by
 unfold eQ
 have:(List.range L.length).find? (fun(j:Nat)=>decide (f<=(j:Int))&&decide ((j:Int)<=l)&&ea (ai L j free))=some g.toNat:=by
  rw[List.find?_eq_some_iff_getElem];refine⟨by rw[hw];simp;omega,g.toNat,by simp;omega,by simp,fun j hj=>?_⟩
  simp only[List.getElem_range,Bool.not_eq_true',Bool.and_eq_false_iff,decide_eq_false_iff_not];by_cases e:f<=(j:Int)
  ·right;exact hn j e (by omega)
  ·left;left;exact e
 rw[this];show((g.toNat:Nat):Int)=g
 omega
theorem HD {L:List Obj} {f l:Int} (hn:j5 L f (l+1)):eQ L f l= -1:=by
 unfold eQ
 have:(List.range L.length).find? (fun(j:Nat)=>decide (f<=(j:Int))&&decide ((j:Int)<=l)&&ea (ai L j free))=none:=by
  rw[List.find?_eq_none];intro j hj h;simp only[US,UT]at h;rw[hn j h.1.1 (by omega)]at h
  simp at h
 rw[this]
theorem nt {L:List Obj} {f g:Int} (h:j5 L f g) (hg:ea (ai L g.toNat free)=false):j5 L f (g+1):=fun j h1 h2=>by
 by_cases e:(j:Int)=g
 ·rw[show j=g.toNat by omega];exact hg
 ·exact h j h1 (by omega)
theorem vH {L:List Obj} {f:Int}:j5 L f f:=fun j h1 h2=>by omega
theorem Em {L:List Obj} {f g oid:Int}:(fD L f g oid).length=L.length:=gG
theorem II {L:List Obj} {f g oid:Int} (h:gp L f g oid=0):fD L f g oid=L:=by
 refine BD fun j hj=>?_
 unfold gp at h;have h2:((List.range L.length).filter fun j=>jG f g oid j (ai L j free))= []:=List.eq_nil_of_length_eq_zero (by omega)
 rw[List.filter_eq_nil_iff]at h2;have:=h2 j (by simp;omega)
 simpa using this
theorem BQ {L:List Obj} {f oid:Int}:gp L f f oid=0:=by
 unfold gp;rw[show((List.range L.length).filter fun j=>jG f f oid j (ai L j free))= []from ?_]
 ·rfl
 ·rw[List.filter_eq_nil_iff];intro j hj;unfold jG;simp only[US,UT];omega
theorem Ht {L:List Obj} {f oid:Int}:L=fD L f f oid:=(II BQ).symm
theorem Qm {L:List Obj} {f g oid:Int} (h0:0<=g):ai (fD L f g oid) g.toNat free=ai L g.toNat free:=by
 by_cases h:g.toNat<L.length
 ·unfold fD;rw[iR h,UZ];unfold jG;simp only[US,UT];omega
 ·rw[show ai (fD L f g oid) g.toNat free=free by simp[ai,UY,List.getElem?_eq_none (show(fD L f g oid).length<=g.toNat by rw[Em];omega)]]
  simp[ai,UY,List.getElem?_eq_none (show L.length<=g.toNat by omega)]
def iZ (L:List Obj) (g oid:Int):Bool:=lI (ai L g.toNat free)&& !decide (g=oid)
theorem zV {L:List Obj} {f g oid:Int} (h0:0<=g) (hf:f<=g):jG f (g+1) oid g.toNat (ai L g.toNat free)=iZ L g oid:=by
 unfold jG iZ;rw[show((g.toNat:Nat):Int)=g by omega]
 have a:decide (f<=g)=true:=by simp;omega
 have b:decide (g<g+1)=true:=by simp;omega
 rw[a,b];simp
theorem va {L:List Obj} {f g oid:Int} {j:Nat} (h:(j:Int)≠g) (o:Obj):jG f (g+1) oid j o=jG f g oid j o:=by
 unfold jG;have:decide ((j:Int)<g+1)=decide ((j:Int)<g):=by rw[decide_eq_decide];omega
 rw[this]
theorem yF {f g oid:Int} {j:Nat} (h:(j:Int)=g) (o:Obj):jG f g oid j o=false:=by
 unfold jG;have:decide ((j:Int)<g)=false:=by simp;omega
 rw[this];simp
theorem MT {L:List Obj} {f g oid:Int} (h0:0<=g) (h1:g<(L.length:Int)) (hf:f<=g) (hr:iZ L g oid=true):cS (fD L f g oid) g.toNat (vx (ai L g.toNat free))=fD L f (g+1) oid:=
 Ab (by omega) (fun j hj=>va (L:=L) (by omega) _) (by rw[zV h0 hf];exact hr)
theorem A8 {L:List Obj} {f g oid:Int} (h0:0<=g) (hf:f<=g) (hr:iZ L g oid=false):fD L f (g+1) oid=fD L f g oid:=by
 refine xh fun j hj=>?_
 by_cases e:(j:Int)=g
 ·rw[show j=g.toNat by omega,zV h0 hf,hr,yF (by omega)]
 ·exact va (L:=L) e _
theorem BO {L:List Obj} {f g oid:Int} (h0:0<=g) (hf:f<=g) (hr:iZ L g oid=false):gp L f (g+1) oid=gp L f g oid:=by
 unfold gp;rw[show((List.range L.length).filter fun j=>jG f (g+1) oid j (ai L j free))=(List.range L.length).filter fun j=>jG f g oid j (ai L j free)from List.filter_congr fun j hj=>?_]
 by_cases e:(j:Int)=g
 ·rw[show j=g.toNat by omega,zV h0 hf,hr,yF (by omega)]
 ·exact va (L:=L) e _
theorem filter_one {l:List Nat} {p p':Nat->Bool} {g:Nat} (hn:l.Nodup) (hg:g∈l) (hp:∀j,j≠g->p' j=p j) (h0:p g=false) (h1:p' g=true):(l.filter p').length=(l.filter p).length+1:=by
 induction l with
 |nil=>simp at hg
 |cons a l ih=>
  rw[List.nodup_cons]at hn;by_cases e:a=g
  ·subst e;have:l.filter p'=l.filter p:=List.filter_congr fun j hj=>hp j fun e=>hn.1 (e▸hj)
   rw[List.filter_cons,List.filter_cons,h0,h1,U0 rfl,UZ (by simp),this]
   simp
  ·have hg2:g∈l:=by
    rcases List.mem_cons.1 hg with h|h
    ·exact absurd h.symm e
    ·exact h
   rw[List.filter_cons,List.filter_cons,hp a e];split
   ·simp only[List.length_cons];rw[ih hn.2 hg2]
   ·exact ih hn.2 hg2
theorem IL {L:List Obj} {f g oid:Int} (h0:0<=g) (h1:g<(L.length:Int)) (hf:f<=g) (hr:iZ L g oid=true):gp L f (g+1) oid=gp L f g oid+1:=by
 unfold gp;have:=filter_one (l:=List.range L.length) (p:=fun j=>jG f g oid j (ai L j free)) (p':=fun j=>jG f (g+1) oid j (ai L j free)) (g:=g.toNat) List.nodup_range (by simp;omega) (fun j hj=>va (L:=L) (by omega) _) (yF (by omega) _) (by show jG f (g+1) oid g.toNat (ai L g.toNat free)=true;rw[zV h0 hf];exact hr)
 omega
theorem Dj {L:List Obj} {f g oid:Int}:0<=gp L f g oid:=by unfold gp;omega
theorem Qq {L:List Obj} {f g oid:Int}:gp L f g oid<=(L.length:Int):=by
 unfold gp;have:=List.length_filter_le (fun j=>jG f g oid j (ai L j free)) (List.range L.length)
 rw[List.length_range]at this;omega
theorem zu {n:Int} {kind count:Int} (h1:1<=n) (h2:n<=64) (h3:0<=kind) (h4:kind<=3) (h5:0<=count) (h6:count<=4294967295):bu ⟨kind,count,0,fT,ej⟩ n=true:=by
 rw[ec];refine⟨h1,h2,h3,h4,h5,h6,by simp,by simp,.inr rfl,fun i hi=>?_,fun i hi=>?_⟩
 ·simp only[wy];unfold j8;rw[kY.1,kY.2];simp;omega
 ·have hz:=DA.1 (show ej=ej from rfl) i hi;first|exact .inr (.inr hz)|exact hz|simp[hz]
theorem js {o:Obj} {n:Int} (h:bu o n=true):0<=o.count/\o.count<=4294967295/\0<=o.kind/\o.kind<=3/\1<=n/\n<=64:=by
 obtain⟨a1,a2,a3,a4,a5,a6,_⟩:=ec.1 h;exact⟨a5,a6,a3,a4,a1,a2⟩
theorem zH {o:Obj} {n:Int} (h:bu o n=true):bu (Cf o) n=true:=by
 obtain⟨a,b,c,d,e,f⟩:=js h;exact zu e f (by omega) (by omega) a b
theorem uP {o:Obj} {n:Int} (h:bu o n=true):bu (vx o) n=true:=by
 obtain⟨a,b,c,d,e,f⟩:=js h;exact zu e f (by omega) (by omega) a b
theorem zd {o:Obj} {n kind:Int} (h:bu o n=true) (hn:ea o=true) (hk:kind=1\/kind=2):bu (jQ o kind) n=true:=by
 obtain⟨a,b,c,d,e,f⟩:=js h;unfold ea at hn;simp only[US,UT]at hn;exact zu e f (by omega) (by omega) (by omega) (by omega)
theorem Dw {L:List Obj} {p:Nat->Obj->Bool} {t:Obj->Obj} (h:an L) (ht:∀o,bu o (L.length:Int)=true->bu (t o) (L.length:Int)=true):an (ju L p t):=by
 refine G4 h gG fun j hj=>?_
 rw[iR hj];split
 ·exact ht _ (cz h j hj)
 ·exact cz h j hj
theorem C8 {L:List Obj} {f g:Int} (h:an L):an (bF L f g):=Dw h fun o ho=>zH ho
def kB:lQ (Key×Unit):=bD kA kc
def Ti:lQ (Key×Key×Unit):=bD kA (bD kA kc)
def SJ:lQ (Key×Int×Unit):=bD kA (bD iA kc)
theorem SH:ia kB:=aK lZ dP
theorem JK:ia Ti:=aK lZ (aK lZ dP)
theorem G6:ia SJ:=aK lZ (aK fE dP)
def PV:Ct:=SW (rI .i64) (rI .i64) (rI .i64) fun a b c=> .key (bT a b c)
theorem Dm {o:Obj} (h:o.kind≠0):iX o=false/\ea o=false:=by simp[iX,ea,h]
theorem JE {o:Obj} (h:o.kind=0) (h2:4294967295<=o.count):iX o=true/\ea o=false:=by simp[iX,ea,h,h2]
theorem Jx {o:Obj} (h:o.kind=0) (h2:¬4294967295<=o.count):iX o=false/\ea o=true:=by
 refine⟨by simp[iX,h2],?_⟩
 simp only[ea,US,UT];omega
theorem DT {L:List Obj} {f l g:Int} (kind:Int) (h0:0<=f) (hf:f<=g) (hl:g<=l) (hg:g<(L.length:Int)) (hn:j5 L f g) (hw:ea (ai L g.toNat free)=true):
  eQ L f l=g/\tJ L f l=true/\kf L f l kind=cS (bF L f g) g.toNat (jQ (ai L g.toNat free) kind):=by
 have e:=P9 h0 hf hl hg hn hw;refine⟨e,?_,?_⟩
 ·unfold tJ;rw[e];simp;left;omega
 ·unfold kf;rw[e,UZ (by omega)]
theorem GR {L:List Obj} {f l:Int} (kind:Int) (hn:j5 L f (l+1)):eQ L f l= -1/\kf L f l kind=bF L f (l+1)/\tJ L f l=JD L f (l+1):=by
 have e:=HD hn;refine⟨e,?_,?_⟩
 ·unfold kf;rw[e,U0 rfl]
 ·unfold tJ;rw[e];rfl
theorem DF {L:List Obj} {k:Key} (h:aM L k 4 false=0) (h2:gV (ai L k.oid.toNat free) (ar L:Int)=false):aV L k=220/\yS L k=0/\zO L k=0:=by
 have e:aV L k=220:=by unfold aV;rw[U0 h,h2];rfl
 refine⟨e,?_,?_⟩
 ·unfold yS;rw[e];rfl
 ·unfold zO;rw[e];rfl
theorem wm {L:List Obj} {k:Key} (h:aM L k 4 false=0) (h2:gV (ai L k.oid.toNat free) (ar L:Int)=true):aV L k=0/\yS L k=aC L k/\zO L k=aE L k:=by
 have e:aV L k=0:=by unfold aV;rw[U0 h,h2];rfl
 refine⟨e,?_,?_⟩
 ·unfold yS;rw[e];rfl
 ·unfold zO;rw[e];rfl
theorem nE {L:List Obj} {k:Key} (h:aV L k=0):aM L k 4 false=0/\0<=aC L k/\aC L k<=aE L k/\aE L k<(L.length:Int)/\0<=k.oid/\k.oid<(L.length:Int):=by
 have ha:aM L k 4 false=0:=by
  unfold aV at h;split at h
  ·assumption
  ·rename_i h1;exact absurd h h1
 have hb:gV (ai L k.oid.toNat free) (ar L:Int)=true:=by
  cases hb:gV (ai L k.oid.toNat free) (ar L:Int)with
  |true=>rfl
  |false=>rw[(DF ha hb).1]at h;simp at h
 obtain⟨_,b2,b3,_⟩:=er (j9 ha).1;unfold gV at hb;simp only[US,UT]at hb;obtain⟨⟨⟨⟨_,_⟩,h3⟩,h4⟩,h5⟩:=hb;exact⟨ha,h3,h4,h5,b2,b3⟩
theorem zI {L:List Obj} {f l:Int} (h0:0<=f):eQ L f l= -1\/(f<=eQ L f l/\eQ L f l<=l/\eQ L f l<(L.length:Int)/\ea (ai L (eQ L f l).toNat free)=true):=by
 unfold eQ;split
 ·rename_i j hj;right
  have h1:=List.find?_some hj;have h2:=List.mem_of_find?_eq_some hj;simp only[US,UT]at h1;rw[List.mem_range]at h2;exact⟨h1.1.1,h1.1.2,by omega,h1.2⟩
 ·exact .inl rfl
theorem D1 {L:List Obj} {f l kind:Int}:(kf L f l kind).length=L.length:=by
 unfold kf;split
 ·exact kV
 ·rw[gJ,kV]
theorem H5 {L:List Obj} {f l kind:Int} (h0:0<=f) (h:eQ L f l≠ -1):ai (kf L f l kind) (eQ L f l).toNat free=jQ (ai L (eQ L f l).toNat free) kind:=by
 rcases zI (L:=L) (l:=l) h0 with e|⟨a,b,c,d⟩
 ·exact absurd e h
 ·unfold kf;rw[UZ h,eJ (by rw[kV];omega),U0 rfl]
theorem Ln {L:List Obj} {f l:Int} (h:eQ L f l≠ -1):tJ L f l=true:=by unfold tJ;simp[h]
theorem KO {L:List Obj} {k:Key} {kind:Int} (h:aV L k=0) (hk:kind=1\/kind=2) (hi:eQ L (aC L k) (aE L k)= -1):ze L k kind=tJ L (aC L k) (aE L k)/\void=ei L k kind/\221=cZ L k kind/\kf L (aC L k) (aE L k) kind=fz L k kind:=by
 have e:gw L k kind=0:=by unfold gw;rw[U0 h,U0 hk]
 have e2:cZ L k kind=221:=by unfold cZ;rw[U0 e,U0 hi]
 refine⟨by unfold ze;rw[e];simp,by unfold ei;rw[e2];rfl,e2.symm,by unfold fz;rw[U0 e]⟩
theorem Mc {L:List Obj} {k:Key} {kind:Int} (h:aV L k=0) (hk:kind=1\/kind=2) (hi:eQ L (aC L k) (aE L k)≠ -1):ze L k kind=true/\Key.mk (1+kind) (eQ L (aC L k) (aE L k)) (ai (kf L (aC L k) (aE L k) kind) (eQ L (aC L k) (aE L k)).toNat free).count 0 0 0=ei L k kind/\0=cZ L k kind/\kf L (aC L k) (aE L k) kind=fz L k kind:=by
 have e:gw L k kind=0:=by unfold gw;rw[U0 h,U0 hk]
 have e2:cZ L k kind=0:=by unfold cZ;rw[U0 e,UZ hi]
 refine⟨by unfold ze;rw[e,Ln hi];rfl,?_,e2.symm,by unfold fz;rw[U0 e]⟩
 unfold ei;rw[U0 e2,H5 (nE h).2.1 hi];unfold bT jQ;rcases hk with rfl|rfl<;>rfl
theorem J5 {L:List Obj} {v:Key} (h:jL L v=true):aO L v=true:=by unfold jL at h;simp only[US]at h;exact h.1
def e9 (L:List Obj) (k:Key):Int:=eQ L (aC L k) (aE L k)
def dq (L:List Obj) (k:Key):List Obj:=kf L (aC L k) (aE L k) 1
def lq (M:List Obj) (f g:Int):Bool:=(List.range M.length).any fun(j:Nat)=>decide (f<=(j:Int))&&decide ((j:Int)<g)&&lI (ai M j free)
def ky (L:List Obj) (k:Key) (n:Int):Int:=if aV L k=0 then(if n<1\/aE L k-aC L k<n then 4 else 0)else aV L k
def bS (L:List Obj) (k:Key) (n:Int):Int:=if ky L k n=0 then(if e9 L k<0\/aE L k-n<e9 L k then 221 else if lq (dq L k) (aE L k-n+1) (aE L k+1)=true then 221 else 0)else ky L k n
def iw (o:Obj) (a b:Int):Obj:= {o with slots:=(o.slots.put 0 (cP a)).put 1 (cP b)}
def kx (o:Obj) (b:Int):Obj:= {o with slots:=o.slots.put 1 (cP b)}
def bg (L:List Obj) (k:Key) (n:Int):List Obj:=if bS L k n=0 then cS (cS (dq L k) (e9 L k).toNat (iw (ai (dq L k) (e9 L k).toNat free) (aE L k-n+1) (aE L k))) k.oid.toNat (kx (ai (dq L k) k.oid.toNat free) (aE L k-n))else L
def bW (L:List Obj) (k:Key) (n:Int):Key:=if bS L k n=0 then⟨4,e9 L k,(ai (dq L k) (e9 L k).toNat free).count,0,0,0⟩else void
theorem Bs {L:List Obj} {k:Key} {n:Int} (h:aV L k≠0):bS L k n=aV L k:=by
 have e:ky L k n=aV L k:=by unfold ky;rw[UZ h]
 unfold bS;rw[e,UZ h]
theorem E0 {L:List Obj} {k:Key} {n:Int} (h:aV L k=0) (hn:n<1\/aE L k-aC L k<n):bS L k n=4:=by
 have e:ky L k n=4:=by unfold ky;rw[U0 h,U0 hn]
 unfold bS;rw[e];rfl
theorem K9 {L:List Obj} {k:Key} {n:Int} (h:aV L k=0) (h1:1<=n) (h2:n<=aE L k-aC L k):ky L k n=0:=by
 unfold ky;rw[U0 h,UZ (by omega)]
theorem Bw {L:List Obj} {k:Key} {n:Int} (h:ky L k n=0) (hi:e9 L k<0\/aE L k-n<e9 L k):bS L k n=221:=by
 unfold bS;rw[U0 h,U0 hi]
theorem He {L:List Obj} {k:Key} {n:Int} (h:ky L k n=0) (hi:lq (dq L k) (aE L k-n+1) (aE L k+1)=true):bS L k n=221:=by
 unfold bS;rw[U0 h,U0 hi];split<;>rfl
theorem L9 {L:List Obj} {k:Key} {n:Int} (h:ky L k n=0) (h1:0<=e9 L k) (h2:e9 L k<=aE L k-n) (hi:lq (dq L k) (aE L k-n+1) (aE L k+1)=false):bS L k n=0:=by
 unfold bS;rw[U0 h,UZ (by omega),hi];rfl
theorem I4 {M:List Obj} {f g e:Int} (h0:0<=g) (h1:g<(M.length:Int)) (hf:f<=g) (he:g<e) (hr:lI (ai M g.toNat free)=true):lq M f e=true:=by
 unfold lq;rw[List.any_eq_true];exact⟨g.toNat,by simp;omega,by rw[hr];simp;omega⟩
theorem MX {M:List Obj} {f g:Int} (h0:0<=g) (hr:lI (ai M g.toNat free)=false):lq M f (g+1)=lq M f g:=by
 unfold lq;rw[Bool.eq_iff_iff,List.any_eq_true,List.any_eq_true];refine exists_congr fun j=>and_congr_right fun _=>?_
 simp only[US,UT];constructor
 ·rintro⟨⟨a,b⟩,c⟩
  refine⟨⟨a,?_⟩,c⟩;by_cases e:(j:Int)=g
  ·rw[show j=g.toNat by omega,hr]at c;simp at c
  ·omega
 ·rintro⟨⟨a,b⟩,c⟩
  exact⟨⟨a,by omega⟩,c⟩
theorem PS {L:List Obj} {k:Key} (h:aO L k=true):bE k=k.oid:=by
 unfold aO at h;simp only[US]at h;unfold bE;rw[U0 h.1.1]
theorem DI {L:List Obj} {k:Key} (h:(!decide (0<ah L))=true):aV L k=1:=by unfold aV;rw[J0 h];rfl
theorem Rm {L:List Obj} {k:Key} (h:(!decide (0<ah L))=false) (h2:(!(aO L k&&decide (k.kind=4)))=true):aV L k=190:=by unfold aV;rw[FT h h2];rfl
theorem Sg {L:List Obj} {k:Key} (h:(!decide (0<ah L))=false) (h2:(!(aO L k&&decide (k.kind=4)))=false) (h3:(!gV (aa L k) (ah L))=true):aV L k=220:=by
 have ha:=Ee h h2;rw[(er (lr h2).1).2.2.2.1]at h3;exact(DF ha (show gV (ai L k.oid.toNat free) (ah L)=false by simpa using h3)).1
theorem LQ {L:List Obj} {k:Key} (h:(!decide (0<ah L))=false) (h2:(!(aO L k&&decide (k.kind=4)))=false) (h3:(!gV (aa L k) (ah L))=false):aV L k=0/\((aa L k).slots.at 0).value=aC L k/\((aa L k).slots.at 1).value=aE L k:=by
 have ha:=Ee h h2;have e:=(er (lr h2).1).2.2.2.1;rw[e]at h3;rw[e];exact⟨(wm ha (show gV (ai L k.oid.toNat free) (ah L)=true by simpa using h3)).1,rfl,rfl⟩
theorem y8 {L:List Obj} {k v:Key} {e:Int} (h:aV L k=e) (he:e≠0):false=lH L k v/\e=aV L k:=by
 refine⟨?_,h.symm⟩;unfold lH;rw[h];simp[he]
theorem qT {L:List Obj} {k v:Key} {e:Int} (h:du L k v=e) (he:e≠0):e=du L k v/\L=iJ L k v:=by
 refine⟨h.symm,?_⟩;unfold iJ;rw[h,UZ he]
theorem oK {L:List Obj} {k v:Key} {e:Int} (h:aV L k=e) (he:e≠0):du L k v=e:=by
 unfold du;rw[h,UZ he]
theorem wG {L:List Obj} {k:Key} {e:Int} (h:aV L k=e) (he:e≠0):(0=ir L k/\e=aV L k)/\L=jo L k:=by
 unfold ir jo;rw[h,UZ he,UZ he];exact⟨⟨rfl,rfl⟩,rfl⟩
theorem tc {L:List Obj} {k:Key} {kind e:Int} (h:gw L k kind=e) (he:e≠0):(void=ei L k kind/\e=cZ L k kind)/\L=fz L k kind:=by
 have e2:cZ L k kind=e:=by unfold cZ;rw[h,UZ he]
 unfold ei fz;rw[e2,h,UZ he,UZ he];exact⟨⟨rfl,rfl⟩,rfl⟩
theorem oP {L:List Obj} {k:Key} {kind e:Int} (h:aV L k=e) (he:e≠0):gw L k kind=e:=by unfold gw;rw[h,UZ he]
theorem Iq {L:List Obj} {k:Key} {kind:Int} (h:aV L k=0) (h2:(!(decide (kind=1)||decide (kind=2)))=true):gw L k kind=2:=by
 unfold gw;rw[U0 h,UZ];simp only[Bool.not_eq_true',Bool.or_eq_false_iff,decide_eq_false_iff_not]at h2;omega
theorem nD {L:List Obj} {k:Key} {n e:Int} (h:bS L k n=e) (he:e≠0):(void=bW L k n/\e=bS L k n)/\L=bg L k n:=by
 unfold bW bg;rw[h,UZ he,UZ he];exact⟨⟨rfl,rfl⟩,rfl⟩
theorem sw {L:List Obj} {k:Key} {n e:Int} (h:aV L k=e) (he:e≠0):bS L k n=e:=by rw[Bs (by omega),h]
def L1:Ct:=BW (bD sA Ti) (fun _=>none) fun x=> .tp [.bo (lH (zY x.1) x.2.1 x.2.2.1),.it .i64 (aV (zY x.1) x.2.1)]
def LD:nf:=Ft (KC SJ) (fun L _=>an L) (fun L x=> .tp [.key (ei L x.1 x.2.1),.it .i64 (cZ L x.1 x.2.1)]) fun L x=>fz L x.1 x.2.1
def QG:nf:=Ft (KC Ti) (fun L _=>an L) (fun L x=> .it .i64 (du L x.1 x.2.1)) fun L x=>iJ L x.1 x.2.1
def Nf:nf:=Ft (KC kB) (fun L _=>an L) (fun L x=> .tp [.it .i64 (ir L x.1),.it .i64 (aV L x.1)]) fun L x=>jo L x.1
def Hh:nf:=Ft (KC SJ) (fun L _=>an L) (fun L x=> .tp [.key (bW L x.1 x.2.1),.it .i64 (bS L x.1 x.2.1)]) fun L x=>bg L x.1 x.2.1
def nw (L:List Obj) (k:Key) (n g:Int):Prop:=aC L k<=g/\g<=aE L k+1/\lq (dq L k) (aE L k-n+1) g=false
def Kl (L M:List Obj) (g:Int):Int:=ai (cB L M) g.toNat 0
def Gd:List Obj->List Obj->Nat->List Obj
 |L,_,0=>L
 |L,M,g+1=>bO (Gd L M g) (Kl L M (g:Int)) (az M (Kl L M (g:Int)))
def kD (L M:List Obj) (g:Int):List Obj:=Gd L M g.toNat
def pB (L M:List Obj) (g:Int):Prop:=0<=g/\g<=((cB L M).length:Int)
def dK (L:List Obj) (k:Key) (g:Int):Obj:=az (bF L (aC L k) g) g
def oh (L:List Obj) (k:Key) (g:Int):List Obj:=bO (bF L (aC L k) g) g (Obj.mk 1 ((dK L k g).count+1) free.calls free.slots free.bytes)
def mD (x:Int):Key:=Key.mk 1 void.oid void.count void.call void.rights x
def zp (L:List Obj) (k:Key) (n g:Int):Obj:=Obj.mk (az (oh L k g) g).kind (az (oh L k g) g).count (az (oh L k g) g).calls (((az (oh L k g) g).slots.put 0 (mD (((aa L k).slots.at 1).value-n+1))).put 1 (mD ((aa L k).slots.at 1).value)) (az (oh L k g) g).bytes
def yP (L:List Obj) (k:Key) (n g:Int):List Obj:=bO (oh L k g) g (zp L k n g)
def zM (L:List Obj) (k:Key) (n g:Int):Obj:=Obj.mk (az (yP L k n g) k.oid).kind (az (yP L k n g) k.oid).count (az (yP L k n g) k.oid).calls ((az (yP L k n g) k.oid).slots.put 1 (mD (((aa L k).slots.at 1).value-n))) (az (yP L k n g) k.oid).bytes
def ko (L:List Obj) (k:Key) (n g:Int):List Obj:=bO (yP L k n g) k.oid (zM L k n g)
def gT (L:List Obj) (k:Key) (g:Int):Prop:=aC L k<=g/\g<=aE L k+1/\j5 L (aC L k) g
def pU (L:List Obj) (k:Key) (g:Int):Prop:=aC L k<=g/\g<=aE L k+1
theorem yv {L:List Obj} {k:Key} (h:aO L k=true) (h2:k.kind=4):(ai L k.oid.toNat free).kind=1:=by
 unfold aO at h;simp only[US]at h;obtain⟨⟨h1,_⟩,h3⟩:=h;unfold b9 at h3;simp only[US,Bool.or_eq_true,UT]at h3;rcases mh k with⟨_,e,h0⟩|⟨e,_⟩
 ·rcases h3.2 with h|h
  ·omega
  ·rw[h.1.1];unfold iE;rw[UZ (by omega),UZ (by omega)]
 ·rw[e]at h1;simp at h1
theorem EG {o:Obj} {n b:Int} (h:bu o n=true) (hk:o.kind=1):bu (kx o b) n=true:=by
 refine wU h hk fun i hi=>?_
 have:=(js h).2.2.2.2.1;rw[bN.eM _ _ _ _ (by omega)]
 split
 ·exact pF (by omega) _
 ·exact pC h hk i hi
theorem Ej {o:Obj} {n a b:Int} (h:bu o n=true) (hk:o.kind=1):bu (iw o a b) n=true:=by
 refine wU h hk fun i hi=>?_
 have:=(js h).2.2.2.2.1;rw[bN.eM _ _ _ _ (by omega),bN.eM _ _ _ _ (by omega)]
 split
 ·exact pF (by omega) _
 split
 ·exact pF (by omega) _
 ·exact pC h hk i hi
theorem Oz {L:List Obj} {k:Key} {g:Int} (hL:an L) (e:aV L k=0) (hk:(ai L k.oid.toNat free).kind=1) (g0:aC L k<=g) (gl:g<=aE L k) (g2:j5 L (aC L k) g) (f2:ea (ai L g.toNat free)=true):
  e9 L k=g/\dK L k g=ai L g.toNat free/\oh L k g=dq L k/\(dq L k).length=L.length/\an (dq L k)/\ai (dq L k) g.toNat free=jQ (ai L g.toNat free) 1/\ai (dq L k) k.oid.toNat free=ai L k.oid.toNat free/\k.oid.toNat≠g.toNat:=by
 obtain⟨_,a0,a1,a2,a3,a4⟩:=nE e;have hgn:g.toNat<L.length:=by omega
 have hgz:(bF L (aC L k) g).length=L.length:=kV;have hgt:az (bF L (aC L k) g) g=ai L g.toNat free:=by rw[fG (by omega) (by omega),CU (by omega)]
 obtain⟨m1,m2,m3⟩:=DT (l:=aE L k) 1 a0 g0 gl (by omega) g2 f2
 have hO:dK L k g=ai L g.toNat free:=hgt;have hnew:=zd (cz hL g.toNat hgn) f2 (.inl rfl);have hp:=(jV (L:=bF L (aC L k) g) (i:=g) (x:=jQ (ai L g.toNat free) 1) (by omega) (by omega) (by rw[hgz];exact hnew)).1
 have hP:oh L k g=dq L k:=by
  unfold oh;rw[hO];exact hp.trans m3.symm
 have hne:k.oid.toNat≠g.toNat:=fun h=>by
  rw[h]at hk;unfold ea at f2;simp only[US,UT]at f2;omega
 have hM:dq L k=cS (bF L (aC L k) g) g.toNat (jQ (ai L g.toNat free) 1):=m3;have hko:k.oid.toNat<L.length:=by omega
 refine⟨m1,hO,hP,D1,?_,?_,?_,hne⟩
 ·rw[hM];exact jD (C8 hL) (by rw[hgz];exact hnew)
 ·rw[hM,eJ (by rw[hgz];exact hgn),U0 rfl]
 ·rw[hM,eJ (by rw[hgz];exact hgn),UZ hne]
  unfold bF;rw[iR hko,UZ];simp only[iX,hk,US,UT];omega
theorem LF {L:List Obj} {k:Key} {n g:Int} (hL:an L) (e:aV L k=0) (hk:(ai L k.oid.toNat free).kind=1) (hB:((aa L k).slots.at 1).value=aE L k) (g0:aC L k<=g) (gl:g<=aE L k) (g2:j5 L (aC L k) g) (f2:ea (ai L g.toNat free)=true) (h:bS L k n=0):
  ko L k n g=bg L k n/\an (bg L k n)/\(bg L k n).length=L.length/\Key.mk 4 g ((dK L k g).count+1) 0 0 0=bW L k n:=by
 obtain⟨i1,i2,i3,i4,i5,i6,i7,i8⟩:=Oz hL e hk g0 gl g2 f2;obtain⟨_,a0,a1,a2,a3,a4⟩:=nE e;have hgM:az (dq L k) g=ai (dq L k) g.toNat free:=fG (by omega) (by omega)
 have hR1:zp L k n g=iw (ai (dq L k) g.toNat free) (aE L k-n+1) (aE L k):=by
  unfold zp;rw[i3,hgM,hB];rfl
 have o1:bu (iw (ai (dq L k) g.toNat free) (aE L k-n+1) (aE L k)) ((dq L k).length:Int)=true:=Ej (cz i5 g.toNat (by omega)) (by rw[i6];rfl)
 have hP2:yP L k n g=cS (dq L k) g.toNat (iw (ai (dq L k) g.toNat free) (aE L k-n+1) (aE L k)):=by
  unfold yP;rw[i3,hR1];exact(jV (by omega) (by omega) o1).1
 have ok2:=jD (i:=g.toNat) i5 o1;have l2:(cS (dq L k) g.toNat (iw (ai (dq L k) g.toNat free) (aE L k-n+1) (aE L k))).length=L.length:=by rw[gJ];exact i4
 have g2':az (yP L k n g) k.oid=ai (dq L k) k.oid.toNat free:=by
  rw[hP2,fG (by omega) (by omega),eJ (by omega),UZ i8]
 have hR2:zM L k n g=kx (ai (dq L k) k.oid.toNat free) (aE L k-n):=by
  unfold zM;rw[g2',hB];rfl
 have o2:bu (kx (ai (dq L k) k.oid.toNat free) (aE L k-n)) (L.length:Int)=true:=EG (by rw[<-i4];exact cz i5 k.oid.toNat (by omega)) (by rw[i7];exact hk)
 have hlast:bg L k n=cS (cS (dq L k) g.toNat (iw (ai (dq L k) g.toNat free) (aE L k-n+1) (aE L k))) k.oid.toNat (kx (ai (dq L k) k.oid.toNat free) (aE L k-n)):=by
  unfold bg;rw[U0 h,i1]
 refine⟨?_,?_,?_,?_⟩
 ·unfold ko;rw[hR2,hP2,hlast];exact(jV (by omega) (by omega) (by rw[l2];exact o2)).1
 ·rw[hlast];exact jD ok2 (by rw[l2];exact o2)
 ·rw[hlast,gJ];exact l2
 ·unfold bW;rw[U0 h,i1,i6,i2];rfl
theorem K8 {L M:List Obj} {x:Int} (h:x∈cB L M):0<=x/\x<(L.length:Int):=by
 unfold cB gf at h;rw[List.mem_map]at h;obtain⟨j,h1,rfl⟩:=h;have:=List.mem_range.1 (List.mem_filter.1 h1).1;unfold ar at this;exact⟨Int.natCast_nonneg j,by show(j:Int)<_;omega⟩
theorem PR {L M:List Obj} {i:Nat} (h:i<(cB L M).length):ai (cB L M) i 0∈cB L M:=by
 unfold ai;rw[UY,List.getElem?_eq_getElem h];exact List.getElem_mem h
theorem L0 {L M:List Obj} {j:Nat} (hj:j<L.length) (h:ai L j free≠ai M j free):∃i,i<(cB L M).length/\ai (cB L M) i 0=(j:Int):=by
 have:(j:Int)∈cB L M:=by
  unfold cB gf;rw[List.mem_map];refine⟨j,List.mem_filter.2 ⟨List.mem_range.2 (by unfold ar;omega),?_⟩,rfl⟩
  simp[B7,h]
 obtain⟨i,hi,e⟩:=List.mem_iff_getElem.1 this;refine⟨i,hi,?_⟩;unfold ai;rw[UY,List.getElem?_eq_getElem hi,e];rfl
theorem Ip {L M:List Obj} (hl:M.length=L.length) (hM:an M):∀g:Nat,g<=(cB L M).length->(Gd L M g).length=L.length/\(∀j,j<L.length->ai (Gd L M g) j free=ai L j free\/ai (Gd L M g) j free=ai M j free)/\
  ∀i,i<g->ai (Gd L M g) (ai (cB L M) i 0).toNat free=ai M (ai (cB L M) i 0).toNat free
 |0,_=>⟨rfl,fun j hj=> .inl rfl,fun i hi=>by omega⟩
 |g+1,hg=>by
  obtain⟨h1,h2,h3⟩:=Ip hl hM g (by omega)
  obtain⟨u1,u2⟩:=K8 (PR (L:=L) (M:=M) (i:=g) (by omega))
  have e:Kl L M (g:Int)=ai (cB L M) g 0:=rfl;generalize hu:ai (cB L M) g 0=u at *
  have hp:=(jV (L:=Gd L M g) (i:=u) (x:=ai M u.toNat free) u1 (by omega) (by rw[h1,<-hl];exact cz hM _ (by omega))).1
  have hs:Gd L M (g+1)=cS (Gd L M g) u.toNat (ai M u.toNat free):=by
   simp only[Gd];rw[e,fG u1 (by omega)]
   exact hp
  rw[hs];refine⟨by rw[gJ];exact h1,fun j hj=>?_,fun i hi=>?_⟩
  ·rw[eJ (by omega)]
   split
   ·rename_i hj';rw[hj'];exact .inr rfl
   ·exact h2 j hj
  ·rw[eJ (by omega)]
   split
   ·rename_i hj';rw[hj']
   ·rename_i hne;by_cases hig:i=g
    ·rw[hig,hu]at hne;exact absurd rfl hne
    ·exact h3 i (by omega)
theorem M9 {L M:List Obj} (hl:M.length=L.length) (hM:an M) {g:Int} (hg:g=((cB L M).length:Int)):kD L M g=M:=by
 obtain⟨h1,h2,h3⟩:=Ip hl hM (cB L M).length (Nat.le_refl _);have e:kD L M g=Gd L M (cB L M).length:=by unfold kD;rw[hg];rfl
 rw[e];refine ra (by omega) fun j hj=>?_
 by_cases hne:ai L j free=ai M j free
 ·rcases h2 j (by omega)with h|h
  ·rw[h,hne]
  ·exact h
 ·obtain⟨i,hi,hij⟩:=L0 (by omega) hne
  have:=h3 i hi;rw[hij]at this;exact this
theorem Gw {L M:List Obj} {g:Int} (h0:0<=g):bO (kD L M g) (ai (cB L M) g.toNat 0) (az M (ai (cB L M) g.toNat 0))=kD L M (g+1):=by
 unfold kD;rw[show(g+1).toNat=g.toNat+1 by omega]
 simp only[Gd];rfl
theorem Ji {L M:List Obj} (hl:M.length=L.length) (h:1<=L.length):iF L M=false:=by
 unfold iF bc ar;simp only[hl,show decide (L.length=0)=false from decide_eq_false (by omega),Bool.false_or,decide_true,Bool.not_true]
theorem DD {M:List Obj} {f g:Int} (h:g<=f):lq M f g=false:=by
 unfold lq;rw[List.any_eq_false];intro j _;simp only[US,UT,not_and];intro h1 h2;omega
theorem Lq {L M:List Obj}:(cB L M).length<=L.length:=by
 unfold cB gf;rw[List.length_map];have:=List.length_filter_le (fun j=> !B7 (ai L j free) (ai M j free)) (List.range (ar L:Int).toNat)
 simpa[ar]using this
structure Uo where
 kind:Int
 num:Int
 bank:Key
 key:Key
 obj:Int
def Uo.wf (x:Uo):Prop:=b7 .i64 x.kind/\b7 .i64 x.num/\x.bank.wf/\x.key.wf/\b7 .i64 x.obj
theorem EN {L M:List Obj} {k:Key} {d:Int} {c:Bool} (hl:M.length=L.length) (h1:(ai M k.oid.toNat free).kind=(ai L k.oid.toNat free).kind) (h2:(ai M k.oid.toNat free).count=(ai L k.oid.toNat free).count) (h3:(ai M k.oid.toNat free).calls=(ai L k.oid.toNat free).calls):aM M k d c=aM L k d c:=by
 have hi:aO M k=aO L k:=by
  unfold aO cC b9 ar;rw[hl,h1,h2,h3]
 unfold aM ar;rw[hl,hi]
theorem MA {L:List Obj} {k:Key} (h:aV L k=0):gV (ai L k.oid.toNat free) (L.length:Int)=true/\(ai L k.oid.toNat free).kind=1:=by
 obtain⟨ha,_⟩:=nE h;obtain⟨i1,i2,_⟩:=j9 ha;refine⟨?_,yv i1 i2⟩;unfold aV at h;rw[U0 ha]at h;split at h
 ·rename_i hc;exact hc
 ·omega
theorem I5 {L:List Obj} {f l kind:Int} {j:Nat} (h0:0<=f) (hj:j<L.length) (hk:(ai L j free).kind≠0):ai (kf L f l kind) j free=ai L j free:=by
 have hG:∀g,ai (bF L f g) j free=ai L j free:=fun g=>by
  unfold bF;rw[iR hj,UZ];simp only[iX,US,UT];omega
 unfold kf;split
 ·exact hG _
 ·rename_i hi;rcases zI (L:=L) (l:=l) h0 with e|⟨a,b,c,d⟩
  ·exact absurd e hi
  ·rw[eJ (by rw[kV];omega),UZ,hG]
   intro e;rw[<-e]at d;unfold ea at d;simp only[US,UT]at d;exact hk d.1
theorem GF {L:List Obj} {f l kind:Int} (hL:an L) (h0:0<=f) (hk:kind=1\/kind=2):an (kf L f l kind):=by
 unfold kf;split
 ·exact C8 hL
 ·rename_i hi;rcases zI (L:=L) (l:=l) h0 with e|⟨a,b,c,d⟩
  ·exact absurd e hi
  ·exact jD (C8 hL) (by rw[kV];exact zd (cz hL _ (by omega)) d hk)
theorem DQ {L:List Obj} {k:Key} {kind:Int} (hL:an L):an (fz L k kind):=by
 unfold fz;split
 ·rename_i h
  have he:aV L k=0:=by
   unfold gw at h;split at h
   ·assumption
   ·rename_i h';exact absurd h h'
  refine GF hL (nE he).2.1 ?_;unfold gw at h;rw[U0 he]at h;split at h
  ·assumption
  ·omega
 ·exact hL
theorem Hb {L:List Obj} {k:Key} {n:Int} (hL:an L) (e:aV L k=0) (h:bS L k n=0):
  an (bg L k n)/\(bg L k n).length=L.length/\aV (bg L k n) k=0/\aC (bg L k n) k=aC L k/\aE (bg L k n) k=aE L k-n/\
  aV (bg L k n) (bW L k n)=0/\aC (bg L k n) (bW L k n)=aE L k-n+1/\aE (bg L k n) (bW L k n)=aE L k/\aC L k<=(bW L k n).oid/\(bW L k n).oid<=aE L k-n/\1<=n/\n<=aE L k-aC L k/\
  ea (ai L (bW L k n).oid.toNat free)=true:=by
 obtain⟨ha,a0,a1,a2,a3,a4⟩:=nE e;obtain⟨hok,hk1⟩:=MA e;obtain⟨x1,x2⟩:=jy hL;have h':=h;unfold bS at h;split at h
 case isFalse h2=>exact absurd h h2
 rename_i hE0;split at h
 case isTrue=>omega
 rename_i hI
 have hn:1<=n/\n<=aE L k-aC L k:=by
  unfold ky at hE0;rw[U0 e]at hE0;split at hE0
  ·omega
  ·omega
 have hin:=zI (L:=L) (l:=aE L k) a0;have hIe:eQ L (aC L k) (aE L k)=e9 L k:=rfl;have hne1:eQ L (aC L k) (aE L k)≠ -1:=by rw[hIe];omega
 rw[hIe]at hin;rcases hin with hin|⟨i1,i2,i3,i4⟩
 ·omega
 have hMlen:(dq L k).length=L.length:=D1;have hMok:an (dq L k):=GF hL a0 (.inl rfl);have hMI:ai (dq L k) (e9 L k).toNat free=jQ (ai L (e9 L k).toNat free) 1:=H5 a0 hne1;have Rh:ai (dq L k) k.oid.toNat free=ai L k.oid.toNat free:=I5 a0 (by omega) (by omega)
 have hne:k.oid.toNat≠(e9 L k).toNat:=fun hh=>by
  rw[hh]at hk1;unfold ea at i4;simp only[US,UT]at i4;omega
 have hLL:bg L k n=cS (cS (dq L k) (e9 L k).toNat (iw (ai (dq L k) (e9 L k).toNat free) (aE L k-n+1) (aE L k))) k.oid.toNat (kx (ai (dq L k) k.oid.toNat free) (aE L k-n)):=by
  unfold bg;rw[U0 h']
 have hKK:bW L k n=⟨4,e9 L k,(ai L (e9 L k).toNat free).count+1,0,0,0⟩:=by
  unfold bW;rw[U0 h',hMI];rfl
 have o1:bu (iw (ai (dq L k) (e9 L k).toNat free) (aE L k-n+1) (aE L k)) (L.length:Int)=true:=Ej (by rw[<-hMlen];exact cz hMok _ (by omega)) (by rw[hMI];rfl)
 have o2:bu (kx (ai (dq L k) k.oid.toNat free) (aE L k-n)) (L.length:Int)=true:=EG (by rw[<-hMlen];exact cz hMok _ (by omega)) (by rw[Rh];exact hk1)
 have l1:(cS (dq L k) (e9 L k).toNat (iw (ai (dq L k) (e9 L k).toNat free) (aE L k-n+1) (aE L k))).length=L.length:=by rw[gJ];exact hMlen
 have okX:=jD (i:=(e9 L k).toNat) hMok (by rw[hMlen];exact o1)
 have hlen:(bg L k n).length=L.length:=by rw[hLL,gJ];exact l1
 have hokL:an (bg L k n):=by rw[hLL];exact jD okX (by rw[l1];exact o2)
 have hgk:ai (bg L k n) k.oid.toNat free=kx (ai L k.oid.toNat free) (aE L k-n):=by
  rw[hLL,eJ (by omega),U0 rfl,Rh]
 have hgI:ai (bg L k n) (e9 L k).toNat free=iw (jQ (ai L (e9 L k).toNat free) 1) (aE L k-n+1) (aE L k):=by
  rw[hLL,eJ (by omega),UZ (Ne.symm hne),eJ (by omega),U0 rfl,hMI]
 have s2:∀(o:Obj) (b:Int),(kx o b).slots.at 0=o.slots.at 0/\(kx o b).slots.at 1=cP b:=fun o b=>by
  unfold kx;simp only;rw[bN.eM _ _ _ _ (by omega),bN.eM _ _ _ _ (by omega)]
  exact⟨rfl,rfl⟩
 have s1:∀(o:Obj) (a b:Int),(iw o a b).slots.at 0=cP a/\(iw o a b).slots.at 1=cP b:=fun o a b=>by
  unfold iw;simp only;rw[bN.eM _ _ _ _ (by omega),bN.eM _ _ _ _ (by omega),bN.eM _ _ _ _ (by omega)]
  exact⟨rfl,rfl⟩
 have hask:aM (bg L k n) k 4 false=0:=by
  rw[EN hlen (by rw[hgk];rfl) (by rw[hgk];rfl) (by rw[hgk];rfl)];exact ha
 unfold gV at hok;simp only[US,UT]at hok;obtain⟨⟨⟨⟨c1,c2⟩,c3⟩,c4⟩,c5⟩:=hok;have hA':aC (bg L k n) k=aC L k:=by unfold aC;rw[hgk,(s2 _ _).1]
 have hB':aE (bg L k n) k=aE L k-n:=by
  have:aE (bg L k n) k=((kx (ai L k.oid.toNat free) (aE L k-n)).slots.at 1).value:=by rw[<-hgk];rfl
  rw[this,(s2 _ _).2];rfl
 have hE':aV (bg L k n) k=0:=(wm hask (by
  rw[hgk];unfold gV ar;rw[(s2 _ _).1,(s2 _ _).2,hlen];have v0:((ai L k.oid.toNat free).slots.at 0).value=aC L k:=rfl;simp only[cP,US,UT];refine⟨⟨⟨⟨c1,?_⟩,c3⟩,?_⟩,?_⟩
  ·trivial
  ·exact decide_eq_true (by omega)
  ·exact decide_eq_true (by omega))).1
 have i4':=i4;unfold ea at i4';simp only[US,UT]at i4';have hcb:=js (cz hL (e9 L k).toNat (by omega))
 have hkey:aP (bW L k n)=true:=by
  rw[hKK];unfold aP eT;simp only[gm,n9,qj,dZ];simp;omega
 have hoid:(bW L k n).oid=e9 L k:=by rw[hKK]
 have hisO:gm (bW L k n).kind=true:=by rw[hKK];rfl
 have hnm:aN (bW L k n)=true:=by unfold aN;rw[hkey,hisO];rfl
 have hnames:cF (bW L k n)=e9 L k:=by unfold cF;rw[hkey,hisO,hoid];rfl
 have hcounts:b9 (bW L k n) (ai (bg L k n) (bW L k n).oid.toNat free)=true:=by
  unfold b9 iE;rw[hkey,hnames,hoid,hgI,UZ (by omega),hKK]
  simp[iw,jQ]
 have his:aO (bg L k n) (bW L k n)=true:=by
  unfold aO;rw[hnm,hcounts,mN.2 ⟨by omega,by omega⟩];rfl
 have hask2:aM (bg L k n) (bW L k n) 4 false=0:=by
  unfold aM ar;rw[UZ (by omega),UZ (by rw[his,hKK];simp),UZ (by simp)]
 have hobj:ai (bg L k n) (bW L k n).oid.toNat free=iw (jQ (ai L (e9 L k).toNat free) 1) (aE L k-n+1) (aE L k):=by rw[hoid];exact hgI
 refine⟨hokL,hlen,hE',hA',hB',(wm hask2 ?_).1,?_,?_,by rw[hoid];exact i1,by rw[hoid];omega,hn.1,hn.2,by rw[hoid];exact i4⟩
 ·rw[hobj];unfold gV ar;rw[(s1 _ _ _).1,(s1 _ _ _).2,hlen];simp only[cP,US,UT];refine⟨⟨⟨⟨?_,?_⟩,?_⟩,?_⟩,?_⟩
  ·trivial
  ·trivial
  ·exact decide_eq_true (by omega)
  ·exact decide_eq_true (by omega)
  ·exact decide_eq_true (by omega)
 ·unfold aC;rw[hobj,(s1 _ _ _).1];rfl
 ·have:aE (bg L k n) (bW L k n)=((iw (jQ (ai L (e9 L k).toNat free) 1) (aE L k-n+1) (aE L k)).slots.at 1).value:=by rw[<-hobj];rfl
  rw[this,(s1 _ _ _).2];rfl
end Go.Sx
