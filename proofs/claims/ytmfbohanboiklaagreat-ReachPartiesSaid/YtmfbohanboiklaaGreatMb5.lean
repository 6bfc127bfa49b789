import Derived.Test.YtmfbohanboiklaaGreatMb4
set_option linter.unusedSimpArgs false
set_option linter.unusedVariables false
namespace Go.Sx
open Go.RowKit (Below)
theorem qy{C:Ctx}{ops:List Oper}{ds:List (Option Nat×Nat)}{sl:List S}{res:List aQ}{st:Bool}{hid:List (Nat×Nat)}:∀(l:List Oper) (i:Nat) (done drs:List Dr) (rest:List Oper),mQ C ops ds sl res st hid i l done=(drs,rest)->done.length=i->ops.drop i=l->
  (∀k d,done[k]? =some d->∃o,ops[k]? =some o/\kN C ops ds sl res st hid (done.take k) k o=some d)->
  rest=ops.drop drs.length/\drs.length<=ops.length/\∀k d,drs[k]? =some d->∃o,ops[k]? =some o/\kN C ops ds sl res st hid (drs.take k) k o=some d
 | [],i,done,drs,rest,h,hi,hl,hp=>by
   simp only[mQ,ae]at h;obtain⟨rfl,rfl⟩:=h;refine⟨by rw[hi];exact hl.symm,?_,hp⟩
   rcases Nat.lt_or_ge done.length (ops.length+1)with h|h
   ·omega
   ·have hne:0<done.length:=by omega
    have:=hp (done.length-1) (done[done.length-1]'(by omega)) (List.getElem?_eq_getElem (by omega))
    obtain⟨o,ho,_⟩:=this;have:=(List.getElem?_eq_some_iff.1 ho).1;omega
 |o::l,i,done,drs,rest,h,hi,hl,hp=>by
  simp only[mQ]at h
  have hoi:ops[i]? =some o:=by
   have:(ops.drop i)[0]? =some o:=by rw[hl];rfl
   simpa using this
  split at h
  ·rename_i d hd;refine qy l (i+1) (done++ [d]) drs rest h (by simp[hi]) ?_ fun k e hk=>?_
   ·have:(ops.drop i).drop 1=l:=by rw[hl];rfl
    rw[<-this,List.drop_drop]
   ·grind
  ·grind
theorem vW:∀{drs:List Dr} {k:Prop},vI drs k->(∀(i:Nat) (d:Dr),drs[i]? =some d->(d.g=true->cK d.q))/\k
 | [],k,h=>⟨by simp,h⟩
 |d::l,k,h=>by
  have key:(d.g=true->cK d.q)/\vI l k:=by
   grind[vI,C7,lT]
  obtain⟨h1,h2⟩:=vW key.2;refine⟨fun i e hi=>?_,h2⟩
  cases i with
  |zero=>simp only[List.getElem?_cons_zero,aa]at hi;subst hi;exact key.1
  |succ i=>exact h1 i e (by simpa using hi)
def FO(listed:Array Bool)(n:Nat):Nat:=((List.range n).filter fun k=> !listed.getD k false).length
theorem filter_lt{α:Type}{p q:α->Bool}:∀{l:List α},(∀x∈l,q x=true->p x=true)->(∃x∈l,p x=true/\q x=false)->(l.filter q).length<(l.filter p).length
 | [],_,⟨x,hx,_⟩=>by simp at hx
 |y::l,h,⟨x,hx,h1,h2⟩=>by
  have hle:∀(l:List α),(∀x∈l,q x=true->p x=true)->(l.filter q).length<=(l.filter p).length:=by
   intro l;induction l with
   |nil=>simp
   |cons z l ih=>
    intro hh;have:=ih fun x hx=>hh x (by simp[hx])
    have hz:=hh z (by simp)
    simp only[List.filter_cons];cases hq:q z<;>cases hp:p z<;>simp_all<;>omega
  have h':∀x∈l,q x=true->p x=true:=fun x hx=>h x (by simp[hx])
  simp only[List.filter_cons];rcases List.mem_cons.1 hx with rfl|hx
  ·grind
  ·have ih:=filter_lt h' ⟨x,hx,h1,h2⟩;have hy:=h y (by simp)
   cases hq:q y<;>cases hp:p y<;>simp_all<;>omega
theorem nL{listed:Array Bool}{n i:Nat}(hs:listed.size=n)(hi:i<n)(hl:listed.getD i false=false):FO (listed.setIfInBounds i true) n<FO listed n:=by
 refine filter_lt (fun x hx h=>?_) ⟨i,List.mem_range.2 hi,?_,?_⟩
 ·by_cases e:i=x
  ·subst e;simpa using hl
  ·rw[getD_set_ne false e]at h;exact h
 ·simp only[hl,Bool.not_false]
 ·simp[hs,hi]
theorem Ax{listed:Array Bool}{i:Nat}(hi:i<listed.size):(fun k=>(listed.setIfInBounds i true).getD k false)=ins (fun k=>listed.getD k false) i:=by
 funext k
 unfold ins;by_cases e:k=i
 ·subst e;simp[hi]
 ·rw[getD_set_ne false (Ne.symm e)];simp[e]
theorem A4{p:Nat->Bool}:∀(l:List Dr) (j:Nat),(∀k,k<l.length->p (j+k)=true)->ie p j l=ie (fun _=>true) j l
 | [],j,_=>by simp[ie]
 |d::l,j,h=>by
  rw[py,py,A4 l (j+1) fun k hk=>by rw[show j+1+k=j+(k+1) by omega];exact h (k+1) (by simpa using hk)]
  have:=h 0 (by simp)
  simp only[Nat.add_zero]at this;rw[ar this,ar rfl]
theorem B6{p:Nat->Bool}:∀(l:List Dr) (j:Nat) (R:List aQ),(∀k,k<l.length->p (j+k)=true)->Kl p j l R=Kl (fun _=>true) j l R
 | [],j,R,_=>rfl
 |d::l,j,R,h=>by
  have h0:=h 0 (by simp)
  simp only[Nat.add_zero]at h0;have h':∀k,k<l.length->p (j+1+k)=true:=fun k hk=>by rw[show j+1+k=j+(k+1) by omega];exact h (k+1) (by simpa using hk)
  simp only[Kl,h0,if_true];split
  ·exact B6 l _ R h'
  ·exact B6 l _ _ h'
section
variable {C:Ctx} {opsA:Array Oper} {ds:List (Option Nat×Nat)} {sl:List S} {res:List aQ} {drs:List Dr} {defs:List (Nat×List V×List V)} {ρ0 J:Env} {w0 w:World} {F0:Nat->Prop} {fps:Nat->Nat->Prop} {a:Act}
 {Q:Exit->Act->World->Prop}
theorem Bd[Fen]{ro:Option Nat}(hQ:¬LetsOut Q)(hnd:ro≠none->∀o∈opsA.toList,fe o)(hC:C.Sound)(P:fq C opsA.toList ds sl res drs)(hq:∀(i:Nat) (d:Dr),drs[i]? =some d->(d.g=true->cK d.q))(hle:drs.length<=opsA.size)
  (htail:∀i,i<opsA.size->drs.length<i->∀k,k<drs.length->(bh ds i).testBit k=true)
  (hlate:∀(fuel:Nat) (listed:Array Bool) J fps a w,listed.size=opsA.size->FO listed opsA.size<=fuel+1->drs.length<opsA.size->(∀k,drs.length<=k->listed.getD k false=false)->(∃k,k<drs.length/\listed.getD k false=false)->
   (∀k,(bh ds drs.length).testBit k=true->listed.getD k false=true)->Inv ds sl res drs defs ρ0 w0 F0 (fun k=>listed.getD k false) J fps a w->
   wpOpIn (FF C.P ro) 0 C.P opsA Q drs.length (wpAnyIn (FF C.P ro) 0 C.P .any opsA Q fuel (listed.setIfInBounds drs.length true)) a w)
  (hfin:∀(fuel:Nat) (listed:Array Bool) J fps a w,listed.size=opsA.size->FO listed opsA.size<=fuel->(∀k,k<drs.length->listed.getD k false=true)->(∀k,drs.length<=k->listed.getD k false=false)->
   Inv ds sl res drs defs ρ0 w0 F0 (fun k=>listed.getD k false) J fps a w->wpAnyIn (FF C.P ro) 0 C.P .any opsA Q fuel listed a w):
  ∀(fuel:Nat) (listed:Array Bool) J fps a w,listed.size=opsA.size->FO listed opsA.size<=fuel->(∀k,drs.length<=k->listed.getD k false=false)->
   Inv ds sl res drs defs ρ0 w0 F0 (fun k=>listed.getD k false) J fps a w->wpAnyIn (FF C.P ro) 0 C.P .any opsA Q fuel listed a w:=by
 intro fuel;induction fuel with
 |zero=>
  intro listed J fps a w hs hc hno I;refine hfin 0 listed J fps a w hs hc (fun k hk=>?_) hno I
  cases h:listed.getD k false with
  |true=>rfl
  |false=>
   have:=nL (n:=opsA.size) hs (by omega) h
   omega
 |succ fuel ih=>
  intro listed J fps a w hs hc hno I;by_cases hall:∀k,k<drs.length->listed.getD k false=true
  ·exact hfin _ listed J fps a w hs hc hall hno I
  ·have hready:∀i∈Region.ready .any opsA listed,(i<drs.length\/(i=drs.length/\i<opsA.size))/\listed.getD i false=false/\∀k,(bh ds i).testBit k=true->listed.getD k false=true:=by
    intro i hi;obtain⟨h1,o,h2,h3⟩:=mem_ready.1 hi;have hisz:i<opsA.size:=(Array.getElem?_eq_some_iff.1 h2).1;obtain⟨p1,p2,p3,p4⟩:=P.at h2
    have hL:∀k,(bh ds i).testBit k=true->listed.getD k false=true:=fun k hk=>by
     obtain⟨e,e1,e2,e3⟩:=(p3 k).1 hk;have:=h3 e e1 e2;rcases e3 with rfl|e3
     ·exact this
     ·exact I.down e.on k this e3
    refine⟨?_,?_,hL⟩
    ·grind
    ·simp_all
   have hnil:Region.ready .any opsA listed≠ []:=by
    intro hnil
    have hmin:∀i,i<drs.length->listed.getD i false=true:=by
     intro i;induction i using Nat.strongRecOn with
     |_ i ihi=>
      intro hi;cases h:listed.getD i false with
      |true=>rfl
      |false=>
       have hio:opsA[i]? =some (opsA[i]'(by omega)):=Array.getElem?_eq_getElem (by omega)
       obtain⟨p1,p2,p3,p4⟩:=P.at hio
       have:i∈Region.ready .any opsA listed:=by
        rw[mem_ready];refine⟨?_,_,hio,fun e e1 e2=>?_⟩
        ·grind
        ·grind
       rw[hnil]at this;simp at this
    exact hall hmin
   refine⟨fun h=>absurd h hnil,fun i hi=>?_⟩
   obtain⟨h1,h2,h3⟩:=hready i hi;rcases h1 with h1|⟨h1,h1'⟩
   case inr=>
    subst h1
    have hex:∃k,k<drs.length/\listed.getD k false=false:=by
     simp_all
    exact hlate fuel listed J fps a w hs hc h1' hno hex h3 I
   have hisz:i<listed.size:=by omega
   refine Inv.step rfl hnd hC P hq I (d:=drs[i]'h1) (List.getElem?_eq_getElem h1) h2 h3 fun ρ' fps' a' w' I'=>?_
   refine ih (listed.setIfInBounds i true) ρ' fps' a' w' (by simpa using hs) ?_ ?_ ?_
   ·have:=nL (n:=opsA.size) hs (by omega) h2
    omega
   ·intro k hk;rw[getD_set_ne false (by omega)]
    exact hno k hk
   ·rw[Ax hisz];exact I'
theorem Inv.rep{listed:Array Bool}(P:fq C opsA.toList ds sl res drs)(hall:∀k,k<drs.length->listed.getD k false=true)(hno:∀k,drs.length<=k->listed.getD k false=false)
  (I:Inv ds sl res drs defs ρ0 w0 F0 (fun k=>listed.getD k false) J fps a w):
  kS J fps {slots:=eM (pW drs.length) drs.length 0 ds (wK drs) sl,res:=yy res drs,defs:=defs} w0 F0 a w/\Good ρ0 res J (yy res drs):=by
 have hbit:∀k,(pW drs.length).testBit k=true↔k<drs.length:=fun k=>by simp[pW,Nat.testBit_two_pow_sub_one]
 have hv:=P.view I (anc:=pW drs.length) (i:=drs.length) (Nat.le_refl _) (fun k hk=>⟨hall k ((hbit k).1 hk),(hbit k).1 hk⟩) (fun k r hk hr=>by
   have hk':=(hbit k).1 hk;obtain⟨_,_,hpl,_⟩:=P.plan;obtain⟨o,ho,_⟩:=hpl k _ (List.getElem?_eq_getElem hk');have:=(P.at (i:=k) (o:=o) (by simpa using ho)).2.1 r hr
   exact(hbit r).2 (by omega)) (fun k m t _ h2 _=>hno k h2)
 rw[List.take_length]at hv;have hviews:ie (fun k=>listed.getD k false) 0 drs=ie (fun _=>true) 0 drs:=A4 drs 0 fun k hk=>by simpa using hall k hk
 have hAV:AV res drs (fun k=>listed.getD k false)=yy res drs:=by
  unfold AV yy;rw[hviews,rC];exact B6 drs 0 _ fun k hk=>by simpa using hall k hk
 have hheap:=I.heap;rw[hAV]at hheap
 have hknown:∀id,KL res drs (fun k=>listed.getD k false) id->known (yy res drs) id:=by
  intro id h;rw[<-hAV]
  have hlt:id<res.length+lens drs:=by
   rcases h with h|⟨h1,j,y,h2,h3⟩
   ·have:=aW h;omega
   ·rw[ga]at h2;obtain⟨⟨d,hd,hy⟩,h4⟩:=h2;have:=pj drs drs.length j y ⟨d,hd,hy⟩ (List.getElem?_eq_some_iff.1 hd).1;rw[List.take_length]at this;omega
  unfold known;rw[o5 hlt];cases hl:dQ (fun k=>listed.getD k false) id 0 drs with
  |some r=>
   obtain⟨k,d',e1,e2,_⟩:=ix _ _ hl;obtain⟨_,ty,c,e⟩:=nR P k d' _ e1 e2;simp only at e;simp[e]
  |none=>
   simp only[Option.getD_none];rw[iV];rcases h with h|⟨h1,j,y,h2,h3⟩
   ·rw[ar (aW h)];exact h
   ·rw[aq (by omega),h2]
    simp only[h3,if_true];obtain⟨⟨d,hd,hy⟩,_⟩:=(ga drs _ j y).1 h2;rw[hd];exact I.newk j d hd h3 y hy
 refine⟨⟨hv.env hknown (Env.agree.refl _ _),hheap.p5 hknown,I.defs.1,fun d hd=>?_⟩,I.agree,fun i hi=>hknown i (.inl hi)⟩
 have:=I.defs.2 d hd;exact⟨cD (fun i hi=>hknown i (.inl hi)) _ this.1,cD (fun i hi=>hknown i (.inl hi)) _ this.2⟩
theorem lL(l:List S)(t:Nat):(∃x,b9 (clean l) t= .v x)\/b9 (clean l) t= .und:=by
 rw[ke];split
 ·exact .inl ⟨_,rfl⟩
 ·exact .inr rfl
theorem ym[Fen]{P:Program}{ro:Option Nat}{md:Region.Mode}{ops:Array Oper}{listed:Array Bool}(h:Region.ready md ops listed= [])(hq:Q .normal a w):∀fuel,wpAnyIn (FF C.P ro) 0 P md ops Q fuel listed a w
 |0=>⟨h,hq⟩
 |fuel+1=>⟨fun _=>hq,fun i hi=>by rw[h]at hi;simp at hi⟩
theorem rq{ds:List (Option Nat×Nat)}:∀{l:List Oper} {i:Nat},th ds i l=true->∀j,j<l.length->bh ds (i+j)=pW (i+j)
 | [],i,_,j,hj=>by simp at hj
 |o::l,i,h,j,hj=>by
  simp only[th,af,ai]at h;cases j with
  |zero=>exact h.1
  |succ j=>
   have:=rq h.2 j (by simpa using hj)
   rwa [show i+1+j=i+(j+1) by omega]at this
theorem vd[Fen]{H:Handler}{Y:ej}{K:Out->St->Prop}{ro:Option Nat}{res0:List aQ}(hC:C.Sound)(hH:H.OK C.P)(hY:Fb C.P Y ρ0 res0)(hnd:ro≠none->∀o∈opsA.toList,fe o)
  (P:AtW opsA ds) (n:Nat) (hbit:∀i,i<opsA.size->n<i->∀k,(bh ds i).testBit k=true↔k<i):
  ∀(l:List Oper) (m:Nat) (listed:Array Bool) (fuel:Nat) (U:St) J fps a w,opsA.toList.drop m=l->n<=m->listed.size=opsA.size->FO listed opsA.size<=fuel->(∀k,k<m->listed.getD k false=true)->(∀k,m<=k->listed.getD k false=false)->
   Ep C H Y opsA.toList l U K->kS J fps U w0 F0 a w->Good ρ0 res0 J U.res->wpAnyIn (FF C.P ro) 0 C.P .any opsA (jh ρ0 res0 w0 F0 K) fuel listed a w
 | [],m,listed,fuel,U,J,fps,a,w,hl,hnm,hs,hc,hall,hno,h,hr,hg=>by
   have hm:opsA.size<=m:=by
    have:=congrArg List.length hl;simp at this;omega
   simp only[Ep,lC]at h;refine ym ?_ ⟨.norm,_,J,fps,trivial,h,⟨hr.1.clean,hr.2.1,hr.2.2.1,hr.2.2.2⟩,hg⟩ fuel;cases hrd:Region.ready .any opsA listed with
   |nil=>rfl
   |cons i l=>
    obtain⟨h1,o,h2,_⟩:=mem_ready.1 (show i∈Region.ready .any opsA listed by rw[hrd];simp)
    have hisz:i<opsA.size:=(Array.getElem?_eq_some_iff.1 h2).1;have:=hall i (by omega)
    have hlt:i<listed.size:=by omega
    simp only[Array.getD_eq_getD_getElem?,Array.getElem?_eq_getElem hlt,Option.getD_some]at this h1;rw[this]at h1;simp at h1
 |o::l,m,listed,fuel,U,J,fps,a,w,hl,hnm,hs,hc,hall,hno,h,hr,hg=>by
  have hom:opsA[m]? =some o:=by
   have:(opsA.toList.drop m)[0]? =some o:=by rw[hl];rfl
   simpa using this
  have hmsz:m<opsA.size:=(Array.getElem?_eq_some_iff.1 hom).1
  have hl':opsA.toList.drop (m+1)=l:=by
   have:(opsA.toList.drop m).drop 1=l:=by rw[hl];rfl
   rw[<-this,List.drop_drop]
  have hml:listed.getD m false=false:=hno _ (Nat.le_refl _);have hmlt:m<listed.size:=by omega
  cases fuel with
  |zero=>
   have:=nL (n:=opsA.size) hs hmsz hml;omega
  |succ fuel=>
   obtain⟨p2,p3,p4⟩:=P _ _ hom
   have hmr:m∈Region.ready .any opsA listed:=by
    rw[mem_ready];refine⟨?_,o,hom,fun e e1 e2=>hall _ (p4 e e1 e2)⟩
    simpa[Array.getD_eq_getD_getElem?,hmlt]using hml
   refine⟨fun hnil=>(by rw[hnil]at hmr;simp at hmr),fun i hi=>?_⟩
   obtain⟨h1,o',h2,h3⟩:=mem_ready.1 hi;have hisz:i<opsA.size:=(Array.getElem?_eq_some_iff.1 h2).1
   have him:i=m:=by
    rcases Nat.lt_trichotomy i m with h|h|h
    ·grind
    ·exact h
    ·exfalso
     obtain⟨q2,q3,q4⟩:=P _ _ h2;obtain⟨e,e1,e2,e3⟩:=q3 m ((hbit i hisz (by omega) m).2 h)
     have he:=h3 e e1 e2;rcases e3 with rfl|e3
     ·rw[hml]at he;simp at he
     ·have hlt:m<e.on:=by
       have hi':=q4 e e1 e2;obtain⟨r2,_⟩:=P e.on (opsA[e.on]'(by omega)) (Array.getElem?_eq_getElem (by omega))
       exact r2 m e3
      rw[hno _ (by omega)]at he;simp at he
   subst him;have hoo:o'=o:=by rw[hom]at h2;exact(Option.some.inj h2).symm
   subst hoo
   have key:=tc (ro:=ro) (next:=wpAnyIn (FF C.P ro) 0 C.P .any opsA (jh ρ0 res0 w0 F0 K) fuel (listed.setIfInBounds i true)) (Q:=jh ρ0 res0 w0 F0 K) hC hH (hY.Ux hg)
    (fun hr=>hnd hr o' (by rw[<-Array.getElem?_toList]at hom;exact List.mem_of_getElem? hom)) h hr
    (fun σ' ρ'' fps'' a'' w'' hK' hr' hg'=>vd hC hH hY hnd P n hbit l (i+1) (listed.setIfInBounds i true) fuel σ' ρ'' fps'' a'' w'' hl' (by omega) (by simpa using hs)
     (by have:=nL (n:=opsA.size) hs hmsz hml;omega)
     (fun k hk=>by
      by_cases e:i=k
      ·subst e;simp[hmlt]
      ·rw[getD_set_ne false e];exact hall k (by omega))
     (fun k hk=>by rw[getD_set_ne false (by omega)];exact hno k (by omega)) hK' hr' (hg.trans hg'))
    (fun v σ' ρ'' fps'' w'' hK' hv hr' hg'=>⟨.pan v,σ',ρ'',fps'',⟨rfl,hv⟩,hK',hr',hg.trans hg'⟩)
   unfold wpOpIn;simp only[hom];split
   ·rename_i hw;rw[ar hw]at key;exact key.2
   ·rename_i hw;rw[aq hw]at key;exact key
def mg:Nat->List Oper->List (Nat×Oper)
 |_,[]=> []
 |i,o::l=>(i,o)::mg (i+1) l
theorem yA:∀{l:List Oper} {i:Nat} {p:Nat×Oper},p∈mg i l↔i<=p.1/\l[p.1-i]? =some p.2
 | [],i,p=>by simp[mg]
 |o::l,i,p=>by
  simp only[mg,List.mem_cons,yA (l:=l) (i:=i+1)];constructor
  ·grind
  ·grind
theorem uj[Fen]{H:Handler}{Y:ej}{U:St}{K:Out->St->Prop}{ro:Option Nat}{st:Bool}{hid:List (Nat×Nat)}{rest:List Oper}(hC:C.Sound)(hH:H.OK C.P)(hY:Fb C.P Y J U.res)(hnd:ro≠none->∀o∈opsA.toList,fe o)
  (hok:Dk ds 0 opsA.toList ds=true/\sr ds=true) (hpg:mQ C opsA.toList ds (clean U.slots) U.res st hid 0 opsA.toList []=(drs,rest)) (hhid:∀s d u,drs[s]? =some d->d.up=some u->(s,u.1)∈hid)
  (h:wZ C H Y opsA.toList ds U K drs rest) (hr:kS J fps U w0 F0 a w):
  wpAnyIn (FF C.P ro) 0 C.P .any opsA (jh J U.res w0 F0 K) opsA.size (Array.replicate opsA.size false) a {w with drawn:=w.drawn+1}:=by
  obtain⟨g1,g2,g3⟩:=qy _ 0 [] drs rest hpg rfl rfl (by simp)
  have P:fq C opsA.toList ds (clean U.slots) U.res drs:=⟨hok.1,hok.2,lL U.slots,st,hid,g3,hhid⟩;unfold wZ at h;obtain⟨hq,hK⟩:=vW h;obtain⟨r1,r2,r3,r4⟩:=hr;have hsz:drs.length<=opsA.size:=by simpa using g2
  have hget:∀k,(Array.replicate opsA.size false).getD k false=false:=fun k=>by
   simp only[Array.getD_eq_getD_getElem?,Array.getElem?_replicate];split<;>rfl
  have hL0:∀id,KL U.res drs (fun k=>(Array.replicate opsA.size false).getD k false) id->known U.res id:=by
   rintro id (h|⟨_,j,y,_,h⟩)
   ·exact h
   ·simp only[hget]at h;simp at h
  have I0:Inv ds (clean U.slots) U.res drs U.defs J w0 F0 (fun k=>(Array.replicate opsA.size false).getD k false) J fps a {w with drawn:=w.drawn+1}:=by
   have hd:bn J fps U.res (known U.res) w0 F0 {w with drawn:=w.drawn+1}:=⟨r2.sub,r2.old,r2.os,r2.tape,r2.output,fun i hi=>aQ.fz _ (r2.holds i hi) fun _ _=>rfl,r2.lt,r2.disj,r2.inF,r2.same⟩
   refine⟨r1.clean.1,fun t j m d _ _ hl=>by simp only[hget]at hl;simp at hl,fun t _=>?_,?_,fun i k hi=>by simp only[hget]at hi;simp at hi,⟨r3,r4⟩,Env.agree.refl _ _,fun j d _ hl=>by simp only[hget]at hl;simp at hl⟩
   ·exact(gy.plain (lL U.slots t) (r1.clean.2 t)).env (fun i hi=> .inl hi) (Env.agree.refl _ _)
   ·refine(hd.p5 fun i hi=> .inl hi).forget fun id hk=>?_
    have:=hL0 id (CW P (fun i k hi=>by simp only[hget]at hi;simp at hi) hk)
    have hlt:=aW hk;rw[oK]at hlt;rw[o5 hlt];cases hl:dQ (fun k=>(Array.replicate opsA.size false).getD k false) id 0 drs with
    |some r=>
     obtain⟨_,_,_,_,hx⟩:=ix _ _ hl;simp only[hget]at hx;simp at hx
    |none=>
     simp only[Option.getD_none];rw[iV,ar (aW this)]
  have hcnt:FO (Array.replicate opsA.size false) opsA.size<=opsA.size:=by
   grind[FO]
  cases rest with
  |nil=>
   simp only[uT,lC]at hK
   have hlen:drs.length=opsA.size:=by
    have:=congrArg List.length g1;simp at this;omega
   refine Bd jh.Ue hnd hC P hq hsz (fun i h1 h2=>by omega) (fun _ _ _ _ _ _ _ _ h=>by omega) ?_ opsA.size _ J fps a _ (by simp) hcnt (fun k _=>hget k) I0
   intro fuel listed ρ' fps' a' w' hs hc hall hno I;obtain⟨hrep,hgood⟩:=I.rep P hall hno;refine ym ?_ ⟨.norm,_,ρ',fps',trivial,hK,⟨hrep.1.clean,hrep.2.1,hrep.2.2.1,hrep.2.2.2⟩,hgood⟩ fuel;cases hrd:Region.ready .any opsA listed with
   |nil=>rfl
   |cons i l=>
    obtain⟨h1,o,h2,_⟩:=mem_ready.1 (show i∈Region.ready .any opsA listed by rw[hrd];simp)
    have hisz:i<opsA.size:=(Array.getElem?_eq_some_iff.1 h2).1;have:=hall i (by omega)
    have hlt:i<listed.size:=by omega
    simp only[Array.getD_eq_getD_getElem?,Array.getElem?_eq_getElem hlt,Option.getD_some]at this h1;rw[this]at h1;simp at h1
  |cons o rest=>
   simp only[uT]at hK;split at hK
   ·rename_i htl0
    have hlen:opsA.size=drs.length+(rest.length+1):=by
     have:=congrArg List.length g1;simp at this;omega
    ·have htl:=rq htl0
     have hbit:∀i,i<opsA.size->drs.length<=i->∀k,(bh ds i).testBit k=true↔k<i:=fun i h1 h2 k=>by
      have:=htl (i-drs.length) (by simp;omega)
      rw[show drs.length+(i-drs.length)=i by omega]at this
      rw[this];simp[pW,Nat.testBit_two_pow_sub_one]
     refine Bd jh.Ue hnd hC P hq hsz (fun i h1 h2 k hk=>(hbit i h1 (by omega) k).2 (by omega)) (fun _ listed _ _ _ _ _ _ hsl _ hex hanc _=>?_) ?_ opsA.size _ J fps a _ (by simp) hcnt (fun k _=>hget k) I0
     ·grind
     intro fuel listed ρ' fps' a' w' hs hc hall hno I;obtain⟨hrep,hgood⟩:=I.rep P hall hno;exact vd hC hH hY hnd P.atW drs.length (fun i h1 h2=>hbit i h1 (by omega)) (o::rest) drs.length listed fuel _ ρ' fps' a' w' g1.symm (Nat.le_refl _) hs hc hall hno hK hrep hgood
   ·exact hK.elim
theorem E1{ops:List Oper}{hid:List (Nat×Nat)}{done:List Dr}{i:Nat}{o:Oper}{d:Dr}(h:kN C ops ds sl res false hid done i o=some d):d.up=none:=by
 grind[kN,uf,vL]
theorem Aa{u:Nat×aQ}:∀(l:List Dr) (j s:Nat) (d:Dr),l[s]? =some d->d.up=some u->(j+s,u.1)∈tR j l
 | [],j,s,d,h,_=>by simp at h
 |x::l,j,0,d,h,hu=>by
  simp_all[tR]
 |x::l,j,s+1,d,h,hu=>by
  have:=Aa l (j+1) s d (by simpa using h) hu
  rw[show j+1+s=j+(s+1) by omega]at this
  simp only[tR];split
  ·exact this
  ·exact List.mem_cons_of_mem _ this
theorem Da:∀{l m:List (Nat×Nat)},Bj l m=true->l=m
 | [],[],_=>rfl
 | [],_::_,h=>by simp[Bj]at h
 |_::_,[],h=>by simp[Bj]at h
 | (a,b)::l,(c,d)::m,h=>by
   simp only[Bj,af,ai]at h;obtain⟨⟨rfl,rfl⟩,h3⟩:=h;rw[Da h3]
theorem E6[Fen]{H:Handler}{Y:ej}{U:St}{K:Out->St->Prop}{id:Nat}{ro:Option Nat}(hC:C.Sound)(hH:H.OK C.P)(hY:Fb C.P Y J U.res)(hnd:ro≠none->∀o∈opsA.toList,fe o){alt:Prop}(h:NI C H Y opsA.toList U K alt)(hr:kS J fps U w0 F0 a w)(halt:alt->wpAnyIn (FF C.P ro) 0 C.P .any opsA (jh J U.res w0 F0 K) opsA.size (Array.replicate opsA.size false) a {w with drawn:=w.drawn+1}):
  (Code.region id opsA true).wpIn (FF C.P ro) 0 C.P (jh J U.res w0 F0 K) a w:=by
 refine wpIn_region_any hC.mixed ?_;unfold NI KM at h;generalize Ru opsA.toList []=ds at h
 split at h
 ·rename_i hok;simp only[af]at hok;rw[lC,uR]at h;generalize hpg:mQ C opsA.toList ds (clean U.slots) U.res false [] 0 opsA.toList []=pr at h
  obtain⟨drs,rest⟩:=pr;simp only at h;split at h
  ·refine uj hC hH hY hnd hok hpg (fun s d u hd hu=>?_) h hr
   obtain⟨_,_,g3⟩:=qy _ 0 [] drs rest hpg rfl rfl (by simp)
   obtain⟨o,_,hp⟩:=g3 s d hd;rw[E1 hp]at hu;simp at hu
  ·rw[uR,uR]at h;generalize hpg2:mQ C opsA.toList ds (clean U.slots) U.res true (tR 0 (mQ C opsA.toList ds (clean U.slots) U.res true [] 0 opsA.toList []).1) 0 opsA.toList []=pr at h
   obtain⟨drs2,rest2⟩:=pr;simp only at h;split at h
   ·rename_i hui;rw[af]at hui;refine uj hC hH hY hnd hok hpg2 (fun s d u hd hu=>?_) h hr
    rw[<-Da hui.1];have:=Aa drs2 0 s d hd hu;rwa [Nat.zero_add]at this
   ·exact halt h
 ·exact h.elim
end
theorem aQ.vR{K:Nat->Prop}{J:Env}{i:Nat}{w0 w:World}{F0 F1:Nat->Prop}(hs:w0.heap.size<=w.heap.size)(hf:∀b,b<w0.heap.size->¬F0 b->w.heap[b]? =w0.heap[b]? /\¬F1 b):
  ∀(r:aQ) (fp:Nat->Prop),r.holds K J i fp w0 F0 w->r.holds K J i fp w F1 w
 | .yet,_,h| .gone,_,h| .blk _ _,_,h| .obs _ _ _,_,h| .gen _,_,h| .store _ _ _,_,h| .lop _ _ _,_,h| .dfr,_,h| .mp _ _ _,_,h| .mq _ _,_,h| .ms _ _,_,h| .mi _ _ _,_,h| .que _ _ _,_,h| .cset _ _ _ _ _ _,_,h=>h
 | .arr own esz l,fp,h=>by
   obtain⟨h1,h2,h3,h4,h5,h6,h7⟩:=h;refine⟨h1,h2,h3,h4,h5,h6,?_⟩;rcases h7 with⟨g1,g2,g3⟩|h7
   ·refine .inl ⟨g1,fun hl=>⟨(hf _ (g2 hl).2 (g2 hl).1).2,Nat.lt_of_lt_of_le (g2 hl).2 hs⟩,fun j hj k hk=>?_⟩
    rw[<-g3 j hj k hk];have:=g2 (by omega)
    exact World.cell?_of_block (w:=w0) (hf _ this.2 this.1).1
   ·exact .inr h7
 | .ro r,fp,h=>by
   obtain⟨fp',h1,h2⟩:=h;exact⟨fp',aQ.vR hs hf r fp' (aQ.fz _ h1 fun b hb=>(hf b (h2 b hb).1 (h2 b hb).2).1),fun b hb=>⟨Nat.lt_of_lt_of_le (h2 b hb).1 hs,(hf b (h2 b hb).1 (h2 b hb).2).2⟩⟩
def jo:aQ->Bool
 | .arr own _ _=>own.isSome
 | .ro _=>false
 |_=>true
theorem ll{K:Nat->Prop}{J:Env}{i:Nat}{fp:Nat->Prop}{w0 w1 w:World}{F0 F1:Nat->Prop}{r:aQ}(h:jo r=true)(hr:r.holds K J i fp w1 F1 w):r.holds K J i fp w0 F0 w:=by
 cases r with
 |ro r=>simp[jo]at h
 |arr own e l=>
  obtain⟨h1,h2,h3,h4,h5,h6,h7⟩:=hr;refine⟨h1,h2,h3,h4,h5,h6,?_⟩;rcases h7 with⟨g1,_⟩|h7
  ·subst g1;simp[jo]at h
  ·exact .inr h7
 |_=>exact hr
theorem bn.below{J:Env}{fps:Nat->Nat->Prop}{res:List aQ}{K:Nat->Prop}{w0 w w':World}{F0:Nat->Prop}(h:bn J fps res K w0 F0 w)(hb:Below w.heap.size w w'):bn J fps res K w0 F0 w':=
 ⟨h.sub,Nat.le_trans h.old hb.size,hb.os.trans h.os,hb.tape.trans h.tape,hb.output.trans h.output,fun i hi=>aQ.fz _ (h.holds i hi) fun b hbb=>hb.block b (h.lt i b hi hbb),
  fun i b hi hbb=>Nat.lt_of_lt_of_le (h.lt i b hi hbb) hb.size,h.disj,h.inF,fun b h1 h2=>(hb.block b (Nat.lt_of_lt_of_le h1 h.old)).trans (h.same b h1 h2)⟩
def Eo(B:List Nat):Nat->List aQ->List aQ
 |_,[]=> []
 |j,r::l=>(if B.contains j then .ro r else r)::Eo B (j+1) l
def mL(B:List Nat):Nat->List aQ->List aQ->Option (List aQ)
 |_,[],[]=>some []
 |j,[],r::rs=>if jo r then match mL B (j+1) [] rs with|some l=>some (r::l)|none=>none else none
 |_,_::_,[]=>none
 |j,o::os,r::rs=>if B.contains j|| !jo o then match mL B (j+1) os rs with|some l=>some (o::l)|none=>none
  else if jo r then match mL B (j+1) os rs with|some l=>some (r::l)|none=>none else none
def nF(B:List Nat):Nat->List aQ->List aQ
 |_,[]=> []
 |j,r::l=>(if B.contains j|| !jo r then r else .yet)::nF B (j+1) l
theorem CC(B:List Nat):∀(l:List aQ) (j i:Nat),i<l.length->aN (Eo B j l) i=if B.contains (j+i)then .ro (aN l i)else aN l i
 | [],j,i,h=>by simp at h
 |r::l,j,0,h=>by simp[Eo,aN]
 |r::l,j,i+1,h=>by
  simp only[Eo,aN];rw[CC B l (j+1) i (by simpa using h),show j+1+i=j+(i+1) by omega]
theorem yQ(B:List Nat):∀(l:List aQ) (j:Nat),(Eo B j l).length=l.length
 | [],j=>rfl
 |r::l,j=>by simp[Eo,yQ B l]
theorem Ap(B:List Nat):∀(l:List aQ) (j i:Nat),aN (nF B j l) i=if(B.contains (j+i)|| !jo (aN l i))=true then aN l i else .yet
 | [],j,i=>by simp[nF,aN]
 |r::l,j,0=>by simp[nF,aN]
 |r::l,j,i+1=>by
  simp only[nF,aN];rw[Ap B l (j+1) i,show j+1+i=j+(i+1) by omega]
  rfl
def sk(B:List Nat)(res:List aQ)(i:Nat):Prop:=i<res.length/\(B.contains i=true\/jo (aN res i)=false)
theorem o8(B:List Nat):∀(os rs l:List aQ) (j:Nat),mL B j os rs=some l->∀i,((i<os.length/\(B.contains (j+i)=true\/jo (aN os i)=false))->aN l i=aN os i)/\
  (¬(i<os.length/\(B.contains (j+i)=true\/jo (aN os i)=false))->aN l i=aN rs i/\jo (aN rs i)=true)
 | [],[],l,j,h,i=>by
   simp only[mL,aa]at h;subst h;exact⟨fun h=>absurd h.1 (by simp),fun _=>⟨rfl,rfl⟩⟩
 | [],r::rs,l,j,h,i=>by
   simp only[mL]at h;split at h
   ·rename_i ho;split at h
    ·rename_i l' hl;simp only[aa]at h;subst h;refine⟨fun h=>absurd h.1 (by simp),fun _=>?_⟩
     cases i with
     |zero=>exact⟨rfl,ho⟩
     |succ i=>exact(o8 B [] rs l' (j+1) hl i).2 (by simp)
    ·simp at h
   ·simp at h
 |_::_,[],l,j,h,i=>by simp[mL]at h
 |o::os,r::rs,l,j,h,i=>by
  simp only[mL]at h;split at h
  ·rename_i hp;split at h
   ·rename_i l' hl;simp only[aa]at h;subst h;cases i with
    |zero=>
     refine⟨fun _=>rfl,fun hn=>absurd ⟨by simp,?_⟩ hn⟩
     simpa[aN]using hp
    |succ i=>
     have:=o8 B os rs l' (j+1) hl i;rw[show j+1+i=j+(i+1) by omega]at this
     simpa[aN]using this
   ·simp at h
  ·rename_i hp;split at h
   ·rename_i ho;split at h
    ·rename_i l' hl;simp only[aa]at h;subst h;cases i with
     |zero=>
      refine⟨fun hn=>absurd hn.2 ?_,fun _=>⟨rfl,ho⟩⟩
      simp only[Bool.or_eq_true,Bool.not_eq_true']at hp;simpa[aN]using hp
     |succ i=>
      have:=o8 B os rs l' (j+1) hl i;rw[show j+1+i=j+(i+1) by omega]at this
      simpa[aN]using this
    ·simp at h
   ·simp at h
section
variable {J:Env} {fps:Nat->Nat->Prop} {res:List aQ} {B:List Nat} {w0 w:World} {F0:Nat->Prop}
def Fa(B:List Nat)(res:List aQ)(i:Nat):Prop:=B.contains i=false/\jo (aN res i)=true
def F1(B:List Nat)(res:List aQ)(fps:Nat->Nat->Prop)(b:Nat):Prop:=∃i,known res i/\Fa B res i/\fps i b
theorem u7(hB:∀i,B.contains i=true->∃ty c,aN res i= .blk ty c)(i:Nat):known (Eo B 0 res) i↔known res i:=by
 grind[known,CC,aN,aW,Eo,yQ]
theorem bn.aaj(h:bn J fps res (known res) w0 F0 w)(hB:∀i,B.contains i=true->∃ty c,aN res i= .blk ty c):
  bn J (fun i b=>Fa B res i/\fps i b) (Eo B 0 res) (known (Eo B 0 res)) w (F1 B res fps) w:=by
 have hkn:=u7 hB;have hF:∀i b,known res i->¬Fa B res i->fps i b->¬F1 B res fps b:=fun i b hi hn hb ⟨k,k1,k2,k3⟩=>h.disj i k b hi k1 (fun e=>hn (e▸k2)) hb k3
 have hf:∀b,b<w0.heap.size->¬F0 b->w.heap[b]? =w0.heap[b]? /\¬F1 B res fps b:=fun b h1 h2=>⟨h.same b h1 h2,fun⟨k,k1,_,k3⟩=>h2 (h.inF k b k1 k3 h1)⟩
 refine⟨fun i hi=>hi,Nat.le_refl _,rfl,rfl,rfl,fun i hi=>?_,fun i b hi hb=>h.lt i b ((hkn i).1 hi) hb.2,fun i j b hi hj hne h1 h2=>h.disj i j b ((hkn i).1 hi) ((hkn j).1 hj) hne h1.2 h2.2,
  fun i b hi hb _=>⟨i,(hkn i).1 hi,hb.1,hb.2⟩,fun _ _ _=>rfl⟩
 have hi':=(hkn i).1 hi;have hh:=h.holds i hi';have hK:∀j,known res j->known (Eo B 0 res) j:=fun j hj=>(hkn j).2 hj
 rw[CC B res 0 i (aW hi'),Nat.zero_add];split
 ·rename_i hb;obtain⟨ty,c,hr⟩:=hB i hb;rw[hr]at hh⊢;refine⟨fun b=>b=J.num i,⟨cZ hK _ hh.1,hh.2.1,rfl,hh.2.2.2⟩,fun b e=>?_⟩
  subst e;exact⟨h.lt i _ hi' hh.2.2.1,hF i _ hi' (fun e=>by rw[e.1]at hb;simp at hb) hh.2.2.1⟩
 ·rename_i hb;by_cases ho:jo (aN res i)=true
  ·have e:(fun b=>Fa B res i/\fps i b)=fps i:=by
    funext b
    simp only[eq_iff_iff];exact⟨fun h=>h.2,fun h=>⟨⟨by simpa using hb,ho⟩,h⟩⟩
   rw[e];exact aQ.nH _ (ll ho hh) hK
  ·have hno:¬Fa B res i:=fun e=>ho e.2
   have hreb:=aQ.nH _ (aQ.vR (F1:=F1 B res fps) h.old hf _ _ hh) hK;cases hr:aN res i with
   |ro r=>rw[hr]at hreb;exact hreb
   |arr own esz l=>
    rw[hr]at hreb hh
    have hown:own=none:=by
     simp_all[jo]
    obtain⟨h1,h2,h3,h4,h5,h6,h7⟩:=hreb;refine⟨h1,h2,h3,h4,h5,h6,.inl ⟨hown,fun hl=>?_,fun j hj k hk=>?_⟩⟩
    ·rcases h7 with⟨_,g2,_⟩|⟨e,e1,e2,e3⟩
     ·exact g2 hl
     ·obtain⟨a,ha⟩:=Option.isSome_iff_exists.1 (h5 hl);have hb:=e3 a ha;have:=h4 a ha;subst this;exact⟨hF i _ hi' hno hb,h.lt i _ hi' hb⟩
    ·exact(lq h (own:=own) (esz:=esz) (l:=l) (id:=i) (by unfold cP;rw[hr]) hj).2.2.2 k hk
   |yet=>exact absurd hr hi'
   |_=>rw[hr]at ho;simp[jo]at ho
theorem bn.Zp{ρ':Env}{fps':Nat->Nat->Prop}{res' r:List aQ}{w':World}(h:bn J fps res (known res) w0 F0 w)(hB:∀i,B.contains i=true->∃ty c,aN res i= .blk ty c)
  (h2:bn ρ' fps' res' (known res') w (F1 B res fps) w') (hg:Good J (Eo B 0 res) ρ' res') (hb:mL B 0 res res'=some r):
  ∃fps'',bn ρ' fps'' r (known r) w0 F0 w'/\Good J res ρ' r/\(∀i,known res' i->known r i)/\
   (∀g,g<w.heap.size->(∀i,known res i->¬fps i g)->w'.heap[g]? =w.heap[g]? /\∀i,known r i->¬fps'' i g)/\(∀i,sk B res i->aN r i=aN res i):=by
 have hkn:=u7 hB;have hF:∀i b,known res i->¬Fa B res i->fps i b->¬F1 B res fps b:=fun i b hi hn hb ⟨k,k1,k2,k3⟩=>h.disj i k b hi k1 (fun e=>hn (e▸k2)) hb k3
 have hsp:∀i,(sk B res i->aN r i=aN res i)/\(¬sk B res i->aN r i=aN res' i/\jo (aN res' i)=true):=fun i=>by
  have:=o8 B res res' r 0 hb i;rwa [Nat.zero_add]at this
 have hpk:∀i,sk B res i->known res i:=fun i hp=>by
  rcases hp.2 with hc|hc
  ·obtain⟨ty,c,e⟩:=hB i hc;unfold known;simp[e]
  ·intro e;rw[e]at hc;simp[jo]at hc
 have hpo:∀i,sk B res i->¬Fa B res i:=fun i hp ho=>by
  rcases hp.2 with hc|hc
  ·rw[ho.1]at hc;simp at hc
  ·rw[ho.2]at hc;simp at hc
 have k1:∀i,known res' i->known r i:=fun i hi=>by
  grind[sk,known]
 have k2:∀i,known r i->(sk B res i/\known res i)\/(¬sk B res i/\known res' i):=fun i hi=>by
  grind[sk,known]
 have k3:∀i,known res i->known r i:=fun i hi=>k1 i (hg.2 i ((hkn i).2 hi))
 have hag:Env.agree (known res) J ρ':=hg.1.mono fun i hi=>(hkn i).2 hi
 have hin:∀j b,known res' j->fps' j b->b<w.heap.size->F1 B res fps b:=h2.inF;classical
 refine⟨fun i b=>if sk B res i then fps i b else fps' i b,⟨fun i hi=>hi,Nat.le_trans h.old h2.old,h2.os.trans h.os,h2.tape.trans h.tape,h2.output.trans h.output,fun i hi=>?_,fun i b hi hbb=>?_,fun i j b hi hj hne h3 h4=>?_,fun i b hi hbb hlt=>?_,fun b hlt hn=>?_⟩,
  ⟨hag,k3⟩,k1,fun g hlt hn=>?_,fun i hp=>(hsp i).1 hp⟩
 ·rcases k2 i hi with⟨hp,hk⟩|⟨hp,hk⟩
  ·simp only[ar hp];rw[(hsp i).1 hp];exact aQ.r8 _ (aQ.fz _ (h.holds i hk) fun b hbb=>h2.same b (h.lt i b hk hbb) (hF i b hk (hpo i hp) hbb)) k3 hag hk
  ·simp only[aq hp];rw[((hsp i).2 hp).1];exact aQ.nH _ (ll ((hsp i).2 hp).2 (h2.holds i hk)) k1
 ·rcases k2 i hi with⟨hp,hk⟩|⟨hp,hk⟩
  ·simp only[ar hp]at hbb;exact Nat.lt_of_lt_of_le (h.lt i b hk hbb) h2.old
  ·simp only[aq hp]at hbb;exact h2.lt i b hk hbb
 ·have mix:∀i j,sk B res i->known res i->known res' j->fps i b->¬fps' j b:=fun i j hp hk hk' h3 h4=>
   hF i b hk (hpo i hp) h3 (hin j b hk' h4 (h.lt i b hk h3))
  rcases k2 i hi with⟨hp,hk⟩|⟨hp,hk⟩<;>rcases k2 j hj with⟨hp',hk'⟩|⟨hp',hk'⟩
  ·simp only[ar hp]at h3;simp only[ar hp']at h4;exact h.disj i j b hk hk' hne h3 h4
  ·grind
  ·grind
  ·simp only[aq hp]at h3;simp only[aq hp']at h4;exact h2.disj i j b hk hk' hne h3 h4
 ·rcases k2 i hi with⟨hp,hk⟩|⟨hp,hk⟩
  ·simp only[ar hp]at hbb;exact h.inF i b hk hbb hlt
  ·simp only[aq hp]at hbb;obtain⟨k,e1,_,e3⟩:=hin i b hk hbb (Nat.lt_of_lt_of_le hlt h.old);exact h.inF k b e1 e3 hlt
 ·exact(h2.same b (Nat.lt_of_lt_of_le hlt h.old) fun⟨k,e1,_,e3⟩=>hn (h.inF k b e1 e3 hlt)).trans (h.same b hlt hn)
 ·have hnF:¬F1 B res fps g:=fun⟨k,e1,_,e3⟩=>hn k e1 e3
  refine⟨h2.same g hlt hnF,fun i hi hbb=>?_⟩
  rcases k2 i hi with⟨hp,hk⟩|⟨hp,hk⟩
  ·simp only[ar hp]at hbb;exact hn i hk hbb
  ·simp only[aq hp]at hbb;exact hnF (hin i g hk hbb hlt)
end
def cO(t:Nat)(i:Operand):Bool:=
 match i with
 | .const _=>t==22
 |_=>false
def kZ(o:Oper):Bool:=
 match o.guard with
 |some _=>false
 |none=>match o.dst with
  |none=>false
  |some _=>match o.op with
   | .move _=>true
   | .assign _=>true
   | .extract _ _=>true
   | .load _ _=>true
   | .fieldAddr _ _ _=>true
   | .field _ _ _=>true
   | .indexAddr t _ i=> !(cO t i)
   | .index _ _ _=>true
   | .binOp _ _ _ _ _=>true
   | .unOp _ _ _=>true
   | .nilCheck _=>true
   | .build _ _=>true
   | .makeFunc _ _ _=>true
   |_=>false
def nq(m:Nat)(o:Oper):Bool:=
 match o.guard with
 |some _=>false
 |none=>match o.dst with
  |none=>false
  |some _=>match o.op with
   | .alloc _=>m==0
   |_=>false
def kX(o:Oper):Bool:=
 match o.guard with
 |some _=>false
 |none=>match o.op with
  | .call _=>true
  | .store _ _ _=>true
  | .makeMap _ _=>true
  | .insert _ _ _ _=>true
  | .lookup _ _ _ _=>true
  | .mapEntry _ _ _=>true
  | .entryStore _ _ _ _=>true
  | .buildSlice _ _ _=>true
  | .indexAddr t _ i=>cO t i
  |_=>false
def Df(m s:Nat):Nat->List (Option Nat×Nat)->Bool
 |_,[]=>true
 |k,d::l=>(match d.1 with|some t=> !(t==s)||Nat.testBit m k|none=>true)&&Df m s (k+1) l
def Yl(ds:List (Option Nat×Nat))(m:Nat):Operand->Bool
 | .tmp s=>Df m s 0 ds
 |_=>true
def IF(ds:List (Option Nat×Nat))(m:Nat):Nat->Nat
 |0=>0
 |n+1=>IF ds m n ||| (if Nat.testBit m n then bh ds n else 0)
theorem Et{ds:List (Option Nat×Nat)}{m k:Nat}:∀{n:Nat},(IF ds m n).testBit k=true->∃j,m.testBit j=true/\(bh ds j).testBit k=true
 |0,h=>by simp[IF]at h
 |n+1,h=>by
  simp only[IF,Nat.testBit_or,Bool.or_eq_true]at h;rcases h with h|h
  ·exact Et h
  ·split at h
   ·rename_i hb;exact⟨n,hb,h⟩
   ·simp at h
def Ee(ds dd:List (Option Nat×Nat))(tm am:Nat):Nat->List Oper->Bool
 |_,[]=>true
 |i,o::l=>(if kZ o then(bh ds i &&& am &&& IF ds (bh ds i) i)==(bh ds i &&& am)else nq (bh ds i) o||kX o)&&o.op.operands.toList.all (Yl dd (bh ds i))&&Ee ds dd tm am (i+1) l
def Cj:List (Option Nat×Nat)->List S->(List S->Prop)->Prop
 | [],sl,k=>k sl
 |p::l,sl,k=>match p.1 with
  |some t=>D8 sl t .und fun sl=>Cj l sl k
  |none=>Cj l sl k
def pK:List (Option Nat×Nat)->List S->List S
 | [],sl=>sl
 |p::l,sl=>match p.1 with
  |some t=>pK l (sset sl t .und)
  |none=>pK l sl
theorem wS:∀(l:List (Option Nat×Nat)) (sl:List S) (k:List S->Prop),Cj l sl k=k (pK l sl)
 | [],_,_=>rfl
 | (some t,_)::l,sl,k=>by simp only[Cj,pK,yf];exact wS l _ k
 | (none,_)::l,sl,k=>by simp only[Cj,pK];exact wS l _ k
def FK(p:Nat->Oper->Bool):Nat->List Oper->Nat
 |_,[]=>0
 |i,o::l=>(if p i o then 2^i else 0) ||| FK p (i+1) l
def oH(ds:List (Option Nat×Nat)):Nat->List Oper->Nat
 |i,[]=>i
 |i,o::l=>if th ds i (o::l)then i else oH ds (i+1) l
def yE(ds:List (Option Nat×Nat)):Nat->List Oper->List (Option Nat×Nat)->Bool
 |i,o::l,d::m=>(match o.dst,d.1 with|none,none=>true|some a,some b=>a==b|_,_=>false)&&(jB ds o.after.toList ||| d.2)==jB ds o.after.toList&&Nat.ble (jB ds o.after.toList+1) (2^i)
  &&(List.range i).all (fun j=> !(Nat.testBit d.2 j)||((bh ds j ||| d.2)==d.2))&&yE ds (i+1) l m
 |_,[],[]=>true
 |_,_,_=>false
def Y3(m:Nat):Nat->List Oper->List (Option Nat×Nat)->Nat
 |i,o::os,p::l=>(if Nat.testBit m i&& !kZ o then p.2 else 0) ||| Y3 m (i+1) os l
 |_,_,_=>0
def Zq(u:Nat->Nat)(am:Nat):Nat->List Oper->List (Option Nat×Nat)->List (Option Nat×Nat)
 |0,_,l=>l
 |n+1,o::os,p::l=>(if kZ o then(p.1,p.2 ^^^ ((p.2 &&& am) ^^^ (p.2 &&& am &&& u p.2)))else p)::Zq u am n os l
 |_,_,l=>l
def YB(ops:List Oper):List (Option Nat×Nat):=
 let ds:=Ru ops []
 let d:=oH ds 0 ops
 Zq (fun m=>Y3 m 0 ops ds) (FK (fun i o=>nq (bh ds i) o) 0 (ops.take d)) d ops ds
def xX(C:Ctx)(ds:List (Option Nat×Nat))(a1:Nat)(rsB rs0:List aQ)(ph0:Bool):List (Nat×Oper)->Nat->List S->(Nat->List S->Prop)->Prop
 | [],m,sl,k=>k m sl
 |p::l,m,sl,k=>if kZ p.2&& !(Nat.testBit m p.1)&&(bh ds p.1 ||| m)==m then
   (if Nat.testBit a1 p.1&& !ph0 then False else
    match BF C sl (if Nat.testBit a1 p.1 then rs0 else rsB) 0 [] p.2.op with
    |some (q,x,new)=>if new.isEmpty then mN sl p.2.dst (.v x) fun sl=>zb q (xX C ds a1 rsB rs0 ph0 l (m ||| 2^p.1) sl k)else False
    |none=>False)
  else xX C ds a1 rsB rs0 ph0 l m sl k
def zW(C:Ctx)(ds:List (Option Nat×Nat))(sel:Nat):List (Nat×Oper)->Nat->St->(Nat->St->Prop)->Prop
 | [],m,U,k=>k m U
 |p::l,m,U,k=>if nq (bh ds p.1) p.2&&Nat.testBit sel p.1&& !(Nat.testBit m p.1)then
   match p.2.op with
   | .alloc t=>match C.Z t with
     |some z=>mN U.slots p.2.dst (.v (.lp U.res.length 0)) fun sl=>zW C ds sel l (m ||| 2^p.1) {U with slots:=sl,res:=od U.res [.blk t z]} k
     |none=>False
   |_=>False
  else zW C ds sel l m U k
def X1(ds:List (Option Nat×Nat))(m:Nat)(sl:List S):List (Nat×Oper)->Bool
 | []=>true
 |p::l=>(if nq (bh ds p.1) p.2&& !(Nat.testBit m p.1)then(match p.2.dst with
   |some t=>(match b9 sl t with| .und=>true|_=>false)
   |none=>true)else true)&&X1 ds m sl l
def alZ(C:Ctx)(o:Oper):Bool:=
 match o.op with
 | .alloc t=>(match C.Z t with|some _=>true|none=>false)
 |_=>true
def qY{α:Type}:List α->List (α×List α)
 | []=> []
 |x::l=>(x,l)::(qY l).map fun q=>(q.1,x::q.2)
def aam(ds:List (Option Nat×Nat))(l:List (Nat×Oper)):List ((Nat×Oper)×List (Nat×Oper)):=
 (qY l).filter fun q=>l.all fun y=> !(Nat.testBit (bh ds q.1.1) y.1)
def PZ{α:Type}(f:α->Prop):α->List α->Prop
 |x,[]=>f x
 |x,y::l=>f x/\PZ f y l
def UU{α:Type}(f:α->Prop):List α->Prop
 | []=>False
 |x::l=>PZ f x l
theorem AL{α:Type}{f:α->Prop}:∀{x:α} {l:List α},PZ f x l->∀y∈x::l,f y
 |x,[],h,y,hy=>by simp at hy;subst hy;exact h
 |x,z::l,h,y,hy=>by
  rcases List.mem_cons.1 hy with rfl|hy
  ·exact h.1
  ·exact AL h.2 y hy
theorem Jy{α:Type}{f:α->Prop}{l:List α}(h:UU f l):∀y∈l,f y:=by
 cases l with
 |nil=>exact h.elim
 |cons x l=>exact AL h
theorem vh{α:Type}:∀{l:List α} {p:α×List α},p∈qY l->p.1∈l/\p.2.Sublist l/\p.2.length+1=l.length/\∀x∈l,x=p.1\/x∈p.2
 | [],p,h=>by simp[qY]at h
 |y::l,p,h=>by
  simp only[qY,List.mem_cons,List.mem_map]at h;rcases h with rfl|⟨q,hq,rfl⟩
  ·simp_all
  ·obtain⟨h1,h2,h3,h4⟩:=vh hq;refine⟨by simp[h1],h2.cons_cons y,by simp only[List.length_cons];omega,fun x hx=>?_⟩
   rcases List.mem_cons.1 hx with rfl|hx
   ·exact .inr (by simp)
   ·grind
theorem Ex{α:Type}:∀{l:List α} {x:α},x∈l->∃r,(x,r)∈qY l
 | [],x,h=>by simp at h
 |y::l,x,h=>by
  rcases List.mem_cons.1 h with rfl|h
  ·exact⟨l,by simp[qY]⟩
  ·obtain⟨r,hr⟩:=Ex h;exact⟨y::r,by simp only[qY,List.mem_cons,List.mem_map];exact .inr ⟨_,hr,rfl⟩⟩
theorem DC{α:Type}{R:α->α->Prop}(hR:∀x,¬R x x):∀{l:List α} {p:α×List α},l.Pairwise R->p∈qY l->p.1∉p.2
 | [],p,_,h=>by simp[qY]at h
 |y::l,p,hl,h=>by
  obtain⟨h1,h2⟩:=List.pairwise_cons.1 hl;simp only[qY,List.mem_cons,List.mem_map]at h;rcases h with rfl|⟨q,hq,rfl⟩
  ·exact fun h=>hR _ (h1 _ h)
  ·intro h;rcases List.mem_cons.1 h with h|h
   ·have h:q.1=y:=h;have:=h1 q.1 (vh hq).1;rw[h]at this;exact hR _ this
   ·exact DC hR h2 hq h
def EA(C:Ctx)(H:Handler)(Y:ej)(ops:List Oper)(ds:List (Option Nat×Nat))(d a1:Nat)(B:List Nat)(rsB rs0:List aQ)(xs:List (Nat×Oper))(K:Out->St->Prop):Nat->List (Nat×Oper)->Nat->St->Prop
 |n,l,m,U=>match l with
  | []=>zW C ds (pW d) xs m U fun m U=>if m==pW d then Ep C H Y ops (ops.drop d) U K else False
  |_::_=>match n with
   |0=>False
   |n+1=>UU (fun q:(Nat×Oper)×List (Nat×Oper)=>zW C ds (bh ds q.1.1) xs m U fun m U=>if(bh ds q.1.1 ||| m)==m then
     AK C H noY ops q.1.2 {U with res:=Eo B 0 U.res}
      (fun σ'=>match mL B 0 U.res σ'.res with
       |some r=>if X1 ds (m ||| 2^q.1.1) σ'.slots xs then xX C ds a1 rsB rs0 false xs (m ||| 2^q.1.1) σ'.slots fun m sl=>EA C H Y ops ds d a1 B rsB rs0 xs K n q.2 m {σ' with slots:=sl,res:=r}else False
       |none=>False)
      (fun v σ'=>match mL B 0 U.res σ'.res with
       |some r=>lY σ'.slots fun sl=>Cj (ds.take d) sl fun sl=>K (.pan v) {σ' with slots:=sl,res:=r}
       |none=>False)
     else False) (aam ds l)
def LS(C:Ctx)(ds:List (Option Nat×Nat))(a1:Nat)(rs0:List aQ):List (Nat×Oper)->Nat->List S->List Nat
 | [],_,_=> []
 |p::l,m,sl=>if kZ p.2&&(bh ds p.1 ||| m)==m then
   match BF C sl rs0 0 [] p.2.op with
   |some (_,x,_)=>(if Nat.testBit a1 p.1 then[]else match p.2.op with
    | .load _ q=>match dY sl [] q with
      |some y=>match y with
       | .lp id _=>match aN rs0 id with
         | .blk _ _=> [id]
         |_=> []
       |_=> []
      |none=> []
    |_=> [])++LS C ds a1 rs0 l (m ||| 2^p.1) (match p.2.dst with|some t=>sset sl t (.v x)|none=>sl)
   |none=>LS C ds a1 rs0 l m sl
  else LS C ds a1 rs0 l m sl
def UF:aQ->Bool
 | .blk _ _=>true
 |_=>false
def GG:List Nat->(List Nat->Prop)->Prop
 | [],k=>k []
 |x::l,k=>GG l fun l'=>k (x::l')
theorem D0:∀(l:List Nat) (k:List Nat->Prop),GG l k=k l
 | [],_=>rfl
 |x::l,k=>by simp only[GG];exact D0 l _
def Iv(ds:List (Option Nat×Nat)):List (Nat×Oper)->Nat
 | []=>0
 |p::l=>match l with
  | []=>bh ds p.1
  |_::_=>bh ds p.1 &&& Iv ds l
theorem yF{ds:List (Option Nat×Nat)}:∀{l:List (Nat×Oper)} {k:Nat},(Iv ds l).testBit k=true->∀p∈l,(bh ds p.1).testBit k=true
 | [],k,h,p,hp=>by simp at hp
 | [q],k,h,p,hp=>by simp at hp;subst hp;exact h
 |q::r::l,k,h,p,hp=>by
  have h:(bh ds q.1 &&& Iv ds (r::l)).testBit k=true:=h;rw[Nat.testBit_and,af]at h;rcases List.mem_cons.1 hp with rfl|hp
  ·exact h.1
  ·exact yF h.2 p hp
def Wg(C:Ctx)(H:Handler)(Y:ej)(ops:List Oper)(ds:List (Option Nat×Nat))(U:St)(K:Out->St->Prop):Prop:=
 let d:=oH ds 0 ops
 let xs:=mg 0 (ops.take d)
 let ts:=xs.filter fun p=>kX p.2
 let a1:=Iv ds ts
 if yE ds 0 ops ds&&sr ds&&Ee ds (ds.take d) (FK (fun _ o=>kX o) 0 (ops.take d)) (FK (fun i o=>nq (bh ds i) o) 0 (ops.take d)) 0 (ops.take d)&&(ops.take d).all (alZ C)then
  lY U.slots fun sl=>Cj (ds.take d) sl fun sl=>GG (LS C ds a1 U.res xs 0 sl) fun B=>if B.all (fun i=>UF (aN U.res i))then
   xX C ds a1 (nF B 0 U.res) U.res true xs 0 sl fun m sl=>EA C H Y ops ds d a1 B (nF B 0 U.res) U.res xs K ts.length ts m {U with slots:=sl}
  else False
 else False
def tV(N:Nat->Prop)(a b:Act):Prop:=a.defers=b.defers/\a.tmps.size=b.tmps.size/\∀t,¬N t->a.tmps.getD t undef=b.tmps.getD t undef
theorem Dy(a:Act)(d:Option Nat)(v:Value)(t:Nat):(a.put d v).tmps.getD t undef=if d=some t/\t<a.tmps.size then v else a.tmps.getD t undef:=by
 cases d with
 |none=>simp[Act.put]
 |some e=>
  simp only[Act.put,Array.getD_eq_getD_getElem?,aa];by_cases h:e=t
  ·simp_all
  ·simp[h,Array.getElem?_setIfInBounds_ne h]
theorem qx(a:Act)(d:Option Nat)(v:Value):(a.put d v).tmps.size=a.tmps.size:=by cases d<;>simp[Act.put]
theorem tV.put{N:Nat->Prop}{a b:Act}(h:tV N a b)(d:Option Nat)(v:Value):tV N (a.put d v) (b.put d v):=by
 refine⟨by rw[put_defers,put_defers];exact h.1,by rw[qx,qx];exact h.2.1,fun t ht=>?_⟩
 rw[Dy,Dy,h.2.1,h.2.2 t ht]
theorem tV.eval{N:Nat->Prop}{a b:Act}(h:tV N a b){x:Operand}(hx:∀t,x= .tmp t->¬N t):a.eval x=b.eval x:=by
 cases x with
 |tmp t=>exact h.2.2 t (hx t rfl)
 |_=>rfl
theorem opc[Fen]{P:Program}{ro:Option Nat}{o:Oper}{N:Nat->Prop}{a b:Act}{w:World}{next next':Act->World->Prop}{Q Q':Exit->Act->World->Prop}(ht:kX o=true)(hab:tV N a b)(hN:∀t,Operand.tmp t∈o.op.operands->¬N t)
  (hn:∀a' b' w',tV N a' b'->(∃v,b'.tmps=(b.put o.dst v).tmps)->next b' w'->next' a' w') (hQ:∀c w',Q (.panic c) b w'->Q' (.panic c) a w') (hl:LetsOut Q->LetsOut Q') (h:o.wpIn (FF P ro) 0 P b w next Q):o.wpIn (FF P ro) 0 P a w next' Q':=by
 have hev:∀x∈o.op.operands,a.eval x=b.eval x:=fun x hx=>hab.eval fun t e=>hN t (e▸hx)
 have hnd:∀c,o.op≠ .defer c:=fun c e=>by unfold kX at ht;rw[e]at ht;split at ht<;>simp at ht
 have hns:∀cs b,o.op≠ .select cs b:=fun c b e=>by unfold kX at ht;rw[e]at ht;split at ht<;>simp at ht
 unfold Oper.wpIn at h⊢;rw[Oper.semAt_eq _ _ _ hnd]at h⊢;rw[execOp_congr o hns hev];refine⟨fun f hf=>h.1 f (by rw[<-about_congr o w hev];exact hf),?_⟩
 replace h:=h.2
 generalize (execOp b.eval o).run P w=r at *
 cases r with
 |ok x w'=>
  cases x<;>simp only[Oper.uponIn]at h⊢
  case value u=>exact hn _ _ _ (hab.put _ _) ⟨_,rfl⟩ h
  case skip=>exact hn _ _ _ (hab.put _ _) ⟨_,rfl⟩ h
  case defer d=>exact hn _ _ _ (tV.put (N:=N) (a:= {a with defers:=d::a.defers}) (b:= {b with defers:=d::b.defers}) ⟨by simp only[hab.1],hab.2.1,hab.2.2⟩ _ _) ⟨undef,by cases o.dst<;>rfl⟩ h
  case enter f args=>
   refine⟨h.1,CallsIn.mono h.2 fun e w'' he=>?_⟩
   cases e with
   |returned u=>exact hn _ _ _ (hab.put _ _) ⟨_,rfl⟩ he
   |panicked c=>exact hQ _ _ he
   |outgrown=>exact hl he
  case row row args=>exact⟨h.1,RowsIn.mono h.2 fun u w'' he=>hn _ _ _ (hab.put _ _) ⟨_,rfl⟩ he⟩
  case round l f tmps assign body=>
   refine⟨h.1,RoundIn.mono h.2 fun e w'' he=>?_⟩
   cases e with
   |returned u=>exact hn _ _ _ (hab.put _ _) ⟨_,rfl⟩ he
   |panicked c=>exact hQ _ _ he
   |outgrown=>exact hl he
 |halt x w'=>
  cases x<;>simp only[Oper.uponIn]at h⊢
  case panic u=>exact hQ _ _ h
def X7[Fen](P:Program)(o:Oper)(b:Act)(v:Value)(cond:World->Prop):Prop:=∀a w,(∀x∈o.op.operands,a.eval x=b.eval x)->cond w->Yields P o a w fun v' w'=>v'=v/\Below w.heap.size w w'
theorem BI{o:Oper}(h:kZ o=true):o.guard=none/\(∃t,o.dst=some t)/\(∀c,o.op≠ .call c)/\(∀c,o.op≠ .defer c)/\(∀cs b,o.op≠ .select cs b)/\(∀t,o.op≠ .alloc t)/\∀t p x,o.op≠ .store t p x:=by
 grind[kZ]
theorem rT{m:Nat}{o:Oper}(h:nq m o=true):o.guard=none/\(∃t,o.dst=some t)/\(∃t,o.op= .alloc t)/\m=0:=by
 grind[nq]
theorem xi{o:Oper}(h:kX o=true):o.guard=none/\(∀t,o.op≠ .alloc t)/\kZ o=false:=by
 obtain⟨dst,op,type,pos,after,guard⟩:=o;cases guard with
 |some _=>simp[kX]at h
 |none=>cases op<;>first| (simp[kX]at h;done)|exact⟨rfl,fun t e=>by simp at e,by cases dst<;>simp_all[kZ,kX]⟩
theorem zn{m s:Nat}:∀{l:List (Option Nat×Nat)} {k0:Nat},Df m s k0 l=true->∀k mm,l[k]? =some (some s,mm)->m.testBit (k0+k)=true
 | [],_,_,k,_,h=>by simp at h
 |p::l,k0,h,k,mm,hk=>by
  simp only[Df,af]at h;cases k with
  |zero=>
   simp at hk;subst hk;simpa using h.1
  |succ k=>
   have:=zn h.2 k mm (by simpa using hk)
   rwa [show k0+1+k=k0+(k+1) by omega]at this
theorem DN{p:Nat->Oper->Bool}:∀{l:List Oper} {i j:Nat} {o:Oper},l[j]? =some o->p (i+j) o=true->(FK p i l).testBit (i+j)=true
 | [],i,j,o,h,_=>by simp at h
 |x::l,i,0,o,h,hp=>by
  simp_all[FK]
 |x::l,i,j+1,o,h,hp=>by
  have:=DN (p:=p) (l:=l) (i:=i+1) (j:=j) (by simpa using h) (by rw[show i+1+j=i+(j+1) by omega];exact hp)
  rw[show i+1+j=i+(j+1) by omega]at this
  simp only[FK,Nat.testBit_or,this,Bool.or_true]
theorem yi{ds dd:List (Option Nat×Nat)}{tm am:Nat}:∀{l:List Oper} {i:Nat},Ee ds dd tm am i l=true->∀j o,l[j]? =some o->
  (kZ o=true/\(∀k,(bh ds (i+j)).testBit k=true->am.testBit k=true->∃x,(bh ds (i+j)).testBit x=true/\(bh ds x).testBit k=true)\/kZ o=false/\(nq (bh ds (i+j)) o=true\/kX o=true))/\
  ∀t,Operand.tmp t∈o.op.operands->∀k mm,dd[k]? =some (some t,mm)->(bh ds (i+j)).testBit k=true
 | [],_,_,j,o,h=>by simp at h
 |x::l,i,h,j+1,o,ho=>by
  simp only[Ee,af]at h;have:=yi h.2 j o (by simpa using ho)
  rwa [show i+1+j=i+(j+1) by omega]at this
 |x::l,i,h,0,o,ho=>by
  simp at ho;subst ho;simp only[Ee,af]at h;obtain⟨⟨h1,h2⟩,_⟩:=h;rw[Nat.add_zero];refine⟨?_,fun t ht k mm hk=>?_⟩
  ·cases hf:kZ x with
   |true=>
    rw[hf]at h1;refine .inl ⟨rfl,fun k hk hb=>Et (n:=i) ?_⟩
    have h1:(bh ds i &&& am &&& IF ds (bh ds i) i)=(bh ds i &&& am):=by simpa using h1
    have:=congrArg (fun x=>Nat.testBit x k) h1
    simp only[Nat.testBit_and,hk,hb,Bool.true_and]at this;exact this
   |false=>
    rw[hf]at h1;right
    refine⟨rfl,?_⟩;simpa only[Bool.false_eq_true,if_false,Bool.or_eq_true]using h1
  ·rw[List.all_eq_true]at h2;have:=h2 (.tmp t) (by simpa using ht)
   have:=zn (show Df (bh ds i) t 0 dd=true from this) k mm hk;rwa [Nat.zero_add]at this
theorem sE{ds:List (Option Nat×Nat)}:∀{l:List Oper} {i:Nat},∃j,oH ds i l=i+j/\j<=l.length/\th ds (i+j) (l.drop j)=true
 | [],i=>⟨0,rfl,Nat.le_refl _,rfl⟩
 |x::l,i=>by
  simp only[oH];split
  ·rename_i h;exact⟨0,rfl,by simp,by simpa using h⟩
  ·obtain⟨j,h1,h2,h3⟩:=sE (ds:=ds) (l:=l) (i:=i+1);exact⟨j+1,by rw[h1];omega,by simpa using h2,by rw[show i+(j+1)=i+1+j by omega];simpa using h3⟩
theorem DK{o:Oper}(h:kZ o=true\/∃m,nq m o=true){e:Operand->Value}{P:Program}{w w':World}{f:Nat}{args:Array Value}:(execOp e o).run P w≠ .ok (.enter f args) w':=by
 have key:∀s:Sem Value,(do pure (Next.value (<-s)):Sem Next).run P w≠ .ok (.enter f args) w':=by
  intro s;rw[Sem.run_bind];cases s.run P w<;>simp
 obtain⟨dst,op,type,pos,after,guard⟩:=o;cases op
 case nilCheck y=>
  intro hh;simp only[execOp]at hh;split at hh
  ·simp[runtimePanic]at hh
  ·simp[runtimePanic]at hh
  ·simp[runtimePanic]at hh
  ·split at hh
   ·simp[runtimePanic]at hh
   ·rename_i t x _;rw[Sem.run_bind]at hh;generalize Sem.run P program w=r at hh
    cases r with
    |halt x w1=>simp at hh
    |ok x w1=>
     simp only[Result.andThen_ok]at hh;rw[Sem.run_bind]at hh;generalize Sem.run P (nilAhead _ _ _ _) w1=r2 at hh
     cases r2 with
     |halt x w1=>simp at hh
     |ok y w2=>
      simp only[Result.andThen_ok]at hh;split at hh
      ·simp_all
      ·simp at hh
   ·simp at hh
  ·simp at hh
 all_goals first|exact key _| (exfalso;cases guard<;>cases dst<;>simp[kZ,nq]at h;done)|simp[execOp]
theorem KW{o:Oper}(h:kZ o=true\/∃m,nq m o=true)(P:Program)(w:World)(e:Operand->Value):o.about P w e=none:=by
 obtain⟨dst,op,type,pos,after,guard⟩:=o;cases op<;>first|rfl| (exfalso;cases guard<;>cases dst<;>simp[kZ,nq]at h;done)
theorem Bi[Fen]{P:Program}{o:Oper}{a:Act}{w:World}{R:Value->World->Prop}{next:Act->World->Prop}{Q:Exit->Act->World->Prop}{ro:Option Nat}(hf:kZ o=true\/∃m,nq m o=true)(hd:ro≠none->fe o)(hy:Yields P o a w R)
  (hn:∀v w',R v w'->next (a.put o.dst v) w'):o.wpIn (FF P ro) 0 P a w next Q:=
 ev hd (fun f h=>by rw[KW hf]at h;simp at h) (hy.wp hn)
theorem za{ds:List (Option Nat×Nat)}:∀{ops:List Oper} {i0:Nat} {dd:List (Option Nat×Nat)},yE ds i0 ops dd=true->ops.length=dd.length/\∀(i:Nat) (o:Oper),ops[i]? =some o->
  ∃m,dd[i]? =some (o.dst,m)/\jB ds o.after.toList ||| m=jB ds o.after.toList/\jB ds o.after.toList<2^(i0+i)/\∀j,j<i0+i->m.testBit j=true->(bh ds j ||| m)=m
 | [],i0,[],_=>⟨rfl,by simp⟩
 | [],_,_::_,h=>by simp[yE]at h
 |_::_,_,[],h=>by simp[yE]at h
 |o::l,i0,d::dd,h=>by
  simp only[yE,af,ai,List.all_eq_true,List.mem_range,Bool.or_eq_true,Bool.not_eq_true',Nat.ble_eq]at h;obtain⟨⟨⟨⟨h1,h2⟩,h3⟩,h4⟩,h5⟩:=h;obtain⟨i1,i2⟩:=za h5;refine⟨by simp[i1],fun i p hp=>?_⟩
  cases i with
  |zero=>
   simp only[List.getElem?_cons_zero,aa]at hp;subst hp;refine⟨d.2,?_,h2,by rw[Nat.add_zero];exact h3,fun j hlt hj=>?_⟩
   ·grind
   ·grind
  |succ i=>
   obtain⟨m,a,b,c,e⟩:=i2 i p (by simpa using hp)
   exact⟨m,by simpa using a,b,by rw[show i0+(i+1)=i0+1+i by omega];exact c,fun j hj=>e j (by omega)⟩
structure Hx(opsA:Array Oper)(ds:List (Option Nat×Nat)):Prop where
 okk:yE ds 0 opsA.toList ds=true
theorem Hx.at{opsA:Array Oper}{ds:List (Option Nat×Nat)}(P:Hx opsA ds){i:Nat}{o:Oper}(h:opsA[i]? =some o):
  ds[i]? =some (o.dst,bh ds i)/\(∀k,(bh ds i).testBit k=true->k<i)/\
  ((∀k,(bh ds i).testBit k=true->∃e∈o.after,Region.binds .any e=true/\(e.on=k\/(bh ds e.on).testBit k=true))/\∀e∈o.after,Region.binds .any e=true->e.on<i)/\
  ∀k r,(bh ds i).testBit k=true->(bh ds k).testBit r=true->(bh ds i).testBit r=true:=by
 obtain⟨m,h1,h2,h3,h4⟩:=(za P.okk).2 i o (by simpa using h)
 rw[Nat.zero_add]at h3 h4;have hm:bh ds i=m:=by simp[bh,h1]
 rw[hm]
 have lt:∀k,(jB ds o.after.toList).testBit k=true->k<i:=fun k hk=>by
  rcases Nat.lt_or_ge k i with h|h
  ·exact h
  ·have:=Nat.testBit_lt_two_pow (x:=jB ds o.after.toList) (i:=k) (Nat.lt_of_lt_of_le h3 (Nat.pow_le_pow_right (by omega) (by omega)))
   rw[this]at hk;simp at hk
 have up:∀k,m.testBit k=true->(jB ds o.after.toList).testBit k=true:=fun k hk=>by rw[<-h2,Nat.testBit_or,hk,Bool.or_true]
 refine⟨h1,fun k hk=>lt k (up k hk),⟨fun k hk=>?_,fun e he hb=>?_⟩,fun k r hk hr=>?_⟩
 ·have:=mz.1 (up k hk);simpa only[Array.mem_toList_iff]using this
 ·exact lt e.on (mz.2 ⟨e,by simpa only[Array.mem_toList_iff]using he,hb,.inl rfl⟩)
 ·rw[<-h4 k (lt k (up k hk)) hk,Nat.testBit_or,hr];rfl
structure sI(opsA:Array Oper)(ds:List (Option Nat×Nat))(d a1:Nat):Prop where
 at':∀i o,opsA[i]? =some o->(∀k,(bh ds i).testBit k=true->k<i)/\
  ((∀k,(bh ds i).testBit k=true->∃e∈o.after,Region.binds .any e=true/\(e.on=k\/(bh ds e.on).testBit k=true))/\∀e∈o.after,Region.binds .any e=true->e.on<i)/\
  ∀k r,(bh ds i).testBit k=true->(bh ds k).testBit r=true->(bh ds i).testBit r=true
 dsat:∀i o,opsA[i]? =some o->ds[i]? =some (o.dst,bh ds i)
 kind:∀i o,i<d->opsA[i]? =some o->(kZ o=true/\∀k o',(bh ds i).testBit k=true->opsA[k]? =some o'->nq (bh ds k) o'=true->∃x,(bh ds i).testBit x=true/\(bh ds x).testBit k=true)\/
  (kZ o=false/\(nq (bh ds i) o=true\/kX o=true))
 opnd:∀i o t,i<d->opsA[i]? =some o->Operand.tmp t∈o.op.operands->∀k o',k<d->opsA[k]? =some o'->o'.dst=some t->(bh ds i).testBit k=true
 sr:∀(i j:Nat) (o o':Oper) (t:Nat),opsA[i]? =some o->opsA[j]? =some o'->o.dst=some t->o'.dst=some t->i=j
 tail:∀i,i<opsA.size->d<=i->∀k,(bh ds i).testBit k=true↔k<i
 ta1:∀i o,i<d->opsA[i]? =some o->kX o=true->∀k,a1.testBit k=true->(bh ds i).testBit k=true
 a1d:∀k,a1.testBit k=true->k<d
 dle:d<=opsA.size
def V8(opsA:Array Oper)(ds:List (Option Nat×Nat))(i:Nat):Prop:=∃o,opsA[i]? =some o/\nq (bh ds i) o=true
def ZL(opsA:Array Oper)(i:Nat):Prop:=∃o,opsA[i]? =some o/\kZ o=true
theorem Uq{opsA:Array Oper}{ds:List (Option Nat×Nat)}{i:Nat}(h:ZL opsA i)(h':V8 opsA ds i):False:=by
 obtain⟨o,h1,h2⟩:=h;obtain⟨o',h3,h4⟩:=h';rw[h1]at h3;simp only[aa]at h3;subst h3;obtain⟨_,_,⟨t,ht⟩,_⟩:=rT h4;exact(BI h2).2.2.2.2.2.1 t ht
def NS(opsA:Array Oper)(m:Nat)(L:Nat->Bool)(t:Nat):Prop:=∃i o,opsA[i]? =some o/\o.dst=some t/\m.testBit i=true/\L i=false
def Wm(w0:World)(F0:Nat->Prop)(rs0:List aQ)(p:Nat->Prop)(J:Env)(res:List aQ)(w:World):Prop:=∃ρ' fps' res',bn ρ' fps' res' (known res') w0 F0 w/\Good J res ρ' res'/\∀i,p i->aN res' i=aN rs0 i
def Uj(a1:Nat)(B:List Nat)(rs0:List aQ)(i k:Nat):Prop:=if a1.testBit i=true then known rs0 k else sk B rs0 k
theorem Wm.mono{w0:World}{F0:Nat->Prop}{rs0:List aQ}{p:Nat->Prop}{J ρ1:Env}{res res1:List aQ}{w:World}(hg:Good J res ρ1 res1)(h:Wm w0 F0 rs0 p ρ1 res1 w):Wm w0 F0 rs0 p J res w:=
 let ⟨ρ',fps',res',h1,h2,h3⟩:=h
 ⟨ρ',fps',res',h1,hg.trans h2,h3⟩
theorem X7.mono[Fen]{P:Program}{o:Oper}{b b':Act}{v:Value}{c c':World->Prop}(h:X7 P o b v c)(hb:∀x∈o.op.operands,b'.eval x=b.eval x)(hc:∀w,c' w->c w):X7 P o b' v c':=
 fun a w ha hw=>h a w (fun x hx=>(ha x hx).trans (hb x hx)) (hc w hw)
theorem XA[Fen]{C:Ctx}{o:Oper}{q:Option Prop}{x:V}{sl:List S}{R res rs0:List aQ}{J:Env}{fps:Nat->Nat->Prop}{b:Act}{w w0:World}{F0 p:Nat->Prop}(hC:C.Sound)(hf:kZ o=true)(h:BF C sl R 0 [] o.op=some (q,x,[]))(hq:cK q)(hF:iS J (known res) sl b)
  (hR:∀i,known R i->p i/\aN R i=aN rs0 i) (hH:bn J fps res (known res) w0 F0 w) (hp:∀i,p i->aN res i=aN rs0 i):ok (known res) x/\X7 C.P o b (den J x) (Wm w0 F0 rs0 p J res):=by
 have base:∀ρ' fps' res' w',bn ρ' fps' res' (known res') w0 F0 w'->Good J res ρ' res'->(∀i,p i->aN res' i=aN rs0 i)->Yields C.P o b w' (qO (known res') ρ' 0 x [] w0 F0 w'):=fun ρ' fps' res' w' h1 h2 h3=>
  (mK hC h (hF.env h2.2 h2.1) (h1.forget fun i hi=>(hR i hi).2.trans (h3 i (hR i hi).1).symm) rfl hq (fun k hk=>by simp at hk)).1
 have nof:∀{K:Nat->Prop} {i:Nat},K i\/fresh 0 ([]:List aQ).length i->K i:=fun h=>h.elim id fun h=>by unfold fresh at h;simp at h
 have hok:ok (known res) x:=by
  rcases base J fps res w hH (Good.refl _ _) hp with⟨v,w',h1,ρ'',_,_,h4⟩|⟨f,args,h1,_⟩
  ·exact cZ (fun i hi=>nof hi) x h4
  ·exact absurd h1 (DK (.inl hf))
 refine⟨hok,fun a' w' he hc=>?_⟩
 obtain⟨ρ',fps',res',h1,h2,h3⟩:=hc;have he':execOp a'.eval o=execOp b.eval o:=execOp_congr o (BI hf).2.2.2.2.1 he;rcases base ρ' fps' res' w' h1 h2 h3 with⟨v,w'',e1,ρ'',e2,e3,e4⟩|⟨f,args,h1,_⟩
 ·refine .inl ⟨v,w'',by rw[he'];exact e1,?_,e2.1⟩
  rw[e3,fL (N:=known res') (e2.2.1.mono fun i _ h=>by unfold fresh at h;simp at h) x (cZ h2.2 x hok),fL h2.1 x hok]
 ·exact absurd h1 (DK (.inl hf))
def rh(x:Array Value)(d:Option Nat)(v:Value):Array Value:=match d with|some t=>x.setIfInBounds t v|none=>x
theorem gn(a:Act)(d:Option Nat)(v:Value):(a.put d v).tmps=rh a.tmps d v:=by cases d<;>rfl
theorem mE{x:Array Value}{d d':Option Nat}{v v':Value}(h:∀t,d=some t->d'=some t->False):rh (rh x d v) d' v'=rh (rh x d' v') d v:=by
 cases d with
 |none=>rfl
 |some t=>
  cases d' with
  |none=>rfl
  |some t'=>
   have hne:t≠t':=fun e=>h t rfl (by rw[e])
   exact Array.setIfInBounds_comm _ _ hne
theorem zJ(x:Array Value)(d:Option Nat)(v:Value):rh (rh x d v) d v=rh x d v:=by
 cases d with
 |none=>rfl
 |some t=>simp[rh]
theorem iS.tmps{J:Env}{K:Nat->Prop}{sl:List S}{a a':Act}(h:iS J K sl a)(e:a'.tmps=a.tmps):iS J K sl a':=by unfold iS at h⊢;rw[e];exact h
theorem IX{a a':Act}(x:Operand)(h:∀t,x= .tmp t->a'.tmps.getD t undef=a.tmps.getD t undef):a'.eval x=a.eval x:=by
 cases x with
 |tmp t=>exact h t rfl
 |_=>rfl
theorem rZ{x:Array Value}{d:Option Nat}{v:Value}{t:Nat}(h:d≠some t):(rh x d v).getD t undef=x.getD t undef:=by
 cases d with
 |none=>rfl
 |some e=>
  have:e≠t:=fun h'=>h (by rw[h'])
  simp[rh,Array.getD_eq_getD_getElem?,Array.getElem?_setIfInBounds_ne this]
theorem iS.W6{J:Env}{K:Nat->Prop}{sl:List S}{a:Act}(h:iS J K sl a){d:Option Nat}{v:Value}(hu:∀t,d=some t->b9 sl t= .und):iS J K sl (a.put d v):=by
 refine⟨by rw[qx];exact h.1,fun t=>?_⟩
 by_cases e:d=some t
 ·rw[hu t e];trivial
 ·rw[gn,rZ e];exact h.2 t
theorem tV.mono{N N':Nat->Prop}{a b:Act}(h:tV N a b)(hN:∀t,N t->N' t):tV N' a b:=⟨h.1,h.2.1,fun t ht=>h.2.2 t fun h=>ht (hN t h)⟩
theorem bn.Zg{J:Env}{fps:Nat->Nat->Prop}{res:List aQ}{w0 w:World}{F0:Nat->Prop}{g t:Nat}{z:V}(h:bn J fps res (known res) w0 F0 w)(hz:ok (fun _=>False) z)(ht:cz z=false)
  (hb:w.heap[g]? =some (.cells (cells Env.zero z).toArray t (0,0))) (hg:w0.heap.size<=g) (hn:∀k,known res k->¬fps k g):
  bn (J.bC res.length g) (fun i b=>if i=res.length then b=g else fps i b) (od res [.blk t z]) (known (od res [.blk t z])) w0 F0 w/\Good J res (J.bC res.length g) (od res [.blk t z]):=by
 have hget:∀i,aN (od res [.blk t z]) i=if i=res.length then .blk t z else aN res i:=fun i=>by
  show aN (res++ [.blk t z]) i=_
  rw[bZ];by_cases h1:i<res.length
  ·rw[ar h1,aq (by omega)]
  ·rw[aq h1];by_cases h2:i=res.length
   ·subst h2;simp[aN]
   ·rw[aq h2];have:aN res i= .yet:=Classical.byContradiction fun hh=>h1 (aW hh)
    rw[this];cases hx:i-res.length with
    |zero=>omega
    |succ n=>simp[aN]
 have hkn:∀i,known res i->i≠res.length/\known (od res [.blk t z]) i:=fun i hi=>by
  have:=aW hi;refine⟨by omega,?_⟩
  unfold known;rw[hget,aq (by omega)];exact hi
 have hk':∀i,known (od res [.blk t z]) i->i=res.length\/(i≠res.length/\known res i):=fun i hi=>by
  grind[known]
 have hag:Env.agree (known res) J (J.bC res.length g):=fun i hi=>by
  have:=(hkn i hi).1;simp[Env.bC,this]
 have hlt:g<w.heap.size:=(Array.getElem?_eq_some_iff.1 hb).1;refine⟨⟨fun i hi=>hi,h.old,h.os,h.tape,h.output,fun i hi=>?_,fun i b hi hbb=>?_,fun i j b hi hj hne h3 h4=>?_,fun i b hi hbb hl=>?_,h.same⟩,hag,fun i hi=>(hkn i hi).2⟩
 ·rcases hk' i hi with e|⟨e,hk⟩
  ·subst e;rw[hget,ar rfl];refine⟨fu hz,ht,by simp[Env.bC],?_⟩
   rw[dL (N:=fun _=>False) (J:=Env.zero) (fun _ h=>h.elim) z hz]
   simpa[Env.bC]using hb
  ·rw[hget,aq e];have:=aQ.r8 _ (h.holds i hk) (fun j hj=>(hkn j hj).2) hag hk
   simpa only[aq e]using this
 ·rcases hk' i hi with e|⟨e,hk⟩
  ·simp only[ar e]at hbb;subst hbb;exact hlt
  ·simp only[aq e]at hbb;exact h.lt i b hk hbb
 ·rcases hk' i hi with e|⟨e,hk⟩<;>rcases hk' j hj with e'|⟨e',hk'⟩
  ·omega
  ·simp_all
  ·simp_all
  ·simp only[aq e]at h3;simp only[aq e']at h4;exact h.disj i j b hk hk' hne h3 h4
 ·rcases hk' i hi with e|⟨e,hk⟩
  ·simp only[ar e]at hbb;omega
  ·simp only[aq e]at hbb;exact h.inF i b hk hbb hl
structure tf[Fen](C:Ctx)(opsA:Array Oper)(ds:List (Option Nat×Nat))(d a1:Nat)(B:List Nat)(rs0:List aQ)(ρs:Env)(w0:World)(F0:Nat->Prop)(m:Nat)(U:St)(L:Nat->Bool)(J:Env)(fps:Nat->Nat->Prop)(a b:Act)(w:World)(gb:Nat->Nat):Prop where
 rep:kS J fps U w0 F0 b w
 tE:Good ρs rs0 J U.res
 near:tV (NS opsA m L) a b
 lm:∀i,L i=true->i<d/\(m.testBit i=true\/V8 opsA ds i)
 ml:∀i,m.testBit i=true->i<d/\(L i=true\/ZL opsA i)
 mdn:∀i k,m.testBit i=true->(bh ds i).testBit k=true->m.testBit k=true
 val:∀i o,opsA[i]? =some o->kZ o=true->m.testBit i=true->L i=false->∃v,rh b.tmps o.dst v=b.tmps/\X7 C.P o b v (Wm w0 F0 rs0 (Uj a1 B rs0 i) J U.res)
 alc:∀i o,i<d->opsA[i]? =some o->nq (bh ds i) o=true->m.testBit i=false->(∀t,o.dst=some t->b9 U.slots t= .und)/\
  (L i=true->∃t z,o.op= .alloc t/\C.Z t=some z/\rh b.tmps o.dst (.pointer (some ⟨gb i,0,none⟩))=b.tmps/\w.heap[gb i]? =some (.cells (cells Env.zero z).toArray t (0,0))/\w0.heap.size<=gb i/\∀k,known U.res k->¬fps k (gb i))
 inj:∀i j,V8 opsA ds i->V8 opsA ds j->L i=true->L j=true->m.testBit i=false->m.testBit j=false->gb i=gb j->i=j
 prt:∀i,sk B rs0 i->aN U.res i=aN rs0 i
 ph0:(∃i,a1.testBit i=true/\L i=false)->U.res=rs0
theorem fB{m i k:Nat}:(m ||| 2^i).testBit k=true↔m.testBit k=true\/k=i:=by
 grind
theorem OJ{x m:Nat}(h:(x ||| m)=m){k:Nat}(hk:x.testBit k=true):m.testBit k=true:=by rw[<-h,Nat.testBit_or,hk];rfl
theorem EB{B:List Nat}{rs0:List aQ}(hB:∀i,B.contains i=true->∃ty c,aN rs0 i= .blk ty c)(i:Nat)(h:known (nF B 0 rs0) i):sk B rs0 i/\aN (nF B 0 rs0) i=aN rs0 i:=by
 unfold known at h;rw[Ap,Nat.zero_add]at h⊢;split at h
 ·rename_i hc;rw[ar hc];refine⟨⟨aW h,?_⟩,rfl⟩;simpa using hc
 ·exact absurd rfl h
theorem yu{B:List Nat}{rs0:List aQ}(hB:∀i,B.contains i=true->∃ty c,aN rs0 i= .blk ty c){i:Nat}(h:sk B rs0 i):known rs0 i:=by
 rcases h.2 with hc|hc
 ·obtain⟨ty,c,e⟩:=hB i hc;unfold known;simp[e]
 ·intro e;rw[e]at hc;simp[jo]at hc
theorem CM{sl sl2:List S}{dd:Option Nat}{s:S}(h:nA sl dd s=some sl2){t:Nat}(ht:dd≠some t):b9 sl2 t=b9 sl t:=by
 unfold nA at h;cases dd with
 |none=>simp only[aa]at h;rw[h]
 |some e=>
  simp only at h;split at h
  ·grind[gh]
  ·simp at h
theorem vD(res:List aQ)(r:aQ)(i:Nat):aN (od res [r]) i=if i=res.length then r else aN res i:=by
 show aN (res++ [r]) i=_
 rw[bZ];by_cases h1:i<res.length
 ·rw[ar h1,aq (by omega)]
 ·rw[aq h1];by_cases h2:i=res.length
  ·subst h2;simp[aN]
  ·rw[aq h2];have:aN res i= .yet:=Classical.byContradiction fun hh=>h1 (aW hh)
   rw[this];cases hx:i-res.length with
   |zero=>omega
   |succ n=>simp[aN]
theorem OZ{x:Array Value}{t:Nat}(h:¬t<x.size):x.getD t undef=undef:=by simp[Array.getD_eq_getD_getElem?,Array.getElem?_eq_none (Nat.not_lt.1 h)]
theorem yP{x y:Array Value}{t:Nat}{v:Value}(h:x.size=y.size):(rh x (some t) v).getD t undef=(rh y (some t) v).getD t undef:=by
 simp_all[rh,OZ]
section
variable {C:Ctx} {opsA:Array Oper} {ds:List (Option Nat×Nat)} {d a1:Nat} {B:List Nat} {rs0:List aQ} {ρs J:Env} {w0 w:World} {F0:Nat->Prop} {m:Nat} {L:Nat->Bool} {fps:Nat->Nat->Prop} {a b:Act} {gb:Nat->Nat} {U:St}
theorem tf.Lfl[Fen](M:tf C opsA ds d a1 B rs0 ρs w0 F0 m U L J fps a b w gb){i:Nat}{o:Oper}(ho:opsA[i]? =some o)(hfl:kZ o=true)(hm:m.testBit i=false):L i=false:=by
 cases h:L i with
 |false=>rfl
 |true=>
  rcases(M.lm i h).2 with h'|h'
  ·rw[hm]at h';simp at h'
  ·exact(Uq ⟨o,ho,hfl⟩ h').elim
theorem tf.ne{i j:Nat}(h:m.testBit j=true)(h':m.testBit i=false):j≠i:=fun e=>by rw[e,h']at h;simp at h
theorem tf.H4[Fen](hf:sI opsA ds d a1)(M:tf C opsA ds d a1 B rs0 ρs w0 F0 m U L J fps a b w gb){i:Nat}{o:Oper}(ho:opsA[i]? =some o)(hi:i<d)(hm:m.testBit i=false){b':Act}{v:Value}(hb':b'.tmps=rh b.tmps o.dst v)
  {j:Nat} {o':Oper} (hjd:j<d) (hj:opsA[j]? =some o') (hmj:m.testBit j=true\/j=i):∀y∈o'.op.operands,b'.eval y=b.eval y:=fun y hy=>IX y fun t e=>by
 subst e;rw[hb'];refine rZ fun hd=>?_
 have:=hf.opnd j o' t hjd hj hy i o hi ho hd;rcases hmj with h|rfl
 ·rw[M.mdn j i h this]at hm;simp at hm
 ·have:=(hf.at' j o' hj).1 j this;omega
theorem jE{m i j:Nat}(h:(m ||| 2^i).testBit j=false):m.testBit j=false/\j≠i:=by
 grind
theorem tf.Zf[Fen](hf:sI opsA ds d a1)(M:tf C opsA ds d a1 B rs0 ρs w0 F0 m U L J fps a b w gb){i:Nat}{o:Oper}{x:V}{sl2:List S}(ho:opsA[i]? =some o)(hi:i<d)(hfl:kZ o=true)(hm:m.testBit i=false)(hanc:(bh ds i ||| m)=m)
  (hx:ok (known U.res) x) (hV:X7 C.P o b (den J x) (Wm w0 F0 rs0 (Uj a1 B rs0 i) J U.res)) (hp:nA U.slots o.dst (.v x)=some sl2):
  tf C opsA ds d a1 B rs0 ρs w0 F0 (m ||| 2^i) {U with slots:=sl2} L J fps a (b.put o.dst (den J x)) w gb:=by
 have hLi:=M.Lfl ho hfl hm;have nd:∀j o',opsA[j]? =some o'->j≠i->∀t,o.dst=some t->o'.dst=some t->False:=fun j o' hj hne t ht e=>hne (hf.sr j i o' o t hj ho e ht)
 refine⟨⟨M.rep.1.nA hp fun _ _ _ _=>⟨rfl,hx⟩,M.rep.2.1,by rw[put_defers];exact M.rep.2.2.1,M.rep.2.2.2⟩,M.tE,⟨by rw[put_defers];exact M.near.1,by rw[qx];exact M.near.2.1,fun t ht=>?_⟩,fun j hj=>?_,fun j hj=>?_,fun j k hj hk=>?_,fun j o' hj hfl' hmj hLj=>?_,fun j o' hjd hj hal hmj=>?_,fun j k h1 h2 h3 h4 h5 h6=>M.inj j k h1 h2 h3 h4 (jE h5).1 (jE h6).1,M.prt,M.ph0⟩
 ·rw[gn,rZ fun hd=>ht ⟨i,o,ho,hd,fB.2 (.inr rfl),hLi⟩]
  exact M.near.2.2 t fun⟨i',o',e1,e2,e3,e4⟩=>ht ⟨i',o',e1,e2,fB.2 (.inl e3),e4⟩
 ·have:=M.lm j hj;exact⟨this.1,this.2.imp (fun h=>fB.2 (.inl h)) id⟩
 ·rcases fB.1 hj with h|rfl
  ·exact M.ml j h
  ·exact⟨hi,.inr ⟨o,ho,hfl⟩⟩
 ·rcases fB.1 hj with h|rfl
  ·exact fB.2 (.inl (M.mdn j k h hk))
  ·exact fB.2 (.inl (OJ hanc hk))
 ·rcases fB.1 hmj with h|rfl
  ·obtain⟨v',e1,e2⟩:=M.val j o' hj hfl' h hLj;refine⟨v',?_,e2.mono (M.H4 hf ho hi hm (gn _ _ _) (M.ml j h).1 hj (.inl h)) fun _ h=>h⟩
   rw[gn,mE (nd j o' hj (tf.ne h hm)),e1]
  ·rw[ho]at hj;simp only[aa]at hj;subst hj;exact⟨den J x,by rw[gn,zJ],hV.mono (M.H4 hf ho hi hm (gn _ _ _) hi ho (.inr rfl)) fun _ h=>h⟩
 ·obtain⟨hmj,hne⟩:=jE hmj;obtain⟨u1,u2⟩:=M.alc j o' hjd hj hal hmj;refine⟨fun t ht=>?_,fun hl=>?_⟩
  ·grind[CM]
  ·obtain⟨t,z,e1,e2,e3,e4⟩:=u2 hl;exact⟨t,z,e1,e2,by rw[gn,mE (nd j o' hj hne),e3],e4⟩
theorem oY[Fen](hC:C.Sound)(hf:sI opsA ds d a1)(hB:∀i,B.contains i=true->∃ty c,aN rs0 i= .blk ty c){ph0:Bool}(hph:ph0=true->U.res=rs0){k:Nat->List S->Prop}:
  ∀(l:List Oper) (i m:Nat) (sl:List S) (b:Act),(∀j o,l[j]? =some o->opsA[i+j]? =some o/\i+j<d)->tf C opsA ds d a1 B rs0 ρs w0 F0 m {U with slots:=sl} L J fps a b w gb->
   xX C ds a1 (nF B 0 rs0) rs0 ph0 (mg i l) m sl k->
   ∃m' sl' b',tf C opsA ds d a1 B rs0 ρs w0 F0 m' {U with slots:=sl'} L J fps a b' w gb/\k m' sl'/\(∀x,m.testBit x=true->m'.testBit x=true)/\(∀x,m'.testBit x=true->m.testBit x=true\/(i<=x/\ZL opsA x))/\
    ∀j o,l[j]? =some o->kZ o=true->(∀x,(bh ds (i+j)).testBit x=true->m'.testBit x=true)->m'.testBit (i+j)=true
 | [],i,m,sl,b,hl,M,h=>⟨m,sl,b,M,h,fun _ h=>h,fun _ h=> .inl h,fun j o hj=>by simp at hj⟩
 |o::l,i,m,sl,b,hl,M,h=>by
  have hl':∀j o',l[j]? =some o'->opsA[i+1+j]? =some o'/\i+1+j<d:=fun j o' hj=>by
   have:=hl (j+1) o' (by simpa using hj)
   rwa [show i+(j+1)=i+1+j by omega]at this
  obtain⟨ho,hi⟩:=hl 0 o (by simp)
  rw[Nat.add_zero]at ho hi;simp only[mg,xX]at h;split at h
  ·rename_i hc;simp only[af,Bool.not_eq_true',ai]at hc;obtain⟨⟨hfl,hm⟩,hanc⟩:=hc;split at h
   ·exact h.elim
   ·rename_i hcond;split at h
    ·rename_i q x new hop;split at h
     ·rename_i hnew;have hnew:new= []:=by simpa using hnew
      subst hnew;rw[j5]at h;split at h
      ·rename_i sl2 hp;obtain⟨hq,h⟩:=lT h
       have hpr:∀y,Uj a1 B rs0 i y->aN ({U with slots:=sl}:St).res y=aN rs0 y:=fun y hy=>by
        unfold Uj at hy;split at hy
        ·rename_i ha
         have:ph0=true:=by
          cases hh:ph0 with
          |true=>rfl
          |false=>rw[ha,hh]at hcond;simp at hcond
         show aN U.res y=_
         rw[hph this]
        ·exact M.prt y hy
       obtain⟨v1,v2⟩:=XA (rs0:=rs0) (p:=Uj a1 B rs0 i) hC hfl hop hq M.rep.1 (fun y hy=>by
        unfold Uj;split at hy
        ·rename_i ha;rw[ar ha,ar ha];exact⟨hy,rfl⟩
        ·rename_i ha;rw[aq ha,aq ha];exact EB hB y hy) M.rep.2.1 hpr
       have M2:=M.Zf hf ho hi hfl hm hanc v1 v2 hp;obtain⟨m',sl',b',r1,r2,r3,r4,r5⟩:=oY hC hf hB hph l (i+1) _ sl2 _ hl' M2 h;refine⟨m',sl',b',r1,r2,fun x hx=>r3 x (fB.2 (.inl hx)),fun x hx=>?_,fun j o' hj hfl' hx=>?_⟩
       ·rcases r4 x hx with h|⟨h1,h2⟩
        ·rcases fB.1 h with h|rfl
         ·exact .inl h
         ·exact .inr ⟨Nat.le_refl _,o,ho,hfl⟩
        ·exact .inr ⟨by omega,h2⟩
       ·cases j with
        |zero=>exact r3 _ (fB.2 (.inr rfl))
        |succ j=>
         have:=r5 j o' (by simpa using hj) hfl' (by rw[show i+1+j=i+(j+1) by omega];exact hx)
         rwa [show i+1+j=i+(j+1) by omega]at this
      ·exact h.elim
     ·exact h.elim
    ·exact h.elim
  ·rename_i hc;obtain⟨m',sl',b',r1,r2,r3,r4,r5⟩:=oY hC hf hB hph l (i+1) m sl b hl' M h;refine⟨m',sl',b',r1,r2,r3,fun x hx=>(r4 x hx).imp id fun h=>⟨by omega,h.2⟩,fun j o' hj hfl' hx=>?_⟩
   cases j with
   |zero=>
    simp only[List.getElem?_cons_zero,aa]at hj;subst hj;rw[Nat.add_zero]at hx⊢;cases hmi:m.testBit i with
    |true=>exact r3 i hmi
    |false=>
     exfalso
     refine hc ?_;simp only[af,Bool.not_eq_true',ai];refine⟨⟨hfl',hmi⟩,Nat.eq_of_testBit_eq fun x=>?_⟩
     rw[Nat.testBit_or];cases hax:(bh ds i).testBit x with
     |false=>simp
     |true=>
      have hlt:=(hf.at' i o ho).1 x hax;rcases r4 x (hx x hax)with h|⟨h,_⟩
      ·simp[h]
      ·omega
   |succ j=>
    have:=r5 j o' (by simpa using hj) hfl' (by rw[show i+1+j=i+(j+1) by omega];exact hx)
    rwa [show i+1+j=i+(j+1) by omega]at this
theorem tf.ZK[Fen](hC:C.Sound)(hf:sI opsA ds d a1)(hB:∀i,B.contains i=true->∃ty c,aN rs0 i= .blk ty c)(M:tf C opsA ds d a1 B rs0 ρs w0 F0 m U L J fps a b w gb){i:Nat}{o:Oper}{t:Nat}{z:V}{sl2:List S}(ho:opsA[i]? =some o)(hi:i<d)
  (hal:nq (bh ds i) o=true) (hm:m.testBit i=false) (hL:L i=true) (ha1:∀x,a1.testBit x=true->L x=true) (hop:o.op= .alloc t) (hz:C.Z t=some z) (hp:nA U.slots o.dst (.v (.lp U.res.length 0))=some sl2):
  ∃ρ' fps',tf C opsA ds d a1 B rs0 ρs w0 F0 (m ||| 2^i) {U with slots:=sl2,res:=od U.res [.blk t z]} L ρ' fps' a b w gb:=by
 obtain⟨_,u2⟩:=M.alc i o hi ho hal hm;obtain⟨t',z',e1,e2,e3,e4,e5,e6⟩:=u2 hL;rw[hop]at e1;simp only[Op.alloc.injEq]at e1;subst e1;rw[hz]at e2;simp only[aa]at e2;subst e2;obtain⟨_,_,_,hz3,hz4,_⟩:=hC.z t z hz;obtain⟨H,G⟩:=M.rep.2.1.Zg hz3 hz4 e4 e5 e6;have nd:∀j o',opsA[j]? =some o'->j≠i->∀t,o.dst=some t->o'.dst=some t->False:=fun j o' hj hne t ht e=>hne (hf.sr j i o' o t hj ho e ht)
 have kn:known (od U.res [.blk t z]) U.res.length:=by unfold known;rw[vD,ar rfl];simp
 have kold:∀k,known (od U.res [.blk t z]) k->k≠U.res.length->known U.res k:=fun k hk hne=>by
  unfold known at hk⊢;rwa [vD,aq hne]at hk
 refine⟨_,_,⟨?_,H,?_⟩,M.tE.trans G,M.near.mono fun t ⟨i',o',e1,e2,e3,e4⟩=>⟨i',o',e1,e2,fB.2 (.inl e3),e4⟩,fun j hj=>?_,fun j hj=>?_,fun j k hj hk=>?_,fun j o' hj hfl' hmj hLj=>?_,fun j o' hjd hj hal' hmj=>?_,
  fun j k h1 h2 h3 h4 h5 h6=>M.inj j k h1 h2 h3 h4 (jE h5).1 (jE h6).1,fun k hk=>?_,fun⟨x,h1,h2⟩=>by rw[ha1 x h1]at h2;simp at h2⟩
 ·exact((M.rep.1.env G.2 G.1).nA (x:= .pointer (some ⟨gb i,0,none⟩)) hp fun _ _ _ _=>⟨by simp[den,Env.bC],kn⟩).tmps (by rw[gn,e3])
 ·obtain⟨q1,q2⟩:=eA M.rep.2.2.2 G.1 G.2;exact⟨M.rep.2.2.1.trans q1.symm,q2⟩
 ·have:=M.lm j hj;exact⟨this.1,this.2.imp (fun h=>fB.2 (.inl h)) id⟩
 ·rcases fB.1 hj with h|rfl
  ·exact M.ml j h
  ·exact⟨hi,.inl hL⟩
 ·rcases fB.1 hj with h|rfl
  ·exact fB.2 (.inl (M.mdn j k h hk))
  ·rw[(rT hal).2.2.2]at hk;simp at hk
 ·rcases fB.1 hmj with h|rfl
  ·obtain⟨v',e1,e2⟩:=M.val j o' hj hfl' h hLj;exact⟨v',e1,e2.mono (fun _ _=>rfl) fun w' hw=>hw.mono G⟩
  ·rw[hL]at hLj;simp at hLj
 ·obtain⟨hmj,hne⟩:=jE hmj;obtain⟨u1,u2⟩:=M.alc j o' hjd hj hal' hmj;refine⟨fun t ht=>?_,fun hl=>?_⟩
  ·grind[b9,CM]
  ·obtain⟨t,z,f1,f2,f3,f4,f5,f6⟩:=u2 hl;refine⟨t,z,f1,f2,f3,f4,f5,fun k hk=>?_⟩
   by_cases e:k=U.res.length
   ·simp only[ar e];exact fun e'=>hne (M.inj j i ⟨o',hj,hal'⟩ ⟨o,ho,hal⟩ hl hL hmj hm e')
   ·simp only[aq e];exact f6 k (kold k hk e)
 ·have h1:=M.prt k hk;have:known U.res k:=by unfold known;rw[h1];exact yu hB hk
  have:=aW this;show aN (od U.res [.blk t z]) k=_
  rw[vD,aq (by omega),h1]
theorem pH[Fen](hC:C.Sound)(hf:sI opsA ds d a1)(hB:∀i,B.contains i=true->∃ty c,aN rs0 i= .blk ty c){sel:Nat}{k:Nat->St->Prop}(ha1:∀x,a1.testBit x=true->L x=true):
  ∀(l:List Oper) (i m:Nat) (U:St) (J:Env) (fps:Nat->Nat->Prop),(∀j o,l[j]? =some o->opsA[i+j]? =some o/\i+j<d)->(∀j,sel.testBit j=true->L j=true\/¬j<d)->tf C opsA ds d a1 B rs0 ρs w0 F0 m U L J fps a b w gb->zW C ds sel (mg i l) m U k->
   ∃m' σ' ρ' fps',tf C opsA ds d a1 B rs0 ρs w0 F0 m' σ' L ρ' fps' a b w gb/\k m' σ'/\(∀x,m.testBit x=true->m'.testBit x=true)/\∀x,m'.testBit x=true->m.testBit x=true\/V8 opsA ds x
 | [],i,m,U,J,fps,hl,hs,M,h=>⟨m,U,J,fps,M,h,fun _ h=>h,fun _ h=> .inl h⟩
 |o::l,i,m,U,J,fps,hl,hs,M,h=>by
  have hl':∀j o',l[j]? =some o'->opsA[i+1+j]? =some o'/\i+1+j<d:=fun j o' hj=>by
   have:=hl (j+1) o' (by simpa using hj)
   rwa [show i+(j+1)=i+1+j by omega]at this
  obtain⟨ho,hi⟩:=hl 0 o (by simp)
  rw[Nat.add_zero]at ho hi;simp only[mg,zW]at h;split at h
  ·rename_i hc;simp only[af,Bool.not_eq_true']at hc;obtain⟨⟨hal,hsel⟩,hm⟩:=hc;split at h
   ·rename_i t hop;split at h
    ·rename_i z hz;rw[j5]at h;split at h
     ·rename_i sl2 hp;have hL:L i=true:=(hs i hsel).elim id fun h=>absurd hi h
      obtain⟨ρ',fps',M2⟩:=M.ZK hC hf hB ho hi hal hm hL ha1 hop hz hp;obtain⟨m',σ',ρ'',fps'',r1,r2,r3,r4⟩:=pH hC hf hB ha1 l (i+1) _ _ ρ' fps' hl' hs M2 h;refine⟨m',σ',ρ'',fps'',r1,r2,fun x hx=>r3 x (fB.2 (.inl hx)),fun x hx=>?_⟩
      rcases r4 x hx with h|h
      ·rcases fB.1 h with h|rfl
       ·exact .inl h
       ·exact .inr ⟨o,ho,hal⟩
      ·exact .inr h
     ·exact h.elim
    ·exact h.elim
   ·exact h.elim
  ·exact pH hC hf hB ha1 l (i+1) m U J fps hl' hs M h
theorem tf.aae[Fen]{ro:Option Nat}{next:Act->World->Prop}{Q:Exit->Act->World->Prop}(hf:sI opsA ds d a1)(M:tf C opsA ds d a1 B rs0 ρs w0 F0 m U L J fps a b w gb){i:Nat}{o:Oper}(ho:opsA[i]? =some o)(hi:i<d)(hfl:kZ o=true)(hm:m.testBit i=true)(hL:L i=false)
  (hanc:∀k,(bh ds i).testBit k=true->L k=true) (hd:ro≠none->fe o) (hn:∀a' w',tf C opsA ds d a1 B rs0 ρs w0 F0 m U (ins L i) J fps a' b w' gb->next a' w'):o.wpIn (FF C.P ro) 0 C.P a w next Q:=by
 obtain⟨v,e1,e2⟩:=M.val i o ho hfl hm hL
 have hop:∀y∈o.op.operands,a.eval y=b.eval y:=fun y hy=>M.near.eval fun t e=>by
  subst e;rintro⟨i',o',h1,h2,h3,h4⟩
  have:=hanc i' (hf.opnd i o t hi ho hy i' o' (M.ml i' h3).1 h1 h2);rw[h4]at this;simp at this
 have hcnd:Wm w0 F0 rs0 (Uj a1 B rs0 i) J U.res w:=⟨J,fps,U.res,M.rep.2.1,Good.refl _ _,fun y hy=>by
  unfold Uj at hy;split at hy
  ·rename_i ha;rw[M.ph0 ⟨i,ha,hL⟩]
  ·exact M.prt y hy⟩
 refine Bi (.inl hfl) hd (e2 a w hop hcnd) fun v' w' ⟨hv,hw⟩=>hn _ _ ?_
 subst hv;have insF:∀{j},ins L i j=false->L j=false:=fun h=>by unfold ins at h;simp at h;exact h.2
 have insT:∀{j},ins L i j=true->j=i\/L j=true:=fun h=>by unfold ins at h;simpa using h
 refine⟨⟨M.rep.1,M.rep.2.1.below hw,M.rep.2.2⟩,M.tE,⟨by rw[put_defers];exact M.near.1,by rw[qx];exact M.near.2.1,fun t ht=>?_⟩,fun j hj=>?_,fun j hj=>?_,M.mdn,fun j o' hj hfl' hmj hLj=>M.val j o' hj hfl' hmj (insF hLj),fun j o' hjd hj hal hmj=>?_,fun j k h1 h2 h3 h4 h5 h6=>?_,M.prt,fun⟨x,h1,h2⟩=>M.ph0 ⟨x,h1,insF h2⟩⟩
 ·by_cases e:o.dst=some t
  ·rw[gn,<-e1,e];exact yP M.near.2.1
  ·rw[gn,rZ e];refine M.near.2.2 t fun⟨i',o',h1,h2,h3,h4⟩=>ht ⟨i',o',h1,h2,h3,?_⟩
   unfold ins
   have:i'≠i:=fun e'=>by
    simp_all
   simp[this,h4]
 ·rcases insT hj with rfl|h
  ·exact⟨hi,.inl hm⟩
  ·exact M.lm j h
 ·have:=M.ml j hj;exact⟨this.1,this.2.imp (fun h=>by simp[ins,h]) id⟩
 ·obtain⟨u1,u2⟩:=M.alc j o' hjd hj hal hmj;refine⟨u1,fun hl=>?_⟩
  rcases insT hl with rfl|h
  ·rw[hm]at hmj;simp at hmj
  ·obtain⟨t,z,f1,f2,f3,f4,f5,f6⟩:=u2 h;exact⟨t,z,f1,f2,f3,by rw[hw.block _ (Array.getElem?_eq_some_iff.1 f4).1];exact f4,f5,f6⟩
 ·have h7:L j=true:=(insT h3).elim (fun e=>by rw[e,hm]at h5;simp at h5) id
  have h8:L k=true:=(insT h4).elim (fun e=>by rw[e,hm]at h6;simp at h6) id
  exact M.inj j k h1 h2 h7 h8 h5 h6
theorem tf.aaq[Fen]{ro:Option Nat}{next:Act->World->Prop}{Q:Exit->Act->World->Prop}(hC:C.Sound)(hf:sI opsA ds d a1)(M:tf C opsA ds d a1 B rs0 ρs w0 F0 m U L J fps a b w gb){i:Nat}{o:Oper}(ho:opsA[i]? =some o)(hi:i<d)(hal:nq (bh ds i) o=true)(hL:L i=false)
  (hz:alZ C o=true) (hd:ro≠none->fe o) (hn:∀a' b' w' gb',tf C opsA ds d a1 B rs0 ρs w0 F0 m U (ins L i) J fps a' b' w' gb'->next a' w'):o.wpIn (FF C.P ro) 0 C.P a w next Q:=by
 obtain⟨hg,⟨t0,hdst⟩,⟨t,hop⟩,_⟩:=rT hal
 have hm:m.testBit i=false:=by
  cases h:m.testBit i with
  |false=>rfl
  |true=>
   rcases(M.ml i h).2 with h'|h'
   ·rw[hL]at h';simp at h'
   ·exact(Uq h' ⟨o,ho,hal⟩).elim
 obtain⟨z,hz⟩:∃z,C.Z t=some z:=by
  unfold alZ at hz;rw[hop]at hz;simp only at hz;split at hz
  ·rename_i z hz';exact⟨z,hz'⟩
  ·simp at hz
 obtain⟨_,_,_,hz3,_,_⟩:=hC.z t z hz;have hno:¬known U.res U.res.length:=fun h=>by have:=aW h;omega
 have hy:=(mK (a:=b) (o:=o) (q:=none) (x:= .lp U.res.length 0) (new:= [.blk t z]) (nid:=U.res.length) (ch:= []) hC (by rw[hop];simp[BF,hz]) M.rep.1 M.rep.2.1 rfl trivial (fun k hk=>by
  simp only[List.length_singleton,Nat.lt_one_iff]at hk;subst hk;exact hno)).1
 have he:execOp a.eval o=execOp b.eval o:=by simp[execOp,hop]
 have hy':Yields C.P o a w (qO (known U.res) J U.res.length (.lp U.res.length 0) [.blk t z] w0 F0 w):=by
  unfold Yields at hy⊢;rw[he];exact hy
 refine Bi (.inr ⟨_,hal⟩) hd hy' fun v w' ⟨ρ',⟨hw,hag,fp,g1,g2⟩,hv,_⟩=>?_
 have g0:=g1 0 (by simp)
 simp only[aN,Nat.add_zero]at g0;obtain⟨⟨_,_,g3,g4⟩,g5⟩:=g0;obtain⟨g6,g7⟩:=g5 _ g3;rw[dL (N:=fun _=>False) (J:=Env.zero) (fun _ h=>h.elim) z hz3]at g4
 have hv:v= .pointer (some ⟨ρ'.num U.res.length,0,none⟩):=by rw[hv];simp[den]
 generalize ρ'.num U.res.length=g at *
 subst hv;have nd:∀j o',opsA[j]? =some o'->j≠i->∀t,o.dst=some t->o'.dst=some t->False:=fun j o' hj hne t ht e=>hne (hf.sr j i o' o t hj ho e ht)
 have insF:∀{j},ins L i j=false->L j=false:=fun h=>by unfold ins at h;simp at h;exact h.2
 have insT:∀{j},ins L i j=true->j=i\/L j=true:=fun h=>by unfold ins at h;simpa using h
 have hund:=(M.alc i o hi ho hal hm).1
 refine hn _ (b.put o.dst (.pointer (some ⟨g,0,none⟩))) w' (fun j=>if j=i then g else gb j) ⟨⟨M.rep.1.W6 hund,M.rep.2.1.below hw,by rw[put_defers];exact M.rep.2.2.1,M.rep.2.2.2⟩,M.tE,(M.near.mono fun t ⟨i',o',e1,e2,e3,e4⟩=>⟨i',o',e1,e2,e3,by
  have:=tf.ne e3 hm;simp[ins,this,e4]⟩).put _ _,fun j hj=>?_,fun j hj=>?_,M.mdn,fun j o' hj hfl' hmj hLj=>?_,fun j o' hjd hj hal' hmj=>?_,fun j k h1 h2 h3 h4 h5 h6 h7=>?_,M.prt,fun⟨x,h1,h2⟩=>M.ph0 ⟨x,h1,insF h2⟩⟩
 ·rcases insT hj with rfl|h
  ·exact⟨hi,.inr ⟨o,ho,hal⟩⟩
  ·exact M.lm j h
 ·have:=M.ml j hj;exact⟨this.1,this.2.imp (fun h=>by simp[ins,h]) id⟩
 ·obtain⟨v',e1,e2⟩:=M.val j o' hj hfl' hmj (insF hLj);refine⟨v',?_,e2.mono (M.H4 hf ho hi hm (gn _ _ _) (M.ml j hmj).1 hj (.inl hmj)) fun _ h=>h⟩
  rw[gn,mE (nd j o' hj (tf.ne hmj hm)),e1]
 ·obtain⟨u1,u2⟩:=M.alc j o' hjd hj hal' hmj;refine⟨u1,fun hl=>?_⟩
  by_cases e:j=i
  ·subst e;rw[ho]at hj;simp only[aa]at hj;subst hj;refine⟨t,z,hop,hz,?_,?_,?_,fun k hk=>?_⟩
   ·simp only[if_true];rw[gn,zJ]
   ·simpa using g4
   ·simp only[if_true];exact Nat.le_trans M.rep.2.1.old g6
   ·simp only[if_true];intro h;have:=M.rep.2.1.lt k g hk h;omega
  ·have hl:L j=true:=(insT hl).elim (fun h=>absurd h e) id
   obtain⟨t',z',f1,f2,f3,f4,f5,f6⟩:=u2 hl;simp only[aq e];exact⟨t',z',f1,f2,by rw[gn,mE (nd j o' hj e),f3],by rw[hw.block _ (Array.getElem?_eq_some_iff.1 f4).1];exact f4,f5,f6⟩
 ·have blt:∀x,V8 opsA ds x->ins L i x=true->m.testBit x=false->x≠i->gb x<w.heap.size/\L x=true:=fun x ⟨ox,hx1,hx2⟩ hx3 hx4 hx5=>by
   have hl:L x=true:=(insT hx3).elim (fun h=>absurd h hx5) id
   obtain⟨t',z',f1,f2,f3,f4,f5,f6⟩:=(M.alc x ox (M.lm x hl).1 hx1 hx2 hx4).2 hl;exact⟨(Array.getElem?_eq_some_iff.1 f4).1,hl⟩
  by_cases e:j=i<;>by_cases e':k=i
  ·rw[e,e']
  ·grind
  ·grind
  ·simp only[aq e,aq e']at h7;exact M.inj j k h1 h2 (blt j h1 h3 h5 e).2 (blt k h2 h4 h6 e').2 h5 h6 h7
theorem C1{sl:List S}:∀{l:List (Nat×Oper)},X1 ds m sl l=true->∀p∈l,nq (bh ds p.1) p.2=true->m.testBit p.1=false->∀t,p.2.dst=some t->b9 sl t= .und
 | [],_,p,hp,_,_,_,_=>by simp at hp
 |q::l,h,p,hp,h1,h2,t,ht=>by
  simp only[X1,af]at h;rcases List.mem_cons.1 hp with rfl|hp
  ·grind
  ·exact C1 h.2 p hp h1 h2 t ht
theorem nD:∀(l:List (Option Nat×Nat)) (sl:List S),(pK l sl).length=sl.length
 | [],sl=>rfl
 | (some t,_)::l,sl=>by simp only[pK];rw[nD l,gM]
 | (none,_)::l,sl=>by simp only[pK];exact nD l sl
theorem qB(t:Nat):∀(l:List (Option Nat×Nat)) (sl:List S),b9 (pK l sl) t= .und\/(b9 (pK l sl) t=b9 sl t/\∀m,(some t,m)∉l)
 | [],sl=> .inr ⟨rfl,by simp⟩
 | (none,m)::l,sl=>by
   simp_all[pK,qB]
 | (some e,m)::l,sl=>by
   simp only[pK];rcases qB t l (sset sl e .und)with h|⟨h1,h2⟩
   ·exact .inl h
   ·grind[gh,ku]
theorem tf.aak[Fen]{H:Handler}{ro:Option Nat}{next:Act->World->Prop}{K:Out->St->Prop}{kk:Nat->St->Prop}{xs:List (Nat×Oper)}(hC:C.Sound)(hH:H.OK C.P)(hf:sI opsA ds d a1)(hB:∀i,B.contains i=true->∃ty c,aN rs0 i= .blk ty c)
  (M:tf C opsA ds d a1 B rs0 ρs w0 F0 m U L J fps a b w gb) {i:Nat} {o:Oper} (ho:opsA[i]? =some o) (hi:i<d) (hto:kX o=true) (hm:m.testBit i=false) (hancL:∀k,(bh ds i).testBit k=true->L k=true) (hanc:(bh ds i ||| m)=m) (hd:ro≠none->fe o)
  (hxs:∀j o',j<d->opsA[j]? =some o'->(j,o')∈xs)
  (h:AK C H noY opsA.toList o {U with res:=Eo B 0 U.res}
    (fun σ'=>match mL B 0 U.res σ'.res with
     |some r=>if X1 ds (m ||| 2^i) σ'.slots xs then kk (m ||| 2^i) {σ' with res:=r}else False
     |none=>False)
    (fun v σ'=>match mL B 0 U.res σ'.res with
     |some r=>lY σ'.slots fun sl=>Cj (ds.take d) sl fun sl=>K (.pan v) {σ' with slots:=sl,res:=r}
     |none=>False))
  (hn:∀σ' ρ' fps' a' b' w',kk (m ||| 2^i) σ'->tf C opsA ds d a1 B rs0 ρs w0 F0 (m ||| 2^i) σ' (ins L i) ρ' fps' a' b' w' gb->next a' w'):o.wpIn (FF C.P ro) 0 C.P a w next (jh ρs rs0 w0 F0 K):=by
 have hkn:∀{j},B.contains j=true->aN U.res j=aN rs0 j:=fun{j} hj=>by
  obtain⟨ty,c,e⟩:=hB j hj;exact M.prt j ⟨aW (by rw[e];simp),.inl hj⟩
 have hB':∀j,B.contains j=true->∃ty c,aN U.res j= .blk ty c:=fun j hj=>by rw[hkn hj];exact hB j hj
 have h2:=M.rep.2.1.aaj hB';have hro:=u7 (res:=U.res) hB'
 have hrep:kS J _ {U with res:=Eo B 0 U.res} w (F1 B U.res fps) b w:=
  ⟨M.rep.1.env (fun j hj=>(hro j).2 hj) (Env.agree.refl _ _),h2,M.rep.2.2.1,fun d hd=>⟨cD (fun j hj=>(hro j).2 hj) _ (M.rep.2.2.2 d hd).1,cD (fun j hj=>(hro j).2 hj) _ (M.rep.2.2.2 d hd).2⟩⟩
 have key:=tc (ro:=ro)
  (next:=fun b' w'=>∃σ' ρ' fps',(match mL B 0 U.res σ'.res with
       |some r=>if X1 ds (m ||| 2^i) σ'.slots xs then kk (m ||| 2^i) {σ' with res:=r}else False
       |none=>False)/\kS ρ' fps' σ' w (F1 B U.res fps) b' w'/\Good J (Eo B 0 U.res) ρ' σ'.res)
  (Q:=fun e b' w'=>∃v σ' ρ' fps',e= .panic [{v:=den ρ' v,recovered:=false}]/\(match mL B 0 U.res σ'.res with
      |some r=>lY σ'.slots fun sl=>Cj (ds.take d) sl fun sl=>K (.pan v) {σ' with slots:=sl,res:=r}
      |none=>False)/\ok (known σ'.res) v/\kS ρ' fps' σ' w (F1 B U.res fps) b' w'/\Good J (Eo B 0 U.res) ρ' σ'.res)
  hC hH XM hd h hrep (fun σ' ρ' fps' a' w' k1 k2 k3=>⟨σ',ρ',fps',k1,k2,k3⟩) (fun v σ' ρ' fps' w' k1 k2 k3 k4=>⟨v,σ',ρ',fps',rfl,k1,k2,k3,k4⟩)
 have hw:=key.2;rw[ar (by simp[Region.wanted,(xi hto).1])]at hw
 have insF:∀{j},ins L i j=false->j≠i/\L j=false:=fun h=>by unfold ins at h;simpa using h
 have insT:∀{j},ins L i j=true->j=i\/L j=true:=fun h=>by unfold ins at h;simpa using h
 refine opc (N:=NS opsA m L) hto M.near (fun t ht=>?_) ?_ ?_ ?_ hw
 ·rintro⟨i',o',h1,h2,h3,h4⟩
  have:=hancL i' (hf.opnd i o t hi ho ht i' o' (M.ml i' h3).1 h1 h2);rw[h4]at this;simp at this
 ·rintro a' b' w' hab ⟨u,hu⟩ ⟨σ',ρ',fps',k1,k2,k3⟩
  split at k1
  case h_2=>exact k1.elim
  rename_i r hr;split at k1
  case isFalse=>exact k1.elim
  rename_i halu;obtain⟨fps'',q1,q2,q3,q4,q5⟩:=bn.Zp M.rep.2.1 hB' k2.2.1 k3 hr;rw[gn]at hu;have nd:∀j o',opsA[j]? =some o'->j≠i->∀t,o.dst=some t->o'.dst=some t->False:=fun j o' hj hne t ht e=>hne (hf.sr j i o' o t hj ho e ht)
  refine hn _ ρ' fps'' a' b' w' k1 ⟨⟨k2.1.env q3 (Env.agree.refl _ _),q1,k2.2.2.1,fun d hd=>⟨cD q3 _ (k2.2.2.2 d hd).1,cD q3 _ (k2.2.2.2 d hd).2⟩⟩,M.tE.trans q2,
   hab.mono fun t ⟨i',o',e1,e2,e3,e4⟩=>⟨i',o',e1,e2,fB.2 (.inl e3),by have:=tf.ne e3 hm;simp[ins,this,e4]⟩,fun j hj=>?_,fun j hj=>?_,fun j k hj hk=>?_,fun j o' hj hfl' hmj hLj=>?_,fun j o' hjd hj hal hmj=>?_,
   fun j k h1 h2 h3 h4 h5 h6=>?_,fun k hk=>?_,fun⟨x,h1,h2⟩=>?_⟩
  ·rcases insT hj with rfl|h
   ·exact⟨hi,.inl (fB.2 (.inr rfl))⟩
   ·have:=M.lm j h;exact⟨this.1,this.2.imp (fun h=>fB.2 (.inl h)) id⟩
  ·rcases fB.1 hj with h|rfl
   ·have:=M.ml j h;exact⟨this.1,this.2.imp (fun h=>by simp[ins,h]) id⟩
   ·exact⟨hi,.inl (by simp[ins])⟩
  ·rcases fB.1 hj with h|rfl
   ·exact fB.2 (.inl (M.mdn j k h hk))
   ·exact fB.2 (.inl (OJ hanc hk))
  ·obtain⟨hne,hLj⟩:=insF hLj;have hmj:m.testBit j=true:=(fB.1 hmj).elim id fun e=>absurd e hne
   obtain⟨v',e1,e2⟩:=M.val j o' hj hfl' hmj hLj;refine⟨v',?_,e2.mono (M.H4 hf ho hi hm hu (M.ml j hmj).1 hj (.inl hmj)) fun _ h=>h.mono q2⟩
   rw[hu,mE (nd j o' hj hne),e1]
  ·have hal':=C1 halu (j,o') (hxs j o' hjd hj) hal hmj;obtain⟨hmj,hne⟩:=jE hmj;obtain⟨u1,u2⟩:=M.alc j o' hjd hj hal hmj;refine⟨hal',fun hl=>?_⟩
   have hl:L j=true:=(insT hl).elim (fun e=>absurd e hne) id
   obtain⟨t,z,f1,f2,f3,f4,f5,f6⟩:=u2 hl;obtain⟨p1,p2⟩:=q4 _ (Array.getElem?_eq_some_iff.1 f4).1 f6;exact⟨t,z,f1,f2,by rw[hu,mE (nd j o' hj hne),f3],by rw[p1];exact f4,f5,p2⟩
  ·obtain⟨h5,n5⟩:=jE h5;obtain⟨h6,n6⟩:=jE h6;exact M.inj j k h1 h2 ((insT h3).elim (fun e=>absurd e n5) id) ((insT h4).elim (fun e=>absurd e n6) id) h5 h6
  ·have h1:=M.prt k hk
   have:sk B U.res k:=by
    have:known U.res k:=by unfold known;rw[h1];exact yu hB hk
    exact⟨aW this,by rw[h1];exact hk.2⟩
   show aN r k=_
   rw[q5 k this,h1]
  ·obtain⟨_,h2⟩:=insF h2;rw[hancL x (hf.ta1 i o hi ho hto x h1)]at h2;simp at h2
 ·rintro c w' ⟨v,σ',ρ',fps',e,k1,k2,k3,k4⟩
  split at k1
  case h_2=>exact k1.elim
  rename_i r hr;obtain⟨fps'',q1,q2,q3,q4,q5⟩:=bn.Zp M.rep.2.1 hB' k3.2.1 k4 hr;rw[lC,wS]at k1;refine⟨.pan v,_,ρ',fps'',⟨Exit.panic.inj e,cZ q3 _ k2⟩,k1,⟨⟨?_,fun t=>?_⟩,q1,?_,fun d hd=>⟨cD q3 _ (k3.2.2.2 d hd).1,cD q3 _ (k3.2.2.2 d hd).2⟩⟩,M.tE.trans q2⟩
  ·rw[M.near.2.1];show _=(pK (ds.take d) (clean σ'.slots)).length
   rw[nD];exact k3.1.clean.1
  ·show gy _ _ _ _ (b9 (pK (ds.take d) (clean σ'.slots)) t)
   rcases qB t (ds.take d) (clean σ'.slots)with h|⟨h1,h2⟩
   ·rw[h];trivial
   ·rw[h1,M.near.2.2 t]
    ·exact(gy.plain (lL σ'.slots t) (k3.1.clean.2 t)).env q3 (Env.agree.refl _ _)
    ·rintro⟨i',o',e1,e2,e3,e4⟩
     refine h2 (bh ds i') (List.mem_of_getElem? (i:=i') ?_);rw[List.getElem?_take,ar (M.ml i' e3).1,hf.dsat i' o' e1,e2]
  ·rw[M.near.1];exact k3.2.2.1
 ·rintro⟨a',w',v,σ',ρ',fps',e,_⟩
  simp at e
end
theorem zS:∀(l:List Oper) (i:Nat),(mg i l).Pairwise fun p q=>p.1<q.1
 | [],i=>by simp[mg]
 |o::l,i=>by
  simp only[mg,List.pairwise_cons];exact⟨fun p hp=>by have:=(yA.1 hp).1;omega,zS l (i+1)⟩
theorem vp{opsA:Array Oper}{d:Nat}{p:Nat×Oper}:p∈mg 0 (opsA.toList.take d)↔p.1<d/\opsA[p.1]? =some p.2:=by
 grind[yA]
theorem xa{opsA:Array Oper}{d j:Nat}{o:Oper}(h:(opsA.toList.take d)[j]? =some o):opsA[0+j]? =some o/\0+j<d:=by
 grind
theorem GW{opsA:Array Oper}{ds:List (Option Nat×Nat)}{i:Nat}{o:Oper}(ho:opsA[i]? =some o)(ht:kX o=true)(h:V8 opsA ds i):False:=by
 obtain⟨o',h1,h2⟩:=h;rw[ho]at h1;simp only[aa]at h1;subst h1;obtain⟨_,_,⟨t,h3⟩,_⟩:=rT h2;exact(xi ht).2.1 t h3
theorem Kv{opsA:Array Oper}{i:Nat}{o:Oper}(ho:opsA[i]? =some o)(ht:kX o=true)(h:ZL opsA i):False:=by
 obtain⟨o',h1,h2⟩:=h;rw[ho]at h1;simp only[aa]at h1;subst h1;rw[(xi ht).2.2]at h2;simp at h2
theorem tV.eq{N:Nat->Prop}{a b:Act}(h:tV N a b)(hN:∀t,¬N t):a=b:=by
 obtain⟨ta,da⟩:=a;obtain⟨tb,db⟩:=b;obtain⟨h1,h2,h3⟩:=h;simp only at h1 h2;subst h1;congr 1
 refine Array.ext h2 fun i g1 g2=>?_
 have:=h3 i (hN i);simpa[Array.getD_eq_getD_getElem?,g1,g2]using this
section
variable {C:Ctx} {opsA:Array Oper} {ds:List (Option Nat×Nat)} {d a1:Nat} {B:List Nat} {rs0:List aQ} {ρs:Env} {w0:World} {F0:Nat->Prop}
theorem R3[Fen]{H:Handler}{Y:ej}{K:Out->St->Prop}{ro:Option Nat}(hC:C.Sound)(hH:H.OK C.P)(hY:Fb C.P Y ρs rs0)(hf:sI opsA ds d a1)(hB:∀i,B.contains i=true->∃ty c,aN rs0 i= .blk ty c)(hnd:ro≠none->∀o∈opsA.toList,fe o)
  (P:Hx opsA ds) (hz:∀i o,i<d->opsA[i]? =some o->alZ C o=true):
  ∀(fuel:Nat) (listed:Array Bool) (m:Nat) (U:St) (J:Env) (fps:Nat->Nat->Prop) (a b:Act) (w:World) (gb:Nat->Nat) (nn:Nat) (l:List (Nat×Oper)),listed.size=opsA.size->FO listed opsA.size<=fuel->
   tf C opsA ds d a1 B rs0 ρs w0 F0 m U (fun k=>listed.getD k false) J fps a b w gb->
   (∀i,i<d->ZL opsA i->(∀k,(bh ds i).testBit k=true->m.testBit k=true)->m.testBit i=true)->
   (∀i k,listed.getD i false=true->(bh ds i).testBit k=true->listed.getD k false=true)->
   (∀p∈l,p.1<d/\opsA[p.1]? =some p.2/\kX p.2=true/\m.testBit p.1=false)->(∀i o,i<d->opsA[i]? =some o->kX o=true->m.testBit i=false->(i,o)∈l)->(l.Pairwise fun p q=>p.1<q.1)->
   EA C H Y opsA.toList ds d a1 B (nF B 0 rs0) rs0 (mg 0 (opsA.toList.take d)) K nn l m U->
   wpAnyIn (FF C.P ro) 0 C.P .any opsA (jh ρs rs0 w0 F0 K) fuel listed a w:=by
 intro fuel
 have hfin:∀(fuel:Nat) (listed:Array Bool) (m:Nat) (U:St) (J:Env) (fps:Nat->Nat->Prop) (a b:Act) (w:World) (gb:Nat->Nat) (nn:Nat) (l:List (Nat×Oper)),listed.size=opsA.size->FO listed opsA.size<=fuel->
   tf C opsA ds d a1 B rs0 ρs w0 F0 m U (fun k=>listed.getD k false) J fps a b w gb->(∀k,k<d->listed.getD k false=true)->
   (∀p∈l,p.1<d/\opsA[p.1]? =some p.2/\kX p.2=true/\m.testBit p.1=false)->
   EA C H Y opsA.toList ds d a1 B (nF B 0 rs0) rs0 (mg 0 (opsA.toList.take d)) K nn l m U->
   wpAnyIn (FF C.P ro) 0 C.P .any opsA (jh ρs rs0 w0 F0 K) fuel listed a w:=by
  intro fuel listed m U J fps a b w gb nn l hs hc M hall hl1 h;cases l with
  |cons p l=>
   exfalso
   obtain⟨h1,h2,h3,h4⟩:=hl1 p (by simp)
   rcases(M.lm p.1 (hall p.1 h1)).2 with h|h
   ·rw[h4]at h;simp at h
   ·exact GW h2 h3 h
  |nil=>
   simp only[EA]at h
   obtain⟨m',σ',ρ',fps',M',hk,_,_⟩:=pH hC hf hB (fun x hx=>hall x (hf.a1d x hx)) (opsA.toList.take d) 0 m U J fps (fun j o hj=>xa hj) (fun j _=>by
    by_cases hj:j<d
    ·exact .inl (hall j hj)
    ·exact .inr hj) M h
   split at hk
   case isFalse=>exact hk.elim
   have hab:a=b:=M'.near.eq fun t ⟨i,o,e1,e2,e3,e4⟩=>by
    have e4:listed.getD i false=false:=e4;rw[hall i (M'.ml i e3).1]at e4;simp at e4
   have hrep:=M'.rep;rw[<-hab]at hrep;refine vd hC hH hY hnd (fun i o h=>⟨(P.at h).2.1,(P.at h).2.2.1.1,(P.at h).2.2.1.2⟩) d (fun i h1 h2=>hf.tail i h1 (by omega)) (opsA.toList.drop d) d listed fuel σ' ρ' fps' a w rfl (Nat.le_refl _) hs hc hall (fun k hk=>?_) hk hrep M'.tE
   cases hh:listed.getD k false with
   |false=>rfl
   |true=>have:=(M.lm k hh).1;omega
 induction fuel with
 |zero=>
  intro listed m U J fps a b w gb nn l hs hc M HP down hl1 hl2 hl3 h;refine hfin 0 listed m U J fps a b w gb nn l hs hc M (fun k hk=>?_) hl1 h
  cases h:listed.getD k false with
  |true=>rfl
  |false=>
   have:=nL (n:=opsA.size) hs (by have:=hf.dle;omega) h
   omega
 |succ fuel ih=>
  intro listed m U J fps a b w gb nn l hs hc M HP down hl1 hl2 hl3 h;by_cases hall:∀k,k<d->listed.getD k false=true
  ·exact hfin _ listed m U J fps a b w gb nn l hs hc M hall hl1 h
  have hdle:=hf.dle
  have hready:∀i∈Region.ready .any opsA listed,i<d/\listed.getD i false=false/\∀k,(bh ds i).testBit k=true->listed.getD k false=true:=by
   intro i hi;obtain⟨h1,o,h2,h3⟩:=mem_ready.1 hi;have hisz:i<opsA.size:=(Array.getElem?_eq_some_iff.1 h2).1;obtain⟨p2,p3,p4⟩:=hf.at' i o h2
   have hL:∀k,(bh ds i).testBit k=true->listed.getD k false=true:=fun k hk=>by
    grind
   refine⟨?_,?_,hL⟩
   ·rcases Nat.lt_or_ge i d with h|h
    ·exact h
    ·exact absurd (fun k hk=>hL k ((hf.tail i hisz h k).2 (by omega))) hall
   ·simp_all
  have hnil:Region.ready .any opsA listed≠ []:=by
   intro hnil
   have hmin:∀i,i<d->listed.getD i false=true:=by
    intro i;induction i using Nat.strongRecOn with
    |_ i ihi=>
     intro hi;cases h:listed.getD i false with
     |true=>rfl
     |false=>
      have hio:opsA[i]? =some (opsA[i]'(by omega)):=Array.getElem?_eq_getElem (by omega)
      obtain⟨p2,p3,p4⟩:=hf.at' i _ hio
      have:i∈Region.ready .any opsA listed:=by
       rw[mem_ready];refine⟨?_,_,hio,fun e e1 e2=>?_⟩
       ·grind
       ·have:=p3.2 e e1 e2;exact ihi e.on this (by omega)
      rw[hnil]at this;simp at this
   exact hall hmin
  refine⟨fun h=>absurd h hnil,fun i hi=>?_⟩
  obtain⟨hid,hLi,hanc⟩:=hready i hi;obtain⟨_,o,ho,_⟩:=mem_ready.1 hi;have hisz:i<listed.size:=by omega
  have hdo:ro≠none->fe o:=fun hr=>hnd hr o (by rw[<-Array.getElem?_toList]at ho;exact List.mem_of_getElem? ho)
  have hcn:=nL (n:=opsA.size) hs (by omega) hLi
  have down':∀j k,(listed.setIfInBounds i true).getD j false=true->(bh ds j).testBit k=true->(listed.setIfInBounds i true).getD k false=true:=fun j k hj hk=>by
   have e:=Ax (i:=i) hisz;have hj':ins (fun k=>listed.getD k false) i j=true:=by rw[<-congrFun e j];exact hj
   have:ins (fun k=>listed.getD k false) i k=true:=by
    grind[ins]
   rw[<-congrFun e k]at this;exact this
  unfold wpOpIn;simp only[ho]
  have hng:o.guard=none:=by
   rcases hf.kind i o hid ho with⟨h,_⟩|⟨_,h|h⟩
   ·exact(BI h).1
   ·exact(rT h).1
   ·exact(xi h).1
  rw[ar (by simp[Region.wanted,hng])]
  rcases hf.kind i o hid ho with⟨hfl,hna⟩|⟨hnf,hal|hto⟩
  ·have hmi:m.testBit i=true:=HP i hid ⟨o,ho,hfl⟩ fun k hk=>by
    rcases(M.lm k (hanc k hk)).2 with h|⟨o',h1,h2⟩
    ·exact h
    ·obtain⟨x,x1,x2⟩:=hna k o' hk h1 h2;rcases(M.lm x (hanc x x1)).2 with h|⟨o2,g1,g2⟩
     ·exact M.mdn x k h x2
     ·rw[(rT g2).2.2.2]at x2;simp at x2
   refine M.aae hf ho hid hfl hmi hLi hanc hdo fun a' w' M'=>?_
   exact ih _ m U J fps a' b w' gb nn l (by simpa using hs) (by omega) (by rw[Ax hisz];exact M') HP down' hl1 hl2 hl3 h
  ·refine M.aaq hC hf ho hid hal hLi (hz i o hid ho) hdo fun a' b' w' gb' M'=>?_
   exact ih _ m U J fps a' b' w' gb' nn l (by simpa using hs) (by omega) (by rw[Ax hisz];exact M') HP down' hl1 hl2 hl3 h
  ·have hmi:m.testBit i=false:=by
    cases hh:m.testBit i with
    |false=>rfl
    |true=>
     rcases(M.ml i hh).2 with h'|h'
     ·rw[hLi]at h';simp at h'
     ·exact(Kv ho hto h').elim
   have hmem:=hl2 i o hid ho hto hmi;cases l with
   |nil=>simp at hmem
   |cons p0 l0=>
   cases nn with
   |zero=>simp only[EA]at h
   |succ nn=>
    simp only[EA]at h;obtain⟨l,hpk⟩:=Ex hmem;obtain⟨_,hsub,_,hall'⟩:=vh hpk;have hni:=DC (R:=fun p q:Nat×Oper=>p.1<q.1) (fun x=>Nat.lt_irrefl _) hl3 hpk
    have hidx:∀q∈l,q.1≠i:=fun q hq e=>by
     grind
    replace h:=Jy h ((i,o),l) (List.mem_filter.2 ⟨hpk,by
     rw[List.all_eq_true];intro y hy;obtain⟨q1,q2,q3,q4⟩:=hl1 y hy;simp only[Bool.not_eq_true'];cases hb:Nat.testBit (bh ds i) y.1 with
     |false=>rfl
     |true=>
      exfalso
      rcases(M.lm y.1 (hanc y.1 hb)).2 with h|h
      ·rw[q4]at h;simp at h
      ·exact GW q2 q3 h⟩)
    obtain⟨m',σ',ρ',fps',M',hk,mono,mnew⟩:=pH hC hf hB (fun x hx=>hanc x (hf.ta1 i o hid ho hto x hx)) (opsA.toList.take d) 0 m U J fps (fun j o hj=>xa hj) (fun j hj=> .inl (hanc j hj)) M h
    split at hk
    case isFalse=>exact hk.elim
    rename_i hcond;have hcond:(bh ds i ||| m')=m':=by simpa using hcond
    have hmi':m'.testBit i=false:=by
     grind[GW]
    refine M'.aak (H:=H) (K:=K) (xs:=mg 0 (opsA.toList.take d)) (kk:=fun m2 σ2=>xX C ds a1 (nF B 0 rs0) rs0 false (mg 0 (opsA.toList.take d)) m2 σ2.slots fun m sl=>EA C H Y opsA.toList ds d a1 B (nF B 0 rs0) rs0 (mg 0 (opsA.toList.take d)) K nn l m {σ2 with slots:=sl})
     hC hH hf hB ho hid hto hmi' hanc hcond hdo (fun j o' hj ho'=>vp.2 ⟨hj,ho'⟩) hk fun σ2 ρ2 fps2 a2 b2 w2 hk2 M2=>?_
    obtain⟨m3,sl3,b3,M3,hk3,mono3,mnew3,clo3⟩:=oY (U:=σ2) hC hf hB (by simp) (opsA.toList.take d) 0 _ σ2.slots b2 (fun j o hj=>xa hj) M2 hk2
    have old3:∀j o',opsA[j]? =some o'->kX o'=true->m3.testBit j=true->m.testBit j=true\/j=i:=fun j o' hj ht hm3=>by
     grind[GW,Kv]
    refine ih _ m3 _ ρ2 fps2 a2 b3 w2 gb nn l (by simpa using hs) (by omega) (by rw[Ax hisz];exact M3) (fun j hj hflj hx=>?_) down' (fun q hq=>?_) (fun j o' hj ho' ht hm3=>?_) (hl3.sublist hsub) hk3
    ·obtain⟨o',h1,h2⟩:=hflj;have:=clo3 j o' (by rw[List.getElem?_take,ar hj];simpa using h1) h2 (by rw[Nat.zero_add];exact hx)
     rwa [Nat.zero_add]at this
    ·grind
    ·grind
theorem JL[Fen]{H:Handler}{Y:ej}{U:St}{K:Out->St->Prop}{ro:Option Nat}{J:Env}{fps:Nat->Nat->Prop}{a:Act}{w:World}(hC:C.Sound)(hH:H.OK C.P)(hY:Fb C.P Y J U.res)(hnd:ro≠none->∀o∈opsA.toList,fe o)(h:Wg C H Y opsA.toList ds U K)(hr:kS J fps U w0 F0 a w):
  wpAnyIn (FF C.P ro) 0 C.P .any opsA (jh J U.res w0 F0 K) opsA.size (Array.replicate opsA.size false) a {w with drawn:=w.drawn+1}:=by
 unfold Wg at h;simp only[lC,wS,D0]at h;generalize hd:oH ds 0 opsA.toList=d at h
 generalize ha1:Iv ds (List.filter (fun p=>kX p.2) (mg 0 (List.take d opsA.toList)))=a1 at h
 split at h
 case isFalse=>exact h.elim
 rename_i hc;simp only[af]at hc;obtain⟨⟨⟨h1,h2⟩,h3⟩,h4⟩:=hc;generalize LS C ds a1 U.res (mg 0 (List.take d opsA.toList)) 0 (pK (ds.take d) (clean U.slots))=B at h
 split at h
 case isFalse=>exact h.elim
 rename_i hBb
 have hB:∀i,B.contains i=true->∃ty c,aN U.res i= .blk ty c:=fun i hi=>by
  rw[List.all_eq_true]at hBb;have:=hBb i (by simpa using hi)
  unfold UF at this;split at this
  ·rename_i ty c e;exact⟨ty,c,e⟩
  ·simp at this
 have P:Hx opsA ds:=⟨h1⟩;obtain⟨j,hdj,hjl,htl⟩:=sE (ds:=ds) (l:=opsA.toList) (i:=0);rw[hd,Nat.zero_add]at hdj;subst hdj;rw[Nat.zero_add]at htl;have hdle:d<=opsA.size:=by simpa using hjl
 have hM:=yi h3;have htk:∀{i:Nat} {o:Oper},i<d->opsA[i]? =some o->(opsA.toList.take d)[i]? =some o:=fun hi ho=>by rw[List.getElem?_take,ar hi];simpa using ho
 have htk2:∀{i k:Nat} {o:Oper},k<d->opsA[k]? =some o->(opsA.toList.take d)[k]? =some o:=fun hi ho=>htk hi ho
 have kind:∀i o,i<d->opsA[i]? =some o->(kZ o=true/\∀k o',(bh ds i).testBit k=true->opsA[k]? =some o'->nq (bh ds k) o'=true->∃x,(bh ds i).testBit x=true/\(bh ds x).testBit k=true)\/
  (kZ o=false/\(nq (bh ds i) o=true\/kX o=true)):=fun i o hi ho=>by
  have:=(hM i o (htk hi ho)).1;rw[Nat.zero_add]at this;rcases this with⟨g1,g2⟩|⟨g1,g2|g2⟩
  ·refine .inl ⟨g1,fun k o' hk ho' hal=>g2 k hk ?_⟩
   have hki:=(P.at ho).2.1 k hk;have hb:=DN (p:=fun i o=>nq (bh ds i) o) (i:=0) (htk (i:=k) (by omega) ho') (by simpa using hal)
   rwa [Nat.zero_add]at hb
  ·exact .inr ⟨g1,.inl g2⟩
  ·exact .inr ⟨g1,.inr g2⟩
 have hds:∀{i:Nat} {o:Oper},i<d->opsA[i]? =some o->(ds.take d)[i]? =some (o.dst,bh ds i):=fun hi ho=>by rw[List.getElem?_take,ar hi];exact(P.at ho).1
 have hts:∀i o,i<d->opsA[i]? =some o->kX o=true->(i,o)∈List.filter (fun p=>kX p.2) (mg 0 (List.take d opsA.toList)):=fun i o hi ho ht=>List.mem_filter.2 ⟨vp.2 ⟨hi,ho⟩,ht⟩
 have hts':∀p∈List.filter (fun p:Nat×Oper=>kX p.2) (mg 0 (List.take d opsA.toList)),p.1<d/\opsA[p.1]? =some p.2/\kX p.2=true:=fun p hp=>by
  obtain⟨g1,g2⟩:=List.mem_filter.1 hp;obtain⟨g3,g4⟩:=vp.1 g1;exact⟨g3,g4,g2⟩
 have htp:(List.filter (fun p:Nat×Oper=>kX p.2) (mg 0 (List.take d opsA.toList))).Pairwise fun p q=>p.1<q.1:=(zS _ _).filter _
 generalize List.filter (fun p:Nat×Oper=>kX p.2) (mg 0 (List.take d opsA.toList))=ts at *
 have hf:sI opsA ds d a1:=by
  refine⟨fun i o ho=>(P.at ho).2,fun i o ho=>(P.at ho).1,kind,fun i o t hi ho ht k o' hk ho' hdst=>?_,fun i j o o' t hi hj ht ht'=>?_,fun i hi hdi k=>?_,fun i o hi ho ht k hk=>?_,fun k hk=>?_,hdle⟩
  ·grind
  ·have e1:=(P.at hi).1;have e2:=(P.at hj).1;rw[ht]at e1;rw[ht']at e2;exact oS h2 e1 e2
  ·have:=rq htl (i-d) (by simp;omega)
   rw[show d+(i-d)=i by omega]at this
   rw[this];simp[pW,Nat.testBit_two_pow_sub_one]
  ·subst ha1;exact yF hk _ (hts i o hi ho ht)
  ·subst ha1;cases ts with
   |nil=>simp[Iv]at hk
   |cons p l=>
    obtain⟨q1,q2,q3⟩:=hts' p (by simp)
    have:=(P.at q2).2.1 k (yF hk p (by simp))
    omega
 have hget:∀k,(Array.replicate opsA.size false).getD k false=false:=fun k=>by
  simp only[Array.getD_eq_getD_getElem?,Array.getElem?_replicate];split<;>rfl
 obtain⟨r1,r2,r3,r4⟩:=hr
 have M0:tf C opsA ds d a1 B U.res J w0 F0 0 {U with slots:=pK (ds.take d) (clean U.slots)} (fun k=>(Array.replicate opsA.size false).getD k false) J fps a a {w with drawn:=w.drawn+1} (fun _=>0):=by
  refine⟨⟨⟨by rw[r1.clean.1];exact(nD _ _).symm,fun t=>?_⟩,⟨r2.sub,r2.old,r2.os,r2.tape,r2.output,fun i hi=>aQ.fz _ (r2.holds i hi) fun _ _=>rfl,r2.lt,r2.disj,r2.inF,r2.same⟩,r3,r4⟩,Good.refl _ _,⟨rfl,rfl,fun _ _=>rfl⟩,fun i hi=>?_,fun i hi=>?_,fun i k hi=>?_,fun i o ho _ hm=>?_,fun i o hi ho hal _=>⟨fun t ht=>?_,fun hl=>?_⟩,fun i j _ _ hl=>?_,fun _ _=>rfl,fun _=>rfl⟩
  ·rcases qB t (ds.take d) (clean U.slots)with h|⟨h,_⟩
   ·simp_all[gy,b9,pK,clean]
   ·show gy _ _ _ _ (b9 (pK (ds.take d) (clean U.slots)) t)
    rw[h];exact gy.plain (lL U.slots t) (r1.clean.2 t)
  ·simp only[hget]at hi;simp at hi
  ·simp at hi
  ·simp at hi
  ·simp at hm
  ·grind[b9,pK,clean,qB,bh]
  ·simp only[hget]at hl;simp at hl
  ·simp only[hget]at hl;simp at hl
 obtain⟨m,sl,b,M1,hk,_,mnew,HP⟩:=oY hC hf hB (fun _=>rfl) (opsA.toList.take d) 0 0 _ a (fun j o hj=>xa hj) M0 h
 have hcnt:FO (Array.replicate opsA.size false) opsA.size<=opsA.size:=by
  grind[FO]
 refine R3 hC hH hY hf hB hnd P (fun i o hi ho=>?_) opsA.size _ m _ J fps a b _ _ _ ts (by simp) hcnt M1 (fun i hi ⟨o,ho,hfl⟩ hx=>?_) (fun i k hi _=>by simp only[hget]at hi;simp at hi) (fun p hp=>?_) (fun i o hi ho ht _=>hts i o hi ho ht) htp hk
 ·grind
 ·simp_all
 ·grind[Kv]
def Un(C:Ctx)(H:Handler)(Y:ej)(ops:List Oper)(U:St)(K:Out->St->Prop):Prop:=NI C H Y ops U K (Wg C H Y ops (YB ops) U K)
theorem F8[Fen]{H:Handler}{Y:ej}{U:St}{K:Out->St->Prop}{id:Nat}{ro:Option Nat}{J:Env}{fps:Nat->Nat->Prop}{a:Act}{w:World}(hC:C.Sound)(hH:H.OK C.P)(hY:Fb C.P Y J U.res)(hnd:ro≠none->∀o∈opsA.toList,fe o)(h:Un C H Y opsA.toList U K)(hr:kS J fps U w0 F0 a w):
  (Code.region id opsA true).wpIn (FF C.P ro) 0 C.P (jh J U.res w0 F0 K) a w:=
 E6 hC hH hY hnd h hr fun h=>JL hC hH hY hnd h hr
end
end Go.Sx
