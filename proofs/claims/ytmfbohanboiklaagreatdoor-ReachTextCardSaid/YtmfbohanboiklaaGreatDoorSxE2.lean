import Derived.Test.YtmfbohanboiklaaGreatDoorSxE
set_option linter.unusedSimpArgs false
set_option linter.unusedVariables false
namespace Go.Sx
open Go.RowKit (Below)
theorem lq{C:Ctx}{ops:List Oper}{ds:List (Option Nat×Nat)}{sl:List S}{res:List aI}{st:Bool}{hid:List (Nat×Nat)}:∀(l:List Oper) (i:Nat) (done drs:List Dr) (rest:List Oper),ib C ops ds sl res st hid i l done=(drs,rest)->done.length=i->ops.drop i=l->
  (∀k d,done[k]? =some d->∃o,ops[k]? =some o/\fw C ops ds sl res st hid (done.take k) k o=some d)->
  rest=ops.drop drs.length/\drs.length<=ops.length/\∀k d,drs[k]? =some d->∃o,ops[k]? =some o/\fw C ops ds sl res st hid (drs.take k) k o=some d
 | [],i,done,drs,rest,h,hi,hl,hp=>by
   simp only[ib,ae]at h;obtain⟨rfl,rfl⟩:=h;refine⟨by rw[hi];exact hl.symm,?_,hp⟩
   rcases Nat.lt_or_ge done.length (ops.length+1)with h|h
   ·omega
   ·have hne:0<done.length:=by omega
    have:=hp (done.length-1) (done[done.length-1]'(by omega)) (List.getElem?_eq_getElem (by omega))
    obtain⟨o,ho,_⟩:=this;have:=(List.getElem?_eq_some_iff.1 ho).1;omega
 |o::l,i,done,drs,rest,h,hi,hl,hp=>by
  simp only[ib]at h
  have hoi:ops[i]? =some o:=by
   have:(ops.drop i)[0]? =some o:=by rw[hl];rfl
   simpa using this
  split at h
  ·rename_i d hd;refine lq l (i+1) (done++ [d]) drs rest h (by simp[hi]) ?_ fun k e hk=>?_
   ·have:(ops.drop i).drop 1=l:=by rw[hl];rfl
    rw[<-this,List.drop_drop]
   ·grind
  ·grind
theorem pI:∀{drs:List Dr} {k:Prop},o7 drs k->(∀(i:Nat) (d:Dr),drs[i]? =some d->(d.g=true->bq d.q))/\k
 | [],k,h=>⟨by simp,h⟩
 |d::l,k,h=>by
  have key:(d.g=true->bq d.q)/\o7 l k:=by
   grind[o7,xt,gm]
  obtain⟨h1,h2⟩:=pI key.2;refine⟨fun i e hi=>?_,h2⟩
  cases i with
  |zero=>simp only[List.getElem?_cons_zero,aa]at hi;subst hi;exact key.1
  |succ i=>exact h1 i e (by simpa using hi)
def xw(listed:Array Bool)(n:Nat):Nat:=((List.range n).filter fun k=> !listed.getD k false).length
theorem filter_lt{α:Type}{p q:α->Bool}:∀{l:List α},(∀x∈l,q x=true->p x=true)->(∃x∈l,p x=true/\q x=false)->(l.filter q).length<(l.filter p).length
 | [],_,⟨x,hx,_⟩=>by simp at hx
 |y::l,h,⟨x,hx,h1,h2⟩=>by
  have hle:∀(l:List α),(∀x∈l,q x=true->p x=true)->(l.filter q).length<=(l.filter p).length:=by
   intro l;induction l with
   |nil=>simp
   |cons z l ih=>
    intro hh;have:=ih fun x hx=>hh x (by simp[hx])
    have hz:=hh z (by simp)
    simp only[List.filter_cons];cases hq:q z<;>cases hp:p z<;>simp_all<;>omega
  have h':∀x∈l,q x=true->p x=true:=fun x hx=>h x (by simp[hx])
  simp only[List.filter_cons];rcases List.mem_cons.1 hx with rfl|hx
  ·grind
  ·have ih:=filter_lt h' ⟨x,hx,h1,h2⟩;have hy:=h y (by simp)
   cases hq:q y<;>cases hp:p y<;>simp_all<;>omega
theorem eP{listed:Array Bool}{n i:Nat}(hs:listed.size=n)(hi:i<n)(hl:listed.getD i false=false):xw (listed.setIfInBounds i true) n<xw listed n:=by
 refine filter_lt (fun x hx h=>?_) ⟨i,List.mem_range.2 hi,?_,?_⟩
 ·by_cases e:i=x
  ·subst e;simpa using hl
  ·rw[getD_set_ne false e]at h;exact h
 ·simp only[hl,Bool.not_false]
 ·simp[hs,hi]
theorem um{listed:Array Bool}{i:Nat}(hi:i<listed.size):(fun k=>(listed.setIfInBounds i true).getD k false)=ins (fun k=>listed.getD k false) i:=by
 funext k
 unfold ins;by_cases e:k=i
 ·subst e;simp[hi]
 ·rw[getD_set_ne false (Ne.symm e)];simp[e]
theorem ue{p:Nat->Bool}:∀(l:List Dr) (j:Nat),(∀k,k<l.length->p (j+k)=true)->dN p j l=dN (fun _=>true) j l
 | [],j,_=>by simp[dN]
 |d::l,j,h=>by
  rw[j3,j3,ue l (j+1) fun k hk=>by rw[show j+1+k=j+(k+1) by omega];exact h (k+1) (by simpa using hk)]
  have:=h 0 (by simp)
  simp only[Nat.add_zero]at this;rw[au this,au rfl]
theorem vg{p:Nat->Bool}:∀(l:List Dr) (j:Nat) (R:List aI),(∀k,k<l.length->p (j+k)=true)->Ay p j l R=Ay (fun _=>true) j l R
 | [],j,R,_=>rfl
 |d::l,j,R,h=>by
  have h0:=h 0 (by simp)
  simp only[Nat.add_zero]at h0;have h':∀k,k<l.length->p (j+1+k)=true:=fun k hk=>by rw[show j+1+k=j+(k+1) by omega];exact h (k+1) (by simpa using hk)
  simp only[Ay,h0,if_true];split
  ·exact vg l _ R h'
  ·exact vg l _ _ h'
section
variable {C:Ctx} {opsA:Array Oper} {ds:List (Option Nat×Nat)} {sl:List S} {res:List aI} {drs:List Dr} {defs:List (Nat×List V×List V)} {ρ0 J:Env} {w0 w:World} {F0:Nat->Prop} {fps:Nat->Nat->Prop} {a:Act}
 {Q:Exit->Act->World->Prop}
theorem lH[Fen]{ro:Option Nat}(hQ:¬LetsOut Q)(hnd:ro≠none->∀o∈opsA.toList,bZ o)(hC:C.Sound)(P:b8 C opsA.toList ds sl res drs)(hq:∀(i:Nat) (d:Dr),drs[i]? =some d->(d.g=true->bq d.q))(hle:drs.length<=opsA.size)
  (htail:∀i,i<opsA.size->drs.length<i->∀k,k<drs.length->(aM ds i).testBit k=true)
  (hlate:∀(fuel:Nat) (listed:Array Bool) J fps a w,listed.size=opsA.size->xw listed opsA.size<=fuel+1->drs.length<opsA.size->(∀k,drs.length<=k->listed.getD k false=false)->(∃k,k<drs.length/\listed.getD k false=false)->
   (∀k,(aM ds drs.length).testBit k=true->listed.getD k false=true)->Inv ds sl res drs defs ρ0 w0 F0 (fun k=>listed.getD k false) J fps a w->
   wpOpIn (FF C.P ro) 0 C.P opsA Q drs.length (wpAnyIn (FF C.P ro) 0 C.P .any opsA Q fuel (listed.setIfInBounds drs.length true)) a w)
  (hfin:∀(fuel:Nat) (listed:Array Bool) J fps a w,listed.size=opsA.size->xw listed opsA.size<=fuel->(∀k,k<drs.length->listed.getD k false=true)->(∀k,drs.length<=k->listed.getD k false=false)->
   Inv ds sl res drs defs ρ0 w0 F0 (fun k=>listed.getD k false) J fps a w->wpAnyIn (FF C.P ro) 0 C.P .any opsA Q fuel listed a w):
  ∀(fuel:Nat) (listed:Array Bool) J fps a w,listed.size=opsA.size->xw listed opsA.size<=fuel->(∀k,drs.length<=k->listed.getD k false=false)->
   Inv ds sl res drs defs ρ0 w0 F0 (fun k=>listed.getD k false) J fps a w->wpAnyIn (FF C.P ro) 0 C.P .any opsA Q fuel listed a w:=by
 intro fuel;induction fuel with
 |zero=>
  intro listed J fps a w hs hc hno I;refine hfin 0 listed J fps a w hs hc (fun k hk=>?_) hno I
  cases h:listed.getD k false with
  |true=>rfl
  |false=>
   have:=eP (n:=opsA.size) hs (by omega) h
   omega
 |succ fuel ih=>
  intro listed J fps a w hs hc hno I;by_cases hall:∀k,k<drs.length->listed.getD k false=true
  ·exact hfin _ listed J fps a w hs hc hall hno I
  ·have hready:∀i∈Region.ready .any opsA listed,(i<drs.length\/(i=drs.length/\i<opsA.size))/\listed.getD i false=false/\∀k,(aM ds i).testBit k=true->listed.getD k false=true:=by
    intro i hi;obtain⟨h1,o,h2,h3⟩:=mem_ready.1 hi;have hisz:i<opsA.size:=(Array.getElem?_eq_some_iff.1 h2).1;obtain⟨p1,p2,p3,p4⟩:=P.at h2
    have hL:∀k,(aM ds i).testBit k=true->listed.getD k false=true:=fun k hk=>by
     obtain⟨e,e1,e2,e3⟩:=(p3 k).1 hk;have:=h3 e e1 e2;rcases e3 with rfl|e3
     ·exact this
     ·exact I.down e.on k this e3
    refine⟨?_,?_,hL⟩
    ·grind
    ·simp_all
   have hnil:Region.ready .any opsA listed≠ []:=by
    intro hnil
    have hmin:∀i,i<drs.length->listed.getD i false=true:=by
     intro i;induction i using Nat.strongRecOn with
     |_ i ihi=>
      intro hi;cases h:listed.getD i false with
      |true=>rfl
      |false=>
       have hio:opsA[i]? =some (opsA[i]'(by omega)):=Array.getElem?_eq_getElem (by omega)
       obtain⟨p1,p2,p3,p4⟩:=P.at hio
       have:i∈Region.ready .any opsA listed:=by
        rw[mem_ready];refine⟨?_,_,hio,fun e e1 e2=>?_⟩
        ·grind
        ·grind
       rw[hnil]at this;simp at this
    exact hall hmin
   refine⟨fun h=>absurd h hnil,fun i hi=>?_⟩
   obtain⟨h1,h2,h3⟩:=hready i hi;rcases h1 with h1|⟨h1,h1'⟩
   case inr=>
    subst h1
    have hex:∃k,k<drs.length/\listed.getD k false=false:=by
     simp_all
    exact hlate fuel listed J fps a w hs hc h1' hno hex h3 I
   have hisz:i<listed.size:=by omega
   refine Inv.step rfl hnd hC P hq I (d:=drs[i]'h1) (List.getElem?_eq_getElem h1) h2 h3 fun ρ' fps' a' w' I'=>?_
   refine ih (listed.setIfInBounds i true) ρ' fps' a' w' (by simpa using hs) ?_ ?_ ?_
   ·have:=eP (n:=opsA.size) hs (by omega) h2
    omega
   ·intro k hk;rw[getD_set_ne false (by omega)]
    exact hno k hk
   ·rw[um hisz];exact I'
theorem Inv.rep{listed:Array Bool}(P:b8 C opsA.toList ds sl res drs)(hall:∀k,k<drs.length->listed.getD k false=true)(hno:∀k,drs.length<=k->listed.getD k false=false)
  (I:Inv ds sl res drs defs ρ0 w0 F0 (fun k=>listed.getD k false) J fps a w):
  fq J fps {slots:=b7 (eX drs.length) drs.length 0 ds (oS drs) sl,res:=nN res drs,defs:=defs} w0 F0 a w/\Good ρ0 res J (nN res drs):=by
 have hbit:∀k,(eX drs.length).testBit k=true↔k<drs.length:=fun k=>by simp[eX,Nat.testBit_two_pow_sub_one]
 have hv:=P.view I (anc:=eX drs.length) (i:=drs.length) (Nat.le_refl _) (fun k hk=>⟨hall k ((hbit k).1 hk),(hbit k).1 hk⟩) (fun k r hk hr=>by
   have hk':=(hbit k).1 hk;obtain⟨_,_,hpl,_⟩:=P.plan;obtain⟨o,ho,_⟩:=hpl k _ (List.getElem?_eq_getElem hk');have:=(P.at (i:=k) (o:=o) (by simpa using ho)).2.1 r hr
   exact(hbit r).2 (by omega)) (fun k m t _ h2 _=>hno k h2)
 rw[List.take_length]at hv;have hviews:dN (fun k=>listed.getD k false) 0 drs=dN (fun _=>true) 0 drs:=ue drs 0 fun k hk=>by simpa using hall k hk
 have hAV:AV res drs (fun k=>listed.getD k false)=nN res drs:=by
  unfold AV nN;rw[hviews,lP];exact vg drs 0 _ fun k hk=>by simpa using hall k hk
 have hheap:=I.heap;rw[hAV]at hheap
 have hknown:∀id,KL res drs (fun k=>listed.getD k false) id->known (nN res drs) id:=by
  intro id h;rw[<-hAV]
  have hlt:id<res.length+lens drs:=by
   rcases h with h|⟨h1,j,y,h2,h3⟩
   ·have:=aK h;omega
   ·rw[c8]at h2;obtain⟨⟨d,hd,hy⟩,h4⟩:=h2;have:=lens_take_le drs drs.length j y ⟨d,hd,hy⟩ (List.getElem?_eq_some_iff.1 hd).1;rw[List.take_length]at this;omega
  unfold known;rw[jO hlt];cases hl:bQ (fun k=>listed.getD k false) id 0 drs with
  |some r=>
   obtain⟨k,d',e1,e2,_⟩:=dT _ _ hl;obtain⟨_,ty,c,e⟩:=iS P k d' _ e1 e2;simp only at e;simp[e]
  |none=>
   simp only[Option.getD_none];rw[ew];rcases h with h|⟨h1,j,y,h2,h3⟩
   ·rw[au (aK h)];exact h
   ·rw[ar (by omega),h2]
    simp only[h3,if_true];obtain⟨⟨d,hd,hy⟩,_⟩:=(c8 drs _ j y).1 h2;rw[hd];exact I.newk j d hd h3 y hy
 refine⟨⟨hv.env hknown (Env.agree.refl _ _),hheap.ki hknown,I.defs.1,fun d hd=>?_⟩,I.agree,fun i hi=>hknown i (.inl hi)⟩
 have:=I.defs.2 d hd;exact⟨br (fun i hi=>hknown i (.inl hi)) _ this.1,br (fun i hi=>hknown i (.inl hi)) _ this.2⟩
theorem gk(l:List S)(t:Nat):(∃x,bh (clean l) t= .v x)\/bh (clean l) t= .und:=by
 rw[fh];split
 ·exact .inl ⟨_,rfl⟩
 ·exact .inr rfl
theorem mO[Fen]{P:Program}{ro:Option Nat}{md:Region.Mode}{ops:Array Oper}{listed:Array Bool}(h:Region.ready md ops listed= [])(hq:Q .normal a w):∀fuel,wpAnyIn (FF C.P ro) 0 P md ops Q fuel listed a w
 |0=>⟨h,hq⟩
 |fuel+1=>⟨fun _=>hq,fun i hi=>by rw[h]at hi;simp at hi⟩
theorem iG{ds:List (Option Nat×Nat)}:∀{l:List Oper} {i:Nat},jL ds i l=true->∀j,j<l.length->aM ds (i+j)=eX (i+j)
 | [],i,_,j,hj=>by simp at hj
 |o::l,i,h,j,hj=>by
  simp only[jL,ah,aj]at h;cases j with
  |zero=>exact h.1
  |succ j=>
   have:=iG h.2 j (by simpa using hj)
   rwa [show i+1+j=i+(j+1) by omega]at this
theorem jy[Fen]{H:Handler}{Y:bJ}{K:Out->St->Prop}{ro:Option Nat}{res0:List aI}(hC:C.Sound)(hH:H.OK C.P)(hY:vn C.P Y ρ0 res0)(hnd:ro≠none->∀o∈opsA.toList,bZ o)
  (P:LS opsA ds) (n:Nat) (hbit:∀i,i<opsA.size->n<i->∀k,(aM ds i).testBit k=true↔k<i):
  ∀(l:List Oper) (m:Nat) (listed:Array Bool) (fuel:Nat) (U:St) J fps a w,opsA.toList.drop m=l->n<=m->listed.size=opsA.size->xw listed opsA.size<=fuel->(∀k,k<m->listed.getD k false=true)->(∀k,m<=k->listed.getD k false=false)->
   kg C H Y opsA.toList l U K->fq J fps U w0 F0 a w->Good ρ0 res0 J U.res->wpAnyIn (FF C.P ro) 0 C.P .any opsA (dr ρ0 res0 w0 F0 K) fuel listed a w
 | [],m,listed,fuel,U,J,fps,a,w,hl,hnm,hs,hc,hall,hno,h,hr,hg=>by
   have hm:opsA.size<=m:=by
    have:=congrArg List.length hl;simp at this;omega
   simp only[kg,fl]at h;refine mO ?_ ⟨.norm,_,J,fps,trivial,h,⟨hr.1.clean,hr.2.1,hr.2.2.1,hr.2.2.2⟩,hg⟩ fuel;cases hrd:Region.ready .any opsA listed with
   |nil=>rfl
   |cons i l=>
    obtain⟨h1,o,h2,_⟩:=mem_ready.1 (show i∈Region.ready .any opsA listed by rw[hrd];simp)
    have hisz:i<opsA.size:=(Array.getElem?_eq_some_iff.1 h2).1;have:=hall i (by omega)
    have hlt:i<listed.size:=by omega
    simp only[Array.getD_eq_getD_getElem?,Array.getElem?_eq_getElem hlt,Option.getD_some]at this h1;rw[this]at h1;simp at h1
 |o::l,m,listed,fuel,U,J,fps,a,w,hl,hnm,hs,hc,hall,hno,h,hr,hg=>by
  have hom:opsA[m]? =some o:=by
   have:(opsA.toList.drop m)[0]? =some o:=by rw[hl];rfl
   simpa using this
  have hmsz:m<opsA.size:=(Array.getElem?_eq_some_iff.1 hom).1
  have hl':opsA.toList.drop (m+1)=l:=by
   have:(opsA.toList.drop m).drop 1=l:=by rw[hl];rfl
   rw[<-this,List.drop_drop]
  have hml:listed.getD m false=false:=hno _ (Nat.le_refl _);have hmlt:m<listed.size:=by omega
  cases fuel with
  |zero=>
   have:=eP (n:=opsA.size) hs hmsz hml;omega
  |succ fuel=>
   obtain⟨p2,p3,p4⟩:=P _ _ hom
   have hmr:m∈Region.ready .any opsA listed:=by
    rw[mem_ready];refine⟨?_,o,hom,fun e e1 e2=>hall _ (p4 e e1 e2)⟩
    simpa[Array.getD_eq_getD_getElem?,hmlt]using hml
   refine⟨fun hnil=>(by rw[hnil]at hmr;simp at hmr),fun i hi=>?_⟩
   obtain⟨h1,o',h2,h3⟩:=mem_ready.1 hi;have hisz:i<opsA.size:=(Array.getElem?_eq_some_iff.1 h2).1
   have him:i=m:=by
    rcases Nat.lt_trichotomy i m with h|h|h
    ·grind
    ·exact h
    ·exfalso
     obtain⟨q2,q3,q4⟩:=P _ _ h2;obtain⟨e,e1,e2,e3⟩:=q3 m ((hbit i hisz (by omega) m).2 h)
     have he:=h3 e e1 e2;rcases e3 with rfl|e3
     ·rw[hml]at he;simp at he
     ·have hlt:m<e.on:=by
       have hi':=q4 e e1 e2;obtain⟨r2,_⟩:=P e.on (opsA[e.on]'(by omega)) (Array.getElem?_eq_getElem (by omega))
       exact r2 m e3
      rw[hno _ (by omega)]at he;simp at he
   subst him;have hoo:o'=o:=by rw[hom]at h2;exact(Option.some.inj h2).symm
   subst hoo
   have key:=fP (ro:=ro) (next:=wpAnyIn (FF C.P ro) 0 C.P .any opsA (dr ρ0 res0 w0 F0 K) fuel (listed.setIfInBounds i true)) (Q:=dr ρ0 res0 w0 F0 K) hC hH (hY.later hg)
    (fun hr=>hnd hr o' (by rw[<-Array.getElem?_toList]at hom;exact List.mem_of_getElem? hom)) h hr
    (fun σ' ρ'' fps'' a'' w'' hK' hr' hg'=>jy hC hH hY hnd P n hbit l (i+1) (listed.setIfInBounds i true) fuel σ' ρ'' fps'' a'' w'' hl' (by omega) (by simpa using hs)
     (by have:=eP (n:=opsA.size) hs hmsz hml;omega)
     (fun k hk=>by
      by_cases e:i=k
      ·subst e;simp[hmlt]
      ·rw[getD_set_ne false e];exact hall k (by omega))
     (fun k hk=>by rw[getD_set_ne false (by omega)];exact hno k (by omega)) hK' hr' (hg.trans hg'))
    (fun v σ' ρ'' fps'' w'' hK' hv hr' hg'=>⟨.pan v,σ',ρ'',fps'',⟨rfl,hv⟩,hK',hr',hg.trans hg'⟩)
   unfold wpOpIn;simp only[hom];split
   ·rename_i hw;rw[au hw]at key;exact key.2
   ·rename_i hw;rw[ar hw]at key;exact key
theorem HJ{A:Array Bool}{i:Nat}(hi:i<A.size):A[i]?.getD true=A.getD i false:=by simp[Array.getD_eq_getD_getElem?,hi]
theorem ph{o:Operand}{d:Nat}{a:Act}{v:Value}(h:oq o d=true):(a.put (some d) v).eval o=a.eval o:=by
 cases o<;>try rfl
 rename_i s;simp only[oq,Bool.not_eq_true',beq_eq_false_iff_ne]at h;simp only[Act.eval,Act.put];simp[Ne.symm h]
theorem sI{ops:List Oper}{ds:List (Option Nat×Nat)}{n:Nat}{o:Oper}{l:List Oper}(h:n9 ops ds n o l=true):∃(e:Nat) (oe:Oper) (y:Operand) (ix d t:Nat) (p x:Operand),
  ops[e]? =some oe/\(oe.op= .extract y ix/\oe.dst=some d/\oe.guard=none)/\(o.op= .store t p x/\o.dst=none/\o.guard=none)/\oq p d=true/\oq x d=true/\oq y d=true/\e<n/\(aM ds n).testBit e=false/\(∀k,(aM ds n).testBit k=true↔k<n/\k≠e)/\jL ds (n+1) l=true:=by
 unfold n9 at h;split at h
 case h_2=>simp at h
 rename_i t p x hop;split at h
 case h_2=>simp at h
 rename_i hdst;split at h
 case h_2=>simp at h
 rename_i hgu;split at h
 case h_2=>simp at h
 rename_i e he;split at h
 case h_2=>simp at h
 rename_i oe hoe;split at h
 case h_2=>simp at h
 rename_i y ix hoy;split at h
 case h_2=>simp at h
 rename_i d hd;split at h
 case h_2=>simp at h
 rename_i hge;simp only[ah]at h;have hmem:=List.mem_of_find?_eq_some he;have hpr:=List.find?_some he;simp only[ah,Bool.not_eq_true',aj]at hpr;obtain⟨p1,p2⟩:=hpr;have hlt:=List.mem_range.1 hmem;refine⟨e,oe,y,ix,d,t,p,x,hoe,⟨hoy,hd,hge⟩,⟨hop,hdst,hgu⟩,h.1.1.1,h.1.1.2,h.1.2,hlt,p1,fun k=>?_,h.2⟩
 have hk:=congrArg (fun m=>Nat.testBit m k) p2
 simp only[Nat.testBit_or,eX,Nat.testBit_two_pow_sub_one,Nat.testBit_two_pow]at hk;constructor
 ·grind
 ·grind
theorem wX{P:Program}{tu v:Value}{ix:Nat}{w w':World}(h:(Instr.extract tu ix).run P w= .ok v w'):w'=w/\∀w2,(Instr.extract tu ix).run P w2= .ok v w2:=by
 cases tu<;>simp[Instr.extract]at h⊢
 rename_i vs;cases hv:vs[ix]? with
 |none=>simp[hv]at h
 |some z=>
  simp[hv]at h⊢;exact⟨h.2.symm,h.1⟩
theorem Ao[Fen]{H:Handler}{Y:bJ}{K:Out->St->Prop}{ro:Option Nat}(hC:C.Sound)(hH:H.OK C.P)(hY:vn C.P Y ρ0 res)(hnd:ro≠none->∀o∈opsA.toList,bZ o)
  (P:b8 C opsA.toList ds sl res drs) (hq:∀(i:Nat) (d:Dr),drs[i]? =some d->(d.g=true->bq d.q)) {e:Nat} {oe on:Oper} {y:Operand} {ix d t:Nat} {p x:Operand} {l:List Oper} (hoe:opsA[e]? =some oe) (he:oe.op= .extract y ix/\oe.dst=some d/\oe.guard=none)
  (hon:on.op= .store t p x/\on.dst=none/\on.guard=none) (hdrop:opsA.toList.drop drs.length=on::l) (hp:oq p d=true) (hx:oq x d=true) (hyd:oq y d=true) (hel:e<drs.length) (_hef:(aM ds drs.length).testBit e=false)
  (hanc:∀k,(aM ds drs.length).testBit k=true↔k<drs.length/\k≠e) (hbit:∀i,i<opsA.size->drs.length<i->∀k,(aM ds i).testBit k=true↔k<i)
  (htl:kg C H Y opsA.toList (on::l) {slots:=b7 (eX drs.length) drs.length 0 ds (oS drs) sl,res:=nN res drs,defs:=defs} K):
  ∀(fuel:Nat) (listed:Array Bool) J fps a w,listed.size=opsA.size->xw listed opsA.size<=fuel+1->drs.length<opsA.size->(∀k,drs.length<=k->listed.getD k false=false)->(∃k,k<drs.length/\listed.getD k false=false)->
   (∀k,(aM ds drs.length).testBit k=true->listed.getD k false=true)->Inv ds sl res drs defs ρ0 w0 F0 (fun k=>listed.getD k false) J fps a w->
   wpOpIn (FF C.P ro) 0 C.P opsA (dr ρ0 res w0 F0 K) drs.length (wpAnyIn (FF C.P ro) 0 C.P .any opsA (dr ρ0 res w0 F0 K) fuel (listed.setIfInBounds drs.length true)) a w:=by
 intro fuel listed J fps a w hs hc hsl hno hex hL I;have hle:∀k,k<drs.length->k≠e->listed.getD k false=true:=fun k h1 h2=>hL k ((hanc k).2 ⟨h1,h2⟩)
 have hlf:listed.getD e false=false:=by
  grind
 have hesz:e<opsA.size:=by omega
 have heall:∀k,(aM ds e).testBit k=true->listed.getD k false=true:=fun k hk=>by
  have:=(P.at hoe).2.1 k hk;exact hle k (by omega) (by omega)
 have hst:=Inv.step (K:=fun a' w'=>∃ρ' fps',Inv ds sl res drs defs ρ0 w0 F0 (ins (fun k=>listed.getD k false) e) ρ' fps' a' w') (Q:=fun _ _ _=>False) (ro:=ro) rfl hnd hC P hq I (d:=drs[e]'hel) (List.getElem?_eq_getElem hel) hlf heall fun ρ' fps' a' w' I'=>⟨ρ',fps',I'⟩
 unfold wpOpIn at hst;rw[hoe]at hst;simp only at hst;rw[au (by simp[Region.wanted,he.2.2])]at hst
 have hst:=hst.2
 have hsemE:oe.semAt (FF C.P ro).round a.eval=execOp a.eval oe:=by
  show oe.semAt ro a.eval=_
  cases ro with
  |none=>exact Oper.semAt_none _ _
  |some l=>exact Oper.semAt_some l _ oe (by simp[he.1])
 rw[hsemE]at hst;have hexec:execOp a.eval oe=(Instr.extract (a.eval y) ix>>= fun v=>pure (Next.value v)):=by simp only[execOp,he.1]
 have hrunE:∃v,(∀w2,(execOp a.eval oe).run C.P w2= .ok (.value v) w2)/\∃ρ' fps',Inv ds sl res drs defs ρ0 w0 F0 (ins (fun k=>listed.getD k false) e) ρ' fps' (a.put (some d) v) w:=by
  rw[hexec]at hst⊢;cases hr:(Instr.extract (a.eval y) ix).run C.P w with
  |ok v w'=>
   obtain⟨rfl,hall⟩:=wX hr;rw[Sem.run_bind,hr]at hst;simp only[Result.andThen_ok,Sem.run_pure,Oper.uponIn,he.2.1]at hst;exact⟨v,fun w2=>by rw[Sem.run_bind,hall w2];rfl,hst⟩
  |halt r w'=>
   exfalso
   rw[Sem.run_bind,hr]at hst;cases r<;>simp[Result.andThen,Oper.uponIn]at hst
 obtain⟨v,hrun,ρ1,fps1,I1⟩:=hrunE;have hL1:ins (fun k=>listed.getD k false) e=fun k=>(listed.setIfInBounds e true).getD k false:=(um (by omega)).symm
 rw[hL1]at I1
 obtain⟨hrep,hgood⟩:=I1.rep P (fun k hk=>by
  by_cases h:e=k
  ·subst h;simp[show e<listed.size by omega]
  ·rw[getD_set_ne false h];exact hle k hk (Ne.symm h)) (fun k hk=>by rw[getD_set_ne false (by omega)];exact hno k hk)
 have hno':opsA[drs.length]? =some on:=by
  have:(opsA.toList.drop drs.length)[0]? =some on:=by rw[hdrop];rfl
  simpa using this
 have hl':opsA.toList.drop (drs.length+1)=l:=by
  have:(opsA.toList.drop drs.length).drop 1=l:=by rw[hdrop];rfl
  rw[<-this,List.drop_drop]
 simp only[kg]at htl
 have htl:ri C H Y opsA.toList on {slots:=b7 (eX drs.length) drs.length 0 ds (oS drs) sl,res:=nN res drs,defs:=defs} (fun σ'=>kg C H Y opsA.toList l σ' K) (fun _ _=>False):=by
  obtain⟨o1,o2,o3,o4,o5,o6⟩:=on;obtain⟨h1,h2,h3⟩:=hon;simp only at h1 h2 h3;subst h1;subst h2;subst h3;exact htl
 have hstep:=fP (ro:=ro) (w0:=w0) (F0:=F0) (next:=fun a' w'=>a'=a.put (some d) v->wpAnyIn (FF C.P ro) 0 C.P .any opsA (dr ρ0 res w0 F0 K) fuel (listed.setIfInBounds drs.length true) a w') (Q:=fun _ _ _=>False) hC hH (hY.later hgood)
  (fun hr=>hnd hr on (by rw[<-Array.getElem?_toList]at hno';exact List.mem_of_getElem? hno')) htl hrep
  (fun σ' ρ' fps' a' w' hK' hr' hg' ha'=>?_) (fun v' σ' ρ' fps' w' hK' hv hr' hg'=>?_)
 ·unfold wpOpIn;rw[hno'];simp only;have hw1:Region.wanted on (yielded opsA a.tmps)=true:=by simp[Region.wanted,hon.2.2]
  have hw2:Region.wanted on (yielded opsA (a.put (some d) v).tmps)=true:=by simp[Region.wanted,hon.2.2]
  rw[au hw1];have hstep:=hstep.2;rw[au hw2]at hstep
  have hsem:on.semAt (FF C.P ro).round a.eval=on.semAt (FF C.P ro).round (a.put (some d) v).eval:=by
   have e1:execOp a.eval on=execOp (a.put (some d) v).eval on:=by simp only[execOp,hon.1,ph hp,ph hx]
   show on.semAt ro _=on.semAt ro _
   cases ro with
   |none=>rw[Oper.semAt_none,Oper.semAt_none,e1]
   |some r=>rw[Oper.semAt_some r _ on (by simp[hon.1]),Oper.semAt_some r _ on (by simp[hon.1]),e1]
  have habS:∀f,on.about C.P w a.eval=some f->(FF C.P ro).fn f:=fun f hf=>by
   unfold Oper.about at hf;rw[hon.1]at hf;simp at hf
  unfold Oper.wpIn at hstep⊢;refine⟨habS,?_⟩;rw[hsem];have hstep:=hstep.2;generalize hres:(on.semAt (FF C.P ro).round (a.put (some d) v).eval).run C.P w=r at *
  have hsk:∀nx w2,r= .ok nx w2->nx= .skip:=by
   intro nx w2 hr;subst hr
   have e1:on.semAt (FF C.P ro).round (a.put (some d) v).eval=execOp (a.put (some d) v).eval on:=by
    show on.semAt ro _=_
    cases ro with
    |none=>rw[Oper.semAt_none]
    |some r=>rw[Oper.semAt_some r _ on (by simp[hon.1])]
   rw[e1]at hres;simp only[execOp,hon.1,Sem.run_bind]at hres;cases hs2:(Instr.storeAt t ((a.put (some d) v).eval p) ((a.put (some d) v).eval x)).run C.P w with
   |ok u w3=>rw[hs2]at hres;simp only[Result.andThen_ok,Sem.run_pure,Result.ok.injEq]at hres;exact hres.1.symm
   |halt u w3=>rw[hs2]at hres;simp[Result.andThen]at hres
  cases r with
  |ok nx w2=>
   have:=hsk nx w2 rfl;subst this;simp only[Oper.uponIn,hon.2.1,Act.put]at hstep⊢;first|exact hstep trivial|exact hstep rfl
  |halt u w2=>cases u<;>simp only[Oper.uponIn]at hstep⊢ <;>exact hstep.elim
 ·
  subst ha';have hfz:drs.length<listed.size:=by omega
  have hcn:=eP (n:=opsA.size) hs hsl (hno _ (Nat.le_refl _));cases fuel with
  |zero=>
   have:xw (listed.setIfInBounds drs.length true) opsA.size=0:=by omega
   have h2:=eP (listed:=listed.setIfInBounds drs.length true) (n:=opsA.size) (by simpa using hs) hesz (by rw[getD_set_ne false (by omega)];exact hlf)
   omega
  |succ fuel=>
   have hlee:(listed.setIfInBounds drs.length true).getD e false=false:=by rw[getD_set_ne false (by omega)];exact hlf
   have hcn2:=eP (listed:=listed.setIfInBounds drs.length true) (n:=opsA.size) (by simpa using hs) hesz hlee
   have hready:e∈Region.ready .any opsA (listed.setIfInBounds drs.length true):=by
    rw[mem_ready];refine⟨?_,oe,hoe,fun ed e1 e2=>?_⟩
    ·simp_all
    ·have h1:=(P.at hoe).2.1 ed.on (((P.at hoe).2.2.1 ed.on).2 ⟨ed,e1,e2,.inl rfl⟩);rw[getD_set_ne false (by omega)]
     exact hle _ (by omega) (by omega)
   refine⟨fun hnil=>(by rw[hnil]at hready;simp at hready),fun i hi=>?_⟩
   obtain⟨h1,o',h2,h3⟩:=mem_ready.1 hi;have hisz:i<opsA.size:=(Array.getElem?_eq_some_iff.1 h2).1
   have hie:i=e:=by
    have hif:(listed.setIfInBounds drs.length true).getD i false=false:=by
     simp_all
    rcases Nat.lt_trichotomy i drs.length with h|h|h
    ·refine Classical.byContradiction fun hne=>?_
     rw[getD_set_ne false (by omega),hle i h hne]at hif
     simp at hif
    ·subst h;simp[hfz]at hif
    ·exfalso
     obtain⟨q1,q2,q3,q4⟩:=P.at h2;obtain⟨ed,e1,e2,e3⟩:=(q3 e).1 ((hbit i hisz h e).2 (by omega))
     have hed:=h3 ed e1 e2;have hdi:=q2 ed.on ((q3 ed.on).2 ⟨ed,e1,e2,.inl rfl⟩);rcases e3 with rfl|e3
     ·rw[hlee]at hed;simp at hed
     ·obtain⟨_,r2,_,_⟩:=P.at (i:=ed.on) (o:=opsA[ed.on]'(by omega)) (Array.getElem?_eq_getElem (by omega))
      have hlt:=r2 e e3;rcases Nat.lt_trichotomy ed.on drs.length with g|g|g
      ·exact absurd ((hanc ed.on).2 ⟨g,by omega⟩) (fun hh=>by
        have:=(P.at hno').2.2.2 ed.on e hh e3;rw[_hef]at this;simp at this)
      ·rw[g]at e3;rw[_hef]at e3;simp at e3
      ·rw[getD_set_ne false (by omega),hno _ (by omega)]at hed;simp at hed
   subst hie;have hoo:o'=oe:=by rw[hoe]at h2;exact(Option.some.inj h2).symm
   subst hoo;unfold wpOpIn;rw[hoe];simp only;rw[au (by simp[Region.wanted,he.2.2])]
   refine cL (fun _ c=>by rw[he.1];simp) (fun f hf=>by unfold Oper.about at hf;rw[he.1]at hf;simp at hf) ?_
   rw[hrun w'];simp only[Oper.uponIn,he.2.1];refine jy hC hH hY hnd P.LB drs.length hbit l (drs.length+1) _ fuel σ' ρ' fps' _ w' hl' (by omega) (by simpa using hs) (by omega) (fun k hk=>?_) (fun k hk=>?_) hK' hr' (hgood.trans hg')
   ·by_cases g:i=k
    ·subst g;simp[show i<listed.size by omega]
    ·rw[getD_set_ne false g];by_cases g2:drs.length=k
     ·subst g2;simp[hfz]
     ·rw[getD_set_ne false g2];exact hle k (by omega) (Ne.symm g)
   ·rw[getD_set_ne false (by omega),getD_set_ne false (by omega)]
    exact hno k (by omega)
 ·exact hK'.elim
def gL(o:Oper)(a:Act):Option Value:=
 match o.op with
 | .move x=>some (a.eval x)
 | .assign x=>some (a.eval x)
 | .extract x ix=>match a.eval x with
   | .tuple vs=>vs[ix]?
   |_=>none
 |_=>none
def gy:List (Nat×Oper)->Act->Option Act
 | [],a=>some a
 |p::l,a=>match gL p.2 a with
  |some v=>gy l (a.put p.2.dst v)
  |none=>none
theorem gW{o:Oper}(h:lj o=true):o.guard=none/\(∃d,o.dst=some d)/\∃x,nP o=some x:=by
 unfold lj at h;split at h
 ·rename_i h1;split at h
  ·rename_i d h2;exact⟨h1,⟨d,h2⟩,Option.isSome_iff_exists.1 h⟩
  ·simp at h
 ·simp at h
theorem pure_run{o:Oper}(h:lj o=true){P:Program}(a:Act)(w:World):(∃v,gL o a=some v/\(execOp a.eval o).run P w= .ok (.value v) w)\/(gL o a=none/\∃s,(execOp a.eval o).run P w= .halt (.stuck s) w):=by
 obtain⟨_,_,x,hx⟩:=gW h;unfold nP at hx;unfold gL;split at hx
 ·rename_i y hop;exact .inl ⟨a.eval y,by first|rw[hop]|rfl,by simp only[execOp,hop];rfl⟩
 ·rename_i y hop;exact .inl ⟨a.eval y,by first|rw[hop]|rfl,by simp only[execOp,hop];rfl⟩
 ·rename_i y ix hop;simp only[execOp,hop];cases hv:a.eval y<;>try exact .inr ⟨rfl,_,rfl⟩
  rename_i vs;simp only[Instr.extract];cases hix:vs[ix]? with
  |some v=>exact .inl ⟨v,rfl,rfl⟩
  |none=>exact .inr ⟨rfl,_,rfl⟩
 ·simp at hx
theorem vz{o:Oper}{d:Nat}{v:Value}{a:Act}{x:Operand}(hx:nP o=some x)(h:oq x d=true):gL o (a.put (some d) v)=gL o a:=by
 grind[nP,gL,ph]
theorem put_comm(a:Act){d e:Nat}(h:d≠e)(u v:Value):(a.put (some d) u).put (some e) v=(a.put (some e) v).put (some d) u:=by
 have:(a.tmps.setIfInBounds d u).setIfInBounds e v=(a.tmps.setIfInBounds e v).setIfInBounds d u:=by
  grind
 simp only[Act.put,this]
theorem Ag{x y:Nat×Oper}{l:List (Nat×Oper)}{a:Act}(h:apart x.2 y.2=true):gy (x::y::l) a=gy (y::x::l) a:=by
 unfold apart at h;split at h
 ·grind[gy,gL,vz,put_comm]
 ·simp at h
theorem rT{y:Nat×Oper}{r2:List (Nat×Oper)}:∀(r1:List (Nat×Oper)) (a:Act),(∀p∈r1,apart p.2 y.2=true)->gy (r1++y::r2) a=gy (y::(r1++r2)) a
 | [],a,_=>rfl
 |p::r1,a,h=>by
  have:gy (p::(r1++y::r2)) a=gy (p::y::(r1++r2)) a:=by
   simp only[gy];cases gL p.2 a with
   |none=>rfl
   |some v=>exact rT r1 _ fun q hq=>h q (by simp[hq])
  rw[List.cons_append,this,Ag (h p (by simp))]
  rfl
def Ed(ds:List (Option Nat×Nat))(p q:Nat×Oper):Prop:=p.1<q.1/\((aM ds q.1).testBit p.1=true\/apart p.2 q.2=true)
theorem DJ[Fen]{ro:Option Nat}(P:b8 C opsA.toList ds sl res drs){Q:Exit->Act->World->Prop}{w:World}{a':Act}(hQ:Q .normal a' w):∀(fuel:Nat) (r:List (Nat×Oper)) (listed:Array Bool) (a:Act),
  listed.size=opsA.size->xw listed opsA.size<=fuel->(∀i,i<opsA.size->(listed.getD i false=false↔ ∃o,(i,o)∈r))->(∀p∈r,opsA[p.1]? =some p.2/\lj p.2=true)->r.Pairwise (Ed ds)->
  (∀i k,i<opsA.size->listed.getD i false=true->(aM ds i).testBit k=true->listed.getD k false=true)->gy r a=some a'->wpAnyIn (FF C.P ro) 0 C.P .any opsA Q fuel listed a w:=by
 intro fuel;induction fuel with
 |zero=>
  intro r listed a hs hc hr hp hpw hdn hf
  have hr0:r= []:=by
   cases r with
   |nil=>rfl
   |cons p r=>
    have h1:=(hp p (by simp)).1
    have hlt:=(Array.getElem?_eq_some_iff.1 h1).1;have:=eP (n:=opsA.size) hs hlt ((hr p.1 hlt).2 ⟨p.2,by simp⟩)
    omega
  subst hr0;simp only[gy,aa]at hf;subst hf;refine mO ?_ hQ 0;cases hrd:Region.ready .any opsA listed with
  |nil=>rfl
  |cons i l=>
   obtain⟨h1,o,h2,_⟩:=mem_ready.1 (show i∈Region.ready .any opsA listed by rw[hrd];simp)
   have hisz:i<opsA.size:=(Array.getElem?_eq_some_iff.1 h2).1;have hlt:i<listed.size:=by omega
   have hf:listed.getD i false=false:=(HJ hlt).symm.trans (by simpa[Array.getD_eq_getD_getElem?]using h1)
   obtain⟨o,ho⟩:=(hr i hisz).1 hf;simp at ho
 |succ fuel ih=>
  intro r listed a hs hc hr hp hpw hdn hf;refine⟨fun hnil=>?_,fun i hi=>?_⟩
  ·cases r with
   |nil=>simp only[gy,aa]at hf;subst hf;exact hQ
   |cons p r=>
    exfalso
    have h1:=(hp p (by simp)).1
    have hlt:=(Array.getElem?_eq_some_iff.1 h1).1;have hfl:=(hr p.1 hlt).2 ⟨p.2,by simp⟩
    have:p.1∈Region.ready .any opsA listed:=by
     rw[mem_ready];refine⟨?_,p.2,h1,fun e e1 e2=>?_⟩
     ·simp_all
     ·have hk:=(P.at h1).2.1 e.on (((P.at h1).2.2.1 e.on).2 ⟨e,e1,e2,.inl rfl⟩);cases hl:listed.getD e.on false with
      |true=>rfl
      |false=>
       obtain⟨o,ho⟩:=(hr e.on (by omega)).1 hl
       rcases List.mem_cons.1 ho with rfl|ho
       ·simp only at hk;omega
       ·have:=((List.pairwise_cons.1 hpw).1 _ ho).1;simp only at this;omega
    rw[hnil]at this;simp at this
  ·obtain⟨h1,o,h2,h3⟩:=mem_ready.1 hi;have hisz:i<opsA.size:=(Array.getElem?_eq_some_iff.1 h2).1;have hlt:i<listed.size:=by omega
   have hfl:listed.getD i false=false:=(HJ hlt).symm.trans (by simpa[Array.getD_eq_getD_getElem?]using h1)
   obtain⟨o',ho'⟩:=(hr i hisz).1 hfl
   have hoo:o'=o:=by
    grind
   subst hoo;have hpo:=(hp _ ho').2;simp only at hpo
   have hancL:∀k,(aM ds i).testBit k=true->listed.getD k false=true:=fun k hk=>by
    obtain⟨e,e1,e2,e3⟩:=((P.at h2).2.2.1 k).1 hk;have he:=h3 e e1 e2;rcases e3 with rfl|e3
    ·exact he
    ·grind
   obtain⟨r1,r2,rfl⟩:=List.append_of_mem ho';have hpw':=List.pairwise_append.1 hpw
   have hap:∀p∈r1,apart p.2 o'=true:=fun p hpm=>by
    have hpr:=hpw'.2.2 p hpm (i,o') (by simp)
    rcases hpr.2 with h|h
    ·grind
    ·exact h
   rw[rT r1 a hap]at hf;simp only[gy]at hf;obtain⟨hg,⟨d,hd⟩,_⟩:=gW hpo;unfold wpOpIn;rw[h2];simp only;rw[au (by simp[Region.wanted,hg])]
   rcases pure_run (P:=C.P) hpo a w with⟨v,hv,hrun⟩|⟨hv,_⟩
   case inr=>rw[hv]at hf;simp at hf
   rw[hv]at hf;simp only at hf;have hnc:∀c,o'.op≠ .call c:=fun c hc=>by obtain⟨_,_,x,hx⟩:=gW hpo;simp[nP,hc]at hx
   have hnd':bZ o':=fun c hc=>by obtain⟨_,_,x,hx⟩:=gW hpo;simp[nP,hc]at hx
   refine cL (fun _=>hnd') (fun f hf=>by
    unfold Oper.about at hf;split at hf
    ·rename_i c hc;exact absurd hc (hnc c)
    ·simp at hf) ?_
   rw[hrun];simp only[Oper.uponIn];have hcn:=eP (n:=opsA.size) hs hisz hfl
   have hdisj:∀p∈r1++r2,p.1≠i:=fun p hpm=>by
    rcases List.mem_append.1 hpm with h|h
    ·have:=(hpw'.2.2 p h (i,o') (by simp)).1
     simp only at this;omega
    ·have:=((List.pairwise_cons.1 hpw'.2.1).1 p h).1;simp only at this;omega
   refine ih (r1++r2) (listed.setIfInBounds i true) _ (by simpa using hs) (by omega) (fun k hk=>?_) (fun p hpm=>hp p (by
    rcases List.mem_append.1 hpm with h|h
    ·simp[h]
    ·simp[h])) ?_ (fun k j hk hkl hj=>?_) hf
   ·by_cases e:i=k
    ·subst e;constructor
     ·intro h;simp[hlt]at h
     ·rintro⟨o2,ho2⟩
      exact absurd rfl (hdisj _ ho2)
    ·rw[getD_set_ne false e,hr k hk];constructor
     ·grind
     ·grind
   ·grind
   ·by_cases e:i=j
    ·subst e;simp[hlt]
    ·rw[getD_set_ne false e];by_cases e2:i=k
     ·subst e2;exact hancL j hj
     ·rw[getD_set_ne false e2]at hkl;exact hdn k j hk hkl hj
def eB:Nat->List Oper->List (Nat×Oper)
 |_,[]=> []
 |i,o::l=>(i,o)::eB (i+1) l
theorem kY:∀{l:List Oper} {i:Nat} {p:Nat×Oper},p∈eB i l↔i<=p.1/\l[p.1-i]? =some p.2
 | [],i,p=>by simp[eB]
 |o::l,i,p=>by
  simp only[eB,List.mem_cons,kY (l:=l) (i:=i+1)];constructor
  ·grind
  ·grind
theorem ni{ds:List (Option Nat×Nat)}{j:Nat}{x:Oper}:∀{l:List Oper} {i:Nat},j<i->qm ds j x i l=true->∀q∈eB i l,Ed ds (j,x) q
 | [],_,_,_,q,hq=>by simp[eB]at hq
 |y::l,i,hj,h,q,hq=>by
  simp only[qm,ah,Bool.or_eq_true]at h;rcases List.mem_cons.1 hq with rfl|hq
  ·exact⟨hj,h.1⟩
  ·exact ni (by omega) h.2 q hq
theorem kI{ds:List (Option Nat×Nat)}{n:Nat}:∀{l:List Oper} {i:Nat},n<i->rE ds n i l=true->(eB i l).Pairwise (Ed ds)/\(∀p∈eB i l,lj p.2=true/\∀k,k<=n->(aM ds p.1).testBit k=true)
 | [],_,_,_=>⟨List.Pairwise.nil,by simp[eB]⟩
 |x::l,i,hi,h=>by
  simp only[rE,ah,aj]at h;obtain⟨⟨⟨h1,h2⟩,h3⟩,h4⟩:=h;obtain⟨i1,i2⟩:=kI (by omega) h4
  refine⟨List.pairwise_cons.2 ⟨fun q hq=>ni (by omega) h3 q hq,i1⟩,fun p hp=>?_⟩
  rcases List.mem_cons.1 hp with rfl|hp
  ·grind[eX]
  ·exact i2 p hp
theorem rr[Fen]{H:Handler}{Y:bJ}{K:Out->St->Prop}{res0:List aI}(hC:C.Sound)(hH:H.OK C.P)(hY:vn C.P Y ρ0 res0):∀(l:List Oper) (i:Nat) (U:St) (J:Env) (fps:Nat->Nat->Prop) (a:Act),(∀p∈eB i l,lj p.2=true)->
  kg C H Y opsA.toList l U K->fq J fps U w0 F0 a w->Good ρ0 res0 J U.res->∃a',gy (eB i l) a=some a'/\dr ρ0 res0 w0 F0 K .normal a' w
 | [],i,U,J,fps,a,_,h,hr,hg=>by
   simp only[kg,fl]at h;exact⟨a,rfl,.norm,_,J,fps,trivial,h,⟨hr.1.clean,hr.2.1,hr.2.2.1,hr.2.2.2⟩,hg⟩
 |o::l,i,U,J,fps,a,hp,h,hr,hg=>by
  have hpo:lj o=true:=hp (i,o) (by simp[eB])
  obtain⟨hgu,⟨d,hd⟩,x,hx⟩:=gW hpo
  have key:=fP (ro:=none) (w0:=w0) (F0:=F0) (next:=fun a1 w1=>w1=w->∃a',gy (eB (i+1) l) a1=some a'/\dr ρ0 res0 w0 F0 K .normal a' w) (Q:=fun _ _ _=>True) hC hH (hY.later hg)
   (fun hr=>absurd rfl hr) h hr (fun σ' ρ' fps' a1 w1 hK' hr' hg' hw=>by
    rw[hw]at hr';exact rr hC hH hY l (i+1) σ' ρ' fps' a1 (fun p hpm=>hp p (by simp[eB,hpm])) hK' hr' (hg.trans hg')) (fun _ _ _ _ _ _ _ _ _=>trivial)
  have key:=key.2;rw[au (by simp[Region.wanted,hgu])]at key
  have key:=key.2;have hsem:o.semAt (FF C.P none).round a.eval=execOp a.eval o:=Oper.semAt_none _ _;rw[hsem]at key;rcases pure_run (P:=C.P) hpo a w with⟨v,hv,hrun⟩|⟨_,s,hrun⟩
  ·rw[hrun]at key;simp only[Oper.uponIn]at key;obtain⟨a',h1,h2⟩:=key trivial;exact⟨a',by simp only[eB,gy,hv];exact h1,h2⟩
  ·rw[hrun]at key;exact key.elim
theorem Aq[Fen]{H:Handler}{Y:bJ}{K:Out->St->Prop}{ro:Option Nat}{res0:List aI}(hC:C.Sound)(hH:H.OK C.P)(hY:vn C.P Y ρ0 res0)(hnd:ro≠none->∀o∈opsA.toList,bZ o)
  (P:b8 C opsA.toList ds sl res drs) {n:Nat} {o:Oper} {l:List Oper} (hdrop:opsA.toList.drop n=o::l) (hpure:rE ds n (n+1) l=true)
  {listed:Array Bool} {fuel:Nat} {U:St} (hs:listed.size=opsA.size) (hc:xw listed opsA.size<=fuel) (hall:∀k,k<n->listed.getD k false=true) (hno:∀k,n<=k->listed.getD k false=false)
  (h:kg C H Y opsA.toList (o::l) U K) (hr:fq J fps U w0 F0 a w) (hg:Good ρ0 res0 J U.res):wpAnyIn (FF C.P ro) 0 C.P .any opsA (dr ρ0 res0 w0 F0 K) fuel listed a w:=by
 have hon:opsA[n]? =some o:=by
  have:(opsA.toList.drop n)[0]? =some o:=by rw[hdrop];rfl
  simpa using this
 have hnsz:n<opsA.size:=(Array.getElem?_eq_some_iff.1 hon).1
 have hl':opsA.toList.drop (n+1)=l:=by
  have:(opsA.toList.drop n).drop 1=l:=by rw[hdrop];rfl
  rw[<-this,List.drop_drop]
 have hmem:∀p:Nat×Oper,p∈eB (n+1) l↔n<p.1/\opsA[p.1]? =some p.2:=fun p=>by
  grind[kY]
 obtain⟨hpw,hpp⟩:=kI (by omega) hpure
 have hnl:listed.getD n false=false:=hno _ (Nat.le_refl _);have hnlt:n<listed.size:=by omega
 cases fuel with
 |zero=>
  have:=eP (n:=opsA.size) hs hnsz hnl;omega
 |succ fuel=>
  obtain⟨p1,p2,p3,p4⟩:=P.at hon
  have hnr:n∈Region.ready .any opsA listed:=by
   rw[mem_ready];refine⟨?_,o,hon,fun e e1 e2=>hall _ (p2 e.on ((p3 e.on).2 ⟨e,e1,e2,.inl rfl⟩))⟩
   simpa[Array.getD_eq_getD_getElem?,hnlt]using hnl
  refine⟨fun hnil=>(by rw[hnil]at hnr;simp at hnr),fun i hi=>?_⟩
  obtain⟨h1,o',h2,h3⟩:=mem_ready.1 hi;have hisz:i<opsA.size:=(Array.getElem?_eq_some_iff.1 h2).1;have hilt:i<listed.size:=by omega
  have hfl:listed.getD i false=false:=(HJ hilt).symm.trans (by simpa[Array.getD_eq_getD_getElem?]using h1)
  have hin:i=n:=by
   rcases Nat.lt_trichotomy i n with h|h|h
   ·rw[hall i h]at hfl;simp at hfl
   ·exact h
   ·exfalso
    have:=(hpp (i,o') ((hmem _).2 ⟨h,h2⟩)).2 n (Nat.le_refl _);simp only at this;obtain⟨q1,q2,q3,q4⟩:=P.at h2;obtain⟨e,e1,e2,e3⟩:=(q3 n).1 this;have he:=h3 e e1 e2;rcases e3 with rfl|e3
    ·rw[hnl]at he;simp at he
    ·have hi':=q2 e.on ((q3 e.on).2 ⟨e,e1,e2,.inl rfl⟩);obtain⟨_,r2,_,_⟩:=P.at (i:=e.on) (o:=opsA[e.on]'(by omega)) (Array.getElem?_eq_getElem (by omega))
     have:=r2 n e3;rw[hno _ (by omega)]at he;simp at he
  subst hin;have hoo:o'=o:=by rw[hon]at h2;exact(Option.some.inj h2).symm
  subst hoo;have hcn:=eP (n:=opsA.size) hs hnsz hnl;simp only[kg]at h
  have key:=fP (ro:=ro) (next:=wpAnyIn (FF C.P ro) 0 C.P .any opsA (dr ρ0 res0 w0 F0 K) fuel (listed.setIfInBounds i true)) (Q:=dr ρ0 res0 w0 F0 K) hC hH (hY.later hg)
   (fun hr=>hnd hr o' (by rw[<-Array.getElem?_toList]at hon;exact List.mem_of_getElem? hon)) h hr
   (fun σ' ρ'' fps'' a'' w'' hK' hr' hg'=>by
    obtain⟨af,f1,f2⟩:=rr (opsA:=opsA) hC hH hY l (i+1) σ' ρ'' fps'' a'' (fun p hpm=>(hpp p hpm).1) hK' hr' (hg.trans hg')
    refine DJ P f2 fuel (eB (i+1) l) (listed.setIfInBounds i true) a'' (by simpa using hs) (by omega) (fun k hk=>?_) (fun p hpm=>⟨((hmem p).1 hpm).2,(hpp p hpm).1⟩) hpw (fun k j hk hkl hj=>?_) f1
    ·by_cases e:i=k
     ·simp_all
     ·rw[getD_set_ne false e];constructor
      ·intro hf
       have hik:i<k:=by
        grind
       exact⟨opsA[k]'hk,(hmem _).2 ⟨hik,Array.getElem?_eq_getElem hk⟩⟩
      ·grind
    ·have hki:k<=i:=by
      rcases Nat.lt_or_ge i k with h|h
      ·rw[getD_set_ne false (by omega),hno k (by omega)]at hkl;simp at hkl
      ·exact h
     have hjk:=(P.at (i:=k) (o:=opsA[k]'hk) (Array.getElem?_eq_getElem hk)).2.1 j hj;rw[getD_set_ne false (by omega)]
     exact hall j (by omega))
   (fun v σ' ρ'' fps'' w'' hK' hv hr' hg'=>⟨.pan v,σ',ρ'',fps'',⟨rfl,hv⟩,hK',hr',hg.trans hg'⟩)
  unfold wpOpIn;simp only[hon];split
  ·rename_i hw;rw[au hw]at key;exact key.2
  ·rename_i hw;rw[ar hw]at key;exact key
theorem nD[Fen]{H:Handler}{Y:bJ}{U:St}{K:Out->St->Prop}{ro:Option Nat}{st:Bool}{hid:List (Nat×Nat)}{rest:List Oper}(hC:C.Sound)(hH:H.OK C.P)(hY:vn C.P Y J U.res)(hnd:ro≠none->∀o∈opsA.toList,bZ o)
  (hok:xh ds 0 opsA.toList ds=true/\mR ds=true) (hpg:ib C opsA.toList ds (clean U.slots) U.res st hid 0 opsA.toList []=(drs,rest)) (hhid:∀s d u,drs[s]? =some d->d.up=some u->(s,u.1)∈hid)
  (h:qk C H Y opsA.toList ds U K drs rest) (hr:fq J fps U w0 F0 a w):
  wpAnyIn (FF C.P ro) 0 C.P .any opsA (dr J U.res w0 F0 K) opsA.size (Array.replicate opsA.size false) a {w with drawn:=w.drawn+1}:=by
  obtain⟨g1,g2,g3⟩:=lq _ 0 [] drs rest hpg rfl rfl (by simp)
  have P:b8 C opsA.toList ds (clean U.slots) U.res drs:=⟨hok.1,hok.2,gk U.slots,st,hid,g3,hhid⟩;unfold qk at h;obtain⟨hq,hK⟩:=pI h;obtain⟨r1,r2,r3,r4⟩:=hr;have hsz:drs.length<=opsA.size:=by simpa using g2
  have hget:∀k,(Array.replicate opsA.size false).getD k false=false:=fun k=>by
   simp only[Array.getD_eq_getD_getElem?,Array.getElem?_replicate];split<;>rfl
  have hL0:∀id,KL U.res drs (fun k=>(Array.replicate opsA.size false).getD k false) id->known U.res id:=by
   rintro id (h|⟨_,j,y,_,h⟩)
   ·exact h
   ·simp only[hget]at h;simp at h
  have I0:Inv ds (clean U.slots) U.res drs U.defs J w0 F0 (fun k=>(Array.replicate opsA.size false).getD k false) J fps a {w with drawn:=w.drawn+1}:=by
   have hd:aQ J fps U.res (known U.res) w0 F0 {w with drawn:=w.drawn+1}:=⟨r2.sub,r2.old,r2.os,r2.tape,r2.output,fun i hi=>aI.cy _ (r2.holds i hi) fun _ _=>rfl,r2.lt,r2.disj,r2.inF,r2.same⟩
   refine⟨r1.clean.1,fun t j m d _ _ hl=>by simp only[hget]at hl;simp at hl,fun t _=>?_,?_,fun i k hi=>by simp only[hget]at hi;simp at hi,⟨r3,r4⟩,Env.agree.refl _ _,fun j d _ hl=>by simp only[hget]at hl;simp at hl⟩
   ·exact(du.plain (gk U.slots t) (r1.clean.2 t)).env (fun i hi=> .inl hi) (Env.agree.refl _ _)
   ·refine(hd.ki fun i hi=> .inl hi).forget fun id hk=>?_
    have:=hL0 id (wZ P (fun i k hi=>by simp only[hget]at hi;simp at hi) hk)
    have hlt:=aK hk;rw[jk]at hlt;rw[jO hlt];cases hl:bQ (fun k=>(Array.replicate opsA.size false).getD k false) id 0 drs with
    |some r=>
     obtain⟨_,_,_,_,hx⟩:=dT _ _ hl;simp only[hget]at hx;simp at hx
    |none=>
     simp only[Option.getD_none];rw[ew,au (aK this)]
  have hcnt:xw (Array.replicate opsA.size false) opsA.size<=opsA.size:=by
   grind[xw]
  cases rest with
  |nil=>
   simp only[nR,fl]at hK
   have hlen:drs.length=opsA.size:=by
    have:=congrArg List.length g1;simp at this;omega
   refine lH dr.yR hnd hC P hq hsz (fun i h1 h2=>by omega) (fun _ _ _ _ _ _ _ _ h=>by omega) ?_ opsA.size _ J fps a _ (by simp) hcnt (fun k _=>hget k) I0
   intro fuel listed ρ' fps' a' w' hs hc hall hno I;obtain⟨hrep,hgood⟩:=I.rep P hall hno;refine mO ?_ ⟨.norm,_,ρ',fps',trivial,hK,⟨hrep.1.clean,hrep.2.1,hrep.2.2.1,hrep.2.2.2⟩,hgood⟩ fuel;cases hrd:Region.ready .any opsA listed with
   |nil=>rfl
   |cons i l=>
    obtain⟨h1,o,h2,_⟩:=mem_ready.1 (show i∈Region.ready .any opsA listed by rw[hrd];simp)
    have hisz:i<opsA.size:=(Array.getElem?_eq_some_iff.1 h2).1;have:=hall i (by omega)
    have hlt:i<listed.size:=by omega
    simp only[Array.getD_eq_getD_getElem?,Array.getElem?_eq_getElem hlt,Option.getD_some]at this h1;rw[this]at h1;simp at h1
  |cons o rest=>
   simp only[nR]at hK;split at hK
   ·rename_i htl0
    have hlen:opsA.size=drs.length+(rest.length+1):=by
     have:=congrArg List.length g1;simp at this;omega
    rw[Bool.or_eq_true,Bool.or_eq_true]at htl0;rcases htl0 with(htl|htl)|htl
    ·have htl:=iG htl
     have hbit:∀i,i<opsA.size->drs.length<=i->∀k,(aM ds i).testBit k=true↔k<i:=fun i h1 h2 k=>by
      have:=htl (i-drs.length) (by simp;omega)
      rw[show drs.length+(i-drs.length)=i by omega]at this
      rw[this];simp[eX,Nat.testBit_two_pow_sub_one]
     refine lH dr.yR hnd hC P hq hsz (fun i h1 h2 k hk=>(hbit i h1 (by omega) k).2 (by omega)) (fun _ listed _ _ _ _ _ _ hsl _ hex hanc _=>?_) ?_ opsA.size _ J fps a _ (by simp) hcnt (fun k _=>hget k) I0
     ·grind
     intro fuel listed ρ' fps' a' w' hs hc hall hno I;obtain⟨hrep,hgood⟩:=I.rep P hall hno;exact jy hC hH hY hnd P.LB drs.length (fun i h1 h2=>hbit i h1 (by omega)) (o::rest) drs.length listed fuel _ ρ' fps' a' w' g1.symm (Nat.le_refl _) hs hc hall hno hK hrep hgood
    ·obtain⟨e,oe,y,ix,d,t,p,x,l1,l2,l3,l4,l5,l6,l7,l8,l9,l10⟩:=sI htl;have htl:=iG l10
     have hbit:∀i,i<opsA.size->drs.length<i->∀k,(aM ds i).testBit k=true↔k<i:=fun i h1 h2 k=>by
      have:=htl (i-(drs.length+1)) (by omega)
      rw[show drs.length+1+(i-(drs.length+1))=i by omega]at this
      rw[this];simp[eX,Nat.testBit_two_pow_sub_one]
     refine lH dr.yR hnd hC P hq hsz (fun i h1 h2 k hk=>(hbit i h1 h2 k).2 (by omega)) (fun fuel listed ρ' fps' a' w' hs hc hsl hno hex hanc I=>?_) ?_ opsA.size _ J fps a _ (by simp) hcnt (fun k _=>hget k) I0
     ·grind[Ao]
     intro fuel listed ρ' fps' a' w' hs hc hall hno I;obtain⟨hrep,hgood⟩:=I.rep P hall hno;exact jy hC hH hY hnd P.LB drs.length hbit (o::rest) drs.length listed fuel _ ρ' fps' a' w' g1.symm (Nat.le_refl _) hs hc hall hno hK hrep hgood
    ·simp only[qX,ah,aj]at htl;obtain⟨t1,t2⟩:=htl;have t3:=(kI (by omega) t2).2
     have hmem:∀i,i<opsA.size->drs.length<i->∀k,k<=drs.length->(aM ds i).testBit k=true:=fun i h1 h2 k hk=>by
      have hl':opsA.toList.drop (drs.length+1)=rest:=by
       have:(opsA.toList.drop drs.length).drop 1=rest:=by rw[<-g1];rfl
       rw[<-this,List.drop_drop]
      refine(t3 (i,opsA[i]'h1) ?_).2 k hk;rw[kY,<-hl'];simp only[List.getElem?_drop];refine⟨by omega,?_⟩
      rw[show drs.length+1+(i-(drs.length+1))=i by omega]
      simp[h1]
     refine lH dr.yR hnd hC P hq hsz (fun i h1 h2 k hk=>hmem i h1 h2 k (by omega)) (fun _ listed _ _ _ _ _ _ hsl _ hex hanc _=>?_) ?_ opsA.size _ J fps a _ (by simp) hcnt (fun k _=>hget k) I0
     ·grind[eX]
     intro fuel listed ρ' fps' a' w' hs hc hall hno I;obtain⟨hrep,hgood⟩:=I.rep P hall hno;exact Aq hC hH hY hnd P g1.symm t2 hs hc hall hno hK hrep hgood
   ·exact hK.elim
theorem yo{ops:List Oper}{hid:List (Nat×Nat)}{done:List Dr}{i:Nat}{o:Oper}{d:Dr}(h:fw C ops ds sl res false hid done i o=some d):d.up=none:=by
 grind[fw,nF,oU]
theorem tP{u:Nat×aI}:∀(l:List Dr) (j s:Nat) (d:Dr),l[s]? =some d->d.up=some u->(j+s,u.1)∈nu j l
 | [],j,s,d,h,_=>by simp at h
 |x::l,j,0,d,h,hu=>by
  simp_all[nu]
 |x::l,j,s+1,d,h,hu=>by
  have:=tP l (j+1) s d (by simpa using h) hu
  rw[show j+1+s=j+(s+1) by omega]at this
  simp only[nu];split
  ·exact this
  ·exact List.mem_cons_of_mem _ this
theorem vB:∀{l m:List (Nat×Nat)},tD l m=true->l=m
 | [],[],_=>rfl
 | [],_::_,h=>by simp[tD]at h
 |_::_,[],h=>by simp[tD]at h
 | (a,b)::l,(c,d)::m,h=>by
   simp only[tD,ah,aj]at h;obtain⟨⟨rfl,rfl⟩,h3⟩:=h;rw[vB h3]
theorem yk[Fen]{H:Handler}{Y:bJ}{U:St}{K:Out->St->Prop}{id:Nat}{ro:Option Nat}(hC:C.Sound)(hH:H.OK C.P)(hY:vn C.P Y J U.res)(hnd:ro≠none->∀o∈opsA.toList,bZ o){alt:Prop}(h:Dq C H Y opsA.toList U K alt)(hr:fq J fps U w0 F0 a w)(halt:alt->wpAnyIn (FF C.P ro) 0 C.P .any opsA (dr J U.res w0 F0 K) opsA.size (Array.replicate opsA.size false) a {w with drawn:=w.drawn+1}):
  (Code.region id opsA true).wpIn (FF C.P ro) 0 C.P (dr J U.res w0 F0 K) a w:=by
 refine wpIn_region_any hC.mixed ?_;unfold Dq BA at h;generalize ED opsA.toList []=ds at h
 split at h
 ·rename_i hok;simp only[ah]at hok;rw[fl,nT]at h;generalize hpg:ib C opsA.toList ds (clean U.slots) U.res false [] 0 opsA.toList []=pr at h
  obtain⟨drs,rest⟩:=pr;simp only at h;split at h
  ·refine nD hC hH hY hnd hok hpg (fun s d u hd hu=>?_) h hr
   obtain⟨_,_,g3⟩:=lq _ 0 [] drs rest hpg rfl rfl (by simp)
   obtain⟨o,_,hp⟩:=g3 s d hd;rw[yo hp]at hu;simp at hu
  ·rw[nT,nT]at h;generalize hpg2:ib C opsA.toList ds (clean U.slots) U.res true (nu 0 (ib C opsA.toList ds (clean U.slots) U.res true [] 0 opsA.toList []).1) 0 opsA.toList []=pr at h
   obtain⟨drs2,rest2⟩:=pr;simp only at h;split at h
   ·rename_i hui;rw[ah]at hui;refine nD hC hH hY hnd hok hpg2 (fun s d u hd hu=>?_) h hr
    rw[<-vB hui.1];have:=tP drs2 0 s d hd hu;rwa [Nat.zero_add]at this
   ·exact halt h
 ·exact h.elim
end
end Go.Sx
namespace Go.Sx
open Go.RowKit (Below)
theorem aI.oF{K:Nat->Prop}{J:Env}{i:Nat}{w0 w:World}{F0 F1:Nat->Prop}(hs:w0.heap.size<=w.heap.size)(hf:∀b,b<w0.heap.size->¬F0 b->w.heap[b]? =w0.heap[b]? /\¬F1 b):
  ∀(r:aI) (fp:Nat->Prop),r.holds K J i fp w0 F0 w->r.holds K J i fp w F1 w
 | .yet,_,h| .gone,_,h| .blk _ _,_,h| .obs _ _ _,_,h| .gen _,_,h| .store _ _ _,_,h| .lop _ _ _,_,h| .dfr,_,h| .mp _ _ _,_,h| .mq _ _,_,h| .ms _ _,_,h| .mi _ _ _,_,h| .que _ _ _,_,h| .cset _ _ _ _ _ _,_,h=>h
 | .arr own esz l,fp,h=>by
   obtain⟨h1,h2,h3,h4,h5,h6,h7⟩:=h;refine⟨h1,h2,h3,h4,h5,h6,?_⟩;rcases h7 with⟨g1,g2,g3⟩|h7
   ·refine .inl ⟨g1,fun hl=>⟨(hf _ (g2 hl).2 (g2 hl).1).2,Nat.lt_of_lt_of_le (g2 hl).2 hs⟩,fun j hj k hk=>?_⟩
    rw[<-g3 j hj k hk];have:=g2 (by omega)
    exact World.cell?_of_block (w:=w0) (hf _ this.2 this.1).1
   ·exact .inr h7
 | .pin,fp,h=>by
   obtain⟨h1,t,z,h2⟩:=h;have:=hf 0 (Array.getElem?_eq_some_iff.1 h2).1 h1;exact⟨this.2,t,z,this.1.trans h2⟩
 | .ro r,fp,h=>by
   obtain⟨fp',h1,h2⟩:=h;exact⟨fp',aI.oF hs hf r fp' (aI.cy _ h1 fun b hb=>(hf b (h2 b hb).1 (h2 b hb).2).1),fun b hb=>⟨Nat.lt_of_lt_of_le (h2 b hb).1 hs,(hf b (h2 b hb).1 (h2 b hb).2).2⟩⟩
def eV:aI->Bool
 | .arr own _ _=>own.isSome
 | .ro _| .pin=>false
 |_=>true
theorem fK{K:Nat->Prop}{J:Env}{i:Nat}{fp:Nat->Prop}{w0 w1 w:World}{F0 F1:Nat->Prop}{r:aI}(h:eV r=true)(hr:r.holds K J i fp w1 F1 w):r.holds K J i fp w0 F0 w:=by
 cases r with
 |ro r=>simp[eV]at h
 |pin=>simp[eV]at h
 |arr own e l=>
  obtain⟨h1,h2,h3,h4,h5,h6,h7⟩:=hr;refine⟨h1,h2,h3,h4,h5,h6,?_⟩;rcases h7 with⟨g1,_⟩|h7
  ·subst g1;simp[eV]at h
  ·exact .inr h7
 |_=>exact hr
theorem aQ.below{J:Env}{fps:Nat->Nat->Prop}{res:List aI}{K:Nat->Prop}{w0 w w':World}{F0:Nat->Prop}(h:aQ J fps res K w0 F0 w)(hb:Below w.heap.size w w'):aQ J fps res K w0 F0 w':=
 ⟨h.sub,Nat.le_trans h.old hb.size,hb.os.trans h.os,hb.tape.trans h.tape,hb.output.trans h.output,fun i hi=>aI.cy _ (h.holds i hi) fun b hbb=>hb.block b (h.lt i b hi hbb),
  fun i b hi hbb=>Nat.lt_of_lt_of_le (h.lt i b hi hbb) hb.size,h.disj,h.inF,fun b h1 h2=>(hb.block b (Nat.lt_of_lt_of_le h1 h.old)).trans (h.same b h1 h2)⟩
def wP(B:List Nat):Nat->List aI->List aI
 |_,[]=> []
 |j,r::l=>(if B.contains j then .ro r else r)::wP B (j+1) l
def gY(B:List Nat):Nat->List aI->List aI->Option (List aI)
 |_,[],[]=>some []
 |j,[],r::rs=>if eV r then match gY B (j+1) [] rs with|some l=>some (r::l)|none=>none else none
 |_,_::_,[]=>none
 |j,o::os,r::rs=>if B.contains j|| !eV o then match gY B (j+1) os rs with|some l=>some (o::l)|none=>none
  else if eV r then match gY B (j+1) os rs with|some l=>some (r::l)|none=>none else none
def iK(B:List Nat):Nat->List aI->List aI
 |_,[]=> []
 |j,r::l=>(if B.contains j|| !eV r then r else .yet)::iK B (j+1) l
theorem uE(B:List Nat):∀(l:List aI) (j i:Nat),i<l.length->aH (wP B j l) i=if B.contains (j+i)then .ro (aH l i)else aH l i
 | [],j,i,h=>by simp at h
 |r::l,j,0,h=>by simp[wP,aH]
 |r::l,j,i+1,h=>by
  simp only[wP,aH];rw[uE B l (j+1) i (by simpa using h),show j+1+i=j+(i+1) by omega]
theorem sq(B:List Nat):∀(l:List aI) (j:Nat),(wP B j l).length=l.length
 | [],j=>rfl
 |r::l,j=>by simp[wP,sq B l]
theorem uy(B:List Nat):∀(l:List aI) (j i:Nat),aH (iK B j l) i=if(B.contains (j+i)|| !eV (aH l i))=true then aH l i else .yet
 | [],j,i=>by simp[iK,aH]
 |r::l,j,0=>by simp[iK,aH]
 |r::l,j,i+1=>by
  simp only[iK,aH];rw[uy B l (j+1) i,show j+1+i=j+(i+1) by omega]
  rfl
def mo(B:List Nat)(res:List aI)(i:Nat):Prop:=i<res.length/\(B.contains i=true\/eV (aH res i)=false)
theorem j5(B:List Nat):∀(os rs l:List aI) (j:Nat),gY B j os rs=some l->∀i,((i<os.length/\(B.contains (j+i)=true\/eV (aH os i)=false))->aH l i=aH os i)/\
  (¬(i<os.length/\(B.contains (j+i)=true\/eV (aH os i)=false))->aH l i=aH rs i/\eV (aH rs i)=true)
 | [],[],l,j,h,i=>by
   simp only[gY,aa]at h;subst h;exact⟨fun h=>absurd h.1 (by simp),fun _=>⟨rfl,rfl⟩⟩
 | [],r::rs,l,j,h,i=>by
   simp only[gY]at h;split at h
   ·rename_i ho;split at h
    ·rename_i l' hl;simp only[aa]at h;subst h;refine⟨fun h=>absurd h.1 (by simp),fun _=>?_⟩
     cases i with
     |zero=>exact⟨rfl,ho⟩
     |succ i=>exact(j5 B [] rs l' (j+1) hl i).2 (by simp)
    ·simp at h
   ·simp at h
 |_::_,[],l,j,h,i=>by simp[gY]at h
 |o::os,r::rs,l,j,h,i=>by
  simp only[gY]at h;split at h
  ·rename_i hp;split at h
   ·rename_i l' hl;simp only[aa]at h;subst h;cases i with
    |zero=>
     refine⟨fun _=>rfl,fun hn=>absurd ⟨by simp,?_⟩ hn⟩
     simpa[aH]using hp
    |succ i=>
     have:=j5 B os rs l' (j+1) hl i;rw[show j+1+i=j+(i+1) by omega]at this
     simpa[aH]using this
   ·simp at h
  ·rename_i hp;split at h
   ·rename_i ho;split at h
    ·rename_i l' hl;simp only[aa]at h;subst h;cases i with
     |zero=>
      refine⟨fun hn=>absurd hn.2 ?_,fun _=>⟨rfl,ho⟩⟩
      simp only[Bool.or_eq_true,Bool.not_eq_true']at hp;simpa[aH]using hp
     |succ i=>
      have:=j5 B os rs l' (j+1) hl i;rw[show j+1+i=j+(i+1) by omega]at this
      simpa[aH]using this
    ·simp at h
   ·simp at h
section
variable {J:Env} {fps:Nat->Nat->Prop} {res:List aI} {B:List Nat} {w0 w:World} {F0:Nat->Prop}
def x8(B:List Nat)(res:List aI)(i:Nat):Prop:=B.contains i=false/\eV (aH res i)=true
def F1(B:List Nat)(res:List aI)(fps:Nat->Nat->Prop)(b:Nat):Prop:=∃i,known res i/\x8 B res i/\fps i b
theorem oR(hB:∀i,B.contains i=true->∃ty c,aH res i= .blk ty c)(i:Nat):known (wP B 0 res) i↔known res i:=by
 grind[known,uE,aH,aK,wP,sq]
theorem aQ.LC(h:aQ J fps res (known res) w0 F0 w)(hB:∀i,B.contains i=true->∃ty c,aH res i= .blk ty c):
  aQ J (fun i b=>x8 B res i/\fps i b) (wP B 0 res) (known (wP B 0 res)) w (F1 B res fps) w:=by
 have hkn:=oR hB;have hF:∀i b,known res i->¬x8 B res i->fps i b->¬F1 B res fps b:=fun i b hi hn hb ⟨k,k1,k2,k3⟩=>h.disj i k b hi k1 (fun e=>hn (e▸k2)) hb k3
 have hf:∀b,b<w0.heap.size->¬F0 b->w.heap[b]? =w0.heap[b]? /\¬F1 B res fps b:=fun b h1 h2=>⟨h.same b h1 h2,fun⟨k,k1,_,k3⟩=>h2 (h.inF k b k1 k3 h1)⟩
 refine⟨fun i hi=>hi,Nat.le_refl _,rfl,rfl,rfl,fun i hi=>?_,fun i b hi hb=>h.lt i b ((hkn i).1 hi) hb.2,fun i j b hi hj hne h1 h2=>h.disj i j b ((hkn i).1 hi) ((hkn j).1 hj) hne h1.2 h2.2,
  fun i b hi hb _=>⟨i,(hkn i).1 hi,hb.1,hb.2⟩,fun _ _ _=>rfl⟩
 have hi':=(hkn i).1 hi;have hh:=h.holds i hi';have hK:∀j,known res j->known (wP B 0 res) j:=fun j hj=>(hkn j).2 hj
 rw[uE B res 0 i (aK hi'),Nat.zero_add];split
 ·rename_i hb;obtain⟨ty,c,hr⟩:=hB i hb;rw[hr]at hh⊢;refine⟨fun b=>b=J.num i,⟨bE hK _ hh.1,hh.2.1,rfl,hh.2.2.2⟩,fun b e=>?_⟩
  subst e;exact⟨h.lt i _ hi' hh.2.2.1,hF i _ hi' (fun e=>by rw[e.1]at hb;simp at hb) hh.2.2.1⟩
 ·rename_i hb;by_cases ho:eV (aH res i)=true
  ·have e:(fun b=>x8 B res i/\fps i b)=fps i:=by
    funext b
    simp only[eq_iff_iff];exact⟨fun h=>h.2,fun h=>⟨⟨by simpa using hb,ho⟩,h⟩⟩
   rw[e];exact aI.iE _ (fK ho hh) hK
  ·have hno:¬x8 B res i:=fun e=>ho e.2
   have hreb:=aI.iE _ (aI.oF (F1:=F1 B res fps) h.old hf _ _ hh) hK;cases hr:aH res i with
   |ro r=>rw[hr]at hreb;exact hreb
   |arr own esz l=>
    rw[hr]at hreb hh
    have hown:own=none:=by
     simp_all[eV]
    obtain⟨h1,h2,h3,h4,h5,h6,h7⟩:=hreb;refine⟨h1,h2,h3,h4,h5,h6,.inl ⟨hown,fun hl=>?_,fun j hj k hk=>?_⟩⟩
    ·rcases h7 with⟨_,g2,_⟩|⟨e,e1,e2,e3⟩
     ·exact g2 hl
     ·obtain⟨a,ha⟩:=Option.isSome_iff_exists.1 (h5 hl);have hb:=e3 a ha;have:=h4 a ha;subst this;exact⟨hF i _ hi' hno hb,h.lt i _ hi' hb⟩
    ·exact(fO h (own:=own) (esz:=esz) (l:=l) (id:=i) (by unfold bD;rw[hr]) hj).2.2.2 k hk
   |yet=>exact absurd hr hi'
   |pin=>rw[hr]at hreb;exact hreb
   |_=>rw[hr]at ho;simp[eV]at ho
theorem aQ.JC{ρ':Env}{fps':Nat->Nat->Prop}{res' r:List aI}{w':World}(h:aQ J fps res (known res) w0 F0 w)(hB:∀i,B.contains i=true->∃ty c,aH res i= .blk ty c)
  (h2:aQ ρ' fps' res' (known res') w (F1 B res fps) w') (hg:Good J (wP B 0 res) ρ' res') (hb:gY B 0 res res'=some r):
  ∃fps'',aQ ρ' fps'' r (known r) w0 F0 w'/\Good J res ρ' r/\(∀i,known res' i->known r i)/\
   (∀g,g<w.heap.size->(∀i,known res i->¬fps i g)->w'.heap[g]? =w.heap[g]? /\∀i,known r i->¬fps'' i g)/\(∀i,mo B res i->aH r i=aH res i):=by
 have hkn:=oR hB;have hF:∀i b,known res i->¬x8 B res i->fps i b->¬F1 B res fps b:=fun i b hi hn hb ⟨k,k1,k2,k3⟩=>h.disj i k b hi k1 (fun e=>hn (e▸k2)) hb k3
 have hsp:∀i,(mo B res i->aH r i=aH res i)/\(¬mo B res i->aH r i=aH res' i/\eV (aH res' i)=true):=fun i=>by
  have:=j5 B res res' r 0 hb i;rwa [Nat.zero_add]at this
 have hpk:∀i,mo B res i->known res i:=fun i hp=>by
  rcases hp.2 with hc|hc
  ·obtain⟨ty,c,e⟩:=hB i hc;unfold known;simp[e]
  ·intro e;rw[e]at hc;simp[eV]at hc
 have hpo:∀i,mo B res i->¬x8 B res i:=fun i hp ho=>by
  rcases hp.2 with hc|hc
  ·rw[ho.1]at hc;simp at hc
  ·rw[ho.2]at hc;simp at hc
 have k1:∀i,known res' i->known r i:=fun i hi=>by
  grind[mo,known]
 have k2:∀i,known r i->(mo B res i/\known res i)\/(¬mo B res i/\known res' i):=fun i hi=>by
  grind[mo,known]
 have k3:∀i,known res i->known r i:=fun i hi=>k1 i (hg.2 i ((hkn i).2 hi))
 have hag:Env.agree (known res) J ρ':=hg.1.mono fun i hi=>(hkn i).2 hi
 have hin:∀j b,known res' j->fps' j b->b<w.heap.size->F1 B res fps b:=h2.inF;classical
 refine⟨fun i b=>if mo B res i then fps i b else fps' i b,⟨fun i hi=>hi,Nat.le_trans h.old h2.old,h2.os.trans h.os,h2.tape.trans h.tape,h2.output.trans h.output,fun i hi=>?_,fun i b hi hbb=>?_,fun i j b hi hj hne h3 h4=>?_,fun i b hi hbb hlt=>?_,fun b hlt hn=>?_⟩,
  ⟨hag,k3⟩,k1,fun g hlt hn=>?_,fun i hp=>(hsp i).1 hp⟩
 ·rcases k2 i hi with⟨hp,hk⟩|⟨hp,hk⟩
  ·simp only[au hp];rw[(hsp i).1 hp];exact aI.lQ _ (aI.cy _ (h.holds i hk) fun b hbb=>h2.same b (h.lt i b hk hbb) (hF i b hk (hpo i hp) hbb)) k3 hag hk
  ·simp only[ar hp];rw[((hsp i).2 hp).1];exact aI.iE _ (fK ((hsp i).2 hp).2 (h2.holds i hk)) k1
 ·rcases k2 i hi with⟨hp,hk⟩|⟨hp,hk⟩
  ·simp only[au hp]at hbb;exact Nat.lt_of_lt_of_le (h.lt i b hk hbb) h2.old
  ·simp only[ar hp]at hbb;exact h2.lt i b hk hbb
 ·have mix:∀i j,mo B res i->known res i->known res' j->fps i b->¬fps' j b:=fun i j hp hk hk' h3 h4=>
   hF i b hk (hpo i hp) h3 (hin j b hk' h4 (h.lt i b hk h3))
  rcases k2 i hi with⟨hp,hk⟩|⟨hp,hk⟩<;>rcases k2 j hj with⟨hp',hk'⟩|⟨hp',hk'⟩
  ·simp only[au hp]at h3;simp only[au hp']at h4;exact h.disj i j b hk hk' hne h3 h4
  ·grind
  ·grind
  ·simp only[ar hp]at h3;simp only[ar hp']at h4;exact h2.disj i j b hk hk' hne h3 h4
 ·rcases k2 i hi with⟨hp,hk⟩|⟨hp,hk⟩
  ·simp only[au hp]at hbb;exact h.inF i b hk hbb hlt
  ·simp only[ar hp]at hbb;obtain⟨k,e1,_,e3⟩:=hin i b hk hbb (Nat.lt_of_lt_of_le hlt h.old);exact h.inF k b e1 e3 hlt
 ·exact(h2.same b (Nat.lt_of_lt_of_le hlt h.old) fun⟨k,e1,_,e3⟩=>hn (h.inF k b e1 e3 hlt)).trans (h.same b hlt hn)
 ·have hnF:¬F1 B res fps g:=fun⟨k,e1,_,e3⟩=>hn k e1 e3
  refine⟨h2.same g hlt hnF,fun i hi hbb=>?_⟩
  rcases k2 i hi with⟨hp,hk⟩|⟨hp,hk⟩
  ·simp only[au hp]at hbb;exact hn i hk hbb
  ·simp only[ar hp]at hbb;exact hnF (hin i g hk hbb hlt)
end
end Go.Sx
namespace Go.Sx
open Go.RowKit (Below)
def cO(t:Nat)(i:Operand):Bool:=
 match i with
 | .const _=>t==44
 |_=>false
def fE(o:Oper):Bool:=
 match o.guard with
 |some _=>false
 |none=>match o.dst with
  |none=>false
  |some _=>match o.op with
   | .move _=>true
   | .assign _=>true
   | .extract _ _=>true
   | .load _ _=>true
   | .fieldAddr _ _ _=>true
   | .field _ _ _=>true
   | .indexAddr t _ i=> !(cO t i)
   | .index _ _ _=>true
   | .binOp _ _ _ _ _=>true
   | .unOp _ _ _=>true
   | .nilCheck _=>true
   | .build _ _=>true
   | .makeFunc _ _ _=>true
   |_=>false
def gS(m:Nat)(o:Oper):Bool:=
 match o.guard with
 |some _=>false
 |none=>match o.dst with
  |none=>false
  |some _=>match o.op with
   | .alloc _=>m==0
   |_=>false
def fF(o:Oper):Bool:=
 match o.guard with
 |some _=>false
 |none=>match o.op with
  | .call _=>true
  | .store _ _ _=>true
  | .makeMap _ _=>true
  | .insert _ _ _ _=>true
  | .lookup _ _ _ _=>true
  | .mapEntry _ _ _=>true
  | .entryStore _ _ _ _=>true
  | .buildSlice _ _ _=>true
  | .indexAddr t _ i=>cO t i
  |_=>false
def xq(m s:Nat):Nat->List (Option Nat×Nat)->Bool
 |_,[]=>true
 |k,d::l=>(match d.1 with|some t=> !(t==s)||Nat.testBit m k|none=>true)&&xq m s (k+1) l
def Kj(ds:List (Option Nat×Nat))(m:Nat):Operand->Bool
 | .tmp s=>xq m s 0 ds
 |_=>true
def AK(ds:List (Option Nat×Nat))(m:Nat):Nat->Nat
 |0=>0
 |n+1=>AK ds m n ||| (if Nat.testBit m n then aM ds n else 0)
theorem wv{ds:List (Option Nat×Nat)}{m k:Nat}:∀{n:Nat},(AK ds m n).testBit k=true->∃j,m.testBit j=true/\(aM ds j).testBit k=true
 |0,h=>by simp[AK]at h
 |n+1,h=>by
  simp only[AK,Nat.testBit_or,Bool.or_eq_true]at h;rcases h with h|h
  ·exact wv h
  ·split at h
   ·rename_i hb;exact⟨n,hb,h⟩
   ·simp at h
def wJ(ds dd:List (Option Nat×Nat))(tm am:Nat):Nat->List Oper->Bool
 |_,[]=>true
 |i,o::l=>(if fE o then(aM ds i &&& am &&& AK ds (aM ds i) i)==(aM ds i &&& am)else gS (aM ds i) o||fF o)&&o.op.operands.toList.all (Kj dd (aM ds i))&&wJ ds dd tm am (i+1) l
def vi:List (Option Nat×Nat)->List S->(List S->Prop)->Prop
 | [],sl,k=>k sl
 |p::l,sl,k=>match p.1 with
  |some t=>vR sl t .und fun sl=>vi l sl k
  |none=>vi l sl k
def j4:List (Option Nat×Nat)->List S->List S
 | [],sl=>sl
 |p::l,sl=>match p.1 with
  |some t=>j4 l (sset sl t .und)
  |none=>j4 l sl
theorem qo:∀(l:List (Option Nat×Nat)) (sl:List S) (k:List S->Prop),vi l sl k=k (j4 l sl)
 | [],_,_=>rfl
 | (some t,_)::l,sl,k=>by simp only[vi,j4,rY];exact qo l _ k
 | (none,_)::l,sl,k=>by simp only[vi,j4];exact qo l _ k
def yj(p:Nat->Oper->Bool):Nat->List Oper->Nat
 |_,[]=>0
 |i,o::l=>(if p i o then 2^i else 0) ||| yj p (i+1) l
def jt(ds:List (Option Nat×Nat)):Nat->List Oper->Nat
 |i,[]=>i
 |i,o::l=>if jL ds i (o::l)then i else jt ds (i+1) l
def rf(ds:List (Option Nat×Nat)):Nat->List Oper->List (Option Nat×Nat)->Bool
 |i,o::l,d::m=>(match o.dst,d.1 with|none,none=>true|some a,some b=>a==b|_,_=>false)&&(eK ds o.after.toList ||| d.2)==eK ds o.after.toList&&Nat.ble (eK ds o.after.toList+1) (2^i)
  &&(List.range i).all (fun j=> !(Nat.testBit d.2 j)||((aM ds j ||| d.2)==d.2))&&rf ds (i+1) l m
 |_,[],[]=>true
 |_,_,_=>false
def Ke(m:Nat):Nat->List Oper->List (Option Nat×Nat)->Nat
 |i,o::os,p::l=>(if Nat.testBit m i&& !fE o then p.2 else 0) ||| Ke m (i+1) os l
 |_,_,_=>0
def JZ(u:Nat->Nat)(am:Nat):Nat->List Oper->List (Option Nat×Nat)->List (Option Nat×Nat)
 |0,_,l=>l
 |n+1,o::os,p::l=>(if fE o then(p.1,p.2 ^^^ ((p.2 &&& am) ^^^ (p.2 &&& am &&& u p.2)))else p)::JZ u am n os l
 |_,_,l=>l
def JD(ops:List Oper):List (Option Nat×Nat):=
 let ds:=ED ops []
 let d:=jt ds 0 ops
 JZ (fun m=>Ke m 0 ops ds) (yj (fun i o=>gS (aM ds i) o) 0 (ops.take d)) d ops ds
def sF(C:Ctx)(ds:List (Option Nat×Nat))(a1:Nat)(rsB rs0:List aI)(ph0:Bool):List (Nat×Oper)->Nat->List S->(Nat->List S->Prop)->Prop
 | [],m,sl,k=>k m sl
 |p::l,m,sl,k=>if fE p.2&& !(Nat.testBit m p.1)&&(aM ds p.1 ||| m)==m then
   (if Nat.testBit a1 p.1&& !ph0 then False else
    match uC C sl (if Nat.testBit a1 p.1 then rs0 else rsB) 0 [] p.2.op with
    |some (q,x,new)=>if new.isEmpty then gZ sl p.2.dst (.v x) fun sl=>rV q (sF C ds a1 rsB rs0 ph0 l (m ||| 2^p.1) sl k)else False
    |none=>False)
  else sF C ds a1 rsB rs0 ph0 l m sl k
def sX(C:Ctx)(ds:List (Option Nat×Nat))(sel:Nat):List (Nat×Oper)->Nat->St->(Nat->St->Prop)->Prop
 | [],m,U,k=>k m U
 |p::l,m,U,k=>if gS (aM ds p.1) p.2&&Nat.testBit sel p.1&& !(Nat.testBit m p.1)then
   match p.2.op with
   | .alloc t=>match C.Z t with
     |some z=>gZ U.slots p.2.dst (.v (.lp U.res.length 0)) fun sl=>sX C ds sel l (m ||| 2^p.1) {U with slots:=sl,res:=iY U.res [.blk t z]} k
     |none=>False
   |_=>False
  else sX C ds sel l m U k
def Ja(ds:List (Option Nat×Nat))(m:Nat)(sl:List S):List (Nat×Oper)->Bool
 | []=>true
 |p::l=>(if gS (aM ds p.1) p.2&& !(Nat.testBit m p.1)then(match p.2.dst with
   |some t=>(match bh sl t with| .und=>true|_=>false)
   |none=>true)else true)&&Ja ds m sl l
def KY(C:Ctx)(o:Oper):Bool:=
 match o.op with
 | .alloc t=>(match C.Z t with|some _=>true|none=>false)
 |_=>true
def kV{α:Type}:List α->List (α×List α)
 | []=> []
 |x::l=>(x,l)::(kV l).map fun q=>(q.1,x::q.2)
def Lm(ds:List (Option Nat×Nat))(l:List (Nat×Oper)):List ((Nat×Oper)×List (Nat×Oper)):=
 (kV l).filter fun q=>l.all fun y=> !(Nat.testBit (aM ds q.1.1) y.1)
def B4{α:Type}(f:α->Prop):α->List α->Prop
 |x,[]=>f x
 |x,y::l=>f x/\B4 f y l
def GA{α:Type}(f:α->Prop):List α->Prop
 | []=>False
 |x::l=>B4 f x l
theorem tN{α:Type}{f:α->Prop}:∀{x:α} {l:List α},B4 f x l->∀y∈x::l,f y
 |x,[],h,y,hy=>by simp at hy;subst hy;exact h
 |x,z::l,h,y,hy=>by
  rcases List.mem_cons.1 hy with rfl|hy
  ·exact h.1
  ·exact tN h.2 y hy
theorem AZ{α:Type}{f:α->Prop}{l:List α}(h:GA f l):∀y∈l,f y:=by
 cases l with
 |nil=>exact h.elim
 |cons x l=>exact tN h
theorem pe{α:Type}:∀{l:List α} {p:α×List α},p∈kV l->p.1∈l/\p.2.Sublist l/\p.2.length+1=l.length/\∀x∈l,x=p.1\/x∈p.2
 | [],p,h=>by simp[kV]at h
 |y::l,p,h=>by
  simp only[kV,List.mem_cons,List.mem_map]at h;rcases h with rfl|⟨q,hq,rfl⟩
  ·simp_all
  ·obtain⟨h1,h2,h3,h4⟩:=pe hq;refine⟨by simp[h1],h2.cons_cons y,by simp only[List.length_cons];omega,fun x hx=>?_⟩
   rcases List.mem_cons.1 hx with rfl|hx
   ·exact .inr (by simp)
   ·grind
theorem wH{α:Type}:∀{l:List α} {x:α},x∈l->∃r,(x,r)∈kV l
 | [],x,h=>by simp at h
 |y::l,x,h=>by
  rcases List.mem_cons.1 h with rfl|h
  ·exact⟨l,by simp[kV]⟩
  ·obtain⟨r,hr⟩:=wH h;exact⟨y::r,by simp only[kV,List.mem_cons,List.mem_map];exact .inr ⟨_,hr,rfl⟩⟩
theorem wa{α:Type}{R:α->α->Prop}(hR:∀x,¬R x x):∀{l:List α} {p:α×List α},l.Pairwise R->p∈kV l->p.1∉p.2
 | [],p,_,h=>by simp[kV]at h
 |y::l,p,hl,h=>by
  obtain⟨h1,h2⟩:=List.pairwise_cons.1 hl;simp only[kV,List.mem_cons,List.mem_map]at h;rcases h with rfl|⟨q,hq,rfl⟩
  ·exact fun h=>hR _ (h1 _ h)
  ·intro h;rcases List.mem_cons.1 h with h|h
   ·have h:q.1=y:=h;have:=h1 q.1 (pe hq).1;rw[h]at this;exact hR _ this
   ·exact wa hR h2 hq h
def vI(C:Ctx)(H:Handler)(Y:bJ)(ops:List Oper)(ds:List (Option Nat×Nat))(d a1:Nat)(B:List Nat)(rsB rs0:List aI)(xs:List (Nat×Oper))(K:Out->St->Prop):Nat->List (Nat×Oper)->Nat->St->Prop
 |n,l,m,U=>match l with
  | []=>sX C ds (eX d) xs m U fun m U=>if m==eX d then kg C H Y ops (ops.drop d) U K else False
  |_::_=>match n with
   |0=>False
   |n+1=>GA (fun q:(Nat×Oper)×List (Nat×Oper)=>sX C ds (aM ds q.1.1) xs m U fun m U=>if(aM ds q.1.1 ||| m)==m then
     ri C H LH ops q.1.2 {U with res:=wP B 0 U.res}
      (fun σ'=>match gY B 0 U.res σ'.res with
       |some r=>if Ja ds (m ||| 2^q.1.1) σ'.slots xs then sF C ds a1 rsB rs0 false xs (m ||| 2^q.1.1) σ'.slots fun m sl=>vI C H Y ops ds d a1 B rsB rs0 xs K n q.2 m {σ' with slots:=sl,res:=r}else False
       |none=>False)
      (fun v σ'=>match gY B 0 U.res σ'.res with
       |some r=>gr σ'.slots fun sl=>vi (ds.take d) sl fun sl=>K (.pan v) {σ' with slots:=sl,res:=r}
       |none=>False)
     else False) (Lm ds l)
def Dh(C:Ctx)(ds:List (Option Nat×Nat))(a1:Nat)(rs0:List aI):List (Nat×Oper)->Nat->List S->List Nat
 | [],_,_=> []
 |p::l,m,sl=>if fE p.2&&(aM ds p.1 ||| m)==m then
   match uC C sl rs0 0 [] p.2.op with
   |some (_,x,_)=>(if Nat.testBit a1 p.1 then[]else match p.2.op with
    | .load _ q=>match bS sl [] q with
      |some y=>match y with
       | .lp id _=>match aH rs0 id with
         | .blk _ _=> [id]
         |_=> []
       |_=> []
      |none=> []
    |_=> [])++Dh C ds a1 rs0 l (m ||| 2^p.1) (match p.2.dst with|some t=>sset sl t (.v x)|none=>sl)
   |none=>Dh C ds a1 rs0 l m sl
  else Dh C ds a1 rs0 l m sl
def GS:aI->Bool
 | .blk _ _=>true
 |_=>false
def zh:List Nat->(List Nat->Prop)->Prop
 | [],k=>k []
 |x::l,k=>zh l fun l'=>k (x::l')
theorem wm:∀(l:List Nat) (k:List Nat->Prop),zh l k=k l
 | [],_=>rfl
 |x::l,k=>by simp only[zh];exact wm l _
def AQ(ds:List (Option Nat×Nat)):List (Nat×Oper)->Nat
 | []=>0
 |p::l=>match l with
  | []=>aM ds p.1
  |_::_=>aM ds p.1 &&& AQ ds l
theorem rj{ds:List (Option Nat×Nat)}:∀{l:List (Nat×Oper)} {k:Nat},(AQ ds l).testBit k=true->∀p∈l,(aM ds p.1).testBit k=true
 | [],k,h,p,hp=>by simp at hp
 | [q],k,h,p,hp=>by simp at hp;subst hp;exact h
 |q::r::l,k,h,p,hp=>by
  have h:(aM ds q.1 &&& AQ ds (r::l)).testBit k=true:=h;rw[Nat.testBit_and,ah]at h;rcases List.mem_cons.1 hp with rfl|hp
  ·exact h.1
  ·exact rj h.2 p hp
def HB(C:Ctx)(H:Handler)(Y:bJ)(ops:List Oper)(ds:List (Option Nat×Nat))(U:St)(K:Out->St->Prop):Prop:=
 let d:=jt ds 0 ops
 let xs:=eB 0 (ops.take d)
 let ts:=xs.filter fun p=>fF p.2
 let a1:=AQ ds ts
 if rf ds 0 ops ds&&mR ds&&wJ ds (ds.take d) (yj (fun _ o=>fF o) 0 (ops.take d)) (yj (fun i o=>gS (aM ds i) o) 0 (ops.take d)) 0 (ops.take d)&&(ops.take d).all (KY C)then
  gr U.slots fun sl=>vi (ds.take d) sl fun sl=>zh (Dh C ds a1 U.res xs 0 sl) fun B=>if B.all (fun i=>GS (aH U.res i))then
   sF C ds a1 (iK B 0 U.res) U.res true xs 0 sl fun m sl=>vI C H Y ops ds d a1 B (iK B 0 U.res) U.res xs K ts.length ts m {U with slots:=sl}
  else False
 else False
def nq(N:Nat->Prop)(a b:Act):Prop:=a.defers=b.defers/\a.tmps.size=b.tmps.size/\∀t,¬N t->a.tmps.getD t undef=b.tmps.getD t undef
theorem vF(a:Act)(d:Option Nat)(v:Value)(t:Nat):(a.put d v).tmps.getD t undef=if d=some t/\t<a.tmps.size then v else a.tmps.getD t undef:=by
 cases d with
 |none=>simp[Act.put]
 |some e=>
  simp only[Act.put,Array.getD_eq_getD_getElem?,aa];by_cases h:e=t
  ·simp_all
  ·simp[h,Array.getElem?_setIfInBounds_ne h]
theorem kK(a:Act)(d:Option Nat)(v:Value):(a.put d v).tmps.size=a.tmps.size:=by cases d<;>simp[Act.put]
theorem nq.put{N:Nat->Prop}{a b:Act}(h:nq N a b)(d:Option Nat)(v:Value):nq N (a.put d v) (b.put d v):=by
 refine⟨by rw[put_defers,put_defers];exact h.1,by rw[kK,kK];exact h.2.1,fun t ht=>?_⟩
 rw[vF,vF,h.2.1,h.2.2 t ht]
theorem nq.eval{N:Nat->Prop}{a b:Act}(h:nq N a b){x:Operand}(hx:∀t,x= .tmp t->¬N t):a.eval x=b.eval x:=by
 cases x with
 |tmp t=>exact h.2.2 t (hx t rfl)
 |_=>rfl
theorem Md[Fen]{P:Program}{ro:Option Nat}{o:Oper}{N:Nat->Prop}{a b:Act}{w:World}{next next':Act->World->Prop}{Q Q':Exit->Act->World->Prop}(ht:fF o=true)(hab:nq N a b)(hN:∀t,Operand.tmp t∈o.op.operands->¬N t)
  (hn:∀a' b' w',nq N a' b'->(∃v,b'.tmps=(b.put o.dst v).tmps)->next b' w'->next' a' w') (hQ:∀c w',Q (.panic c) b w'->Q' (.panic c) a w') (hl:LetsOut Q->LetsOut Q') (h:o.wpIn (FF P ro) 0 P b w next Q):o.wpIn (FF P ro) 0 P a w next' Q':=by
 have hev:∀x∈o.op.operands,a.eval x=b.eval x:=fun x hx=>hab.eval fun t e=>hN t (e▸hx)
 have hnd:∀c,o.op≠ .defer c:=fun c e=>by unfold fF at ht;rw[e]at ht;split at ht<;>simp at ht
 have hns:∀cs b,o.op≠ .select cs b:=fun c b e=>by unfold fF at ht;rw[e]at ht;split at ht<;>simp at ht
 unfold Oper.wpIn at h⊢;rw[Oper.semAt_eq _ _ _ hnd]at h⊢;rw[execOp_congr o hns hev];refine⟨fun f hf=>h.1 f (by rw[<-about_congr o w hev];exact hf),?_⟩
 replace h:=h.2
 generalize (execOp b.eval o).run P w=r at *
 cases r with
 |ok x w'=>
  cases x<;>simp only[Oper.uponIn]at h⊢
  case value u=>exact hn _ _ _ (hab.put _ _) ⟨_,rfl⟩ h
  case skip=>exact hn _ _ _ (hab.put _ _) ⟨_,rfl⟩ h
  case defer d=>exact hn _ _ _ (nq.put (N:=N) (a:= {a with defers:=d::a.defers}) (b:= {b with defers:=d::b.defers}) ⟨by simp only[hab.1],hab.2.1,hab.2.2⟩ _ _) ⟨undef,by cases o.dst<;>rfl⟩ h
  case enter f args=>
   refine⟨h.1,CallsIn.mono h.2 fun e w'' he=>?_⟩
   cases e with
   |returned u=>exact hn _ _ _ (hab.put _ _) ⟨_,rfl⟩ he
   |panicked c=>exact hQ _ _ he
   |outgrown=>exact hl he
  case row row args=>exact⟨h.1,RowsIn.mono h.2 fun u w'' he=>hn _ _ _ (hab.put _ _) ⟨_,rfl⟩ he⟩
  case round l f tmps assign body=>
   refine⟨h.1,RoundIn.mono h.2 fun e w'' he=>?_⟩
   cases e with
   |returned u=>exact hn _ _ _ (hab.put _ _) ⟨_,rfl⟩ he
   |panicked c=>exact hQ _ _ he
   |outgrown=>exact hl he
 |halt x w'=>
  cases x<;>simp only[Oper.uponIn]at h⊢
  case panic u=>exact hQ _ _ h
def Jf[Fen](P:Program)(o:Oper)(b:Act)(v:Value)(cond:World->Prop):Prop:=∀a w,(∀x∈o.op.operands,a.eval x=b.eval x)->cond w->Yields P o a w fun v' w'=>v'=v/\Below w.heap.size w w'
theorem u0{o:Oper}(h:fE o=true):o.guard=none/\(∃t,o.dst=some t)/\(∀c,o.op≠ .call c)/\(∀c,o.op≠ .defer c)/\(∀cs b,o.op≠ .select cs b)/\(∀t,o.op≠ .alloc t)/\∀t p x,o.op≠ .store t p x:=by
 grind[fE]
theorem mb{m:Nat}{o:Oper}(h:gS m o=true):o.guard=none/\(∃t,o.dst=some t)/\(∃t,o.op= .alloc t)/\m=0:=by
 grind[gS]
theorem qy{o:Oper}(h:fF o=true):o.guard=none/\(∀t,o.op≠ .alloc t)/\fE o=false:=by
 obtain⟨dst,op,type,pos,after,guard⟩:=o;cases guard with
 |some _=>simp[fF]at h
 |none=>cases op<;>first| (simp[fF]at h;done)|exact⟨rfl,fun t e=>by simp at e,by cases dst<;>simp_all[fE,fF]⟩
theorem rp{m s:Nat}:∀{l:List (Option Nat×Nat)} {k0:Nat},xq m s k0 l=true->∀k mm,l[k]? =some (some s,mm)->m.testBit (k0+k)=true
 | [],_,_,k,_,h=>by simp at h
 |p::l,k0,h,k,mm,hk=>by
  simp only[xq,ah]at h;cases k with
  |zero=>
   simp at hk;subst hk;simpa using h.1
  |succ k=>
   have:=rp h.2 k mm (by simpa using hk)
   rwa [show k0+1+k=k0+(k+1) by omega]at this
theorem vX{p:Nat->Oper->Bool}:∀{l:List Oper} {i j:Nat} {o:Oper},l[j]? =some o->p (i+j) o=true->(yj p i l).testBit (i+j)=true
 | [],i,j,o,h,_=>by simp at h
 |x::l,i,0,o,h,hp=>by
  simp_all[yj]
 |x::l,i,j+1,o,h,hp=>by
  have:=vX (p:=p) (l:=l) (i:=i+1) (j:=j) (by simpa using h) (by rw[show i+1+j=i+(j+1) by omega];exact hp)
  rw[show i+1+j=i+(j+1) by omega]at this
  simp only[yj,Nat.testBit_or,this,Bool.or_true]
theorem qM{ds dd:List (Option Nat×Nat)}{tm am:Nat}:∀{l:List Oper} {i:Nat},wJ ds dd tm am i l=true->∀j o,l[j]? =some o->
  (fE o=true/\(∀k,(aM ds (i+j)).testBit k=true->am.testBit k=true->∃x,(aM ds (i+j)).testBit x=true/\(aM ds x).testBit k=true)\/fE o=false/\(gS (aM ds (i+j)) o=true\/fF o=true))/\
  ∀t,Operand.tmp t∈o.op.operands->∀k mm,dd[k]? =some (some t,mm)->(aM ds (i+j)).testBit k=true
 | [],_,_,j,o,h=>by simp at h
 |x::l,i,h,j+1,o,ho=>by
  simp only[wJ,ah]at h;have:=qM h.2 j o (by simpa using ho)
  rwa [show i+1+j=i+(j+1) by omega]at this
 |x::l,i,h,0,o,ho=>by
  simp at ho;subst ho;simp only[wJ,ah]at h;obtain⟨⟨h1,h2⟩,_⟩:=h;rw[Nat.add_zero];refine⟨?_,fun t ht k mm hk=>?_⟩
  ·cases hf:fE x with
   |true=>
    rw[hf]at h1;refine .inl ⟨rfl,fun k hk hb=>wv (n:=i) ?_⟩
    have h1:(aM ds i &&& am &&& AK ds (aM ds i) i)=(aM ds i &&& am):=by simpa using h1
    have:=congrArg (fun x=>Nat.testBit x k) h1
    simp only[Nat.testBit_and,hk,hb,Bool.true_and]at this;exact this
   |false=>
    rw[hf]at h1;right
    refine⟨rfl,?_⟩;simpa only[Bool.false_eq_true,if_false,Bool.or_eq_true]using h1
  ·rw[List.all_eq_true]at h2;have:=h2 (.tmp t) (by simpa using ht)
   have:=rp (show xq (aM ds i) t 0 dd=true from this) k mm hk;rwa [Nat.zero_add]at this
theorem mr{ds:List (Option Nat×Nat)}:∀{l:List Oper} {i:Nat},∃j,jt ds i l=i+j/\j<=l.length/\jL ds (i+j) (l.drop j)=true
 | [],i=>⟨0,rfl,Nat.le_refl _,rfl⟩
 |x::l,i=>by
  simp only[jt];split
  ·rename_i h;exact⟨0,rfl,by simp,by simpa using h⟩
  ·obtain⟨j,h1,h2,h3⟩:=mr (ds:=ds) (l:=l) (i:=i+1);exact⟨j+1,by rw[h1];omega,by simpa using h2,by rw[show i+(j+1)=i+1+j by omega];simpa using h3⟩
end Go.Sx
namespace Go.Sx
open Go.RowKit (Below)
theorem w7{o:Oper}(h:fE o=true\/∃m,gS m o=true){e:Operand->Value}{P:Program}{w w':World}{f:Nat}{args:Array Value}:(execOp e o).run P w≠ .ok (.enter f args) w':=by
 have key:∀s:Sem Value,(do pure (Next.value (<-s)):Sem Next).run P w≠ .ok (.enter f args) w':=by
  intro s;rw[Sem.run_bind];cases s.run P w<;>simp
 obtain⟨dst,op,type,pos,after,guard⟩:=o;cases op
 case nilCheck y=>
  intro hh;simp only[execOp]at hh;split at hh
  ·simp[runtimePanic]at hh
  ·simp[runtimePanic]at hh
  ·simp[runtimePanic]at hh
  ·split at hh
   ·simp[runtimePanic]at hh
   ·rename_i t x _;rw[Sem.run_bind]at hh;generalize Sem.run P program w=r at hh
    cases r with
    |halt x w1=>simp at hh
    |ok x w1=>
     simp only[Result.andThen_ok]at hh;rw[Sem.run_bind]at hh;generalize Sem.run P (nilAhead _ _ _ _) w1=r2 at hh
     cases r2 with
     |halt x w1=>simp at hh
     |ok y w2=>
      simp only[Result.andThen_ok]at hh;split at hh
      ·simp_all
      ·simp at hh
   ·simp at hh
  ·simp at hh
 all_goals first|exact key _| (exfalso;cases guard<;>cases dst<;>simp[fE,gS]at h;done)|simp[execOp]
theorem DK{o:Oper}(h:fE o=true\/∃m,gS m o=true)(P:Program)(w:World)(e:Operand->Value):o.about P w e=none:=by
 obtain⟨dst,op,type,pos,after,guard⟩:=o;cases op<;>first|rfl| (exfalso;cases guard<;>cases dst<;>simp[fE,gS]at h;done)
theorem tT[Fen]{P:Program}{o:Oper}{a:Act}{w:World}{R:Value->World->Prop}{next:Act->World->Prop}{Q:Exit->Act->World->Prop}{ro:Option Nat}(hf:fE o=true\/∃m,gS m o=true)(hd:ro≠none->bZ o)(hy:Yields P o a w R)
  (hn:∀v w',R v w'->next (a.put o.dst v) w'):o.wpIn (FF P ro) 0 P a w next Q:=
 cL hd (fun f h=>by rw[DK hf]at h;simp at h) (hy.wp hn)
theorem qV{ds:List (Option Nat×Nat)}:∀{ops:List Oper} {i0:Nat} {dd:List (Option Nat×Nat)},rf ds i0 ops dd=true->ops.length=dd.length/\∀(i:Nat) (o:Oper),ops[i]? =some o->
  ∃m,dd[i]? =some (o.dst,m)/\eK ds o.after.toList ||| m=eK ds o.after.toList/\eK ds o.after.toList<2^(i0+i)/\∀j,j<i0+i->m.testBit j=true->(aM ds j ||| m)=m
 | [],i0,[],_=>⟨rfl,by simp⟩
 | [],_,_::_,h=>by simp[rf]at h
 |_::_,_,[],h=>by simp[rf]at h
 |o::l,i0,d::dd,h=>by
  simp only[rf,ah,aj,List.all_eq_true,List.mem_range,Bool.or_eq_true,Bool.not_eq_true',Nat.ble_eq]at h;obtain⟨⟨⟨⟨h1,h2⟩,h3⟩,h4⟩,h5⟩:=h;obtain⟨i1,i2⟩:=qV h5;refine⟨by simp[i1],fun i p hp=>?_⟩
  cases i with
  |zero=>
   simp only[List.getElem?_cons_zero,aa]at hp;subst hp;refine⟨d.2,?_,h2,by rw[Nat.add_zero];exact h3,fun j hlt hj=>?_⟩
   ·grind
   ·grind
  |succ i=>
   obtain⟨m,a,b,c,e⟩:=i2 i p (by simpa using hp)
   exact⟨m,by simpa using a,b,by rw[show i0+(i+1)=i0+1+i by omega];exact c,fun j hj=>e j (by omega)⟩
structure zC(opsA:Array Oper)(ds:List (Option Nat×Nat)):Prop where
 okk:rf ds 0 opsA.toList ds=true
theorem zC.at{opsA:Array Oper}{ds:List (Option Nat×Nat)}(P:zC opsA ds){i:Nat}{o:Oper}(h:opsA[i]? =some o):
  ds[i]? =some (o.dst,aM ds i)/\(∀k,(aM ds i).testBit k=true->k<i)/\
  ((∀k,(aM ds i).testBit k=true->∃e∈o.after,Region.binds .any e=true/\(e.on=k\/(aM ds e.on).testBit k=true))/\∀e∈o.after,Region.binds .any e=true->e.on<i)/\
  ∀k r,(aM ds i).testBit k=true->(aM ds k).testBit r=true->(aM ds i).testBit r=true:=by
 obtain⟨m,h1,h2,h3,h4⟩:=(qV P.okk).2 i o (by simpa using h)
 rw[Nat.zero_add]at h3 h4;have hm:aM ds i=m:=by simp[aM,h1]
 rw[hm]
 have lt:∀k,(eK ds o.after.toList).testBit k=true->k<i:=fun k hk=>by
  rcases Nat.lt_or_ge k i with h|h
  ·exact h
  ·have:=Nat.testBit_lt_two_pow (x:=eK ds o.after.toList) (i:=k) (Nat.lt_of_lt_of_le h3 (Nat.pow_le_pow_right (by omega) (by omega)))
   rw[this]at hk;simp at hk
 have up:∀k,m.testBit k=true->(eK ds o.after.toList).testBit k=true:=fun k hk=>by rw[<-h2,Nat.testBit_or,hk,Bool.or_true]
 refine⟨h1,fun k hk=>lt k (up k hk),⟨fun k hk=>?_,fun e he hb=>?_⟩,fun k r hk hr=>?_⟩
 ·have:=gK.1 (up k hk);simpa only[Array.mem_toList_iff]using this
 ·exact lt e.on (gK.2 ⟨e,by simpa only[Array.mem_toList_iff]using he,hb,.inl rfl⟩)
 ·rw[<-h4 k (lt k (up k hk)) hk,Nat.testBit_or,hr];rfl
structure mG(opsA:Array Oper)(ds:List (Option Nat×Nat))(d a1:Nat):Prop where
 at':∀i o,opsA[i]? =some o->(∀k,(aM ds i).testBit k=true->k<i)/\
  ((∀k,(aM ds i).testBit k=true->∃e∈o.after,Region.binds .any e=true/\(e.on=k\/(aM ds e.on).testBit k=true))/\∀e∈o.after,Region.binds .any e=true->e.on<i)/\
  ∀k r,(aM ds i).testBit k=true->(aM ds k).testBit r=true->(aM ds i).testBit r=true
 dsat:∀i o,opsA[i]? =some o->ds[i]? =some (o.dst,aM ds i)
 kind:∀i o,i<d->opsA[i]? =some o->(fE o=true/\∀k o',(aM ds i).testBit k=true->opsA[k]? =some o'->gS (aM ds k) o'=true->∃x,(aM ds i).testBit x=true/\(aM ds x).testBit k=true)\/
  (fE o=false/\(gS (aM ds i) o=true\/fF o=true))
 opnd:∀i o t,i<d->opsA[i]? =some o->Operand.tmp t∈o.op.operands->∀k o',k<d->opsA[k]? =some o'->o'.dst=some t->(aM ds i).testBit k=true
 mR:∀(i j:Nat) (o o':Oper) (t:Nat),opsA[i]? =some o->opsA[j]? =some o'->o.dst=some t->o'.dst=some t->i=j
 tail:∀i,i<opsA.size->d<=i->∀k,(aM ds i).testBit k=true↔k<i
 ta1:∀i o,i<d->opsA[i]? =some o->fF o=true->∀k,a1.testBit k=true->(aM ds i).testBit k=true
 a1d:∀k,a1.testBit k=true->k<d
 dle:d<=opsA.size
def IX(opsA:Array Oper)(ds:List (Option Nat×Nat))(i:Nat):Prop:=∃o,opsA[i]? =some o/\gS (aM ds i) o=true
def KB(opsA:Array Oper)(i:Nat):Prop:=∃o,opsA[i]? =some o/\fE o=true
theorem GL{opsA:Array Oper}{ds:List (Option Nat×Nat)}{i:Nat}(h:KB opsA i)(h':IX opsA ds i):False:=by
 obtain⟨o,h1,h2⟩:=h;obtain⟨o',h3,h4⟩:=h';rw[h1]at h3;simp only[aa]at h3;subst h3;obtain⟨_,_,⟨t,ht⟩,_⟩:=mb h4;exact(u0 h2).2.2.2.2.2.1 t ht
def NS(opsA:Array Oper)(m:Nat)(L:Nat->Bool)(t:Nat):Prop:=∃i o,opsA[i]? =some o/\o.dst=some t/\m.testBit i=true/\L i=false
def Ha(w0:World)(F0:Nat->Prop)(rs0:List aI)(p:Nat->Prop)(J:Env)(res:List aI)(w:World):Prop:=∃ρ' fps' res',aQ ρ' fps' res' (known res') w0 F0 w/\Good J res ρ' res'/\∀i,p i->aH res' i=aH rs0 i
def G2(a1:Nat)(B:List Nat)(rs0:List aI)(i k:Nat):Prop:=if a1.testBit i=true then known rs0 k else mo B rs0 k
theorem Ha.mono{w0:World}{F0:Nat->Prop}{rs0:List aI}{p:Nat->Prop}{J ρ1:Env}{res res1:List aI}{w:World}(hg:Good J res ρ1 res1)(h:Ha w0 F0 rs0 p ρ1 res1 w):Ha w0 F0 rs0 p J res w:=
 let ⟨ρ',fps',res',h1,h2,h3⟩:=h
 ⟨ρ',fps',res',h1,hg.trans h2,h3⟩
theorem Jf.mono[Fen]{P:Program}{o:Oper}{b b':Act}{v:Value}{c c':World->Prop}(h:Jf P o b v c)(hb:∀x∈o.op.operands,b'.eval x=b.eval x)(hc:∀w,c' w->c w):Jf P o b' v c':=
 fun a w ha hw=>h a w (fun x hx=>(ha x hx).trans (hb x hx)) (hc w hw)
theorem Ix[Fen]{C:Ctx}{o:Oper}{q:Option Prop}{x:V}{sl:List S}{R res rs0:List aI}{J:Env}{fps:Nat->Nat->Prop}{b:Act}{w w0:World}{F0 p:Nat->Prop}(hC:C.Sound)(hf:fE o=true)(h:uC C sl R 0 [] o.op=some (q,x,[]))(hq:bq q)(hF:er J (known res) sl b)
  (hR:∀i,known R i->p i/\aH R i=aH rs0 i) (hH:aQ J fps res (known res) w0 F0 w) (hp:∀i,p i->aH res i=aH rs0 i):ok (known res) x/\Jf C.P o b (den J x) (Ha w0 F0 rs0 p J res):=by
 have base:∀ρ' fps' res' w',aQ ρ' fps' res' (known res') w0 F0 w'->Good J res ρ' res'->(∀i,p i->aH res' i=aH rs0 i)->Yields C.P o b w' (kh (known res') ρ' 0 x [] w0 F0 w'):=fun ρ' fps' res' w' h1 h2 h3=>
  (gN hC h (hF.env h2.2 h2.1) (h1.forget fun i hi=>(hR i hi).2.trans (h3 i (hR i hi).1).symm) rfl hq (fun k hk=>by simp at hk)).1
 have nof:∀{K:Nat->Prop} {i:Nat},K i\/fresh 0 ([]:List aI).length i->K i:=fun h=>h.elim id fun h=>by unfold fresh at h;simp at h
 have hok:ok (known res) x:=by
  rcases base J fps res w hH (Good.refl _ _) hp with⟨v,w',h1,ρ'',_,_,h4⟩|⟨f,args,h1,_⟩
  ·exact bE (fun i hi=>nof hi) x h4
  ·exact absurd h1 (w7 (.inl hf))
 refine⟨hok,fun a' w' he hc=>?_⟩
 obtain⟨ρ',fps',res',h1,h2,h3⟩:=hc;have he':execOp a'.eval o=execOp b.eval o:=execOp_congr o (u0 hf).2.2.2.2.1 he;rcases base ρ' fps' res' w' h1 h2 h3 with⟨v,w'',e1,ρ'',e2,e3,e4⟩|⟨f,args,h1,_⟩
 ·refine .inl ⟨v,w'',by rw[he'];exact e1,?_,e2.1⟩
  rw[e3,cJ (N:=known res') (e2.2.1.mono fun i _ h=>by unfold fresh at h;simp at h) x (bE h2.2 x hok),cJ h2.1 x hok]
 ·exact absurd h1 (w7 (.inl hf))
def ly(x:Array Value)(d:Option Nat)(v:Value):Array Value:=match d with|some t=>x.setIfInBounds t v|none=>x
theorem dh(a:Act)(d:Option Nat)(v:Value):(a.put d v).tmps=ly a.tmps d v:=by cases d<;>rfl
theorem gO{x:Array Value}{d d':Option Nat}{v v':Value}(h:∀t,d=some t->d'=some t->False):ly (ly x d v) d' v'=ly (ly x d' v') d v:=by
 cases d with
 |none=>rfl
 |some t=>
  cases d' with
  |none=>rfl
  |some t'=>
   have hne:t≠t':=fun e=>h t rfl (by rw[e])
   exact Array.setIfInBounds_comm _ _ hne
theorem sZ(x:Array Value)(d:Option Nat)(v:Value):ly (ly x d v) d v=ly x d v:=by
 cases d with
 |none=>rfl
 |some t=>simp[ly]
theorem er.tmps{J:Env}{K:Nat->Prop}{sl:List S}{a a':Act}(h:er J K sl a)(e:a'.tmps=a.tmps):er J K sl a':=by unfold er at h⊢;rw[e];exact h
theorem Ae{a a':Act}(x:Operand)(h:∀t,x= .tmp t->a'.tmps.getD t undef=a.tmps.getD t undef):a'.eval x=a.eval x:=by
 cases x with
 |tmp t=>exact h t rfl
 |_=>rfl
theorem mg{x:Array Value}{d:Option Nat}{v:Value}{t:Nat}(h:d≠some t):(ly x d v).getD t undef=x.getD t undef:=by
 cases d with
 |none=>rfl
 |some e=>
  have:e≠t:=fun h'=>h (by rw[h'])
  simp[ly,Array.getD_eq_getD_getElem?,Array.getElem?_setIfInBounds_ne this]
theorem er.He{J:Env}{K:Nat->Prop}{sl:List S}{a:Act}(h:er J K sl a){d:Option Nat}{v:Value}(hu:∀t,d=some t->bh sl t= .und):er J K sl (a.put d v):=by
 refine⟨by rw[kK];exact h.1,fun t=>?_⟩
 by_cases e:d=some t
 ·rw[hu t e];trivial
 ·rw[dh,mg e];exact h.2 t
theorem nq.mono{N N':Nat->Prop}{a b:Act}(h:nq N a b)(hN:∀t,N t->N' t):nq N' a b:=⟨h.1,h.2.1,fun t ht=>h.2.2 t fun h=>ht (hN t h)⟩
theorem aQ.JO{J:Env}{fps:Nat->Nat->Prop}{res:List aI}{w0 w:World}{F0:Nat->Prop}{g t:Nat}{z:V}(h:aQ J fps res (known res) w0 F0 w)(hz:ok (fun _=>False) z)(ht:bp z=false)
  (hb:w.heap[g]? =some (.cells (cells Env.zero z).toArray t (0,0))) (hg:w0.heap.size<=g) (hn:∀k,known res k->¬fps k g):
  aQ (J.aZ res.length g) (fun i b=>if i=res.length then b=g else fps i b) (iY res [.blk t z]) (known (iY res [.blk t z])) w0 F0 w/\Good J res (J.aZ res.length g) (iY res [.blk t z]):=by
 have hget:∀i,aH (iY res [.blk t z]) i=if i=res.length then .blk t z else aH res i:=fun i=>by
  show aH (res++ [.blk t z]) i=_
  rw[bc];by_cases h1:i<res.length
  ·rw[au h1,ar (by omega)]
  ·rw[ar h1];by_cases h2:i=res.length
   ·subst h2;simp[aH]
   ·rw[ar h2];have:aH res i= .yet:=Classical.byContradiction fun hh=>h1 (aK hh)
    rw[this];cases hx:i-res.length with
    |zero=>omega
    |succ n=>simp[aH]
 have hkn:∀i,known res i->i≠res.length/\known (iY res [.blk t z]) i:=fun i hi=>by
  have:=aK hi;refine⟨by omega,?_⟩
  unfold known;rw[hget,ar (by omega)];exact hi
 have hk':∀i,known (iY res [.blk t z]) i->i=res.length\/(i≠res.length/\known res i):=fun i hi=>by
  grind[known]
 have hag:Env.agree (known res) J (J.aZ res.length g):=fun i hi=>by
  have:=(hkn i hi).1;simp[Env.aZ,this]
 have hlt:g<w.heap.size:=(Array.getElem?_eq_some_iff.1 hb).1;refine⟨⟨fun i hi=>hi,h.old,h.os,h.tape,h.output,fun i hi=>?_,fun i b hi hbb=>?_,fun i j b hi hj hne h3 h4=>?_,fun i b hi hbb hl=>?_,h.same⟩,hag,fun i hi=>(hkn i hi).2⟩
 ·rcases hk' i hi with e|⟨e,hk⟩
  ·subst e;rw[hget,au rfl];refine⟨de hz,ht,by simp[Env.aZ],?_⟩
   rw[bw (N:=fun _=>False) (J:=Env.zero) (fun _ h=>h.elim) z hz]
   simpa[Env.aZ]using hb
  ·rw[hget,ar e];have:=aI.lQ _ (h.holds i hk) (fun j hj=>(hkn j hj).2) hag hk
   simpa only[ar e]using this
 ·rcases hk' i hi with e|⟨e,hk⟩
  ·simp only[au e]at hbb;subst hbb;exact hlt
  ·simp only[ar e]at hbb;exact h.lt i b hk hbb
 ·rcases hk' i hi with e|⟨e,hk⟩<;>rcases hk' j hj with e'|⟨e',hk'⟩
  ·omega
  ·simp_all
  ·simp_all
  ·simp only[ar e]at h3;simp only[ar e']at h4;exact h.disj i j b hk hk' hne h3 h4
 ·rcases hk' i hi with e|⟨e,hk⟩
  ·simp only[au e]at hbb;omega
  ·simp only[ar e]at hbb;exact h.inF i b hk hbb hl
structure mT[Fen](C:Ctx)(opsA:Array Oper)(ds:List (Option Nat×Nat))(d a1:Nat)(B:List Nat)(rs0:List aI)(ρs:Env)(w0:World)(F0:Nat->Prop)(m:Nat)(U:St)(L:Nat->Bool)(J:Env)(fps:Nat->Nat->Prop)(a b:Act)(w:World)(gb:Nat->Nat):Prop where
 rep:fq J fps U w0 F0 b w
 qc:Good ρs rs0 J U.res
 near:nq (NS opsA m L) a b
 lm:∀i,L i=true->i<d/\(m.testBit i=true\/IX opsA ds i)
 ml:∀i,m.testBit i=true->i<d/\(L i=true\/KB opsA i)
 mdn:∀i k,m.testBit i=true->(aM ds i).testBit k=true->m.testBit k=true
 val:∀i o,opsA[i]? =some o->fE o=true->m.testBit i=true->L i=false->∃v,ly b.tmps o.dst v=b.tmps/\Jf C.P o b v (Ha w0 F0 rs0 (G2 a1 B rs0 i) J U.res)
 alc:∀i o,i<d->opsA[i]? =some o->gS (aM ds i) o=true->m.testBit i=false->(∀t,o.dst=some t->bh U.slots t= .und)/\
  (L i=true->∃t z,o.op= .alloc t/\C.Z t=some z/\ly b.tmps o.dst (.pointer (some ⟨gb i,0,none⟩))=b.tmps/\w.heap[gb i]? =some (.cells (cells Env.zero z).toArray t (0,0))/\w0.heap.size<=gb i/\∀k,known U.res k->¬fps k (gb i))
 inj:∀i j,IX opsA ds i->IX opsA ds j->L i=true->L j=true->m.testBit i=false->m.testBit j=false->gb i=gb j->i=j
 prt:∀i,mo B rs0 i->aH U.res i=aH rs0 i
 ph0:(∃i,a1.testBit i=true/\L i=false)->U.res=rs0
theorem cA{m i k:Nat}:(m ||| 2^i).testBit k=true↔m.testBit k=true\/k=i:=by
 grind
theorem Dv{x m:Nat}(h:(x ||| m)=m){k:Nat}(hk:x.testBit k=true):m.testBit k=true:=by rw[<-h,Nat.testBit_or,hk];rfl
theorem vT{B:List Nat}{rs0:List aI}(hB:∀i,B.contains i=true->∃ty c,aH rs0 i= .blk ty c)(i:Nat)(h:known (iK B 0 rs0) i):mo B rs0 i/\aH (iK B 0 rs0) i=aH rs0 i:=by
 unfold known at h;rw[uy,Nat.zero_add]at h⊢;split at h
 ·rename_i hc;rw[au hc];refine⟨⟨aK h,?_⟩,rfl⟩;simpa using hc
 ·exact absurd rfl h
theorem qG{B:List Nat}{rs0:List aI}(hB:∀i,B.contains i=true->∃ty c,aH rs0 i= .blk ty c){i:Nat}(h:mo B rs0 i):known rs0 i:=by
 rcases h.2 with hc|hc
 ·obtain⟨ty,c,e⟩:=hB i hc;unfold known;simp[e]
 ·intro e;rw[e]at hc;simp[eV]at hc
end Go.Sx
namespace Go.Sx
open Go.RowKit (Below)
theorem w9{sl sl2:List S}{dd:Option Nat}{s:S}(h:iB sl dd s=some sl2){t:Nat}(ht:dd≠some t):bh sl2 t=bh sl t:=by
 unfold iB at h;cases dd with
 |none=>simp only[aa]at h;rw[h]
 |some e=>
  simp only at h;split at h
  ·grind[dc]
  ·simp at h
theorem oQ(res:List aI)(r:aI)(i:Nat):aH (iY res [r]) i=if i=res.length then r else aH res i:=by
 show aH (res++ [r]) i=_
 rw[bc];by_cases h1:i<res.length
 ·rw[au h1,ar (by omega)]
 ·rw[ar h1];by_cases h2:i=res.length
  ·subst h2;simp[aH]
  ·rw[ar h2];have:aH res i= .yet:=Classical.byContradiction fun hh=>h1 (aK hh)
   rw[this];cases hx:i-res.length with
   |zero=>omega
   |succ n=>simp[aH]
theorem DP{x:Array Value}{t:Nat}(h:¬t<x.size):x.getD t undef=undef:=by simp[Array.getD_eq_getD_getElem?,Array.getElem?_eq_none (Nat.not_lt.1 h)]
theorem rG{x y:Array Value}{t:Nat}{v:Value}(h:x.size=y.size):(ly x (some t) v).getD t undef=(ly y (some t) v).getD t undef:=by
 simp_all[ly,DP]
section
variable {C:Ctx} {opsA:Array Oper} {ds:List (Option Nat×Nat)} {d a1:Nat} {B:List Nat} {rs0:List aI} {ρs J:Env} {w0 w:World} {F0:Nat->Prop} {m:Nat} {L:Nat->Bool} {fps:Nat->Nat->Prop} {a b:Act} {gb:Nat->Nat} {U:St}
theorem mT.L7[Fen](M:mT C opsA ds d a1 B rs0 ρs w0 F0 m U L J fps a b w gb){i:Nat}{o:Oper}(ho:opsA[i]? =some o)(hfl:fE o=true)(hm:m.testBit i=false):L i=false:=by
 cases h:L i with
 |false=>rfl
 |true=>
  rcases(M.lm i h).2 with h'|h'
  ·rw[hm]at h';simp at h'
  ·exact(GL ⟨o,ho,hfl⟩ h').elim
theorem mT.ne{i j:Nat}(h:m.testBit j=true)(h':m.testBit i=false):j≠i:=fun e=>by rw[e,h']at h;simp at h
theorem mT.zm[Fen](hf:mG opsA ds d a1)(M:mT C opsA ds d a1 B rs0 ρs w0 F0 m U L J fps a b w gb){i:Nat}{o:Oper}(ho:opsA[i]? =some o)(hi:i<d)(hm:m.testBit i=false){b':Act}{v:Value}(hb':b'.tmps=ly b.tmps o.dst v)
  {j:Nat} {o':Oper} (hjd:j<d) (hj:opsA[j]? =some o') (hmj:m.testBit j=true\/j=i):∀y∈o'.op.operands,b'.eval y=b.eval y:=fun y hy=>Ae y fun t e=>by
 subst e;rw[hb'];refine mg fun hd=>?_
 have:=hf.opnd j o' t hjd hj hy i o hi ho hd;rcases hmj with h|rfl
 ·rw[M.mdn j i h this]at hm;simp at hm
 ·have:=(hf.at' j o' hj).1 j this;omega
theorem eT{m i j:Nat}(h:(m ||| 2^i).testBit j=false):m.testBit j=false/\j≠i:=by
 grind
theorem mT.Ka[Fen](hf:mG opsA ds d a1)(M:mT C opsA ds d a1 B rs0 ρs w0 F0 m U L J fps a b w gb){i:Nat}{o:Oper}{x:V}{sl2:List S}(ho:opsA[i]? =some o)(hi:i<d)(hfl:fE o=true)(hm:m.testBit i=false)(hanc:(aM ds i ||| m)=m)
  (hx:ok (known U.res) x) (hV:Jf C.P o b (den J x) (Ha w0 F0 rs0 (G2 a1 B rs0 i) J U.res)) (hp:iB U.slots o.dst (.v x)=some sl2):
  mT C opsA ds d a1 B rs0 ρs w0 F0 (m ||| 2^i) {U with slots:=sl2} L J fps a (b.put o.dst (den J x)) w gb:=by
 have hLi:=M.L7 ho hfl hm;have nd:∀j o',opsA[j]? =some o'->j≠i->∀t,o.dst=some t->o'.dst=some t->False:=fun j o' hj hne t ht e=>hne (hf.mR j i o' o t hj ho e ht)
 refine⟨⟨M.rep.1.iB hp fun _ _ _ _=>⟨rfl,hx⟩,M.rep.2.1,by rw[put_defers];exact M.rep.2.2.1,M.rep.2.2.2⟩,M.qc,⟨by rw[put_defers];exact M.near.1,by rw[kK];exact M.near.2.1,fun t ht=>?_⟩,fun j hj=>?_,fun j hj=>?_,fun j k hj hk=>?_,fun j o' hj hfl' hmj hLj=>?_,fun j o' hjd hj hal hmj=>?_,fun j k h1 h2 h3 h4 h5 h6=>M.inj j k h1 h2 h3 h4 (eT h5).1 (eT h6).1,M.prt,M.ph0⟩
 ·rw[dh,mg fun hd=>ht ⟨i,o,ho,hd,cA.2 (.inr rfl),hLi⟩]
  exact M.near.2.2 t fun⟨i',o',e1,e2,e3,e4⟩=>ht ⟨i',o',e1,e2,cA.2 (.inl e3),e4⟩
 ·have:=M.lm j hj;exact⟨this.1,this.2.imp (fun h=>cA.2 (.inl h)) id⟩
 ·rcases cA.1 hj with h|rfl
  ·exact M.ml j h
  ·exact⟨hi,.inr ⟨o,ho,hfl⟩⟩
 ·rcases cA.1 hj with h|rfl
  ·exact cA.2 (.inl (M.mdn j k h hk))
  ·exact cA.2 (.inl (Dv hanc hk))
 ·rcases cA.1 hmj with h|rfl
  ·obtain⟨v',e1,e2⟩:=M.val j o' hj hfl' h hLj;refine⟨v',?_,e2.mono (M.zm hf ho hi hm (dh _ _ _) (M.ml j h).1 hj (.inl h)) fun _ h=>h⟩
   rw[dh,gO (nd j o' hj (mT.ne h hm)),e1]
  ·rw[ho]at hj;simp only[aa]at hj;subst hj;exact⟨den J x,by rw[dh,sZ],hV.mono (M.zm hf ho hi hm (dh _ _ _) hi ho (.inr rfl)) fun _ h=>h⟩
 ·obtain⟨hmj,hne⟩:=eT hmj;obtain⟨u1,u2⟩:=M.alc j o' hjd hj hal hmj;refine⟨fun t ht=>?_,fun hl=>?_⟩
  ·grind[w9]
  ·obtain⟨t,z,e1,e2,e3,e4⟩:=u2 hl;exact⟨t,z,e1,e2,by rw[dh,gO (nd j o' hj hne),e3],e4⟩
theorem j6[Fen](hC:C.Sound)(hf:mG opsA ds d a1)(hB:∀i,B.contains i=true->∃ty c,aH rs0 i= .blk ty c){ph0:Bool}(hph:ph0=true->U.res=rs0){k:Nat->List S->Prop}:
  ∀(l:List Oper) (i m:Nat) (sl:List S) (b:Act),(∀j o,l[j]? =some o->opsA[i+j]? =some o/\i+j<d)->mT C opsA ds d a1 B rs0 ρs w0 F0 m {U with slots:=sl} L J fps a b w gb->
   sF C ds a1 (iK B 0 rs0) rs0 ph0 (eB i l) m sl k->
   ∃m' sl' b',mT C opsA ds d a1 B rs0 ρs w0 F0 m' {U with slots:=sl'} L J fps a b' w gb/\k m' sl'/\(∀x,m.testBit x=true->m'.testBit x=true)/\(∀x,m'.testBit x=true->m.testBit x=true\/(i<=x/\KB opsA x))/\
    ∀j o,l[j]? =some o->fE o=true->(∀x,(aM ds (i+j)).testBit x=true->m'.testBit x=true)->m'.testBit (i+j)=true
 | [],i,m,sl,b,hl,M,h=>⟨m,sl,b,M,h,fun _ h=>h,fun _ h=> .inl h,fun j o hj=>by simp at hj⟩
 |o::l,i,m,sl,b,hl,M,h=>by
  have hl':∀j o',l[j]? =some o'->opsA[i+1+j]? =some o'/\i+1+j<d:=fun j o' hj=>by
   have:=hl (j+1) o' (by simpa using hj)
   rwa [show i+(j+1)=i+1+j by omega]at this
  obtain⟨ho,hi⟩:=hl 0 o (by simp)
  rw[Nat.add_zero]at ho hi;simp only[eB,sF]at h;split at h
  ·rename_i hc;simp only[ah,Bool.not_eq_true',aj]at hc;obtain⟨⟨hfl,hm⟩,hanc⟩:=hc;split at h
   ·exact h.elim
   ·rename_i hcond;split at h
    ·rename_i q x new hop;split at h
     ·rename_i hnew;have hnew:new= []:=by simpa using hnew
      subst hnew;rw[fe]at h;split at h
      ·rename_i sl2 hp;obtain⟨hq,h⟩:=gm h
       have hpr:∀y,G2 a1 B rs0 i y->aH ({U with slots:=sl}:St).res y=aH rs0 y:=fun y hy=>by
        unfold G2 at hy;split at hy
        ·rename_i ha
         have:ph0=true:=by
          cases hh:ph0 with
          |true=>rfl
          |false=>rw[ha,hh]at hcond;simp at hcond
         show aH U.res y=_
         rw[hph this]
        ·exact M.prt y hy
       obtain⟨v1,v2⟩:=Ix (rs0:=rs0) (p:=G2 a1 B rs0 i) hC hfl hop hq M.rep.1 (fun y hy=>by
        unfold G2;split at hy
        ·rename_i ha;rw[au ha,au ha];exact⟨hy,rfl⟩
        ·rename_i ha;rw[ar ha,ar ha];exact vT hB y hy) M.rep.2.1 hpr
       have M2:=M.Ka hf ho hi hfl hm hanc v1 v2 hp;obtain⟨m',sl',b',r1,r2,r3,r4,r5⟩:=j6 hC hf hB hph l (i+1) _ sl2 _ hl' M2 h;refine⟨m',sl',b',r1,r2,fun x hx=>r3 x (cA.2 (.inl hx)),fun x hx=>?_,fun j o' hj hfl' hx=>?_⟩
       ·rcases r4 x hx with h|⟨h1,h2⟩
        ·rcases cA.1 h with h|rfl
         ·exact .inl h
         ·exact .inr ⟨Nat.le_refl _,o,ho,hfl⟩
        ·exact .inr ⟨by omega,h2⟩
       ·cases j with
        |zero=>exact r3 _ (cA.2 (.inr rfl))
        |succ j=>
         have:=r5 j o' (by simpa using hj) hfl' (by rw[show i+1+j=i+(j+1) by omega];exact hx)
         rwa [show i+1+j=i+(j+1) by omega]at this
      ·exact h.elim
     ·exact h.elim
    ·exact h.elim
  ·rename_i hc;obtain⟨m',sl',b',r1,r2,r3,r4,r5⟩:=j6 hC hf hB hph l (i+1) m sl b hl' M h;refine⟨m',sl',b',r1,r2,r3,fun x hx=>(r4 x hx).imp id fun h=>⟨by omega,h.2⟩,fun j o' hj hfl' hx=>?_⟩
   cases j with
   |zero=>
    simp only[List.getElem?_cons_zero,aa]at hj;subst hj;rw[Nat.add_zero]at hx⊢;cases hmi:m.testBit i with
    |true=>exact r3 i hmi
    |false=>
     exfalso
     refine hc ?_;simp only[ah,Bool.not_eq_true',aj];refine⟨⟨hfl',hmi⟩,Nat.eq_of_testBit_eq fun x=>?_⟩
     rw[Nat.testBit_or];cases hax:(aM ds i).testBit x with
     |false=>simp
     |true=>
      have hlt:=(hf.at' i o ho).1 x hax;rcases r4 x (hx x hax)with h|⟨h,_⟩
      ·simp[h]
      ·omega
   |succ j=>
    have:=r5 j o' (by simpa using hj) hfl' (by rw[show i+1+j=i+(j+1) by omega];exact hx)
    rwa [show i+1+j=i+(j+1) by omega]at this
theorem mT.KE[Fen](hC:C.Sound)(hf:mG opsA ds d a1)(hB:∀i,B.contains i=true->∃ty c,aH rs0 i= .blk ty c)(M:mT C opsA ds d a1 B rs0 ρs w0 F0 m U L J fps a b w gb){i:Nat}{o:Oper}{t:Nat}{z:V}{sl2:List S}(ho:opsA[i]? =some o)(hi:i<d)
  (hal:gS (aM ds i) o=true) (hm:m.testBit i=false) (hL:L i=true) (ha1:∀x,a1.testBit x=true->L x=true) (hop:o.op= .alloc t) (hz:C.Z t=some z) (hp:iB U.slots o.dst (.v (.lp U.res.length 0))=some sl2):
  ∃ρ' fps',mT C opsA ds d a1 B rs0 ρs w0 F0 (m ||| 2^i) {U with slots:=sl2,res:=iY U.res [.blk t z]} L ρ' fps' a b w gb:=by
 obtain⟨_,u2⟩:=M.alc i o hi ho hal hm;obtain⟨t',z',e1,e2,e3,e4,e5,e6⟩:=u2 hL;rw[hop]at e1;simp only[Op.alloc.injEq]at e1;subst e1;rw[hz]at e2;simp only[aa]at e2;subst e2;obtain⟨_,_,_,hz3,hz4,_⟩:=hC.z t z hz;obtain⟨H,G⟩:=M.rep.2.1.JO hz3 hz4 e4 e5 e6;have nd:∀j o',opsA[j]? =some o'->j≠i->∀t,o.dst=some t->o'.dst=some t->False:=fun j o' hj hne t ht e=>hne (hf.mR j i o' o t hj ho e ht)
 have kn:known (iY U.res [.blk t z]) U.res.length:=by unfold known;rw[oQ,au rfl];simp
 have kold:∀k,known (iY U.res [.blk t z]) k->k≠U.res.length->known U.res k:=fun k hk hne=>by
  unfold known at hk⊢;rwa [oQ,ar hne]at hk
 refine⟨_,_,⟨?_,H,?_⟩,M.qc.trans G,M.near.mono fun t ⟨i',o',e1,e2,e3,e4⟩=>⟨i',o',e1,e2,cA.2 (.inl e3),e4⟩,fun j hj=>?_,fun j hj=>?_,fun j k hj hk=>?_,fun j o' hj hfl' hmj hLj=>?_,fun j o' hjd hj hal' hmj=>?_,
  fun j k h1 h2 h3 h4 h5 h6=>M.inj j k h1 h2 h3 h4 (eT h5).1 (eT h6).1,fun k hk=>?_,fun⟨x,h1,h2⟩=>by rw[ha1 x h1]at h2;simp at h2⟩
 ·exact((M.rep.1.env G.2 G.1).iB (x:= .pointer (some ⟨gb i,0,none⟩)) hp fun _ _ _ _=>⟨by simp[den,Env.aZ],kn⟩).tmps (by rw[dh,e3])
 ·obtain⟨q1,q2⟩:=bY M.rep.2.2.2 G.1 G.2;exact⟨M.rep.2.2.1.trans q1.symm,q2⟩
 ·have:=M.lm j hj;exact⟨this.1,this.2.imp (fun h=>cA.2 (.inl h)) id⟩
 ·rcases cA.1 hj with h|rfl
  ·exact M.ml j h
  ·exact⟨hi,.inl hL⟩
 ·rcases cA.1 hj with h|rfl
  ·exact cA.2 (.inl (M.mdn j k h hk))
  ·rw[(mb hal).2.2.2]at hk;simp at hk
 ·rcases cA.1 hmj with h|rfl
  ·obtain⟨v',e1,e2⟩:=M.val j o' hj hfl' h hLj;exact⟨v',e1,e2.mono (fun _ _=>rfl) fun w' hw=>hw.mono G⟩
  ·rw[hL]at hLj;simp at hLj
 ·obtain⟨hmj,hne⟩:=eT hmj;obtain⟨u1,u2⟩:=M.alc j o' hjd hj hal' hmj;refine⟨fun t ht=>?_,fun hl=>?_⟩
  ·grind[bh,w9]
  ·obtain⟨t,z,f1,f2,f3,f4,f5,f6⟩:=u2 hl;refine⟨t,z,f1,f2,f3,f4,f5,fun k hk=>?_⟩
   by_cases e:k=U.res.length
   ·simp only[au e];exact fun e'=>hne (M.inj j i ⟨o',hj,hal'⟩ ⟨o,ho,hal⟩ hl hL hmj hm e')
   ·simp only[ar e];exact f6 k (kold k hk e)
 ·have h1:=M.prt k hk;have:known U.res k:=by unfold known;rw[h1];exact qG hB hk
  have:=aK this;show aH (iY U.res [.blk t z]) k=_
  rw[oQ,ar (by omega),h1]
theorem jS[Fen](hC:C.Sound)(hf:mG opsA ds d a1)(hB:∀i,B.contains i=true->∃ty c,aH rs0 i= .blk ty c){sel:Nat}{k:Nat->St->Prop}(ha1:∀x,a1.testBit x=true->L x=true):
  ∀(l:List Oper) (i m:Nat) (U:St) (J:Env) (fps:Nat->Nat->Prop),(∀j o,l[j]? =some o->opsA[i+j]? =some o/\i+j<d)->(∀j,sel.testBit j=true->L j=true\/¬j<d)->mT C opsA ds d a1 B rs0 ρs w0 F0 m U L J fps a b w gb->sX C ds sel (eB i l) m U k->
   ∃m' σ' ρ' fps',mT C opsA ds d a1 B rs0 ρs w0 F0 m' σ' L ρ' fps' a b w gb/\k m' σ'/\(∀x,m.testBit x=true->m'.testBit x=true)/\∀x,m'.testBit x=true->m.testBit x=true\/IX opsA ds x
 | [],i,m,U,J,fps,hl,hs,M,h=>⟨m,U,J,fps,M,h,fun _ h=>h,fun _ h=> .inl h⟩
 |o::l,i,m,U,J,fps,hl,hs,M,h=>by
  have hl':∀j o',l[j]? =some o'->opsA[i+1+j]? =some o'/\i+1+j<d:=fun j o' hj=>by
   have:=hl (j+1) o' (by simpa using hj)
   rwa [show i+(j+1)=i+1+j by omega]at this
  obtain⟨ho,hi⟩:=hl 0 o (by simp)
  rw[Nat.add_zero]at ho hi;simp only[eB,sX]at h;split at h
  ·rename_i hc;simp only[ah,Bool.not_eq_true']at hc;obtain⟨⟨hal,hsel⟩,hm⟩:=hc;split at h
   ·rename_i t hop;split at h
    ·rename_i z hz;rw[fe]at h;split at h
     ·rename_i sl2 hp;have hL:L i=true:=(hs i hsel).elim id fun h=>absurd hi h
      obtain⟨ρ',fps',M2⟩:=M.KE hC hf hB ho hi hal hm hL ha1 hop hz hp;obtain⟨m',σ',ρ'',fps'',r1,r2,r3,r4⟩:=jS hC hf hB ha1 l (i+1) _ _ ρ' fps' hl' hs M2 h;refine⟨m',σ',ρ'',fps'',r1,r2,fun x hx=>r3 x (cA.2 (.inl hx)),fun x hx=>?_⟩
      rcases r4 x hx with h|h
      ·rcases cA.1 h with h|rfl
       ·exact .inl h
       ·exact .inr ⟨o,ho,hal⟩
      ·exact .inr h
     ·exact h.elim
    ·exact h.elim
   ·exact h.elim
  ·exact jS hC hf hB ha1 l (i+1) m U J fps hl' hs M h
theorem mT.LD[Fen]{ro:Option Nat}{next:Act->World->Prop}{Q:Exit->Act->World->Prop}(hf:mG opsA ds d a1)(M:mT C opsA ds d a1 B rs0 ρs w0 F0 m U L J fps a b w gb){i:Nat}{o:Oper}(ho:opsA[i]? =some o)(hi:i<d)(hfl:fE o=true)(hm:m.testBit i=true)(hL:L i=false)
  (hanc:∀k,(aM ds i).testBit k=true->L k=true) (hd:ro≠none->bZ o) (hn:∀a' w',mT C opsA ds d a1 B rs0 ρs w0 F0 m U (ins L i) J fps a' b w' gb->next a' w'):o.wpIn (FF C.P ro) 0 C.P a w next Q:=by
 obtain⟨v,e1,e2⟩:=M.val i o ho hfl hm hL
 have hop:∀y∈o.op.operands,a.eval y=b.eval y:=fun y hy=>M.near.eval fun t e=>by
  subst e;rintro⟨i',o',h1,h2,h3,h4⟩
  have:=hanc i' (hf.opnd i o t hi ho hy i' o' (M.ml i' h3).1 h1 h2);rw[h4]at this;simp at this
 have hcnd:Ha w0 F0 rs0 (G2 a1 B rs0 i) J U.res w:=⟨J,fps,U.res,M.rep.2.1,Good.refl _ _,fun y hy=>by
  unfold G2 at hy;split at hy
  ·rename_i ha;rw[M.ph0 ⟨i,ha,hL⟩]
  ·exact M.prt y hy⟩
 refine tT (.inl hfl) hd (e2 a w hop hcnd) fun v' w' ⟨hv,hw⟩=>hn _ _ ?_
 subst hv;have insF:∀{j},ins L i j=false->L j=false:=fun h=>by unfold ins at h;simp at h;exact h.2
 have insT:∀{j},ins L i j=true->j=i\/L j=true:=fun h=>by unfold ins at h;simpa using h
 refine⟨⟨M.rep.1,M.rep.2.1.below hw,M.rep.2.2⟩,M.qc,⟨by rw[put_defers];exact M.near.1,by rw[kK];exact M.near.2.1,fun t ht=>?_⟩,fun j hj=>?_,fun j hj=>?_,M.mdn,fun j o' hj hfl' hmj hLj=>M.val j o' hj hfl' hmj (insF hLj),fun j o' hjd hj hal hmj=>?_,fun j k h1 h2 h3 h4 h5 h6=>?_,M.prt,fun⟨x,h1,h2⟩=>M.ph0 ⟨x,h1,insF h2⟩⟩
 ·by_cases e:o.dst=some t
  ·rw[dh,<-e1,e];exact rG M.near.2.1
  ·rw[dh,mg e];refine M.near.2.2 t fun⟨i',o',h1,h2,h3,h4⟩=>ht ⟨i',o',h1,h2,h3,?_⟩
   unfold ins
   have:i'≠i:=fun e'=>by
    simp_all
   simp[this,h4]
 ·rcases insT hj with rfl|h
  ·exact⟨hi,.inl hm⟩
  ·exact M.lm j h
 ·have:=M.ml j hj;exact⟨this.1,this.2.imp (fun h=>by simp[ins,h]) id⟩
 ·obtain⟨u1,u2⟩:=M.alc j o' hjd hj hal hmj;refine⟨u1,fun hl=>?_⟩
  rcases insT hl with rfl|h
  ·rw[hm]at hmj;simp at hmj
  ·obtain⟨t,z,f1,f2,f3,f4,f5,f6⟩:=u2 h;exact⟨t,z,f1,f2,f3,by rw[hw.block _ (Array.getElem?_eq_some_iff.1 f4).1];exact f4,f5,f6⟩
 ·have h7:L j=true:=(insT h3).elim (fun e=>by rw[e,hm]at h5;simp at h5) id
  have h8:L k=true:=(insT h4).elim (fun e=>by rw[e,hm]at h6;simp at h6) id
  exact M.inj j k h1 h2 h7 h8 h5 h6
theorem mT.Lu[Fen]{ro:Option Nat}{next:Act->World->Prop}{Q:Exit->Act->World->Prop}(hC:C.Sound)(hf:mG opsA ds d a1)(M:mT C opsA ds d a1 B rs0 ρs w0 F0 m U L J fps a b w gb){i:Nat}{o:Oper}(ho:opsA[i]? =some o)(hi:i<d)(hal:gS (aM ds i) o=true)(hL:L i=false)
  (hz:KY C o=true) (hd:ro≠none->bZ o) (hn:∀a' b' w' gb',mT C opsA ds d a1 B rs0 ρs w0 F0 m U (ins L i) J fps a' b' w' gb'->next a' w'):o.wpIn (FF C.P ro) 0 C.P a w next Q:=by
 obtain⟨hg,⟨t0,hdst⟩,⟨t,hop⟩,_⟩:=mb hal
 have hm:m.testBit i=false:=by
  cases h:m.testBit i with
  |false=>rfl
  |true=>
   rcases(M.ml i h).2 with h'|h'
   ·rw[hL]at h';simp at h'
   ·exact(GL h' ⟨o,ho,hal⟩).elim
 obtain⟨z,hz⟩:∃z,C.Z t=some z:=by
  unfold KY at hz;rw[hop]at hz;simp only at hz;split at hz
  ·rename_i z hz';exact⟨z,hz'⟩
  ·simp at hz
 obtain⟨_,_,_,hz3,_,_⟩:=hC.z t z hz;have hno:¬known U.res U.res.length:=fun h=>by have:=aK h;omega
 have hy:=(gN (a:=b) (o:=o) (q:=none) (x:= .lp U.res.length 0) (new:= [.blk t z]) (nid:=U.res.length) (ch:= []) hC (by rw[hop];simp[uC,hz]) M.rep.1 M.rep.2.1 rfl trivial (fun k hk=>by
  simp only[List.length_singleton,Nat.lt_one_iff]at hk;subst hk;exact hno)).1
 have he:execOp a.eval o=execOp b.eval o:=by simp[execOp,hop]
 have hy':Yields C.P o a w (kh (known U.res) J U.res.length (.lp U.res.length 0) [.blk t z] w0 F0 w):=by
  unfold Yields at hy⊢;rw[he];exact hy
 refine tT (.inr ⟨_,hal⟩) hd hy' fun v w' ⟨ρ',⟨hw,hag,fp,g1,g2⟩,hv,_⟩=>?_
 have g0:=g1 0 (by simp)
 simp only[aH,Nat.add_zero]at g0;obtain⟨⟨_,_,g3,g4⟩,g5⟩:=g0;obtain⟨g6,g7⟩:=g5 _ g3;rw[bw (N:=fun _=>False) (J:=Env.zero) (fun _ h=>h.elim) z hz3]at g4
 have hv:v= .pointer (some ⟨ρ'.num U.res.length,0,none⟩):=by rw[hv];simp[den]
 generalize ρ'.num U.res.length=g at *
 subst hv;have nd:∀j o',opsA[j]? =some o'->j≠i->∀t,o.dst=some t->o'.dst=some t->False:=fun j o' hj hne t ht e=>hne (hf.mR j i o' o t hj ho e ht)
 have insF:∀{j},ins L i j=false->L j=false:=fun h=>by unfold ins at h;simp at h;exact h.2
 have insT:∀{j},ins L i j=true->j=i\/L j=true:=fun h=>by unfold ins at h;simpa using h
 have hund:=(M.alc i o hi ho hal hm).1
 refine hn _ (b.put o.dst (.pointer (some ⟨g,0,none⟩))) w' (fun j=>if j=i then g else gb j) ⟨⟨M.rep.1.He hund,M.rep.2.1.below hw,by rw[put_defers];exact M.rep.2.2.1,M.rep.2.2.2⟩,M.qc,(M.near.mono fun t ⟨i',o',e1,e2,e3,e4⟩=>⟨i',o',e1,e2,e3,by
  have:=mT.ne e3 hm;simp[ins,this,e4]⟩).put _ _,fun j hj=>?_,fun j hj=>?_,M.mdn,fun j o' hj hfl' hmj hLj=>?_,fun j o' hjd hj hal' hmj=>?_,fun j k h1 h2 h3 h4 h5 h6 h7=>?_,M.prt,fun⟨x,h1,h2⟩=>M.ph0 ⟨x,h1,insF h2⟩⟩
 ·rcases insT hj with rfl|h
  ·exact⟨hi,.inr ⟨o,ho,hal⟩⟩
  ·exact M.lm j h
 ·have:=M.ml j hj;exact⟨this.1,this.2.imp (fun h=>by simp[ins,h]) id⟩
 ·obtain⟨v',e1,e2⟩:=M.val j o' hj hfl' hmj (insF hLj);refine⟨v',?_,e2.mono (M.zm hf ho hi hm (dh _ _ _) (M.ml j hmj).1 hj (.inl hmj)) fun _ h=>h⟩
  rw[dh,gO (nd j o' hj (mT.ne hmj hm)),e1]
 ·obtain⟨u1,u2⟩:=M.alc j o' hjd hj hal' hmj;refine⟨u1,fun hl=>?_⟩
  by_cases e:j=i
  ·subst e;rw[ho]at hj;simp only[aa]at hj;subst hj;refine⟨t,z,hop,hz,?_,?_,?_,fun k hk=>?_⟩
   ·simp only[if_true];rw[dh,sZ]
   ·simpa using g4
   ·simp only[if_true];exact Nat.le_trans M.rep.2.1.old g6
   ·simp only[if_true];intro h;have:=M.rep.2.1.lt k g hk h;omega
  ·have hl:L j=true:=(insT hl).elim (fun h=>absurd h e) id
   obtain⟨t',z',f1,f2,f3,f4,f5,f6⟩:=u2 hl;simp only[ar e];exact⟨t',z',f1,f2,by rw[dh,gO (nd j o' hj e),f3],by rw[hw.block _ (Array.getElem?_eq_some_iff.1 f4).1];exact f4,f5,f6⟩
 ·have blt:∀x,IX opsA ds x->ins L i x=true->m.testBit x=false->x≠i->gb x<w.heap.size/\L x=true:=fun x ⟨ox,hx1,hx2⟩ hx3 hx4 hx5=>by
   have hl:L x=true:=(insT hx3).elim (fun h=>absurd h hx5) id
   obtain⟨t',z',f1,f2,f3,f4,f5,f6⟩:=(M.alc x ox (M.lm x hl).1 hx1 hx2 hx4).2 hl;exact⟨(Array.getElem?_eq_some_iff.1 f4).1,hl⟩
  by_cases e:j=i<;>by_cases e':k=i
  ·rw[e,e']
  ·grind
  ·grind
  ·simp only[ar e,ar e']at h7;exact M.inj j k h1 h2 (blt j h1 h3 h5 e).2 (blt k h2 h4 h6 e').2 h5 h6 h7
theorem v7{sl:List S}:∀{l:List (Nat×Oper)},Ja ds m sl l=true->∀p∈l,gS (aM ds p.1) p.2=true->m.testBit p.1=false->∀t,p.2.dst=some t->bh sl t= .und
 | [],_,p,hp,_,_,_,_=>by simp at hp
 |q::l,h,p,hp,h1,h2,t,ht=>by
  simp only[Ja,ah]at h;rcases List.mem_cons.1 hp with rfl|hp
  ·grind
  ·exact v7 h.2 p hp h1 h2 t ht
theorem iO:∀(l:List (Option Nat×Nat)) (sl:List S),(j4 l sl).length=sl.length
 | [],sl=>rfl
 | (some t,_)::l,sl=>by simp only[j4];rw[iO l,dz]
 | (none,_)::l,sl=>by simp only[j4];exact iO l sl
theorem kS(t:Nat):∀(l:List (Option Nat×Nat)) (sl:List S),bh (j4 l sl) t= .und\/(bh (j4 l sl) t=bh sl t/\∀m,(some t,m)∉l)
 | [],sl=> .inr ⟨rfl,by simp⟩
 | (none,m)::l,sl=>by
   simp_all[j4,kS]
 | (some e,m)::l,sl=>by
   simp only[j4];rcases kS t l (sset sl e .und)with h|⟨h1,h2⟩
   ·exact .inl h
   ·grind[dc,fV]
theorem mT.Ls[Fen]{H:Handler}{ro:Option Nat}{next:Act->World->Prop}{K:Out->St->Prop}{kk:Nat->St->Prop}{xs:List (Nat×Oper)}(hC:C.Sound)(hH:H.OK C.P)(hf:mG opsA ds d a1)(hB:∀i,B.contains i=true->∃ty c,aH rs0 i= .blk ty c)
  (M:mT C opsA ds d a1 B rs0 ρs w0 F0 m U L J fps a b w gb) {i:Nat} {o:Oper} (ho:opsA[i]? =some o) (hi:i<d) (hto:fF o=true) (hm:m.testBit i=false) (hancL:∀k,(aM ds i).testBit k=true->L k=true) (hanc:(aM ds i ||| m)=m) (hd:ro≠none->bZ o)
  (hxs:∀j o',j<d->opsA[j]? =some o'->(j,o')∈xs)
  (h:ri C H LH opsA.toList o {U with res:=wP B 0 U.res}
    (fun σ'=>match gY B 0 U.res σ'.res with
     |some r=>if Ja ds (m ||| 2^i) σ'.slots xs then kk (m ||| 2^i) {σ' with res:=r}else False
     |none=>False)
    (fun v σ'=>match gY B 0 U.res σ'.res with
     |some r=>gr σ'.slots fun sl=>vi (ds.take d) sl fun sl=>K (.pan v) {σ' with slots:=sl,res:=r}
     |none=>False))
  (hn:∀σ' ρ' fps' a' b' w',kk (m ||| 2^i) σ'->mT C opsA ds d a1 B rs0 ρs w0 F0 (m ||| 2^i) σ' (ins L i) ρ' fps' a' b' w' gb->next a' w'):o.wpIn (FF C.P ro) 0 C.P a w next (dr ρs rs0 w0 F0 K):=by
 have hkn:∀{j},B.contains j=true->aH U.res j=aH rs0 j:=fun{j} hj=>by
  obtain⟨ty,c,e⟩:=hB j hj;exact M.prt j ⟨aK (by rw[e];simp),.inl hj⟩
 have hB':∀j,B.contains j=true->∃ty c,aH U.res j= .blk ty c:=fun j hj=>by rw[hkn hj];exact hB j hj
 have h2:=M.rep.2.1.LC hB';have hro:=oR (res:=U.res) hB'
 have hrep:fq J _ {U with res:=wP B 0 U.res} w (F1 B U.res fps) b w:=
  ⟨M.rep.1.env (fun j hj=>(hro j).2 hj) (Env.agree.refl _ _),h2,M.rep.2.2.1,fun d hd=>⟨br (fun j hj=>(hro j).2 hj) _ (M.rep.2.2.2 d hd).1,br (fun j hj=>(hro j).2 hj) _ (M.rep.2.2.2 d hd).2⟩⟩
 have key:=fP (ro:=ro)
  (next:=fun b' w'=>∃σ' ρ' fps',(match gY B 0 U.res σ'.res with
       |some r=>if Ja ds (m ||| 2^i) σ'.slots xs then kk (m ||| 2^i) {σ' with res:=r}else False
       |none=>False)/\fq ρ' fps' σ' w (F1 B U.res fps) b' w'/\Good J (wP B 0 U.res) ρ' σ'.res)
  (Q:=fun e b' w'=>∃v σ' ρ' fps',e= .panic [{v:=den ρ' v,recovered:=false}]/\(match gY B 0 U.res σ'.res with
      |some r=>gr σ'.slots fun sl=>vi (ds.take d) sl fun sl=>K (.pan v) {σ' with slots:=sl,res:=r}
      |none=>False)/\ok (known σ'.res) v/\fq ρ' fps' σ' w (F1 B U.res fps) b' w'/\Good J (wP B 0 U.res) ρ' σ'.res)
  hC hH HD hd h hrep (fun σ' ρ' fps' a' w' k1 k2 k3=>⟨σ',ρ',fps',k1,k2,k3⟩) (fun v σ' ρ' fps' w' k1 k2 k3 k4=>⟨v,σ',ρ',fps',rfl,k1,k2,k3,k4⟩)
 have hw:=key.2;rw[au (by simp[Region.wanted,(qy hto).1])]at hw
 have insF:∀{j},ins L i j=false->j≠i/\L j=false:=fun h=>by unfold ins at h;simpa using h
 have insT:∀{j},ins L i j=true->j=i\/L j=true:=fun h=>by unfold ins at h;simpa using h
 refine Md (N:=NS opsA m L) hto M.near (fun t ht=>?_) ?_ ?_ ?_ hw
 ·rintro⟨i',o',h1,h2,h3,h4⟩
  have:=hancL i' (hf.opnd i o t hi ho ht i' o' (M.ml i' h3).1 h1 h2);rw[h4]at this;simp at this
 ·rintro a' b' w' hab ⟨u,hu⟩ ⟨σ',ρ',fps',k1,k2,k3⟩
  split at k1
  case h_2=>exact k1.elim
  rename_i r hr;split at k1
  case isFalse=>exact k1.elim
  rename_i halu;obtain⟨fps'',q1,q2,q3,q4,q5⟩:=aQ.JC M.rep.2.1 hB' k2.2.1 k3 hr;rw[dh]at hu;have nd:∀j o',opsA[j]? =some o'->j≠i->∀t,o.dst=some t->o'.dst=some t->False:=fun j o' hj hne t ht e=>hne (hf.mR j i o' o t hj ho e ht)
  refine hn _ ρ' fps'' a' b' w' k1 ⟨⟨k2.1.env q3 (Env.agree.refl _ _),q1,k2.2.2.1,fun d hd=>⟨br q3 _ (k2.2.2.2 d hd).1,br q3 _ (k2.2.2.2 d hd).2⟩⟩,M.qc.trans q2,
   hab.mono fun t ⟨i',o',e1,e2,e3,e4⟩=>⟨i',o',e1,e2,cA.2 (.inl e3),by have:=mT.ne e3 hm;simp[ins,this,e4]⟩,fun j hj=>?_,fun j hj=>?_,fun j k hj hk=>?_,fun j o' hj hfl' hmj hLj=>?_,fun j o' hjd hj hal hmj=>?_,
   fun j k h1 h2 h3 h4 h5 h6=>?_,fun k hk=>?_,fun⟨x,h1,h2⟩=>?_⟩
  ·rcases insT hj with rfl|h
   ·exact⟨hi,.inl (cA.2 (.inr rfl))⟩
   ·have:=M.lm j h;exact⟨this.1,this.2.imp (fun h=>cA.2 (.inl h)) id⟩
  ·rcases cA.1 hj with h|rfl
   ·have:=M.ml j h;exact⟨this.1,this.2.imp (fun h=>by simp[ins,h]) id⟩
   ·exact⟨hi,.inl (by simp[ins])⟩
  ·rcases cA.1 hj with h|rfl
   ·exact cA.2 (.inl (M.mdn j k h hk))
   ·exact cA.2 (.inl (Dv hanc hk))
  ·obtain⟨hne,hLj⟩:=insF hLj;have hmj:m.testBit j=true:=(cA.1 hmj).elim id fun e=>absurd e hne
   obtain⟨v',e1,e2⟩:=M.val j o' hj hfl' hmj hLj;refine⟨v',?_,e2.mono (M.zm hf ho hi hm hu (M.ml j hmj).1 hj (.inl hmj)) fun _ h=>h.mono q2⟩
   rw[hu,gO (nd j o' hj hne),e1]
  ·have hal':=v7 halu (j,o') (hxs j o' hjd hj) hal hmj;obtain⟨hmj,hne⟩:=eT hmj;obtain⟨u1,u2⟩:=M.alc j o' hjd hj hal hmj;refine⟨hal',fun hl=>?_⟩
   have hl:L j=true:=(insT hl).elim (fun e=>absurd e hne) id
   obtain⟨t,z,f1,f2,f3,f4,f5,f6⟩:=u2 hl;obtain⟨p1,p2⟩:=q4 _ (Array.getElem?_eq_some_iff.1 f4).1 f6;exact⟨t,z,f1,f2,by rw[hu,gO (nd j o' hj hne),f3],by rw[p1];exact f4,f5,p2⟩
  ·obtain⟨h5,n5⟩:=eT h5;obtain⟨h6,n6⟩:=eT h6;exact M.inj j k h1 h2 ((insT h3).elim (fun e=>absurd e n5) id) ((insT h4).elim (fun e=>absurd e n6) id) h5 h6
  ·have h1:=M.prt k hk
   have:mo B U.res k:=by
    have:known U.res k:=by unfold known;rw[h1];exact qG hB hk
    exact⟨aK this,by rw[h1];exact hk.2⟩
   show aH r k=_
   rw[q5 k this,h1]
  ·obtain⟨_,h2⟩:=insF h2;rw[hancL x (hf.ta1 i o hi ho hto x h1)]at h2;simp at h2
 ·rintro c w' ⟨v,σ',ρ',fps',e,k1,k2,k3,k4⟩
  split at k1
  case h_2=>exact k1.elim
  rename_i r hr;obtain⟨fps'',q1,q2,q3,q4,q5⟩:=aQ.JC M.rep.2.1 hB' k3.2.1 k4 hr;rw[fl,qo]at k1;refine⟨.pan v,_,ρ',fps'',⟨Exit.panic.inj e,bE q3 _ k2⟩,k1,⟨⟨?_,fun t=>?_⟩,q1,?_,fun d hd=>⟨br q3 _ (k3.2.2.2 d hd).1,br q3 _ (k3.2.2.2 d hd).2⟩⟩,M.qc.trans q2⟩
  ·rw[M.near.2.1];show _=(j4 (ds.take d) (clean σ'.slots)).length
   rw[iO];exact k3.1.clean.1
  ·show du _ _ _ _ (bh (j4 (ds.take d) (clean σ'.slots)) t)
   rcases kS t (ds.take d) (clean σ'.slots)with h|⟨h1,h2⟩
   ·rw[h];trivial
   ·rw[h1,M.near.2.2 t]
    ·exact(du.plain (gk σ'.slots t) (k3.1.clean.2 t)).env q3 (Env.agree.refl _ _)
    ·rintro⟨i',o',e1,e2,e3,e4⟩
     refine h2 (aM ds i') (List.mem_of_getElem? (i:=i') ?_);rw[List.getElem?_take,au (M.ml i' e3).1,hf.dsat i' o' e1,e2]
  ·rw[M.near.1];exact k3.2.2.1
 ·rintro⟨a',w',v,σ',ρ',fps',e,_⟩
  simp at e
end
end Go.Sx
namespace Go.Sx
open Go.RowKit (Below)
theorem tO:∀(l:List Oper) (i:Nat),(eB i l).Pairwise fun p q=>p.1<q.1
 | [],i=>by simp[eB]
 |o::l,i=>by
  simp only[eB,List.pairwise_cons];exact⟨fun p hp=>by have:=(kY.1 hp).1;omega,tO l (i+1)⟩
theorem pj{opsA:Array Oper}{d:Nat}{p:Nat×Oper}:p∈eB 0 (opsA.toList.take d)↔p.1<d/\opsA[p.1]? =some p.2:=by
 grind[kY]
theorem qt{opsA:Array Oper}{d j:Nat}{o:Oper}(h:(opsA.toList.take d)[j]? =some o):opsA[0+j]? =some o/\0+j<d:=by
 grind
theorem zR{opsA:Array Oper}{ds:List (Option Nat×Nat)}{i:Nat}{o:Oper}(ho:opsA[i]? =some o)(ht:fF o=true)(h:IX opsA ds i):False:=by
 obtain⟨o',h1,h2⟩:=h;rw[ho]at h1;simp only[aa]at h1;subst h1;obtain⟨_,_,⟨t,h3⟩,_⟩:=mb h2;exact(qy ht).2.1 t h3
theorem Cq{opsA:Array Oper}{i:Nat}{o:Oper}(ho:opsA[i]? =some o)(ht:fF o=true)(h:KB opsA i):False:=by
 obtain⟨o',h1,h2⟩:=h;rw[ho]at h1;simp only[aa]at h1;subst h1;rw[(qy ht).2.2]at h2;simp at h2
theorem nq.eq{N:Nat->Prop}{a b:Act}(h:nq N a b)(hN:∀t,¬N t):a=b:=by
 obtain⟨ta,da⟩:=a;obtain⟨tb,db⟩:=b;obtain⟨h1,h2,h3⟩:=h;simp only at h1 h2;subst h1;congr 1
 refine Array.ext h2 fun i g1 g2=>?_
 have:=h3 i (hN i);simpa[Array.getD_eq_getD_getElem?,g1,g2]using this
section
variable {C:Ctx} {opsA:Array Oper} {ds:List (Option Nat×Nat)} {d a1:Nat} {B:List Nat} {rs0:List aI} {ρs:Env} {w0:World} {F0:Nat->Prop}
theorem F3[Fen]{H:Handler}{Y:bJ}{K:Out->St->Prop}{ro:Option Nat}(hC:C.Sound)(hH:H.OK C.P)(hY:vn C.P Y ρs rs0)(hf:mG opsA ds d a1)(hB:∀i,B.contains i=true->∃ty c,aH rs0 i= .blk ty c)(hnd:ro≠none->∀o∈opsA.toList,bZ o)
  (P:zC opsA ds) (hz:∀i o,i<d->opsA[i]? =some o->KY C o=true):
  ∀(fuel:Nat) (listed:Array Bool) (m:Nat) (U:St) (J:Env) (fps:Nat->Nat->Prop) (a b:Act) (w:World) (gb:Nat->Nat) (nn:Nat) (l:List (Nat×Oper)),listed.size=opsA.size->xw listed opsA.size<=fuel->
   mT C opsA ds d a1 B rs0 ρs w0 F0 m U (fun k=>listed.getD k false) J fps a b w gb->
   (∀i,i<d->KB opsA i->(∀k,(aM ds i).testBit k=true->m.testBit k=true)->m.testBit i=true)->
   (∀i k,listed.getD i false=true->(aM ds i).testBit k=true->listed.getD k false=true)->
   (∀p∈l,p.1<d/\opsA[p.1]? =some p.2/\fF p.2=true/\m.testBit p.1=false)->(∀i o,i<d->opsA[i]? =some o->fF o=true->m.testBit i=false->(i,o)∈l)->(l.Pairwise fun p q=>p.1<q.1)->
   vI C H Y opsA.toList ds d a1 B (iK B 0 rs0) rs0 (eB 0 (opsA.toList.take d)) K nn l m U->
   wpAnyIn (FF C.P ro) 0 C.P .any opsA (dr ρs rs0 w0 F0 K) fuel listed a w:=by
 intro fuel
 have hfin:∀(fuel:Nat) (listed:Array Bool) (m:Nat) (U:St) (J:Env) (fps:Nat->Nat->Prop) (a b:Act) (w:World) (gb:Nat->Nat) (nn:Nat) (l:List (Nat×Oper)),listed.size=opsA.size->xw listed opsA.size<=fuel->
   mT C opsA ds d a1 B rs0 ρs w0 F0 m U (fun k=>listed.getD k false) J fps a b w gb->(∀k,k<d->listed.getD k false=true)->
   (∀p∈l,p.1<d/\opsA[p.1]? =some p.2/\fF p.2=true/\m.testBit p.1=false)->
   vI C H Y opsA.toList ds d a1 B (iK B 0 rs0) rs0 (eB 0 (opsA.toList.take d)) K nn l m U->
   wpAnyIn (FF C.P ro) 0 C.P .any opsA (dr ρs rs0 w0 F0 K) fuel listed a w:=by
  intro fuel listed m U J fps a b w gb nn l hs hc M hall hl1 h;cases l with
  |cons p l=>
   exfalso
   obtain⟨h1,h2,h3,h4⟩:=hl1 p (by simp)
   rcases(M.lm p.1 (hall p.1 h1)).2 with h|h
   ·rw[h4]at h;simp at h
   ·exact zR h2 h3 h
  |nil=>
   simp only[vI]at h
   obtain⟨m',σ',ρ',fps',M',hk,_,_⟩:=jS hC hf hB (fun x hx=>hall x (hf.a1d x hx)) (opsA.toList.take d) 0 m U J fps (fun j o hj=>qt hj) (fun j _=>by
    by_cases hj:j<d
    ·exact .inl (hall j hj)
    ·exact .inr hj) M h
   split at hk
   case isFalse=>exact hk.elim
   have hab:a=b:=M'.near.eq fun t ⟨i,o,e1,e2,e3,e4⟩=>by
    have e4:listed.getD i false=false:=e4;rw[hall i (M'.ml i e3).1]at e4;simp at e4
   have hrep:=M'.rep;rw[<-hab]at hrep;refine jy hC hH hY hnd (fun i o h=>⟨(P.at h).2.1,(P.at h).2.2.1.1,(P.at h).2.2.1.2⟩) d (fun i h1 h2=>hf.tail i h1 (by omega)) (opsA.toList.drop d) d listed fuel σ' ρ' fps' a w rfl (Nat.le_refl _) hs hc hall (fun k hk=>?_) hk hrep M'.qc
   cases hh:listed.getD k false with
   |false=>rfl
   |true=>have:=(M.lm k hh).1;omega
 induction fuel with
 |zero=>
  intro listed m U J fps a b w gb nn l hs hc M clo down hl1 hl2 hl3 h;refine hfin 0 listed m U J fps a b w gb nn l hs hc M (fun k hk=>?_) hl1 h
  cases h:listed.getD k false with
  |true=>rfl
  |false=>
   have:=eP (n:=opsA.size) hs (by have:=hf.dle;omega) h
   omega
 |succ fuel ih=>
  intro listed m U J fps a b w gb nn l hs hc M clo down hl1 hl2 hl3 h;by_cases hall:∀k,k<d->listed.getD k false=true
  ·exact hfin _ listed m U J fps a b w gb nn l hs hc M hall hl1 h
  have hdle:=hf.dle
  have hready:∀i∈Region.ready .any opsA listed,i<d/\listed.getD i false=false/\∀k,(aM ds i).testBit k=true->listed.getD k false=true:=by
   intro i hi;obtain⟨h1,o,h2,h3⟩:=mem_ready.1 hi;have hisz:i<opsA.size:=(Array.getElem?_eq_some_iff.1 h2).1;obtain⟨p2,p3,p4⟩:=hf.at' i o h2
   have hL:∀k,(aM ds i).testBit k=true->listed.getD k false=true:=fun k hk=>by
    grind
   refine⟨?_,?_,hL⟩
   ·rcases Nat.lt_or_ge i d with h|h
    ·exact h
    ·exact absurd (fun k hk=>hL k ((hf.tail i hisz h k).2 (by omega))) hall
   ·simp_all
  have hnil:Region.ready .any opsA listed≠ []:=by
   intro hnil
   have hmin:∀i,i<d->listed.getD i false=true:=by
    intro i;induction i using Nat.strongRecOn with
    |_ i ihi=>
     intro hi;cases h:listed.getD i false with
     |true=>rfl
     |false=>
      have hio:opsA[i]? =some (opsA[i]'(by omega)):=Array.getElem?_eq_getElem (by omega)
      obtain⟨p2,p3,p4⟩:=hf.at' i _ hio
      have:i∈Region.ready .any opsA listed:=by
       rw[mem_ready];refine⟨?_,_,hio,fun e e1 e2=>?_⟩
       ·grind
       ·have:=p3.2 e e1 e2;exact ihi e.on this (by omega)
      rw[hnil]at this;simp at this
   exact hall hmin
  refine⟨fun h=>absurd h hnil,fun i hi=>?_⟩
  obtain⟨hid,hLi,hanc⟩:=hready i hi;obtain⟨_,o,ho,_⟩:=mem_ready.1 hi;have hisz:i<listed.size:=by omega
  have hdo:ro≠none->bZ o:=fun hr=>hnd hr o (by rw[<-Array.getElem?_toList]at ho;exact List.mem_of_getElem? ho)
  have hcn:=eP (n:=opsA.size) hs (by omega) hLi
  have down':∀j k,(listed.setIfInBounds i true).getD j false=true->(aM ds j).testBit k=true->(listed.setIfInBounds i true).getD k false=true:=fun j k hj hk=>by
   have e:=um (i:=i) hisz;have hj':ins (fun k=>listed.getD k false) i j=true:=by rw[<-congrFun e j];exact hj
   have:ins (fun k=>listed.getD k false) i k=true:=by
    grind[ins]
   rw[<-congrFun e k]at this;exact this
  unfold wpOpIn;simp only[ho]
  have hng:o.guard=none:=by
   rcases hf.kind i o hid ho with⟨h,_⟩|⟨_,h|h⟩
   ·exact(u0 h).1
   ·exact(mb h).1
   ·exact(qy h).1
  rw[au (by simp[Region.wanted,hng])]
  rcases hf.kind i o hid ho with⟨hfl,hna⟩|⟨hnf,hal|hto⟩
  ·have hmi:m.testBit i=true:=clo i hid ⟨o,ho,hfl⟩ fun k hk=>by
    rcases(M.lm k (hanc k hk)).2 with h|⟨o',h1,h2⟩
    ·exact h
    ·obtain⟨x,x1,x2⟩:=hna k o' hk h1 h2;rcases(M.lm x (hanc x x1)).2 with h|⟨o2,g1,g2⟩
     ·exact M.mdn x k h x2
     ·rw[(mb g2).2.2.2]at x2;simp at x2
   refine M.LD hf ho hid hfl hmi hLi hanc hdo fun a' w' M'=>?_
   exact ih _ m U J fps a' b w' gb nn l (by simpa using hs) (by omega) (by rw[um hisz];exact M') clo down' hl1 hl2 hl3 h
  ·refine M.Lu hC hf ho hid hal hLi (hz i o hid ho) hdo fun a' b' w' gb' M'=>?_
   exact ih _ m U J fps a' b' w' gb' nn l (by simpa using hs) (by omega) (by rw[um hisz];exact M') clo down' hl1 hl2 hl3 h
  ·have hmi:m.testBit i=false:=by
    cases hh:m.testBit i with
    |false=>rfl
    |true=>
     rcases(M.ml i hh).2 with h'|h'
     ·rw[hLi]at h';simp at h'
     ·exact(Cq ho hto h').elim
   have hmem:=hl2 i o hid ho hto hmi;cases l with
   |nil=>simp at hmem
   |cons p0 l0=>
   cases nn with
   |zero=>simp only[vI]at h
   |succ nn=>
    simp only[vI]at h;obtain⟨l,hpk⟩:=wH hmem;obtain⟨_,hsub,_,hall'⟩:=pe hpk;have hni:=wa (R:=fun p q:Nat×Oper=>p.1<q.1) (fun x=>Nat.lt_irrefl _) hl3 hpk
    have hidx:∀q∈l,q.1≠i:=fun q hq e=>by
     grind
    replace h:=AZ h ((i,o),l) (List.mem_filter.2 ⟨hpk,by
     rw[List.all_eq_true];intro y hy;obtain⟨q1,q2,q3,q4⟩:=hl1 y hy;simp only[Bool.not_eq_true'];cases hb:Nat.testBit (aM ds i) y.1 with
     |false=>rfl
     |true=>
      exfalso
      rcases(M.lm y.1 (hanc y.1 hb)).2 with h|h
      ·rw[q4]at h;simp at h
      ·exact zR q2 q3 h⟩)
    obtain⟨m',σ',ρ',fps',M',hk,mono,mnew⟩:=jS hC hf hB (fun x hx=>hanc x (hf.ta1 i o hid ho hto x hx)) (opsA.toList.take d) 0 m U J fps (fun j o hj=>qt hj) (fun j hj=> .inl (hanc j hj)) M h
    split at hk
    case isFalse=>exact hk.elim
    rename_i hcond;have hcond:(aM ds i ||| m')=m':=by simpa using hcond
    have hmi':m'.testBit i=false:=by
     grind[zR]
    refine M'.Ls (H:=H) (K:=K) (xs:=eB 0 (opsA.toList.take d)) (kk:=fun m2 σ2=>sF C ds a1 (iK B 0 rs0) rs0 false (eB 0 (opsA.toList.take d)) m2 σ2.slots fun m sl=>vI C H Y opsA.toList ds d a1 B (iK B 0 rs0) rs0 (eB 0 (opsA.toList.take d)) K nn l m {σ2 with slots:=sl})
     hC hH hf hB ho hid hto hmi' hanc hcond hdo (fun j o' hj ho'=>pj.2 ⟨hj,ho'⟩) hk fun σ2 ρ2 fps2 a2 b2 w2 hk2 M2=>?_
    obtain⟨m3,sl3,b3,M3,hk3,mono3,mnew3,clo3⟩:=j6 (U:=σ2) hC hf hB (by simp) (opsA.toList.take d) 0 _ σ2.slots b2 (fun j o hj=>qt hj) M2 hk2
    have old3:∀j o',opsA[j]? =some o'->fF o'=true->m3.testBit j=true->m.testBit j=true\/j=i:=fun j o' hj ht hm3=>by
     grind[zR,Cq]
    refine ih _ m3 _ ρ2 fps2 a2 b3 w2 gb nn l (by simpa using hs) (by omega) (by rw[um hisz];exact M3) (fun j hj hflj hx=>?_) down' (fun q hq=>?_) (fun j o' hj ho' ht hm3=>?_) (hl3.sublist hsub) hk3
    ·obtain⟨o',h1,h2⟩:=hflj;have:=clo3 j o' (by rw[List.getElem?_take,au hj];simpa using h1) h2 (by rw[Nat.zero_add];exact hx)
     rwa [Nat.zero_add]at this
    ·grind
    ·grind
theorem A8[Fen]{H:Handler}{Y:bJ}{U:St}{K:Out->St->Prop}{ro:Option Nat}{J:Env}{fps:Nat->Nat->Prop}{a:Act}{w:World}(hC:C.Sound)(hH:H.OK C.P)(hY:vn C.P Y J U.res)(hnd:ro≠none->∀o∈opsA.toList,bZ o)(h:HB C H Y opsA.toList ds U K)(hr:fq J fps U w0 F0 a w):
  wpAnyIn (FF C.P ro) 0 C.P .any opsA (dr J U.res w0 F0 K) opsA.size (Array.replicate opsA.size false) a {w with drawn:=w.drawn+1}:=by
 unfold HB at h;simp only[fl,qo,wm]at h;generalize hd:jt ds 0 opsA.toList=d at h
 generalize ha1:AQ ds (List.filter (fun p=>fF p.2) (eB 0 (List.take d opsA.toList)))=a1 at h
 split at h
 case isFalse=>exact h.elim
 rename_i hc;simp only[ah]at hc;obtain⟨⟨⟨h1,h2⟩,h3⟩,h4⟩:=hc;generalize Dh C ds a1 U.res (eB 0 (List.take d opsA.toList)) 0 (j4 (ds.take d) (clean U.slots))=B at h
 split at h
 case isFalse=>exact h.elim
 rename_i hBb
 have hB:∀i,B.contains i=true->∃ty c,aH U.res i= .blk ty c:=fun i hi=>by
  rw[List.all_eq_true]at hBb;have:=hBb i (by simpa using hi)
  unfold GS at this;split at this
  ·rename_i ty c e;exact⟨ty,c,e⟩
  ·simp at this
 have P:zC opsA ds:=⟨h1⟩;obtain⟨j,hdj,hjl,htl⟩:=mr (ds:=ds) (l:=opsA.toList) (i:=0);rw[hd,Nat.zero_add]at hdj;subst hdj;rw[Nat.zero_add]at htl;have hdle:d<=opsA.size:=by simpa using hjl
 have hM:=qM h3;have htk:∀{i:Nat} {o:Oper},i<d->opsA[i]? =some o->(opsA.toList.take d)[i]? =some o:=fun hi ho=>by rw[List.getElem?_take,au hi];simpa using ho
 have htk2:∀{i k:Nat} {o:Oper},k<d->opsA[k]? =some o->(opsA.toList.take d)[k]? =some o:=fun hi ho=>htk hi ho
 have kind:∀i o,i<d->opsA[i]? =some o->(fE o=true/\∀k o',(aM ds i).testBit k=true->opsA[k]? =some o'->gS (aM ds k) o'=true->∃x,(aM ds i).testBit x=true/\(aM ds x).testBit k=true)\/
  (fE o=false/\(gS (aM ds i) o=true\/fF o=true)):=fun i o hi ho=>by
  have:=(hM i o (htk hi ho)).1;rw[Nat.zero_add]at this;rcases this with⟨g1,g2⟩|⟨g1,g2|g2⟩
  ·refine .inl ⟨g1,fun k o' hk ho' hal=>g2 k hk ?_⟩
   have hki:=(P.at ho).2.1 k hk;have hb:=vX (p:=fun i o=>gS (aM ds i) o) (i:=0) (htk (i:=k) (by omega) ho') (by simpa using hal)
   rwa [Nat.zero_add]at hb
  ·exact .inr ⟨g1,.inl g2⟩
  ·exact .inr ⟨g1,.inr g2⟩
 have hds:∀{i:Nat} {o:Oper},i<d->opsA[i]? =some o->(ds.take d)[i]? =some (o.dst,aM ds i):=fun hi ho=>by rw[List.getElem?_take,au hi];exact(P.at ho).1
 have hts:∀i o,i<d->opsA[i]? =some o->fF o=true->(i,o)∈List.filter (fun p=>fF p.2) (eB 0 (List.take d opsA.toList)):=fun i o hi ho ht=>List.mem_filter.2 ⟨pj.2 ⟨hi,ho⟩,ht⟩
 have hts':∀p∈List.filter (fun p:Nat×Oper=>fF p.2) (eB 0 (List.take d opsA.toList)),p.1<d/\opsA[p.1]? =some p.2/\fF p.2=true:=fun p hp=>by
  obtain⟨g1,g2⟩:=List.mem_filter.1 hp;obtain⟨g3,g4⟩:=pj.1 g1;exact⟨g3,g4,g2⟩
 have htp:(List.filter (fun p:Nat×Oper=>fF p.2) (eB 0 (List.take d opsA.toList))).Pairwise fun p q=>p.1<q.1:=(tO _ _).filter _
 generalize List.filter (fun p:Nat×Oper=>fF p.2) (eB 0 (List.take d opsA.toList))=ts at *
 have hf:mG opsA ds d a1:=by
  refine⟨fun i o ho=>(P.at ho).2,fun i o ho=>(P.at ho).1,kind,fun i o t hi ho ht k o' hk ho' hdst=>?_,fun i j o o' t hi hj ht ht'=>?_,fun i hi hdi k=>?_,fun i o hi ho ht k hk=>?_,fun k hk=>?_,hdle⟩
  ·grind
  ·have e1:=(P.at hi).1;have e2:=(P.at hj).1;rw[ht]at e1;rw[ht']at e2;exact lY h2 e1 e2
  ·have:=iG htl (i-d) (by simp;omega)
   rw[show d+(i-d)=i by omega]at this
   rw[this];simp[eX,Nat.testBit_two_pow_sub_one]
  ·subst ha1;exact rj hk _ (hts i o hi ho ht)
  ·subst ha1;cases ts with
   |nil=>simp[AQ]at hk
   |cons p l=>
    obtain⟨q1,q2,q3⟩:=hts' p (by simp)
    have:=(P.at q2).2.1 k (rj hk p (by simp))
    omega
 have hget:∀k,(Array.replicate opsA.size false).getD k false=false:=fun k=>by
  simp only[Array.getD_eq_getD_getElem?,Array.getElem?_replicate];split<;>rfl
 obtain⟨r1,r2,r3,r4⟩:=hr
 have M0:mT C opsA ds d a1 B U.res J w0 F0 0 {U with slots:=j4 (ds.take d) (clean U.slots)} (fun k=>(Array.replicate opsA.size false).getD k false) J fps a a {w with drawn:=w.drawn+1} (fun _=>0):=by
  refine⟨⟨⟨by rw[r1.clean.1];exact(iO _ _).symm,fun t=>?_⟩,⟨r2.sub,r2.old,r2.os,r2.tape,r2.output,fun i hi=>aI.cy _ (r2.holds i hi) fun _ _=>rfl,r2.lt,r2.disj,r2.inF,r2.same⟩,r3,r4⟩,Good.refl _ _,⟨rfl,rfl,fun _ _=>rfl⟩,fun i hi=>?_,fun i hi=>?_,fun i k hi=>?_,fun i o ho _ hm=>?_,fun i o hi ho hal _=>⟨fun t ht=>?_,fun hl=>?_⟩,fun i j _ _ hl=>?_,fun _ _=>rfl,fun _=>rfl⟩
  ·rcases kS t (ds.take d) (clean U.slots)with h|⟨h,_⟩
   ·simp_all[du,bh,j4,clean]
   ·show du _ _ _ _ (bh (j4 (ds.take d) (clean U.slots)) t)
    rw[h];exact du.plain (gk U.slots t) (r1.clean.2 t)
  ·simp only[hget]at hi;simp at hi
  ·simp at hi
  ·simp at hi
  ·simp at hm
  ·grind[bh,j4,clean,kS,aM]
  ·simp only[hget]at hl;simp at hl
  ·simp only[hget]at hl;simp at hl
 obtain⟨m,sl,b,M1,hk,_,mnew,clo⟩:=j6 hC hf hB (fun _=>rfl) (opsA.toList.take d) 0 0 _ a (fun j o hj=>qt hj) M0 h
 have hcnt:xw (Array.replicate opsA.size false) opsA.size<=opsA.size:=by
  grind[xw]
 refine F3 hC hH hY hf hB hnd P (fun i o hi ho=>?_) opsA.size _ m _ J fps a b _ _ _ ts (by simp) hcnt M1 (fun i hi ⟨o,ho,hfl⟩ hx=>?_) (fun i k hi _=>by simp only[hget]at hi;simp at hi) (fun p hp=>?_) (fun i o hi ho ht _=>hts i o hi ho ht) htp hk
 ·grind
 ·simp_all
 ·grind[Cq]
def GX(C:Ctx)(H:Handler)(Y:bJ)(ops:List Oper)(U:St)(K:Out->St->Prop):Prop:=Dq C H Y ops U K (HB C H Y ops (JD ops) U K)
theorem xM[Fen]{H:Handler}{Y:bJ}{U:St}{K:Out->St->Prop}{id:Nat}{ro:Option Nat}{J:Env}{fps:Nat->Nat->Prop}{a:Act}{w:World}(hC:C.Sound)(hH:H.OK C.P)(hY:vn C.P Y J U.res)(hnd:ro≠none->∀o∈opsA.toList,bZ o)(h:GX C H Y opsA.toList U K)(hr:fq J fps U w0 F0 a w):
  (Code.region id opsA true).wpIn (FF C.P ro) 0 C.P (dr J U.res w0 F0 K) a w:=
 yk hC hH hY hnd h hr fun h=>A8 hC hH hY hnd h hr
end
end Go.Sx
