import Derived.Test.YtmfbohanboiklaaCtTh
import Derived.Test.YtmfbohanboiklaaSpHo
set_option linter.unusedSimpArgs false
set_option linter.unusedVariables false
namespace Go.Proofs.Ytmfbohanboiklaa
open Go.Sx
set_option maxRecDepth 100000
theorem F5 (l:List Int) (n:Int) (hs:AP l):
 true=true/\(∃g,qT l n g/\n=n/\aG (aa l)=aG (aa l)/\0=g/\l=l)/\∀(g:Int),qT l n g->(decide (g<aG (aa l))=true->(0<=g/\g< ↑(aa l))/\g.toNat<aa l/\
  (decide (n=ay l g.toNat 0)=true->decide (0<=g)=jk l n)/\(decide (n=ay l g.toNat 0)=false->aU IntKind.i64 (g+1)/\∃g',qT l n g'/\(aG (aa l)-g').toNat<(aG (aa
  l)-g).toNat/\n=n/\aG (aa l)=aG (aa l)/\g+1=g'/\l=l))/\(decide (g<aG (aa l))=false->false=jk l n):=by
 have e1:aG (aa l)=(l.length:Int):=rfl;rw[e1];refine⟨rfl,⟨0,⟨by omega,Int.natCast_nonneg _,fun j hj=>by omega⟩,by(repeat' apply And.intro)<;>rfl⟩,fun g hg=>⟨fun hlt=>?_,fun hge=>?_⟩⟩
 ·have hlt:=N7 hlt;obtain⟨h0,h1,h2⟩:=hg;have hs:l.length<=1000:=hs;have hj:g.toNat<l.length:=by omega
  refine⟨⟨h0,hlt⟩,hj,fun hw=>?_,fun hw=>⟨by simp only[aU,bG];omega,g+1,⟨by omega,by show g+1<=(l.length:Int);omega,fun j hj'=>?_⟩,by omega,by(repeat' apply And.intro)<;>rfl⟩⟩
  ·rw[decide_eq_true h0];symm
   refine decide_eq_true ?_;rw[N7 hw];unfold ay;rw[N8,List.getElem?_eq_getElem hj];exact List.getElem_mem hj
  ·by_cases hjg:(j:Int)<g
   ·exact h2 j hjg
   ·have:j=g.toNat:=by omega
    subst this;exact fun e=>N6 hw e.symm
 ·have hge:=N6 hge;obtain⟨h0,h1,h2⟩:=hg;symm
  refine decide_eq_false fun hm=>?_
  obtain⟨j,hj,e⟩:=List.getElem_of_mem hm;refine h2 j (by omega) ?_
  unfold ay;rw[N8,List.getElem?_eq_getElem hj];exact e
theorem G9 (l:List Int) (n:Int) (hs:AP l):aj Try.prog 41 [.sa 0,.it .i64 n] [.ro (.arr none 1 (.it .i64 l))] (pW (.bo (jk l n))) (fun _ _=>False):=
 aL (inl:=(fun f=>f==62)) (ann:=(jM [(62,2,FL [0,1,7] (fun g=> [(8,.it .i64 g)]) (qT l n) (aG (aa l)))])) aB (F5 l n hs) (by kernel_rfl)
theorem GK:bV Try.prog 41 JA:=lT (aI zC (aI jP cM)) (fun _=>rfl) fun a hq _=>by
  obtain⟨l,n,_⟩:=a;exact G9 l n hq
theorem Hr (L M:List Sx.Obj) (oid:Int) (ps:List Int) (hL:dg L) (hM:dg M) (hp:qv ps):
 ((decide (dH L=0)||decide (dH M=0))=true->iK L M oid ps=false/\Value.slice none 0 0=Value.slice none 0 0/\1=gH L M oid ps)/\((decide (dH L=0)||decide (dH M=
   0))=false->((!decide (dH L=dH M))=true->iK L M oid ps=false/\Value.slice none 0 0=Value.slice none 0 0/\2=gH L M oid ps)/\((!decide (dH L=dH M))=false->oM
   (aa [oid]) (aa ps) 8/\(∃g,rr ps L oid g/\oid=oid/\aG (aa (dw [oid] ps))=aG (aa (dw [oid] ps))/\0=g/\L=L/\M=M/\ps=ps/\dw [oid] ps=dw [oid] ps/\ []=b8
   L oid ps g)/\∀(g:Int),rr ps L oid g->(decide (g<aG (aa (dw [oid] ps)))=true->(0<=g/\g< ↑(aa (dw [oid] ps)))/\g.toNat<aa (dw [oid] ps)/\((!decide (aC L (ay (dw
   [oid] ps) g.toNat 0)=0))=true->iK L M oid ps=false/\Value.slice none 0 0=Value.slice none 0 0/\aC L (ay (dw [oid] ps) g.toNat 0)=gH L M oid ps)/\((!decide (aC L (ay
   (dw [oid] ps) g.toNat 0)=0))=false->dg L/\oM (aa (b8 L oid ps g)) (aa (ah L (ay (dw [oid] ps) g.toNat 0))) 40/\aU IntKind.i64 (g+1)/\∃g',rr ps L oid g'/\(aG
   (aa ps)+2-g').toNat<(aG (aa ps)+2-g).toNat/\oid=oid/\aG (aa (dw [oid] ps))=aG (aa (dw [oid] ps))/\g+1=g'/\L=L/\M=M/\ps=ps/\dw [oid] ps=dw [oid] ps/\
   dw (b8 L oid ps g) (ah L (ay (dw [oid] ps) g.toNat 0))=b8 L oid ps g'))/\(decide (g<aG (aa (dw [oid] ps)))=false->dg M/\(∃g_1,iT g_1/\aG (aa (ah M oid))=
   aG (aa (ah M oid))/\0=g_1/\L=L/\M=M/\ps=ps/\dw [oid] ps=dw [oid] ps/\b8 L oid ps g=b8 L oid ps g/\ah M oid=ah M oid/\ []=ck L M oid ps g_1)/\∀(g_1:
   Int),iT g_1->(decide (g_1<aG (aa (ah M oid)))=true->(0<=g_1/\g_1< ↑(aa (ah M oid)))/\g_1.toNat<aa (ah M oid)/\true=true/\cm (b8 L oid ps g)/\(cZ (bU
   (ah M oid) g_1) (b8 L oid ps g)=true->aU IntKind.i64 (g_1+1)/\∃g',iT g'/\(10000-g').toNat<(10000-g_1).toNat/\aG (aa (ah M oid))=aG (aa (ah M oid))/\g_1+1=
   g'/\L=L/\M=M/\ps=ps/\dw [oid] ps=dw [oid] ps/\b8 L oid ps g=b8 L oid ps g/\ah M oid=ah M oid/\ck L M oid ps g_1=ck L M oid ps g')/\(cZ (bU (ah M oid)
   g_1) (b8 L oid ps g)=false->true=true/\((!aN (bU (ah M oid) g_1))=true->eC (aa (ck L M oid ps g_1)) 40/\aU IntKind.i64 (g_1+1)/\∃g',iT g'/\(10000-g').toNat<
   (10000-g_1).toNat/\aG (aa (ah M oid))=aG (aa (ah M oid))/\g_1+1=g'/\L=L/\M=M/\ps=ps/\dw [oid] ps=dw [oid] ps/\b8 L oid ps g=b8 L oid ps g/\ah M oid=
   ah M oid/\bg (ck L M oid ps g_1) [(bU (ah M oid) g_1).kind,(bU (ah M oid) g_1).oid,(bU (ah M oid) g_1).count,(bU (ah M oid) g_1).call,(bU (ah M oid) g_1).rights]=
   ck L M oid ps g')/\((!aN (bU (ah M oid) g_1))=false->(((decide ((bU (ah M oid) g_1).kind=6)||decide ((bU (ah M oid) g_1).kind=7)||decide ((bU (ah M oid) g_1).kind=
   5))&&decide ((bm M ((bU (ah M oid) g_1).oid)).count<=(bm L ((bU (ah M oid) g_1).oid)).count))=true->AP ps)/\((decide ((bm M ((bU (ah M oid) g_1).oid)).count<=(bm L
   ((bU (ah M oid) g_1).oid)).count)&& !((decide ((bU (ah M oid) g_1).kind=6)||decide ((bU (ah M oid) g_1).kind=7)||decide ((bU (ah M oid) g_1).kind=5))&&jk ps ((bU
   (ah M oid) g_1).oid)))=true->eC (aa (ck L M oid ps g_1)) 40/\aU IntKind.i64 (g_1+1)/\∃g',iT g'/\(10000-g').toNat<(10000-g_1).toNat/\aG (aa (ah M oid))=aG
   (aa (ah M oid))/\g_1+1=g'/\L=L/\M=M/\ps=ps/\dw [oid] ps=dw [oid] ps/\b8 L oid ps g=b8 L oid ps g/\ah M oid=ah M oid/\bg (ck L M oid ps g_1) [(bU
   (ah M oid) g_1).kind,(bU (ah M oid) g_1).oid,(bU (ah M oid) g_1).count,(bU (ah M oid) g_1).call,(bU (ah M oid) g_1).rights]=ck L M oid ps g')/\((decide ((bm M ((bU
   (ah M oid) g_1).oid)).count<=(bm L ((bU (ah M oid) g_1).oid)).count)&& !((decide ((bU (ah M oid) g_1).kind=6)||decide ((bU (ah M oid) g_1).kind=7)||decide ((bU (ah M
   oid) g_1).kind=5))&&jk ps ((bU (ah M oid) g_1).oid)))=false->aU IntKind.i64 (g_1+1)/\∃g',iT g'/\(10000-g').toNat<(10000-g_1).toNat/\aG (aa (ah M oid))=aG
   (aa (ah M oid))/\g_1+1=g'/\L=L/\M=M/\ps=ps/\dw [oid] ps=dw [oid] ps/\b8 L oid ps g=b8 L oid ps g/\ah M oid=ah M oid/\ck L M oid ps g_1=ck L M oid ps
   g'))))/\(decide (g_1<aG (aa (ah M oid)))=false->iK L M oid ps=true/\∀(nid:Nat),some (V.tp [V.sa nid,V.ci IntKind.i64 0])=some (V.tp [V.sa nid,V.ci IntKind.i64 0])/\some
   [ai.arr (some 43) 5 (TL.qs 5 (ck L M oid ps g_1))]=some [ai.arr (some 43) 5 (TL.qs 5 (gI L M oid ps))])))):=by
 obtain⟨l1,l2⟩:=fg hL;obtain⟨m1,m2⟩:=fg hM;have z1:decide (dH L=0)=false:=decide_eq_false (by unfold dH aa;omega)
 have z2:decide (dH M=0)=false:=decide_eq_false (by unfold dH aa;omega)
 have hp':ps.length<=100:=hp;have eA:dw [oid] ps=bX oid ps:=rfl;have eN:aG (aa (bX oid ps))=(ps.length:Int)+1:=by unfold aG aa;rw[iE];omega
 have eP:aG (aa ps)=(ps.length:Int):=rfl;have eR:aG (aa (ah M oid))=((ah M oid).length:Int):=rfl;rw[z1,z2,eA,eN,eP,eR];refine⟨fun h=>by simp at h,fun _=>⟨fun h=>?_,fun h=>?_⟩⟩
 ·have h:¬aa L=aa M:=fun e=>by simp[dH,e]at h
  exact⟨by unfold iK;simp[h],rfl,by unfold gH;rw[N9 h]⟩
 have hlm:aa L=aa M:=by
  have h':dH L=dH M:=by simpa using h
  unfold dH at h';omega
 have hmx:maxLen≥1000000:=by decide
 refine⟨by unfold oM aa;simp only[List.length_cons,List.length_nil];omega,⟨0,⟨by omega,by unfold aa;omega,fun j hj=>by omega⟩,rfl,rfl,rfl,rfl,rfl,rfl,rfl,rfl⟩,fun g hg=>⟨fun hlt=>?_,fun hge=>?_⟩⟩
 ·have hlt:=N7 hlt;obtain⟨h0,h1,h2⟩:=hg;have hj:g.toNat<(bX oid ps).length:=by rw[iE];omega
  have hm:ay (bX oid ps) g.toNat 0∈bX oid ps:=by
   unfold ay;rw[N8,List.getElem?_eq_getElem hj];exact List.getElem_mem hj
  refine⟨⟨h0,by unfold aa;rw[iE];omega⟩,hj,fun hn=>?_,fun hn=>?_⟩
  ·have hn:¬aC L (ay (bX oid ps) g.toNat 0)=0:=by simpa using hn
   have ha:kG L oid ps=false:=by
    unfold kG;rw[List.all_eq_false];exact⟨_,hm,by simpa using hn⟩
   refine⟨by unfold iK;rw[ha,Bool.and_false],rfl,?_⟩
   unfold gH;rw[Oa hlm,ha,N9 (by simp)]
   exact LL hL hn
  ·have hn:aC L (ay (bX oid ps) g.toNat 0)=0:=by simpa using hn
   refine⟨hL,AM hL hp _ _,by simp only[aU,bG];omega,g+1,⟨by omega,by unfold aa;omega,fun j hj'=>?_⟩,by omega,rfl,rfl,rfl,rfl,rfl,rfl,rfl,xn h0 hj⟩
   by_cases hjg:(j:Int)<g
   ·exact h2 j hjg
   ·have:j=g.toNat:=by omega
    subst this;exact hn
 ·have hge:=N6 hge;obtain⟨h0,h1,h2⟩:=hg;have hT:b8 L oid ps g=b8 L oid ps ((bX oid ps).length:Int):=zV (by rw[iE];omega)
  rw[hT];have h8:=su hM oid;refine⟨hM,⟨0,⟨by omega,by omega⟩,rfl,rfl,rfl,rfl,rfl,rfl,rfl,rfl,rfl⟩,fun g_1 hg1=>⟨fun hlt=>?_,fun hge1=>?_⟩⟩
  ·have hlt:=N7 hlt;obtain⟨k0,k1⟩:=hg1;have hj:g_1.toNat<(ah M oid).length:=by omega
   obtain⟨c1,c2,c3⟩:=D0 hM hj;have hN:=wM (L:=L) (ps:=ps) k0 hj;rw[DD]at hN
   have hno:∀X,X=ck L M oid ps (g_1+1)->aU IntKind.i64 (g_1+1)/\∃g',iT g'/\(10000-g').toNat<(10000-g_1).toNat/\((ah M oid).length:Int)=((ah M oid).length:Int)/\g_1+1=g'/\L=L/\M=M/\ps=ps/\bX oid ps=bX oid ps/\b8 L oid ps ((bX oid ps).length:Int)=b8 L oid ps ((bX oid ps).length:Int)/\ah M oid=ah M oid/\X=ck L M oid ps g':=fun X hX=>
    ⟨by simp only[aU,bG];omega,g_1+1,⟨by omega,by omega⟩,by omega,rfl,rfl,rfl,rfl,rfl,rfl,rfl,rfl,hX⟩
   refine⟨⟨k0,hlt⟩,hj,rfl,xy hL hp _,fun hc=>hno _ ?_,fun hc=>⟨rfl,fun hn=>⟨vK hM,hno _ ?_⟩,fun hn=>⟨fun _=>(by show ps.length<=1000;omega),fun hb=>⟨vK hM,hno _ ?_⟩,fun hb=>hno _ ?_⟩⟩⟩
   ·rw[hN,hc];rfl
   ·rw[hN,hc,hn,c3];rfl
   ·rw[hN,hc,hn,hb,c3];rfl
   ·rw[hN,hc,hn,hb];rfl
  ·have hge1:=N6 hge1
   refine⟨by
    unfold iK;rw[decide_eq_true hlm,Bool.true_and];unfold kG;rw[List.all_eq_true];intro x hx;obtain⟨j,hj,rfl⟩:=List.getElem_of_mem hx;have:=h2 j (by rw[iE]at hj;omega)
    unfold ay at this;rw[N8,List.getElem?_eq_getElem hj]at this;exact decide_eq_true this,fun nid=>⟨rfl,?_⟩⟩
   rw[zW (by omega)]
theorem G0:si Try.prog 18 D3:=by
 unfold D3
 refine yn (aI (vX tS eS) (aI (vX tS eS) (aI jP (aI zC cM)))) (fun _=>rfl) (fun _=>by simp) fun a hq _=>by
  obtain⟨o,o',oid,ps,_⟩:=a;obtain⟨h1,h2,h3⟩:=hq;cases o with
  |none=>exact h1.elim
  |some L=>
   cases o' with
   |none=>exact h2.elim
   |some M=>exact cT (inl:=(fun f=>f==39||f==37)) (ann:=(jM [(18,8,NX [2,4,5,7,11,39,40] (fun g=> [(41,.it .i64 g)]) 9 NB qH 5 (fun g=> .qs 5 (b8 L oid ps g)) (rr ps L oid) (GG (aG (aa ps)) 2)),(18,18,Mt [4,5,7,11,16,63,64] (fun g=> [(65,.it .i64 g)]) 17 qH 5 (fun g=> .qs 5 (ck L M oid ps g)) iT 10000)])) (an Gr (an pe (an y9 (an GD (an hJ (an GK aB)))))) cP (Hr L M oid ps h1 h2 h3) (by kernel_rfl)
theorem D5 (x y:Sx.Key) (hx:x.wf) (hy:y.wf):
 ((!decide (aW x=0)|| !decide (aW y=0))=true->false=fm x y)/\((!decide (aW x=0)|| !decide (aW y=0))=false->((decide (x.kind=0)||yX x y)=true->true=fm x
   y)/\((decide (x.kind=0)||yX x y)=false->((decide (x.kind=2)||decide (x.kind=3))&&decide (x.kind=y.kind)&&decide (x.oid=y.oid)&&decide (x.count=y.count)&&decide (gE
   x.rights y.rights=x.rights))=fm x y)):=by
 unfold fm aW;cases ha1:au x
 ·simp
 cases hb1:au y
 ·simp
 refine⟨fun h=>by simp at h,fun _=>⟨fun h=>by rw[h];rfl,fun h=>?_⟩⟩
 rw[h,B5 ha1 hb1];simp only[Bool.true_and,Bool.false_or];rfl
theorem Fw:bV Try.prog 63 CN:=
 lh fL fL (fun _ _=>rfl) fun a b ha hb=>aL (inl:=bz) (ann:=bW) (an nL (an wS aB)) (D5 a b ha hb) (by kernel_rfl)
theorem Hk (k:Sx.Key) (l:List Cp) (h5:cm l):
 (∃g,iV k l g/\0=g/\l=l/\k.kind=k.kind/\k.oid=k.oid/\k.count=k.count/\k.call=k.call/\k.rights=k.rights)/\∀(g:Int),iV k l g->(decide (g<aG (aa l))=true->(0
  <=g/\g< ↑(aa l))/\g.toNat<aa l/\(fm (Key.mk k.kind k.oid k.count k.call k.rights 0) (Key.mk (aT l g.toNat 0) (aT l g.toNat 1) (aT l g.toNat 2) (aT l g.toNat 3) (aT l g.toNat 4) 0)=
  true->true=cZ k l)/\(fm (Key.mk k.kind k.oid k.count k.call k.rights 0) (Key.mk (aT l g.toNat 0) (aT l g.toNat 1) (aT l g.toNat 2) (aT l g.toNat 3) (aT l g.toNat 4) 0)=false->aU
  IntKind.i64 (g+1)/\∃g',iV k l g'/\(aG (aa l)-g').toNat<(aG (aa l)-g).toNat/\g+1=g'/\l=l/\k.kind=k.kind/\k.oid=k.oid/\k.count=k.count/\k.call=k.call/\k.rights
  =k.rights))/\(decide (g<aG (aa l))=false->false=cZ k l):=by
 have e1:aG (aa l)=(l.length:Int):=rfl;rw[e1];have hb:=h5.2;refine⟨⟨0,⟨by omega,Int.natCast_nonneg _,fun j hj=>by omega⟩,rfl,rfl,rfl,rfl,rfl,rfl,rfl⟩,fun g hg=>⟨fun hlt=>?_,fun hge=>?_⟩⟩
 ·have hlt:=N7 hlt;obtain⟨h0,h1,h2⟩:=hg;have hj:g.toNat<l.length:=by omega
  refine⟨⟨h0,hlt⟩,hj,fun hw=>?_,fun hw=>⟨by simp only[aU,bG];omega,g+1,⟨by omega,by show g+1<=(l.length:Int);omega,fun j hj'=>?_⟩,by omega,rfl,rfl,rfl,rfl,rfl,rfl,rfl⟩⟩
  ·symm
   unfold cZ;rw[List.any_eq_true];exact⟨cw l g.toNat,(at_mem hj).1,hw⟩
  ·by_cases hjg:(j:Int)<g
   ·exact h2 j hjg
   ·have:j=g.toNat:=by omega
    subst this;exact hw
 ·have hge:=N6 hge;obtain⟨h0,h1,h2⟩:=hg;symm
  unfold cZ;rw[List.any_eq_false];intro x hx;obtain⟨j,hj,rfl⟩:=List.getElem_of_mem hx;have hm:=(at_mem hj).2;rw[List.getElem?_eq_getElem hj]at hm;rw[Option.some.inj hm];have:=h2 j (by omega)
  simpa using this
theorem Ia (k:Sx.Key) (l:List Cp) (h5:cm l):aj Try.prog 42 [JO k,.sa 0] [.ro (.arr none 5 (.qs 5 l))] (pW (.bo (cZ k l))) (fun _ _=>False):=
 aL (inl:=bz) (ann:=(jM [(42,2,FL [1,2] (fun g=> [(5,.it .i64 g)]) (iV k l) (aG (aa l)))])) (an rN (an Fw aB)) (Hk k l h5) (by kernel_rfl)
theorem HG:bV Try.prog 42 Eo:=lT (aI mz (aI py cM)) (fun _=>rfl) fun a hq _=>by
  obtain⟨x,l,_⟩:=a;exact Ia (qG x) l hq
theorem He (L M:List Sx.Obj) (oid:Int) (ps:List Int) (hQ:zJ L M oid ps):
 rJ L oid/\(∃g,gU ps g/\oid=oid/\0=g/\L=L/\M=M/\ps=ps/\ah L oid=dV L oid ps g)/\∀(g:Int),gU ps g->(decide (g<aG (aa ps))=true->(0<=g/\g< ↑(aa
  ps))/\g.toNat<aa ps/\rJ L (ay ps g.toNat 0)/\oM (aa (dV L oid ps g)) (aa (ah L (ay ps g.toNat 0))) 40/\aU IntKind.i64 (g+1)/\∃g',gU ps g'/\(aG (aa ps)-
  g').toNat<(aG (aa ps)-g).toNat/\oid=oid/\g+1=g'/\L=L/\M=M/\ps=ps/\dw (dV L oid ps g) (ah L (ay ps g.toNat 0))=dV L oid ps g')/\(decide (g<aG (aa ps))=
  false->rJ M oid/\(∃g_1,oq M oid g_1/\oid=oid/\0=g_1/\L=L/\M=M/\ps=ps/\dV L oid ps g=dV L oid ps g/\ah M oid=ah M oid/\ []=ck L M oid ps g_1)/\∀(g_1
  :Int),oq M oid g_1->(decide (g_1<aG (aa (ah M oid)))=true->(0<=g_1/\g_1< ↑(aa (ah M oid)))/\g_1.toNat<aa (ah M oid)/\cm (dV L oid ps g)/\((decide (2<=(bU
  (ah M oid) g_1).kind)&&decide ((bU (ah M oid) g_1).kind<=7)&& !cZ (bU (ah M oid) g_1) (dV L oid ps g))=true->0<=(bU (ah M oid) g_1).oid/\(bU (ah M oid) g_1).oid<
  ↑(aa M))/\((decide (2<=(bU (ah M oid) g_1).kind)&&decide ((bU (ah M oid) g_1).kind<=7)&& !cZ (bU (ah M oid) g_1) (dV L oid ps g))=true->((bU (ah M oid) g_1).oid).toNat
  <aa M)/\((decide (2<=(bU (ah M oid) g_1).kind)&&decide ((bU (ah M oid) g_1).kind<=7)&& !cZ (bU (ah M oid) g_1) (dV L oid ps g))=true->0<=(bU (ah M oid) g_1).oid/\
  (bU (ah M oid) g_1).oid< ↑(aa L))/\((decide (2<=(bU (ah M oid) g_1).kind)&&decide ((bU (ah M oid) g_1).kind<=7)&& !cZ (bU (ah M oid) g_1) (dV L oid ps g))=true->((bU
  (ah M oid) g_1).oid).toNat<aa L)/\(∃g_2,gU ps g_2/\oid=oid/\g_1=g_1/\(bU (ah M oid) g_1).kind=(bU (ah M oid) g_1).kind/\(!cZ (bU (ah M oid) g_1) (dV L oid ps
  g)&& !(decide (2<=(bU (ah M oid) g_1).kind)&&decide ((bU (ah M oid) g_1).kind<=7)&&decide ((ay L ((bU (ah M oid) g_1).oid).toNat free).count<(ay M ((bU (ah M oid)
  g_1).oid).toNat free).count)))=jJ L M oid ps (bU (ah M oid) g_1) g_2/\0=g_2/\L=L/\M=M/\ps=ps/\dV L oid ps g=dV L oid ps g/\ah M oid=ah M oid/\ck L M oid ps
  g_1=ck L M oid ps g_1/\(bU (ah M oid) g_1).kind=(bU (ah M oid) g_1).kind/\(bU (ah M oid) g_1).oid=(bU (ah M oid) g_1).oid/\(bU (ah M oid) g_1).count=(bU (ah M oid)
  g_1).count/\(bU (ah M oid) g_1).call=(bU (ah M oid) g_1).call/\(bU (ah M oid) g_1).rights=(bU (ah M oid) g_1).rights)/\∀(g_2:Int),gU ps g_2->(decide (g_2<aG (aa
  ps))=true->((decide (5<=(bU (ah M oid) g_1).kind)&&decide ((bU (ah M oid) g_1).kind<=7))=true->0<=g_2/\g_2< ↑(aa ps))/\((decide (5<=(bU (ah M oid) g_1).kind)&&decide
  ((bU (ah M oid) g_1).kind<=7))=true->g_2.toNat<aa ps)/\((decide (5<=(bU (ah M oid) g_1).kind)&&decide ((bU (ah M oid) g_1).kind<=7)&&decide (ay ps g_2.toNat 0=(bU (ah
  M oid) g_1).oid))=true->aU IntKind.i64 (g_2+1)/\∃g',gU ps g'/\(aG (aa ps)-g').toNat<(aG (aa ps)-g_2).toNat/\oid=oid/\g_1=g_1/\(bU (ah M oid) g_1).kind=(bU
  (ah M oid) g_1).kind/\false=jJ L M oid ps (bU (ah M oid) g_1) g'/\g_2+1=g'/\L=L/\M=M/\ps=ps/\dV L oid ps g=dV L oid ps g/\ah M oid=ah M oid/\ck L M oid
  ps g_1=ck L M oid ps g_1/\(bU (ah M oid) g_1).kind=(bU (ah M oid) g_1).kind/\(bU (ah M oid) g_1).oid=(bU (ah M oid) g_1).oid/\(bU (ah M oid) g_1).count=(bU (ah M
  oid) g_1).count/\(bU (ah M oid) g_1).call=(bU (ah M oid) g_1).call/\(bU (ah M oid) g_1).rights=(bU (ah M oid) g_1).rights)/\((decide (5<=(bU (ah M oid) g_1).kind)&&decide
  ((bU (ah M oid) g_1).kind<=7)&&decide (ay ps g_2.toNat 0=(bU (ah M oid) g_1).oid))=false->aU IntKind.i64 (g_2+1)/\∃g',gU ps g'/\(aG (aa ps)-g').toNat<(aG (aa
  ps)-g_2).toNat/\oid=oid/\g_1=g_1/\(bU (ah M oid) g_1).kind=(bU (ah M oid) g_1).kind/\jJ L M oid ps (bU (ah M oid) g_1) g_2=jJ L M oid ps (bU (ah M oid) g_1) g'/\g_2
  +1=g'/\L=L/\M=M/\ps=ps/\dV L oid ps g=dV L oid ps g/\ah M oid=ah M oid/\ck L M oid ps g_1=ck L M oid ps g_1/\(bU (ah M oid) g_1).kind=(bU (ah M oid)
  g_1).kind/\(bU (ah M oid) g_1).oid=(bU (ah M oid) g_1).oid/\(bU (ah M oid) g_1).count=(bU (ah M oid) g_1).count/\(bU (ah M oid) g_1).call=(bU (ah M oid) g_1).call/\
  (bU (ah M oid) g_1).rights=(bU (ah M oid) g_1).rights))/\(decide (g_2<aG (aa ps))=false->(jJ L M oid ps (bU (ah M oid) g_1) g_2=true->eC (aa (ck L M oid ps g_1)) 40
  /\aU IntKind.i64 (g_1+1)/\∃g',oq M oid g'/\(10000-g').toNat<(10000-g_1).toNat/\oid=oid/\g_1+1=g'/\L=L/\M=M/\ps=ps/\dV L oid ps g=dV L oid ps g/\ah M oid
  =ah M oid/\bg (ck L M oid ps g_1) [(bU (ah M oid) g_1).kind,(bU (ah M oid) g_1).oid,(bU (ah M oid) g_1).count,(bU (ah M oid) g_1).call,(bU (ah M oid) g_1).rights]=
  ck L M oid ps g')/\(jJ L M oid ps (bU (ah M oid) g_1) g_2=false->aU IntKind.i64 (g_1+1)/\∃g',oq M oid g'/\(10000-g').toNat<(10000-g_1).toNat/\oid=oid/\g_1+1=g'
  /\L=L/\M=M/\ps=ps/\dV L oid ps g=dV L oid ps g/\ah M oid=ah M oid/\ck L M oid ps g_1=ck L M oid ps g')))/\(decide (g_1<aG (aa (ah M oid)))=false->∀(nid:
  Nat),some (V.sa nid)=some (V.sa nid)/\some [ai.arr (some 43) 5 (TL.qs 5 (ck L M oid ps g_1))]=some [ai.arr (some 43) 5 (TL.qs 5 (gI L M oid ps))])):=by
 obtain⟨hL,hM,hlm,ha,hp⟩:=hQ;obtain⟨ha1,ha2⟩:=xL.1 ha;obtain⟨l1,l2⟩:=fg hL;obtain⟨m1,m2⟩:=fg hM;have hp':ps.length<=100:=hp;have eP:aG (aa ps)=(ps.length:Int):=rfl;have eR:aG (aa (ah M oid))=((ah M oid).length:Int):=rfl;rw[eP,eR];have h8:=su hM oid;have hbo:aC M oid=0:=by rw[<-Ic hlm];exact ha1
 refine⟨⟨hL,ha1⟩,⟨0,⟨by omega,Int.natCast_nonneg _⟩,rfl,rfl,rfl,rfl,rfl,by unfold dV b8 bX;simp⟩,fun g hg=>⟨fun hlt=>?_,fun hge=>?_⟩⟩
 ·have hlt:=N7 hlt;obtain⟨h0,h1⟩:=hg;have hj:g.toNat<ps.length:=by omega
  have e1:(g+1).toNat=g.toNat+1:=by omega
  have hm:ay ps g.toNat 0=ay (bX oid ps) (g+1).toNat 0:=by rw[e1];rfl
  refine⟨⟨h0,hlt⟩,hj,⟨hL,ha2 _ (by unfold ay;rw[N8,List.getElem?_eq_getElem hj];exact List.getElem_mem hj)⟩,AM hL hp _ _,by simp only[aU,bG];omega,g+1,⟨by omega,by show g+1<=(ps.length:Int);omega⟩,by omega,rfl,rfl,rfl,rfl,rfl,?_⟩
  rw[hm];exact xn (by omega) (by rw[iE];omega)
 have hge:=N6 hge;have hT:dV L oid ps g=b8 L oid ps ((bX oid ps).length:Int):=zV (by rw[iE];omega)
 rw[hT];refine⟨⟨hM,hbo⟩,⟨0,⟨by omega,Int.natCast_nonneg _⟩,rfl,rfl,rfl,rfl,rfl,rfl,rfl,rfl⟩,fun g_1 hg1=>⟨fun hlt=>?_,fun hge1=>?_⟩⟩
 ·have hlt:=N7 hlt;obtain⟨k0,k1⟩:=hg1;have hj:g_1.toNat<(ah M oid).length:=by omega
  obtain⟨c1,c2,c3⟩:=D0 hM hj;have hN:=wM (L:=L) (ps:=ps) k0 hj;have hd:=fun(x:Int) (hx:(ps.length:Int)<=x)=>FV (L:=L) (M:=M) (oid:=oid) (ps:=ps) (c:=cw (ah M oid) g_1.toNat) hlm c1 c2 hx
  rw[<-Al]at hd
  have hb:∀X Y:Bool,((decide (2<=(bU (ah M oid) g_1).kind)&&decide ((bU (ah M oid) g_1).kind<=7)&& !X)=true)->(0<=(bU (ah M oid) g_1).oid/\(bU (ah M oid) g_1).oid<(M.length:Int)):=fun X Y h=>by
   have h2:=c2 (by unfold bk;cases X<;>simp at h⊢;exact h)
   obtain⟨a,b⟩:=iB.1 h2;exact⟨a,b⟩
  have hl:L.length=M.length:=hlm;refine⟨⟨k0,hlt⟩,hj,xy hL hp _,fun h=>hb _ true h,fun h=>by have:=hb _ true h;unfold aa;omega,fun h=>by have:=hb _ true h;unfold aa;omega,fun h=>by have:=hb _ true h;unfold aa;omega,⟨0,⟨by omega,Int.natCast_nonneg _⟩,rfl,rfl,rfl,?_,rfl,rfl,rfl,rfl,rfl,rfl,rfl,rfl,rfl,rfl,rfl,rfl⟩,fun g_2 hg2=>⟨fun hlt2=>?_,fun hge2=>?_⟩⟩
  ·unfold jJ bk;simp
  ·have hlt2:=N7 hlt2;obtain⟨i0,i1⟩:=hg2;have hj2:g_2.toNat<ps.length:=by omega
   have hn:=FA (L:=L) (M:=M) (oid:=oid) (k:=bU (ah M oid) g_1) i0 hj2
   refine⟨fun _=>⟨i0,hlt2⟩,fun _=>hj2,fun h=>⟨by simp only[aU,bG];omega,g_2+1,⟨by omega,by show g_2+1<=(ps.length:Int);omega⟩,by omega,rfl,rfl,rfl,?_,rfl,rfl,rfl,rfl,rfl,rfl,rfl,rfl,rfl,rfl,rfl,rfl⟩,fun h=>⟨by simp only[aU,bG];omega,g_2+1,⟨by omega,by show g_2+1<=(ps.length:Int);omega⟩,by omega,rfl,rfl,rfl,?_,rfl,rfl,rfl,rfl,rfl,rfl,rfl,rfl,rfl,rfl,rfl,rfl⟩⟩
   ·rw[hn,h];simp
   ·rw[hn,h];simp
  ·have hge2:=N6 hge2;rw[hd g_2 (by omega)]
   refine⟨fun h=>⟨vK hM,by simp only[aU,bG];omega,g_1+1,⟨by omega,by show g_1+1<=((ah M oid).length:Int);omega⟩,by omega,rfl,rfl,rfl,rfl,rfl,rfl,rfl,?_⟩,fun h=>⟨by simp only[aU,bG];omega,g_1+1,⟨by omega,by show g_1+1<=((ah M oid).length:Int);omega⟩,by omega,rfl,rfl,rfl,rfl,rfl,rfl,rfl,?_⟩⟩
   ·rw[hN,h,Oa rfl,c3]
   ·rw[hN,h,N9 (by simp)]
 ·have hge1:=N6 hge1;rw[zW (by omega)]
  exact fun nid=>⟨rfl,rfl⟩
theorem Hw:bV Try.prog 19 JH:=qX (π:=fun _=> [6]) (aI sZ (aI sZ (aI jP (aI zC cM)))) (fun _=>by simp) (fun _ _=>rfl) fun a hq _=>by
  obtain⟨L,M,oid,ps,_⟩:=a;exact cT (inl:=bz) (ann:=(jM [(19,3,ME [0,1,2,3] (fun g=> [(10,.it .i64 g)]) 9 qH 5 (fun g=> .qs 5 (dV L oid ps g)) (gU ps) (aG (aa ps))),(19,9,Mt [0,1,2,3,9,11] (fun g=> [(13,.it .i64 g)]) 12 qH 5 (fun g=> .qs 5 (ck L M oid ps g)) (oq M oid) 10000),(19,16,M9 [0,1,2,3,9,11,12,13,14,15] L M oid ps)])) (an JP (an HG aB)) cP (He L M oid ps hq) (by kernel_rfl)
theorem Ei (L M:List Sx.Obj) (ps:List Int):
 true=true/\True/\(fj L=false->true=true/\True/\(fj M=false->true=true)/\(fj M=true->true=true))/\(fj L=true->true=true/\True/\(fj M=false->true=
  true)/\(fj M=true->((decide (12<aG (aa L))||decide (12<aG (aa M))||decide (4<aG (aa ps)))=true->true=true)/\((decide (12<aG (aa L))||decide (12<aG (aa M))
  ||decide (4<aG (aa ps)))=false->(∃g,qU ps g/\true=dF L ps g/\0=g/\L=L/\M=M/\ps=ps/\L=L/\M=M)/\∀(g:Int),qU ps g->(decide (g<aG (aa ps))=true->
  (dF L ps g=true->0<=g/\g< ↑(aa ps))/\(dF L ps g=true->g.toNat<aa ps)/\((dF L ps g&&decide (0<=ay ps g.toNat 0))=true->0<=g/\g< ↑(aa ps))/\((dF L ps g&&
  decide (0<=ay ps g.toNat 0))=true->g.toNat<aa ps)/\aU IntKind.i64 (g+1)/\∃g',qU ps g'/\(aG (aa ps)-g').toNat<(aG (aa ps)-g).toNat/\(dF L ps g&&decide (0<=ay
  ps g.toNat 0)&&decide (ay ps g.toNat 0<aG (aa L)))=dF L ps g'/\g+1=g'/\L=L/\M=M/\ps=ps/\L=L/\M=M)/\(decide (g<aG (aa ps))=false->(∃g_1,ko L M ps g_1/\
  dF L ps g=dF L ps g/\0=g_1/\L=L/\M=M/\ps=ps/\L=L/\M=M)/\∀(g_1:Int),ko L M ps g_1->(decide (g_1<aG (aa L))=true->true=true/\Ik (some L,some M,g_1,
  ps,PUnit.unit)/\(iK L M g_1 ps=false->((!decide (aG (aa L)=aG (aa M)))=true->((!decide (gH L M g_1 ps=2)||false)=true->false=true)/\((!decide (gH L M g_1 ps=2)||
  false)=false->aU IntKind.i64 (g_1+1)/\∃g',ko L M ps g'/\(aG (aa L)-g').toNat<(aG (aa L)-g_1).toNat/\dF L ps g=dF L ps g/\g_1+1=g'/\L=L/\M=M/\ps=ps/\L
  =L/\M=M))/\((!decide (aG (aa L)=aG (aa M)))=false->((!dF L ps g)=true->((!decide (gH L M g_1 ps=4)||false)=true->false=true)/\((!decide (gH L M g_1 ps=4)||
  false)=false->aU IntKind.i64 (g_1+1)/\∃g',ko L M ps g'/\(aG (aa L)-g').toNat<(aG (aa L)-g_1).toNat/\dF L ps g=dF L ps g/\g_1+1=g'/\L=L/\M=M/\ps=ps/\L
  =L/\M=M))/\((!dF L ps g)=false->((!decide (gH L M g_1 ps=0)||false)=true->false=true)/\((!decide (gH L M g_1 ps=0)||false)=false->zJ L M g_1 ps/\true=true/\
  False))))/\(iK L M g_1 ps=true->((!decide (aG (aa L)=aG (aa M)))=true->false=true)/\((!decide (aG (aa L)=aG (aa M)))=false->((!dF L ps g)=true->false=true)/\
  ((!dF L ps g)=false->zJ L M g_1 ps/\(cm (gI L M g_1 ps)/\cm (gI L M g_1 ps))/\((!ku (gI L M g_1 ps) (gI L M g_1 ps))=true->false=true)/\((!ku (gI L M
  g_1 ps) (gI L M g_1 ps))=false->aU IntKind.i64 (g_1+1)/\∃g',ko L M ps g'/\(aG (aa L)-g').toNat<(aG (aa L)-g_1).toNat/\dF L ps g=dF L ps g/\g_1+1=g'/\L=L
  /\M=M/\ps=ps/\L=L/\M=M)))))/\(decide (g_1<aG (aa L))=false->true=true))))):=by
 have eP:aG (aa ps)=(ps.length:Int):=rfl;have eL:aG (aa L)=(L.length:Int):=rfl;rw[eP,eL];refine⟨rfl,trivial,fun _=>⟨rfl,trivial,fun _=>rfl,fun _=>rfl⟩,fun hL'=>⟨rfl,trivial,fun _=>rfl,fun hM'=>⟨fun _=>rfl,fun hs=>?_⟩⟩⟩
 have hL:dg L:=by unfold fj at hL';simp only[N3]at hL';exact hL'.2
 have hM:dg M:=by unfold fj at hM';simp only[N3]at hM';exact hM'.2
 simp only[Bool.or_eq_false_iff,decide_eq_false_iff_not]at hs;obtain⟨⟨s1,s2⟩,s3⟩:=hs;have hp:qv ps:=by show ps.length<=100;omega
 refine⟨⟨0,⟨by omega,Int.natCast_nonneg _,by unfold aa;omega⟩,rfl,rfl,rfl,rfl,rfl,rfl,rfl⟩,fun g hg=>⟨fun hlt=>?_,fun hge=>?_⟩⟩
 ·have hlt:=N7 hlt;obtain⟨h0,h1,h2⟩:=hg;have hj:g.toNat<ps.length:=by omega
  exact⟨fun _=>⟨h0,hlt⟩,fun _=>hj,fun _=>⟨h0,hlt⟩,fun _=>hj,by simp only[aU,bG];omega,g+1,⟨by omega,by show g+1<=(ps.length:Int);omega,h2⟩,by omega,DZ h0 hj,rfl,rfl,rfl,rfl,rfl,rfl⟩
 have hge:=N6 hge;refine⟨⟨0,⟨by omega,Int.natCast_nonneg _⟩,rfl,rfl,rfl,rfl,rfl,rfl,rfl⟩,fun g_1 hg1=>⟨fun hlt=>?_,fun _=>rfl⟩⟩
 have hlt:=N7 hlt;obtain⟨k0,k1⟩:=hg1;have hT:=CD hL (ps:=ps) (g:=g) (n:=g_1) (by omega) ⟨k0,hlt⟩
 have hnx:aU IntKind.i64 (g_1+1)/\∃g',ko L M ps g'/\((L.length:Int)-g').toNat<((L.length:Int)-g_1).toNat/\dF L ps g=dF L ps g/\g_1+1=g'/\L=L/\M=M/\ps=ps/\L=L/\M=M:=⟨by have:=(fg hL).2;simp only[aU,bG];omega,g_1+1,⟨by omega,by show g_1+1<=(L.length:Int);omega⟩,by omega,rfl,rfl,rfl,rfl,rfl,rfl,rfl⟩
 refine⟨rfl,⟨hL,hM,hp⟩,fun hb=>⟨fun hn=>⟨fun he=>?_,fun _=>hnx⟩,fun hn=>⟨fun ht=>⟨fun he=>?_,fun _=>hnx⟩,fun ht=>⟨fun he=>?_,fun he=>?_⟩⟩⟩,fun hb=>⟨fun hn=>?_,fun hn=>⟨fun ht=>?_,fun ht=>?_⟩⟩⟩
 ·have:gH L M g_1 ps=2:=by
   unfold gH;rw[N9 (fun e=>by rw[show(L.length:Int)=aG (aa M)from by rw[<-eL,e]]at hn;simp at hn)]
  rw[this]at he;simp at he
 ·have hl:aa L=aa M:=by
   have:(L.length:Int)=aG (aa M):=by simpa using hn
   unfold aG at this;unfold aa at this⊢;omega
  have:gH L M g_1 ps=4:=by
   unfold gH;rw[Oa hl,hT,N9 (by simpa using ht)]
  rw[this]at he;simp at he
 ·have hl:aa L=aa M:=by
   have:(L.length:Int)=aG (aa M):=by simpa using hn
   unfold aG at this;unfold aa at this⊢;omega
  unfold iK at hb;rw[decide_eq_true hl,hT]at hb;rw[Bool.true_and]at hb;rw[hb]at ht;simp at ht
 ·have hl:aa L=aa M:=by
   have:(L.length:Int)=aG (aa M):=by simpa using hn
   unfold aG at this;unfold aa at this⊢;omega
  unfold iK at hb;rw[decide_eq_true hl,hT]at hb;rw[Bool.true_and]at hb;rw[hb]at ht;simp at ht
 ·unfold iK at hb;simp only[N3,N4]at hb;rw[show(L.length:Int)=aG (aa M)from by rw[<-eL,hb.1]]at hn
  simp at hn
 ·unfold iK at hb;simp only[N3,N4]at hb;rw[<-hT,hb.2]at ht;simp at ht
 ·unfold iK at hb;simp only[N3,N4]at hb;have h5:=DN (L:=L) hM (oid:=g_1) (ps:=ps);have hs:ku (gI L M g_1 ps) (gI L M g_1 ps)=true:=decide_eq_true rfl;rw[hs];exact⟨⟨hL,hM,hb.1,hb.2,hp⟩,⟨h5,h5⟩,fun h=>by simp at h,fun _=>hnx⟩
theorem Dt (L M:List Sx.Obj) (ps:List Int):aj Try.prog 7 [.sa 0,.sa 1,.sa 2] [.ro (.arr none 163 (.ob L)),.ro (.arr none 163 (.ob M)),.ro (.arr none 1 (.it .i64 ps))] (pW (.bo true)) (fun _ _=>False):=
 cT (inl:=bz) (ann:=(jM [(7,6,FL [0,1,2,7,8] (fun g=> [(9,.bo (dF L ps g)),(10,.it .i64 g)]) (qU ps) (aG (aa ps))),(7,10,FL [0,1,2,7,8,9] (fun g=> [(11,.it .i64 g)]) (ko L M ps) (aG (aa L)))])) (an FC (an Hw (an Es aB))) (cg HD (cg G0 cP)) (Ei L M ps) (by kernel_rfl)
end Go.Proofs.Ytmfbohanboiklaa
