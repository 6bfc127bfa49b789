import Derived.Test.YtlblcfaclmpekaaGreatMa11
set_option linter.unusedSimpArgs false
set_option linter.unusedVariables false
set_option maxRecDepth 100000
namespace Go.Proofs.YtlblcfaclmpekaaGreat
open Go.Sx
abbrev abc(L:List Sx.Obj)(k:Key):=aj L k.oid.toNat free
theorem Mf (L:List Sx.Obj) (k:Key):
 aba (!decide (aC L k 4 false=0)) (0=aM L k/\0=aE L k/\aC L k 4 false=aN L k) ((0<=k.oid/\k.oid< ↑(ai L))/\k.oid.toNat<ai L/\(0<=k.oid/\k.oid< ↑(ai L))/\k.oid.toNat<ai L/\aba (!decide (((abc L k).slots.at 0).kind=1)|| !decide (((abc L k).slots.at 1).kind=1)||decide (((abc L k).slots.at 0).value<0)||decide (((abc L k).slots.at 1).value<((abc L k).slots.at 0).value)||decide (bD (ai L)<=((abc L k).slots.at 1).value)) (0=aM L k/\0=aE L k/\220=aN L k) (((abc L k).slots.at 0).value=aM L k/\((abc L k).slots.at 1).value=aE L k/\0=aN L k)):=by
 delta aba abc
 rw[Mo];refine⟨fun h=>?_,fun h=>?_⟩
 ·obtain⟨e1,e2,e3⟩:=Gq (show aC L k 4 false≠0 by simpa using h)
  rw[e1,e2,e3];exact⟨rfl,rfl,rfl⟩
 ·have h0:aC L k 4 false=0:=by simpa using h
  obtain⟨_,b2,b3,_⟩:=eg (gr h0).1;refine⟨⟨b2,b3⟩,by unfold ai;omega,⟨b2,b3⟩,by unfold ai;omega,fun h2=>?_,fun h2=>?_⟩
  ·obtain⟨e1,e2,e3⟩:=CZ h0 (by simpa using h2)
   rw[e1,e2,e3];exact⟨rfl,rfl,rfl⟩
  ·obtain⟨e1,e2,e3⟩:=vD h0 (by simpa using h2)
   rw[e1,e2,e3];exact⟨rfl,rfl,rfl⟩
theorem qO:cq Tryz.prog 139 Ts:=
 eW (aA jb Fm) (fun _=>rfl) fun a hq hok=>by
  obtain⟨L,k,_⟩:=a;exact ba (inl:=bx) (ann:=aQ) (ae pq aq) (Mf L k) (by kernel_rfl)
theorem JP (L:List Sx.Obj) (f l kind:Int) (hq:Fj L f l):
 (∃g,vM L f l g/\f=f/\l=l/\kind=kind/\f=g/\L=L)/\(∀(g:Int),vM L f l g->aba (decide (g<=l)) ((0<=g/\g< ↑(ai L))/\g.toNat<ai L/\aba (!decide ((aj L g.toNat free).kind=0)) (abd (g+1)/\((∃g',vM L f l g'/\(l+1-g').toNat<(l+1-g).toNat/\f=f/\l=l/\kind=kind/\g+1=g'/\L=L)\/∃g',si L f l g'/\(l+1-g').toNat<(l+1-g).toNat/\False)) (aba (decide (4294967295<=(aj L g.toNat free).count)) (dI L g/\abd (g+1)/\((∃g',vM L f l g'/\(l+1-g').toNat<(l+1-g).toNat/\False)\/∃g',si L f l g'/\(l+1-g').toNat<(l+1-g).toNat/\f=f/\l=l/\kind=kind/\g+1=g'/\L=L/\cA L g.toNat (Obj.mk 3 (aj L g.toNat free).count free.calls free.slots free.bytes)=bM L f g')) (abd ((aj L g.toNat free).count+1)/\dI L g/\lr L f l=true/\g=bu L f l/\cA L g.toNat (Obj.mk kind ((aj L g.toNat free).count+1) free.calls free.slots free.bytes)=cI L f l kind))) (lr L f l=false/\-1=bu L f l))/\∀(g:Int),si L f l g->aba (decide (g<=l)) ((0<=g/\g< ↑(ai (bM L f g)))/\g.toNat<ai (bM L f g)/\aba (!decide ((aj (bM L f g) g.toNat free).kind=0)) (abd (g+1)/\∃g',si L f l g'/\(l+1-g').toNat<(l+1-g).toNat/\f=f/\l=l/\kind=kind/\g+1=g'/\L=L/\bM L f g=bM L f g') (aba (decide (4294967295<=(aj (bM L f g) g.toNat free).count)) (dI (bM L f g) g/\abd (g+1)/\∃g',si L f l g'/\(l+1-g').toNat<(l+1-g).toNat/\f=f/\l=l/\kind=kind/\g+1=g'/\L=L/\cA (bM L f g) g.toNat (Obj.mk 3 (aj (bM L f g) g.toNat free).count free.calls free.slots free.bytes)=bM L f g') (abd ((aj (bM L f g) g.toNat free).count+1)/\dI (bM L f g) g/\lr L f l=true/\g=bu L f l/\cA (bM L f g) g.toNat (Obj.mk kind ((aj (bM L f g) g.toNat free).count+1) free.calls free.slots free.bytes)=cI L f l kind))) (lr L f l=true/\-1=bu L f l/\bM L f g=cI L f l kind):=by
 delta aba abd
 obtain⟨hL,h0,hl,hfl⟩:=hq;have hlen:=gA hL;have hll:(ai L:Int)=(L.length:Int):=rfl;have hrq:∀(M:List Sx.Obj) (g:Int),M.length=L.length->0<=g->g<=l->dI M g:=fun M g hM h1 h2=>⟨h1,by unfold ai;omega,by unfold ai;omega⟩
 have hin:∀g:Int,0<=g->g<=l->aF IntKind.i64 (g+1):=fun g h1 h2=>by simp only[aF,bY];omega
 have hcnt:∀j:Nat,j<L.length->0<=(aj L j free).count/\(aj L j free).count<=4294967295:=fun j hj=>⟨(j3 (dq hL j hj)).1,(j3 (dq hL j hj)).2.1⟩
 have hci:∀j:Nat,j<L.length->aF IntKind.i64 ((aj L j free).count+1):=fun j hj=>by have:=hcnt j hj;simp only[aF,bY];omega
 refine⟨⟨f,⟨by omega,hfl,ui,IW⟩,(by(repeat' apply And.intro)<;>rfl)⟩,fun g hg=>⟨fun hgl=>?_,fun hgl=>?_⟩,fun g hg=>⟨fun hgl=>?_,fun hgl=>?_⟩⟩
 ·obtain⟨g0,g1,g2,g3⟩:=hg;have hgl:=aa6 hgl;have hgn:g.toNat<L.length:=by omega
  refine⟨⟨by omega,by omega⟩,hgn,fun hk=>?_,fun hk=>⟨fun hc=>?_,fun hc=>?_⟩⟩
  ·obtain⟨e1,e2⟩:=yq (o:=aj L g.toNat free) (by simpa using hk)
   exact⟨hin g (by omega) hgl,.inl ⟨g+1,⟨by omega,by omega,jX g2 e2,by rw[Hp (by omega) e1];exact g3⟩,by omega,(by(repeat' apply And.intro)<;>rfl)⟩⟩
  ·obtain⟨e1,e2⟩:=CE (o:=aj L g.toNat free) (by simpa using hk) (aa6 hc)
   have hs:=yr (L:=L) (f:=f) (g:=g) (by omega) (by omega) g0 e1
   rw[yJ g3]at hs;exact⟨hrq L g rfl (by omega) hgl,hin g (by omega) hgl,.inr ⟨g+1,⟨by omega,by omega,jX g2 e2,Fw (by omega) (by omega) g0 e1⟩,by omega,rfl,rfl,rfl,rfl,rfl,hs⟩⟩
  ·obtain⟨e1,e2⟩:=CW (o:=aj L g.toNat free) (by simpa using hk) (aa5 hc)
   obtain⟨m1,m2,m3⟩:=xT kind h0 g0 hgl (by omega) g2 e2
   rw[yJ g3]at m3;exact⟨hci _ hgn,hrq L g rfl (by omega) hgl,m2,m1.symm,m3.symm⟩
 ·obtain⟨g0,g1,g2,g3⟩:=hg;have hgl:=aa5 hgl;have:g=l+1:=by omega
  subst this;obtain⟨m1,m2,m3⟩:=CJ kind g2;exact⟨by rw[m3];exact g3,m1.symm⟩
 ·obtain⟨g0,g1,g2,g3⟩:=hg;have hgl:=aa6 hgl;have hgn:g.toNat<L.length:=by omega
  have hgl2:(ai (bM L f g):Int)=(L.length:Int):=by unfold ai;rw[kH]
  have hga:=Cp (L:=L) (f:=f) (g:=g) (by omega)
  rw[hga];refine⟨⟨by omega,by omega⟩,by omega,fun hk=>?_,fun hk=>⟨fun hc=>?_,fun hc=>?_⟩⟩
  ·obtain⟨e1,e2⟩:=yq (o:=aj L g.toNat free) (by simpa using hk)
   exact⟨hin g (by omega) hgl,g+1,⟨by omega,by omega,jX g2 e2,by rw[Hp (by omega) e1];exact g3⟩,by omega,rfl,rfl,rfl,rfl,rfl,(Ag (by omega) e1).symm⟩
  ·obtain⟨e1,e2⟩:=CE (o:=aj L g.toNat free) (by simpa using hk) (aa6 hc)
   exact⟨hrq _ g kH (by omega) hgl,hin g (by omega) hgl,g+1,⟨by omega,by omega,jX g2 e2,Fw (by omega) (by omega) g0 e1⟩,by omega,rfl,rfl,rfl,rfl,rfl,yr (by omega) (by omega) g0 e1⟩
  ·obtain⟨e1,e2⟩:=CW (o:=aj L g.toNat free) (by simpa using hk) (aa5 hc)
   obtain⟨m1,m2,m3⟩:=xT kind h0 g0 hgl (by omega) g2 e2
   exact⟨hci _ hgn,hrq _ g kH (by omega) hgl,m2,m1.symm,m3.symm⟩
 ·obtain⟨g0,g1,g2,g3⟩:=hg;have hgl:=aa5 hgl;have:g=l+1:=by omega
  subst this;obtain⟨m1,m2,m3⟩:=CJ kind g2;exact⟨by rw[m3];exact g3,m1.symm,m2.symm⟩
theorem I7 (L:List Sx.Obj) (f l kind:Int) (hq:Fj L f l):an Tryz.prog 140 [.sa 0,.it .i64 f,.it .i64 l,.it .i64 kind] [.ro (.arr none 163 (.ob L))] (xS (lr L f l) (cI L f l kind) [.it .i64 (bu L f l)]) (fun _ _=>False):=
 bj (inl:=bx) (ann:=(iv [(140,2,ZA [0,1,2,3] (fun g=> [(10,.it .i64 g)]) 0 tO 163 (fun g=> .ob (bM L f g)) (vM L f l) (si L f l) (zc l 1))])) (ae jz aq) aD (JP L f l kind hq) (by kernel_rfl)
theorem Bo:kL Tryz.prog 140 LZ:=
 iM (m:=fun x=>i3B.cn x 0) (fL X7 (fun _=>rfl)) (fun _=>rfl) (fun _ _=>rfl) fun L x hq=>I7 L x.1 x.2.1 x.2.2.1 hq
abbrev abe(L:List Sx.Obj)(k:Key):=bu L (aM L k) (aE L k)
theorem LW (L:List Sx.Obj) (k:Key) (kind:Int) (hL:ar L):
 aba (decide (aN L k=0)&& !decide (kind=1)&& !decide (kind=2)) (gD L k kind=false/\void=de L k kind/\2=cx L k kind) (aba (!decide (aN L k=0)) (gD L k kind=false/\void=de L k kind/\aN L k=cx L k kind) (true=true/\Fj L (aM L k) (aE L k)/\(lr L (aM L k) (aE L k)=false->aba (decide (bu L (aM L k) (aE L k)<0)) (gD L k kind=false/\void=de L k kind/\221=cx L k kind) (abd (1+kind)/\(0<=bu L (aM L k) (aE L k)/\bu L (aM L k) (aE L k)< ↑(ai L))/\(abe L k).toNat<ai L/\gD L k kind=false/\Key.mk (1+kind) (abe L k) (aj L (abe L k).toNat free).count void.call void.rights void.value=de L k kind/\0=cx L k kind))/\(lr L (aM L k) (aE L k)=true->aba (decide (bu L (aM L k) (aE L k)<0)) (gD L k kind=true/\(void=de L k kind/\221=cx L k kind)/\cI L (aM L k) (aE L k) kind=fu L k kind) (abd (1+kind)/\(0<=bu L (aM L k) (aE L k)/\bu L (aM L k) (aE L k)< ↑(ai (cI L (aM L k) (aE L k) kind)))/\(abe L k).toNat<ai (cI L (aM L k) (aE L k) kind)/\gD L k kind=true/\(Key.mk (1+kind) (abe L k) (aj (cI L (aM L k) (aE L k) kind) (abe L k).toNat free).count void.call void.rights void.value=de L k kind/\0=cx L k kind)/\cI L (aM L k) (aE L k) kind=fu L k kind)))):=by
 delta aba abe abd
 refine⟨fun h=>?_,fun h=>⟨fun h2=>?_,fun h2=>?_⟩⟩
 ·simp only[aa2,Bool.not_eq_true',aa3,decide_eq_false_iff_not]at h;exact SJ h.1.1 h.1.2 h.2
 ·exact R8 (by simpa using h2)
 ·have h2:aN L k=0:=by simpa using h2
  have hk:kind=1\/kind=2:=by
   simp only[h2,decide_true,Bool.true_and,Bool.and_eq_false_iff,Bool.not_eq_false',aa3]at h;exact h
  obtain⟨_,a0,a1,a2,_⟩:=mI h2;obtain⟨x1,x2⟩:=B2 h2;have hlen:=gA hL;rw[x1,x2];have hin:aF IntKind.i64 (1+kind):=by simp only[aF,bY];omega
  have hm:=v7 (L:=L) (l:=aI L k) a0;refine⟨rfl,⟨hL,a0,a2,by omega⟩,fun hc=>⟨fun hi=>?_,fun hi=>?_⟩,fun hc=>⟨fun hi=>?_,fun hi=>?_⟩⟩
  ·have hi:=aa6 hi;obtain⟨m1,m2,m3,m4⟩:=yY h2 hk (by omega)
   exact⟨m1.trans hc,m2,m3⟩
  ·have hi:=aa5 hi;rw[Cg (by omega)]at hc
   simp at hc
  ·have hi:=aa6 hi;obtain⟨m1,m2,m3,m4⟩:=yY h2 hk (by omega)
   exact⟨m1.trans hc,⟨m2,m3⟩,m4⟩
  ·have hi:=aa5 hi;obtain⟨m1,m2,m3,m4⟩:=Hy h2 hk (by omega)
   rw[show ai (cI L (az L k) (aI L k) kind)=L.length from ve];exact⟨hin,⟨by omega,by omega⟩,by omega,m1,⟨m2,m3⟩,m4⟩
theorem Nz (L:List Sx.Obj) (k:Key) (kind:Int) (hL:ar L):an Tryz.prog 118 [.sa 0,.key k,.it .i64 kind] [.ro (.arr none 163 (.ob L))] (xS (gD L k kind) (fu L k kind) [.key (de L k kind),.it .i64 (cx L k kind)]) (fun _ _=>False):=
 bj (inl:=bx) (ann:=aQ) (ae qO aq) (aB Bo aD) (LW L k kind hL) (by kernel_rfl)
theorem NK:kL Tryz.prog 118 RG:=
 iM (m:=fun x=>RN.cn x 0) (fL CS (fun _=>rfl)) (fun _=>rfl) (fun _ _=>rfl) fun L x hq=>Nz L x.1 x.2.1 hq
theorem UB (L:List Sx.Obj) (k v:Key) (hL:ar L):
 aba (!decide (aN L k=0)) (jK L k v=false/\aN L k=cD L k v) (aba (!aU L v|| !decide (v.kind=2)&& !decide (v.kind=3)) (jK L k v=false/\5=cD L k v) (aba (decide (v.oid<aM L k)||decide (aE L k<v.oid)||decide (v.oid=k.oid)) (jK L k v=false/\4=cD L k v) ((0<=v.oid/\v.oid< ↑(ai L))/\v.oid.toNat<ai L/\dI L v.oid/\jK L k v=true/\0=cD L k v/\cA L v.oid.toNat (Obj.mk free.kind (aj L v.oid.toNat free).count free.calls free.slots free.bytes)=gE L k v))):=by
 delta aba
 refine⟨fun h=>?_,fun h=>⟨fun h2=>?_,fun h2=>⟨fun h3=>?_,fun h3=>?_⟩⟩⟩
 ·have h:aN L k≠0:=by simpa using h
  have e:cD L k v=aN L k:=by unfold cD;rw[aa8 h]
  exact⟨by unfold jK;rw[e];simpa using h,e.symm⟩
 ·have h:aN L k=0:=by simpa using h
  have e:cD L k v=5:=by unfold cD;rw[aa9 h,zO,h2];rfl
  exact⟨by unfold jK;rw[e];rfl,e.symm⟩
 ·have h:aN L k=0:=by simpa using h
  obtain⟨x1,x2⟩:=B2 h;rw[x1,x2]at h3
  have e:cD L k v=4:=by
   unfold cD;rw[aa9 h,zO,h2,aa9 (show(!false)=true from rfl),aa8];simp only[Bool.or_eq_true,aa3]at h3;omega
  exact⟨by unfold jK;rw[e];rfl,e.symm⟩
 ·have h:aN L k=0:=by simpa using h
  obtain⟨x1,x2⟩:=B2 h;rw[x1,x2]at h3;have ht:jc L v=true:=by rw[zO,h2];rfl
  obtain⟨_,b2,b3,_⟩:=eg (ET ht)
  have e:cD L k v=0:=by
   unfold cD;rw[aa9 h,ht,aa9 rfl,aa9];simp only[Bool.or_eq_false_iff,decide_eq_false_iff_not]at h3;omega
  have hlen:=gA hL;exact⟨⟨b2,b3⟩,by unfold ai;omega,⟨b2,b3,by unfold ai;omega⟩,by unfold jK;rw[e];rfl,e.symm,by unfold gE;rw[aa9 e];rfl⟩
theorem TP (L:List Sx.Obj) (k v:Key) (hL:ar L):an Tryz.prog 119 [.sa 0,.key k,.key v] [.ro (.arr none 163 (.ob L))] (xS (jK L k v) (gE L k v) [.it .i64 (cD L k v)]) (fun _ _=>False):=
 bj (inl:=bx) (ann:=aQ) (ae qO (ae me (ae jz aq))) aD (UB L k v hL) (by kernel_rfl)
theorem Uj:kL Tryz.prog 119 Xj:=
 iM (m:=fun x=>Oc.cn x 0) (fL wq (fun _=>rfl)) (fun _=>rfl) (fun _ _=>rfl) fun L x hq=>TP L x.1 x.2.1 hq
abbrev abf(L:List Sx.Obj)(k:Key)(g:Int):=dQ L (az L k) g k.oid
theorem MA (L:List Sx.Obj) (k:Key) (hL:ar L):
 aba (!decide (aN L k=0)) (kR L k=false/\0=fG L k/\aN L k=aN L k) ((∃g,uY L k g/\aM L k=aM L k/\aE L k=aE L k/\0=eU L (az L k) g k.oid/\aM L k=g/\L=L/\k=k)/\(∀(g:Int),uY L k g->aba (decide (g<=aE L k)) ((0<=g/\g< ↑(ai L))/\g.toNat<ai L/\((!decide ((aj L g.toNat free).kind=1))=true->0<=g/\g< ↑(ai L))/\((!decide ((aj L g.toNat free).kind=1))=true->g.toNat<ai L)/\aba ((decide ((aj L g.toNat free).kind=1)||decide ((aj L g.toNat free).kind=2))&& !decide (g=k.oid)) ((0<=g/\g< ↑(ai L))/\g.toNat<ai L/\dI L g/\abd (eU L (az L k) g k.oid+1)/\abd (g+1)/\((∃g',uY L k g'/\(aI L k+1-g').toNat<(aI L k+1-g).toNat/\False)\/∃g',rX L k g'/\(aI L k+1-g').toNat<(aI L k+1-g).toNat/\aM L k=aM L k/\aE L k=aE L k/\eU L (az L k) g k.oid+1=eU L (az L k) g' k.oid/\g+1=g'/\L=L/\k=k/\cA L g.toNat (Obj.mk free.kind (aj L g.toNat free).count free.calls free.slots free.bytes)=dQ L (az L k) g' k.oid)) (abd (g+1)/\((∃g',uY L k g'/\(aI L k+1-g').toNat<(aI L k+1-g).toNat/\aM L k=aM L k/\aE L k=aE L k/\eU L (az L k) g k.oid=eU L (az L k) g' k.oid/\g+1=g'/\L=L/\k=k)\/∃g',rX L k g'/\(aI L k+1-g').toNat<(aI L k+1-g).toNat/\False))) (kR L k=false/\eU L (az L k) g k.oid=fG L k/\0=aN L k))/\∀(g:Int),rX L k g->aba (decide (g<=aE L k)) ((0<=g/\g< ↑(ai (abf L k g)))/\g.toNat<ai (abf L k g)/\((!decide ((aj (abf L k g) g.toNat free).kind=1))=true->0<=g/\g< ↑(ai (abf L k g)))/\((!decide ((aj (abf L k g) g.toNat free).kind=1))=true->g.toNat<ai (abf L k g))/\aba ((decide ((aj (abf L k g) g.toNat free).kind=1)||decide ((aj (abf L k g) g.toNat free).kind=2))&& !decide (g=k.oid)) ((0<=g/\g< ↑(ai (abf L k g)))/\g.toNat<ai (abf L k g)/\dI (abf L k g) g/\abd (eU L (az L k) g k.oid+1)/\abd (g+1)/\∃g',rX L k g'/\(aI L k+1-g').toNat<(aI L k+1-g).toNat/\aM L k=aM L k/\aE L k=aE L k/\eU L (az L k) g k.oid+1=eU L (az L k) g' k.oid/\g+1=g'/\L=L/\k=k/\cA (abf L k g) g.toNat (Obj.mk free.kind (aj (abf L k g) g.toNat free).count free.calls free.slots free.bytes)=dQ L (az L k) g' k.oid) (abd (g+1)/\∃g',rX L k g'/\(aI L k+1-g').toNat<(aI L k+1-g).toNat/\aM L k=aM L k/\aE L k=aE L k/\eU L (az L k) g k.oid=eU L (az L k) g' k.oid/\g+1=g'/\L=L/\k=k/\dQ L (az L k) g k.oid=dQ L (az L k) g' k.oid)) (kR L k=true/\(eU L (az L k) g k.oid=fG L k/\0=aN L k)/\dQ L (az L k) g k.oid=gZ L k)):=by
 delta aba abf abd
 refine⟨fun h=>?_,fun h=>?_⟩
 ·have h:aN L k≠0:=by simpa using h
  exact⟨by unfold kR;simp[h],by unfold fG;rw[aa8 h],rfl⟩
 have h:aN L k=0:=by simpa using h
 obtain⟨_,a0,a1,a2,_⟩:=mI h;obtain⟨x1,x2⟩:=B2 h;have hlen:=gA hL;have hll:(ai L:Int)=(L.length:Int):=rfl;rw[x1,x2];have hit:∀g:Int,(((decide ((aj L g.toNat free).kind=1)||decide ((aj L g.toNat free).kind=2))&& !decide (g=k.oid)))=j6 L g k.oid:=fun g=>rfl
 have hin:∀g:Int,az L k<=g->g<=aI L k->aF IntKind.i64 (g+1):=fun g h1 h2=>by simp only[aF,bY];omega
 have hnn:∀g:Int,aF IntKind.i64 (eU L (az L k) g k.oid+1):=fun g=>by
  have:=tz (L:=L) (f:=az L k) (g:=g) (oid:=k.oid);have:=Pn (L:=L) (f:=az L k) (g:=g) (oid:=k.oid);simp only[aF,bY];omega
 refine⟨⟨az L k,⟨by omega,by omega,uE⟩,rfl,rfl,uE.symm,rfl,rfl,rfl⟩,fun g hg=>⟨fun hgl=>?_,fun hgl=>?_⟩,fun g hg=>⟨fun hgl=>?_,fun hgl=>?_⟩⟩
 ·obtain⟨g0,g1,g2⟩:=hg;have hgl:=aa6 hgl;have hr1:0<=g/\g<(ai L:Int):=⟨by omega,by omega⟩
  have hr2:g.toNat<ai L:=by omega
  rw[hit g];refine⟨hr1,hr2,fun _=>hr1,fun _=>hr2,fun hh=>?_,fun hh=>?_⟩
  ·have hs:=yz (L:=L) (f:=az L k) (oid:=k.oid) (by omega:0<=g) (by omega) g0 hh
   have hs2:=Cv (L:=L) (f:=az L k) (oid:=k.oid) (by omega:0<=g) (by omega) g0 hh
   rw[zw g2]at hs2;exact⟨hr1,hr2,⟨by omega,by omega,by omega⟩,hnn g,hin g g0 hgl,.inr ⟨g+1,⟨by omega,by omega,by omega⟩,by omega,rfl,rfl,hs.symm,rfl,rfl,rfl,hs2⟩⟩
  ·have hs:=uX (L:=L) (f:=az L k) (oid:=k.oid) (by omega:0<=g) g0 hh
   exact⟨hin g g0 hgl,.inl ⟨g+1,⟨by omega,by omega,by omega⟩,by omega,rfl,rfl,hs.symm,rfl,rfl,rfl⟩⟩
 ·obtain⟨g0,g1,g2⟩:=hg;have hgl:=aa5 hgl;have:g=aI L k+1:=by omega
  subst this;exact⟨by unfold kR;simp[h,g2],by unfold fG;rw[aa9 h],h.symm⟩
 ·obtain⟨g0,g1,g2⟩:=hg;have hgl:=aa6 hgl;have hgz:(ai (dQ L (az L k) g k.oid))=L.length:=B5;have hr1:0<=g/\g<((L.length:Nat):Int):=⟨by omega,by omega⟩
  have hr2:g.toNat<L.length:=by omega
  rw[NI (by omega),hit g,hgz]
  refine⟨hr1,hr2,fun _=>hr1,fun _=>hr2,fun hh=>?_,fun hh=>?_⟩
  ·have hs:=yz (L:=L) (f:=az L k) (oid:=k.oid) (by omega:0<=g) (by omega) g0 hh
   have hs2:=Cv (L:=L) (f:=az L k) (oid:=k.oid) (by omega:0<=g) (by omega) g0 hh
   have:=tz (L:=L) (f:=az L k) (g:=g) (oid:=k.oid);exact⟨hr1,hr2,⟨by omega,by omega,by omega⟩,hnn g,hin g g0 hgl,g+1,⟨by omega,by omega,by omega⟩,by omega,rfl,rfl,hs.symm,rfl,rfl,rfl,hs2⟩
  ·have hs:=uX (L:=L) (f:=az L k) (oid:=k.oid) (by omega:0<=g) g0 hh
   have hs2:=yC (L:=L) (f:=az L k) (oid:=k.oid) (by omega:0<=g) g0 hh
   exact⟨hin g g0 hgl,g+1,⟨by omega,by omega,by omega⟩,by omega,rfl,rfl,hs.symm,rfl,rfl,rfl,hs2.symm⟩
 ·obtain⟨g0,g1,g2⟩:=hg;have hgl:=aa5 hgl;have:g=aI L k+1:=by omega
  subst this;exact⟨by unfold kR;simp[h,g2],⟨by unfold fG;rw[aa9 h],h.symm⟩,by unfold gZ;rw[aa9 h]⟩
theorem LY (L:List Sx.Obj) (k:Key) (hL:ar L):an Tryz.prog 122 [.sa 0,.key k] [.ro (.arr none 163 (.ob L))] (xS (kR L k) (gZ L k) [.it .i64 (fG L k),.it .i64 (aN L k)]) (fun _ _=>False):=
 bj (inl:=bx) (ann:=(iv [(122,6,ZA [0,3,7,8] (fun g=> [(10,.it .i64 (eU L (az L k) g k.oid)),(11,.it .i64 g)]) 0 tO 163 (fun g=> .ob (dQ L (az L k) g k.oid)) (uY L k) (rX L k) (zc (aI L k) 1))])) (ae qO (ae jz aq)) aD (MA L k hL) (by kernel_rfl)
theorem Ku:kL Tryz.prog 122 Rn:=
 iM (m:=fun x=>kB.cn x 0) (fL Fm (fun _=>rfl)) (fun _=>rfl) (fun _ _=>rfl) fun L x hq=>LY L x.1 hq
theorem Lb (L:List Sx.Obj) (k v:Key):
 ((!decide (aN L k=0))=true->false=jy L k v/\aN L k=aN L k)/\((!decide (aN L k=0))=false->(aU L v&&(decide (v.kind=2)||decide (v.kind=3))&&decide (aM L
   k<=v.oid)&&decide (v.oid<=aE L k))=jy L k v/\0=aN L k):=by
 refine⟨fun h=>?_,fun h=>?_⟩
 ·have h:aN L k≠0:=by simpa using h
  exact⟨by unfold jy;simp[h],rfl⟩
 ·have h:aN L k=0:=by simpa using h
  obtain⟨x1,x2⟩:=B2 h;rw[x1,x2];exact⟨by unfold jy jc;simp[h],h.symm⟩
theorem Qp:cq Tryz.prog 121 Um:=
 eW (aA jb wq) (fun _=>rfl) fun a hq hok=>by
  obtain⟨L,k,v,_⟩:=a;exact ba (inl:=bx) (ann:=aQ) (ae qO (ae me aq)) (Lb L k v) (by kernel_rfl)
abbrev abh(L:List Sx.Obj)(k:Key):=aj (cI L (aM L k) (aE L k) 1) (bu L (aM L k) (aE L k)).toNat free
abbrev abi(L:List Sx.Obj)(k:Key):=aj L (bu L (aM L k) (aE L k)).toNat free
abbrev abj(L:List Sx.Obj)(k:Key):=cI L (aM L k) (aE L k) 1
abbrev abk(L:List Sx.Obj)(k:Key)(n:Int):=cA (abj L k) (bu L (aM L k) (aE L k)).toNat (Obj.mk (abh L k).kind (abh L k).count (abh L k).calls (((abh L k).slots.put 0 (abg (aE L k-n+1))).put 1 (abg (aE L k))) (abh L k).bytes)
abbrev abl(L:List Sx.Obj)(k:Key)(n:Int):=cA L (bu L (aM L k) (aE L k)).toNat (Obj.mk (abi L k).kind (abi L k).count (abi L k).calls (((abi L k).slots.put 0 (abg (aE L k-n+1))).put 1 (abg (aE L k))) (abi L k).bytes)
abbrev abm(L:List Sx.Obj)(k:Key)(n:Int):=kZ L k n=false/\void=cc L k n/\221=bZ L k n
abbrev abn(L:List Sx.Obj)(k:Key):=aj (abj L k) k.oid.toNat free
abbrev abo(L:List Sx.Obj)(k:Key):=bu L (aM L k) (aE L k)
theorem J1 (L:List Sx.Obj) (k:Key) (n:Int) (hL:ar L):
 ((!decide (n<1)&&decide (aN L k=0))=true->abd (aE L k-aM L k))/\aba (decide (aN L k=0)&&(decide (n<1)||decide (aE L k-aM L k<n))) (kZ L k n=false/\void=cc L k n/\4=bZ L k n) (aba (!decide (aN L k=0)) (kZ L k n=false/\void=cc L k n/\aN L k=bZ L k n) (true=true/\Fj L (aM L k) (aE L k)/\(lr L (aM L k) (aE L k)=false->((!decide (bu L (aM L k) (aE L k)<0))=true->abd (aE L k-n))/\aba (decide (bu L (aM L k) (aE L k)<0)||decide (aE L k-n<bu L (aM L k) (aE L k))) (abm L k n) (abd (aE L k-n)/\abd (aE L k-n+1)/\(∃g,qc L k n g/\n=n/\aM L k=aM L k/\aE L k=aE L k/\bu L (aM L k) (aE L k)=bu L (aM L k) (aE L k)/\aE L k-n+1=g/\L=L/\k=k/\void=void)/\∀(g:Int),qc L k n g->aba (decide (g<=aE L k)) ((0<=g/\g< ↑(ai L))/\g.toNat<ai L/\((!decide ((aj L g.toNat free).kind=1))=true->0<=g/\g< ↑(ai L))/\((!decide ((aj L g.toNat free).kind=1))=true->g.toNat<ai L)/\aba (decide ((aj L g.toNat free).kind=1)||decide ((aj L g.toNat free).kind=2)) (abm L k n) (abd (g+1)/\∃g',qc L k n g'/\(aI L k+1-g').toNat<(aI L k+1-g).toNat/\n=n/\aM L k=aM L k/\aE L k=aE L k/\bu L (aM L k) (aE L k)=bu L (aM L k) (aE L k)/\g+1=g'/\L=L/\k=k/\void=void)) ((0<=bu L (aM L k) (aE L k)/\bu L (aM L k) (aE L k)< ↑(ai L))/\(abo L k).toNat<ai L/\(0<=k.oid/\k.oid< ↑(ai L))/\k.oid.toNat<ai L/\abd (aE L k-n)/\abd (aE L k-n+1)/\abd (aE L k-n)/\dI L (abo L k)/\dI (abl L k n) k.oid/\kZ L k n=true/\(Key.mk 4 (abo L k) (abi L k).count void.call void.rights void.value=cc L k n/\0=bZ L k n)/\cA (abl L k n) k.oid.toNat (Obj.mk (aj L k.oid.toNat free).kind (aj L k.oid.toNat free).count (aj L k.oid.toNat free).calls ((aj L k.oid.toNat free).slots.put 1 (abg (aE L k- n))) (aj L k.oid.toNat free).bytes)=bF L k n)))/\(lr L (aM L k) (aE L k)=true->((!decide (bu L (aM L k) (aE L k)<0))=true->abd (aE L k-n))/\aba (decide (bu L (aM L k) (aE L k)<0)||decide (aE L k-n<bu L (aM L k) (aE L k))) (abm L k n) (abd (aE L k-n)/\abd (aE L k-n+1)/\(∃g,qc L k n g/\n=n/\aM L k=aM L k/\aE L k=aE L k/\bu L (aM L k) (aE L k)=bu L (aM L k) (aE L k)/\aE L k-n+1=g/\L=L/\k=k/\void=void/\cI L (aM L k) (aE L k) 1=cI L (aM L k) (aE L k) 1)/\∀(g:Int),qc L k n g->aba (decide (g<=aE L k)) ((0<=g/\g< ↑(ai (abj L k)))/\g.toNat<ai (abj L k)/\((!decide ((aj (abj L k) g.toNat free).kind=1))=true->0<=g/\g< ↑(ai (abj L k)))/\((!decide ((aj (abj L k) g.toNat free).kind=1))=true->g.toNat<ai (abj L k))/\aba (decide ((aj (abj L k) g.toNat free).kind=1)||decide ((aj (abj L k) g.toNat free).kind=2)) (abm L k n) (abd (g+1)/\∃g',qc L k n g'/\(aI L k+1-g').toNat<(aI L k+1-g).toNat/\n=n/\aM L k=aM L k/\aE L k=aE L k/\bu L (aM L k) (aE L k)=bu L (aM L k) (aE L k)/\g+1=g'/\L=L/\k=k/\void=void/\cI L (aM L k) (aE L k) 1=cI L (aM L k) (aE L k) 1)) ((0<=bu L (aM L k) (aE L k)/\bu L (aM L k) (aE L k)< ↑(ai (abj L k)))/\(abo L k).toNat<ai (abj L k)/\(0<=k.oid/\k.oid< ↑(ai (abj L k)))/\k.oid.toNat<ai (abj L k)/\abd (aE L k-n)/\abd (aE L k-n+1)/\abd (aE L k- n)/\dI (abj L k) (abo L k)/\dI (abk L k n) k.oid/\kZ L k n=true/\(Key.mk 4 (abo L k) (abh L k).count void.call void.rights void.value=cc L k n/\0=bZ L k n)/\cA (abk L k n) k.oid.toNat (Obj.mk (abn L k).kind (abn L k).count (abn L k).calls ((abn L k).slots.put 1 (abg (aE L k-n))) (abn L k).bytes)=bF L k n))))):=by
 delta aba abg abo abn abm abl abk abj abi abh abd
 by_cases hE:aN L k≠0
 ·rw[show decide (aN L k=0)=false by simpa using hE]
  refine⟨fun h=>by simp at h,fun h=>by simp at h,fun _=>⟨fun _=>Eo (yH hE) hE,fun h=>by simp at h⟩⟩
 replace hE:aN L k=0:=Decidable.not_not.1 hE
 obtain⟨_,a0,a1,a2,a3,a4⟩:=mI hE;obtain⟨x1,x2⟩:=B2 hE;have hlen:=gA hL;rw[x1,x2,show decide (aN L k=0)=true by simpa using hE]
 have hr:∀x:Int,-1000<=x->x<=1000->aF IntKind.i64 x:=fun x h1 h2=>by simp only[aF,bY];omega
 have hI:bu L (az L k) (aI L k)=gu L k:=rfl;have hM:cI L (az L k) (aI L k) 1=dU L k:=rfl;have hlM:ai (dU L k)=L.length:=ve;have hlM2:(dU L k).length=L.length:=ve;have hll:ai L=L.length:=rfl;rw[hI,hM];refine⟨fun _=>hr _ (by omega) (by omega),fun h=>Eo (AF hE (by simp only[Bool.true_and,Bool.or_eq_true,aa3]at h;omega)) (by omega),fun h=>⟨fun h=>by simp at h,fun _=>?_⟩⟩
 have hn:1<=n/\n<=aI L k-az L k:=by simp only[Bool.true_and,Bool.or_eq_false_iff,decide_eq_false_iff_not]at h;omega
 obtain⟨hn1,hn2⟩:=hn;have h0:=HL hE hn1 hn2;have hm:=v7 (L:=L) (l:=aI L k) a0;rw[hI]at hm;refine⟨rfl,⟨hL,a0,a2,by omega⟩,fun hc=>⟨fun _=>hr _ (by omega) (by omega),fun hi=>?_,fun hi=>?_⟩,fun hc=>⟨fun _=>hr _ (by omega) (by omega),fun hi=>?_,fun hi=>?_⟩⟩
 ·exact Eo (vb h0 (by simp only[Bool.or_eq_true,aa3]at hi;omega)) (by omega)
 ·simp only[Bool.or_eq_false_iff,decide_eq_false_iff_not]at hi;rw[Cg (by rw[hI];omega)]at hc
  simp at hc
 ·exact Eo (vb h0 (by simp only[Bool.or_eq_true,aa3]at hi;omega)) (by omega)
 simp only[Bool.or_eq_false_iff,decide_eq_false_iff_not]at hi;have hbz:∀o:Sx.Obj,(decide (o.kind=1)||decide (o.kind=2))=mL o:=fun o=>rfl
 refine⟨hr _ (by omega) (by omega),hr _ (by omega) (by omega),⟨aI L k-n+1,⟨by omega,by omega,I2⟩,rfl,rfl,rfl,rfl,rfl,rfl,rfl,rfl,rfl⟩,fun g hg=>⟨fun hgl=>?_,fun hgl=>?_⟩⟩
 ·obtain⟨g0,g1,g2⟩:=hg;have hgl:=aa6 hgl;rw[hbz];have hr1:0<=g/\g<(ai (dU L k):Int):=⟨by omega,by omega⟩
  have hr2:g.toNat<ai (dU L k):=by omega
  refine⟨hr1,hr2,fun _=>hr1,fun _=>hr2,fun hb=>?_,fun hb=>?_⟩
  ·exact Eo (Fo h0 (DJ (by omega) (by omega) g0 (by omega) hb)) (by omega)
  ·exact⟨hr _ (by omega) (by omega),g+1,⟨by omega,by omega,by rw[HH (by omega) hb];exact g2⟩,by omega,rfl,rfl,rfl,rfl,rfl,rfl,rfl,rfl,rfl⟩
 ·obtain⟨g0,g1,g2⟩:=hg;have hgl:=aa5 hgl;have:g=aI L k+1:=by omega
  subst this;have e:=IG h0 (by omega) (by omega) g2
  have hp:∀(M:List Sx.Obj) (x:Int),M.length=L.length->0<=x->x<(L.length:Int)->dI M x:=fun M x hM h1 h2=>⟨h1,by unfold ai;omega,by unfold ai;omega⟩
  exact⟨⟨by omega,by omega⟩,by omega,⟨by omega,by omega⟩,by omega,hr _ (by omega) (by omega),hr _ (by omega) (by omega),hr _ (by omega) (by omega),hp _ _ hlM2 (by omega) (by omega),hp _ _ (by rw[ib];exact hlM2) a3 a4,by unfold kZ;rw[e];rfl,⟨by unfold cc;rw[aa9 e];rfl,e.symm⟩,by unfold bF;rw[aa9 e];rfl⟩
theorem JT (L:List Sx.Obj) (k:Key) (n:Int) (hL:ar L):an Tryz.prog 120 [.sa 0,.key k,.it .i64 n] [.ro (.arr none 163 (.ob L))] (xS (kZ L k n) (bF L k n) [.key (cc L k n),.it .i64 (bZ L k n)]) (fun _ _=>False):=
 bj (inl:=bx) (ann:=(iv [(120,10,UO [0,2,4,7,9,10,12,13] (fun g=> [(14,.it .i64 g)]) (qc L k n) (zc (aI L k) 1))])) (ae qO (ae jz aq)) (aB Bo aD) (J1 L k n hL) (by kernel_rfl)
theorem JY:kL Tryz.prog 120 OT:=
 iM (m:=fun x=>RN.cn x 0) (fL CS (fun _=>rfl)) (fun _=>rfl) (fun _ _=>rfl) fun L x hq=>JT L x.1 x.2.1 hq
theorem R3 (kind oid count:Int):
 (decide (kind=2)=true->Key.mk 3 oid count void.call void.rights void.value=dg kind oid count)/\(decide (kind=2)=false->Key.mk 2 oid count void.call void.rights void.value=dg kind
  oid count):=by
 unfold dg;exact⟨fun h=>by rw[aa9 (aa6 h)];rfl,fun h=>by rw[aa8 (aa5 h)];rfl⟩
theorem sP:cq Tryz.prog 231 X1:=
 O8 (gi .i64) (gi .i64) (gi .i64) (fun _ _ _=>rfl) fun i j k _ _ _=>ba (inl:=bx) (ann:=aQ) aq (R3 i j k) (by kernel_rfl)
theorem Jl (k v:Key):
 abb (abb (aba (!decide (0<ak [])) (false=jy [] k v/\1=aN [] k) (abb (aba (!(aU [] k&&decide (k.kind=4))) (false=jy [] k v/\190=aN [] k) (abb (aba (!(decide ((abp [] k 0).kind=1)&&decide ((abp [] k 1).kind=1)&&decide (0<=(abp [] k 0).value)&&decide ((abp [] k 0).value<=(abp [] k 1).value)&&decide ((abp [] k 1).value<ak []))) (false=jy [] k v/\220=aN [] k) (abb ((aU [] v&&(decide (v.kind=2)||decide (v.kind=3))&&decide ((abp [] k 0).value<=cw v)&&decide (cw v<=(abp [] k 1).value))=jy [] k v/\0=aN [] k)))))))):=by
 delta aba abp abb
 exact⟨rfl,rfl,fun h=>Cw (ID h) (by omega),fun h=>absurd h (by decide)⟩
theorem KM (L:List Sx.Obj) (k v:Key):
 abb (abb (aba (!decide (0<ak L)) (false=jy L k v/\1=aN L k) (abb (aba (!(aU L k&&decide (k.kind=4))) (false=jy L k v/\190=aN L k) (abb (aba (!(decide ((abp L k 0).kind=1)&&decide ((abp L k 1).kind=1)&&decide (0<=(abp L k 0).value)&&decide ((abp L k 0).value<=(abp L k 1).value)&&decide ((abp L k 1).value<ak L))) (false=jy L k v/\220=aN L k) (abb ((aU L v&&(decide (v.kind=2)||decide (v.kind=3))&&decide ((abp L k 0).value<=cw v)&&decide (cw v<=(abp L k 1).value))=jy L k v/\0=aN L k)))))))):=by
 delta aba abp abb
 refine⟨rfl,rfl,fun h=>Cw (ID h) (by omega),fun h=>⟨rfl,fun h2=>Cw (Y2 h h2) (by omega),fun h2=>⟨rfl,fun h3=>Cw (Zp h h2 h3) (by omega),fun h3=>⟨rfl,?_,(TG h h2 h3).1.symm⟩⟩⟩⟩
 obtain⟨e,e1,e2⟩:=TG h h2 h3;rw[e1,e2];unfold jy jc;rw[e];cases hi:aU L v with
 |false=>simp
 |true=>
  cases hk:(decide (v.kind=2)||decide (v.kind=3))with
  |false=>simp
  |true=>
   have hn:cw v=v.oid:=VR hi;rw[hn];simp
theorem KD:cq Tryz.prog 224 QK:=
 eW (aA s5 wq) (fun _=>rfl) fun a hq hok=>by
  obtain⟨S,k,v,_⟩:=a;cases S with
  |none=>exact aY (inl:=(fun f=>f==214||f==213||f==215)) (ann:=aQ) (ae bC (ae bQ (ae dH aq))) aD (eh iw) (Jl k v) (by kernel_rfl)
  |some L=>exact aY (inl:=(fun f=>f==214||f==213||f==215)) (ann:=aQ) (ae bC (ae bQ (ae dH aq))) aD (eh iw) (KM L k v) (by kernel_rfl)
theorem P7 (k v:Key):
 abb (abb (aba (!decide (0<ak [])) (1=cD [] k v) (abb (aba (!(aU [] k&&decide (k.kind=4))) (190=cD [] k v) (abb (aba (!(decide ((abp [] k 0).kind=1)&&decide ((abp [] k 1).kind=1)&&decide (0<=(abp [] k 0).value)&&decide ((abp [] k 0).value<=(abp [] k 1).value)&&decide ((abp [] k 1).value<ak []))) (220=cD [] k v) (abb (abb (aba (!(aU [] v&&(decide (v.kind=2)||decide (v.kind=3)))) (5=cD [] k v) (abb (abb (aba (!(decide ((abp [] k 0).value<=v.oid)&&decide (v.oid<=(abp [] k 1).value)&& !decide (v.oid=k.oid))) (4=cD [] k v) (abb (abb (0=cD [] k v))))))))))))))):=by
 delta aba abp abb
 exact⟨rfl,rfl,fun h=>(tn (re (ID h) (by omega)) (by omega)).1,fun h=>absurd h (by decide)⟩
theorem NB (k v:Key):
 abb (abb (aba (!decide (0<ak [])) (1=cD [] k v) (abb (aba (!(aU [] k&&decide (k.kind=4))) (190=cD [] k v) (abb (aba (!(decide ((abp [] k 0).kind=1)&&decide ((abp [] k 1).kind=1)&&decide (0<=(abp [] k 0).value)&&decide ((abp [] k 0).value<=(abp [] k 1).value)&&decide ((abp [] k 1).value<ak []))) (220=cD [] k v) (abb (abb (aba (!(aU [] v&&(decide (v.kind=2)||decide (v.kind=3)))) (5=cD [] k v) (abb (abb (aba (!(decide ((abp [] k 0).value<=v.oid)&&decide (v.oid<=(abp [] k 1).value)&& !decide (v.oid=k.oid))) (4=cD [] k v) (abb (abb False)))))))))))))):=by
 delta aba abp abb
 exact⟨rfl,rfl,fun h=>(tn (re (ID h) (by omega)) (by omega)).1,fun h=>absurd h (by decide)⟩
theorem Si (L:List Sx.Obj) (k v:Key) (hL:ar L):
 abb (abb (aba (!decide (0<ak L)) (1=cD L k v/\L=gE L k v) (abb (aba (!(aU L k&&decide (k.kind=4))) (190=cD L k v/\L=gE L k v) (abb (aba (!(decide ((abp L k 0).kind=1)&&decide ((abp L k 1).kind=1)&&decide (0<=(abp L k 0).value)&&decide ((abp L k 0).value<=(abp L k 1).value)&&decide ((abp L k 1).value<ak L))) (220=cD L k v/\L=gE L k v) (abb (abb (aba (!(aU L v&&(decide (v.kind=2)||decide (v.kind=3)))) (5=cD L k v/\L=gE L k v) (abb (abb (aba (!(decide ((abp L k 0).value<=v.oid)&&decide (v.oid<=(abp L k 1).value)&& !decide (v.oid=k.oid))) (4=cD L k v/\L=gE L k v) (abb (abb (0=cD L k v/\cN L v.oid (Obj.mk free.kind (aL L v.oid).count free.calls free.slots free.bytes)=gE L k v))))))))))))))):=by
 delta aba abp abb
 refine⟨rfl,rfl,fun h=>tn (re (ID h) (by omega)) (by omega),fun h=>⟨rfl,fun h2=>tn (re (Y2 h h2) (by omega)) (by omega),fun h2=>⟨rfl,fun h3=>tn (re (Zp h h2 h3) (by omega)) (by omega),fun h3=>⟨rfl,rfl,fun h4=>?_,fun h4=>⟨rfl,rfl,fun h5=>?_,fun h5=>⟨rfl,rfl,?_⟩⟩⟩⟩⟩⟩
 ·obtain⟨e,e1,e2⟩:=TG h h2 h3;have ht:jc L v=false:=by have h4':(!jc L v)=true:=h4;simpa using h4'
  exact tn (by unfold cD;rw[aa9 e,ht];rfl) (by omega)
 ·obtain⟨e,e1,e2⟩:=TG h h2 h3;have ht:jc L v=true:=by have h4':(!jc L v)=false:=h4;simpa using h4'
  rw[e1,e2]at h5
  exact tn (by
   unfold cD;rw[aa9 e,ht,aa9 rfl,aa8];intro hh;simp only[Bool.not_eq_true',Bool.and_eq_false_iff,Bool.not_eq_false',decide_eq_false_iff_not,aa3]at h5;omega) (by omega)
 ·obtain⟨e,e1,e2⟩:=TG h h2 h3;have ht:jc L v=true:=by have h4':(!jc L v)=false:=h4;simpa using h4'
  rw[e1,e2]at h5
  have hE:cD L k v=0:=by
   unfold cD;rw[aa9 e,ht,aa9 rfl,aa9];simp only[Bool.not_eq_false',aa2,Bool.not_eq_true',aa3,decide_eq_false_iff_not]at h5;omega
  obtain⟨_,b2,b3,_⟩:=eg (ET ht);rw[fF b2 b3];refine⟨hE.symm,?_⟩;unfold gE;rw[aa9 hE];exact(lY b2 b3 (xL (dq hL v.oid.toNat (by omega)))).1
theorem Rp (L:List Sx.Obj) (k v:Key) (hL:ar L):an Tryz.prog 167 [.lp 0 0,.key k,.key v] [.store tS eS L] (B8 (.it .i64 (cD L k v)) (gE L k v)) (fun _ _=>False):=
 aY (inl:=(fun f=>f==214||f==213||f==215||f==216||f==217)) (ann:=aQ) (ae bC (ae bQ (ae ga aq))) (aB dz aD) (eh iw) (Si L k v hL) (by kernel_rfl)
theorem So:kL Tryz.prog 167 WL:=
 nK (m:=fun x=>Oc.cn x 0) (fL wq (fun _=>rfl)) (fun _=>rfl) (fun _ _=>rfl) (fun x=>aY (inl:=(fun f=>f==214||f==213||f==215||f==216||f==217)) (ann:=aQ) (ae bC (ae bQ (ae ga aq))) (aB dz aD) (eh iw) (P7 x.1 x.2.1) (by kernel_rfl)) (fun x=>aY (inl:=(fun f=>f==214||f==213||f==215||f==216||f==217)) (ann:=aQ) (ae bC (ae bQ (ae ga aq))) (aB dz aD) (eh iw) (NB x.1 x.2.1) (by kernel_rfl)) fun L x hL _ _=>Rp L x.1 x.2.1 hL
theorem Jg (k:Key):
 abb (abb (aba (!decide (0<ak [])) (0=fG [] k/\1=aN [] k) (abb (aba (!(aU [] k&&decide (k.kind=4))) (0=fG [] k/\190=aN [] k) (abb (aba (!(decide ((abp [] k 0).kind=1)&&decide ((abp [] k 1).kind=1)&&decide (0<=(abp [] k 0).value)&&decide ((abp [] k 0).value<=(abp [] k 1).value)&&decide ((abp [] k 1).value<ak []))) (0=fG [] k/\220=aN [] k) (abb (abb (∀(r0:Loop),False))))))))):=by
 delta aba abp abb
 exact⟨rfl,rfl,fun h=>(yI (ID h) (by omega)).1,fun h=>absurd h (by decide)⟩
theorem Kh (k:Key):
 abb (abb (aba (!decide (0<ak [])) (0=fG [] k/\1=aN [] k) (abb (aba (!(aU [] k&&decide (k.kind=4))) (0=fG [] k/\190=aN [] k) (abb (aba (!(decide ((abp [] k 0).kind=1)&&decide ((abp [] k 1).kind=1)&&decide (0<=(abp [] k 0).value)&&decide ((abp [] k 0).value<=(abp [] k 1).value)&&decide ((abp [] k 1).value<ak []))) (0=fG [] k/\220=aN [] k) (abb (abb (∀(r0:Loop),False))))))))):=by
 delta aba abp abb
 exact⟨rfl,rfl,fun h=>(yI (ID h) (by omega)).1,fun h=>absurd h (by decide)⟩
theorem PF (L:List Sx.Obj) (k:Key) (hL:ar L):
 abb (abb (aba (!decide (0<ak L)) ((0=fG L k/\1=aN L k)/\L=gZ L k) (abb (aba (!(aU L k&&decide (k.kind=4))) ((0=fG L k/\190=aN L k)/\L=gZ L k) (abb (aba (!(decide ((abp L k 0).kind=1)&&decide ((abp L k 1).kind=1)&&decide (0<=(abp L k 0).value)&&decide ((abp L k 0).value<=(abp L k 1).value)&&decide ((abp L k 1).value<ak L))) ((0=fG L k/\220=aN L k)/\L=gZ L k) (abb (abb (∀(r0 :Loop),(∃g,r8 L k g/\(abp L k 0).value=g/\L=dQ L (az L k) g k.oid/\k=k/\0=eU L (az L k) g k.oid/\k=k/\aa L k=aa L k/\k.oid=k.oid/\(abp L k 0).value=(abp L k 0).value/\(abp L k 1).value=(abp L k 1).value/\aa L k=aa L k/\abp L k 0=abp L k 0/\abp L k 1=abp L k 1/\aa L k=aa L k/\k.oid=k.oid/\(abp L k 0).value=(abp L k 0).value/\(abp L k 1).value=(abp L k 1).value/\aa L k=aa L k/\k.oid=k.oid/\(abp L k 0).value=(abp L k 0).value/\(abp L k 1).value=(abp L k 1).value/\r0=r0)/\∀(g:Int),r8 L k g->aba (decide (g<=(abp L k 1).value)) (r0=r0/\r0=r0/\aba (decide ((aL (dQ L (az L k) g k.oid) g).kind=1)||decide ((aL (dQ L (az L k) g k.oid) g).kind=2)) (abb (aba (decide ((abp L k 0).value<=g)&&decide (g<=(abp L k 1).value)&& !decide (g=k.oid)) (abb (abb (abd (eU L (az L k) g k.oid+1)/\r0=r0/\abd (g+1)/\∃g',r8 L k g'/\(aI L k+1-g').toNat<(aI L k+1- g).toNat/\g+1=g'/\cN (dQ L (az L k) g k.oid) g (Obj.mk free.kind (aL (dQ L (az L k) g k.oid) g).count free.calls free.slots free.bytes)=dQ L (az L k) g' k.oid/\k=k/\eU L (az L k) g k.oid+1=eU L (az L k) g' k.oid/\k=k/\aa L k=aa L k/\k.oid=k.oid/\(abp L k 0).value=(abp L k 0).value/\(abp L k 1).value=(abp L k 1).value/\aa L k=aa L k/\abp L k 0=abp L k 0/\abp L k 1=abp L k 1/\aa L k=aa L k/\k.oid=k.oid/\(abp L k 0).value=(abp L k 0).value/\(abp L k 1).value=(abp L k 1).value/\aa L k=aa L k/\k.oid=k.oid/\(abp L k 0).value=(abp L k 0).value/\(abp L k 1).value=(abp L k 1).value/\r0=r0))) (r0=r0/\abd (g+1)/\∃g',r8 L k g'/\(aI L k+1-g').toNat<(aI L k+1-g).toNat/\g+1=g'/\dQ L (az L k) g k.oid=dQ L (az L k) g' k.oid/\k=k/\eU L (az L k) g k.oid=eU L (az L k) g' k.oid/\k=k/\aa L k=aa L k/\k.oid=k.oid/\(abp L k 0).value=(abp L k 0).value/\(abp L k 1).value=(abp L k 1).value/\aa L k=aa L k/\abp L k 0=abp L k 0/\abp L k 1=abp L k 1/\aa L k=aa L k/\k.oid=k.oid/\(abp L k 0).value=(abp L k 0).value/\(abp L k 1).value=(abp L k 1).value/\aa L k=aa L k/\k.oid=k.oid/\(abp L k 0).value=(abp L k 0).value/\(abp L k 1).value=(abp L k 1).value/\r0=r0))) (r0=r0/\abd (g+1)/\∃g',r8 L k g'/\(aI L k+1-g').toNat<(aI L k+1-g).toNat/\g+1=g'/\dQ L (az L k) g k.oid=dQ L (az L k) g' k.oid/\k=k/\eU L (az L k) g k.oid=eU L (az L k) g' k.oid/\k=k/\aa L k=aa L k/\k.oid=k.oid/\(abp L k 0).value=(abp L k 0).value/\(abp L k 1).value=(abp L k 1).value/\aa L k=aa L k/\abp L k 0=abp L k 0/\abp L k 1=abp L k 1/\aa L k=aa L k/\k.oid=k.oid/\(abp L k 0).value=(abp L k 0).value/\(abp L k 1).value=(abp L k 1).value/\aa L k=aa L k/\k.oid=k.oid/\(abp L k 0).value=(abp L k 0).value/\(abp L k 1).value=(abp L k 1).value/\r0=r0)) ((eU L (az L k) g k.oid=fG L k/\0=aN L k)/\dQ L (az L k) g k.oid=gZ L k)))))))))):=by
 delta aba abp abd abb
 refine⟨rfl,rfl,fun h=>yI (ID h) (by omega),fun h=>⟨rfl,fun h2=>yI (Y2 h h2) (by omega),fun h2=>⟨rfl,fun h3=>yI (Zp h h2 h3) (by omega),fun h3=>⟨rfl,rfl,fun r0=>?_⟩⟩⟩⟩
 obtain⟨e,e1,e2⟩:=TG h h2 h3;obtain⟨_,a0,a1,a2,_⟩:=mI e;rw[e1,e2];have hlen:=gA hL;have hin:∀g:Int,az L k<=g->g<=aI L k->aF IntKind.i64 (g+1):=fun g h1 h2=>by simp only[aF,bY];omega
 have hnn:∀g:Int,aF IntKind.i64 (eU L (az L k) g k.oid+1):=fun g=>by
  have:=tz (L:=L) (f:=az L k) (g:=g) (oid:=k.oid);have:=Pn (L:=L) (f:=az L k) (g:=g) (oid:=k.oid);simp only[aF,bY];omega
 refine⟨⟨az L k,⟨by omega,by omega⟩,rfl,KJ,rfl,uE.symm,(by(repeat' apply And.intro)<;>rfl)⟩,fun g hg=>⟨fun hgl=>?_,fun hgl=>?_⟩⟩
 ·obtain⟨g0,g1⟩:=hg;have hgl:=aa6 hgl;have hgz:(dQ L (az L k) g k.oid).length=L.length:=B5;have hgt:aL (dQ L (az L k) g k.oid) g=aj L g.toNat free:=by rw[fF (by omega) (by omega),NI (by omega)]
  rw[hgt];refine⟨rfl,rfl,fun hk=>⟨rfl,fun hb=>?_,fun hb=>?_⟩,fun hk=>?_⟩
  ·have hne:¬g=k.oid:=by
    simp only[aa2,Bool.not_eq_true',decide_eq_false_iff_not]at hb;exact hb.2
   have hh:j6 L g k.oid=true:=by unfold j6 mL;rw[hk];simp[hne]
   have hs:=yz (L:=L) (f:=az L k) (oid:=k.oid) (by omega:0<=g) (by omega) g0 hh
   have hs2:=Cv (L:=L) (f:=az L k) (oid:=k.oid) (by omega:0<=g) (by omega) g0 hh
   have hp:=(lY (L:=dQ L (az L k) g k.oid) (i:=g) (by omega) (by omega) (hgz▸xL (dq hL g.toNat (by omega)))).1
   exact⟨rfl,rfl,hnn g,rfl,hin g g0 hgl,g+1,⟨by omega,by omega⟩,by omega,rfl,hp.trans hs2,rfl,hs.symm,(by(repeat' apply And.intro)<;>rfl)⟩
  ·have hh:j6 L g k.oid=false:=by
    have e3:decide (az L k<=g)=true:=by simp;omega
    have e4:decide (g<=aI L k)=true:=by simp;omega
    rw[e3,e4]at hb;unfold j6;rw[Bool.and_eq_false_iff];right
    simpa using hb
   have hs:=uX (L:=L) (f:=az L k) (oid:=k.oid) (by omega:0<=g) g0 hh
   have hs2:=yC (L:=L) (f:=az L k) (oid:=k.oid) (by omega:0<=g) g0 hh
   exact⟨rfl,hin g g0 hgl,g+1,⟨by omega,by omega⟩,by omega,rfl,hs2.symm,rfl,hs.symm,(by(repeat' apply And.intro)<;>rfl)⟩
  ·have hh:j6 L g k.oid=false:=by unfold j6 mL;rw[hk];rfl
   have hs:=uX (L:=L) (f:=az L k) (oid:=k.oid) (by omega:0<=g) g0 hh
   have hs2:=yC (L:=L) (f:=az L k) (oid:=k.oid) (by omega:0<=g) g0 hh
   exact⟨rfl,hin g g0 hgl,g+1,⟨by omega,by omega⟩,by omega,rfl,hs2.symm,rfl,hs.symm,(by(repeat' apply And.intro)<;>rfl)⟩
 ·obtain⟨g0,g1⟩:=hg;have hgl:=aa5 hgl;have:g=aI L k+1:=by omega
  subst this;exact⟨⟨by unfold fG;rw[aa9 e],e.symm⟩,by unfold gZ;rw[aa9 e]⟩
theorem KW (L:List Sx.Obj) (k:Key) (hL:ar L):an Tryz.prog 225 [.lp 0 0,.key k] [.store tS eS L] (B8 (.tp [.it .i64 (fG L k),.it .i64 (aN L k)]) (gZ L k)) (fun _ _=>False):=
 aY (inl:=(fun f=>f==214||f==213||f==216||f==217||f==219||f==1000000+232)) (ann:=(iv [(5000+232,1,lpT [0,1] (fun(g:Int)=> [(3,.it .i64 g)]) (fun g=> [(0,.store tS eS (dQ L (az L k) g k.oid)),(2,.blk 3 (.it .i64 (eU L (az L k) g k.oid)))]) (r8 L k) (fun g=>pH (sU (zc (aI L k) 1) g)))])) (ae bC (ae bQ (ae ga aq))) (aB dz aD) (eh iw) (PF L k hL) (by kernel_rfl)
theorem PO:kL Tryz.prog 225 RV:=
 nK (m:=fun x=>kB.cn x 0) (fL Fm (fun _=>rfl)) (fun _=>rfl) (fun _ _=>rfl) (fun x=>aY (inl:=(fun f=>f==214||f==213||f==216||f==217||f==219||f==1000000+232)) (ann:=aQ) (ae bC (ae bQ (ae ga aq))) (aB dz aD) (eh iw) (Jg x.1) (by kernel_rfl)) (fun x=>aY (inl:=(fun f=>f==214||f==213||f==216||f==217||f==219||f==1000000+232)) (ann:=aQ) (ae bC (ae bQ (ae ga aq))) (aB dz aD) (eh iw) (Kh x.1) (by kernel_rfl)) fun L x hL _ _=>KW L x.1 hL
theorem Jt (k:Key) (kind:Int):
 abb (abb (aba (!decide (0<ak [])) (void=de [] k kind/\1=cx [] k kind) (abb (aba (!(aU [] k&&decide (k.kind=4))) (void=de [] k kind/\190=cx [] k kind) (abb (aba (!(decide ((abp [] k 0).kind=1)&&decide ((abp [] k 1).kind=1)&&decide (0<=(abp [] k 0).value)&&decide ((abp [] k 0).value<=(abp [] k 1).value)&&decide ((abp [] k 1).value<ak []))) (void=de [] k kind/\220=cx [] k kind) (abb (aba (!(decide (kind=1)||decide (kind=2))) (void=de [] k kind/\2=cx [] k kind) (abb (abb (abb (∀(r0:Loop),False)))))))))))):=by
 delta aba abp abb
 exact⟨rfl,rfl,fun h=>(wG (rv (ID h) (by omega)) (by omega)).1,fun h=>absurd h (by decide)⟩
theorem J8 (k:Key) (kind:Int):
 abb (abb (aba (!decide (0<ak [])) (void=de [] k kind/\1=cx [] k kind) (abb (aba (!(aU [] k&&decide (k.kind=4))) (void=de [] k kind/\190=cx [] k kind) (abb (aba (!(decide ((abp [] k 0).kind=1)&&decide ((abp [] k 1).kind=1)&&decide (0<=(abp [] k 0).value)&&decide ((abp [] k 0).value<=(abp [] k 1).value)&&decide ((abp [] k 1).value<ak []))) (void=de [] k kind/\220=cx [] k kind) (abb (aba (!(decide (kind=1)||decide (kind=2))) (void=de [] k kind/\2=cx [] k kind) (abb (abb (abb (∀(r0:Loop),False)))))))))))):=by
 delta aba abp abb
 exact⟨rfl,rfl,fun h=>(wG (rv (ID h) (by omega)) (by omega)).1,fun h=>absurd h (by decide)⟩
theorem NN (L:List Sx.Obj) (k:Key) (kind:Int) (hL:ar L):
 abb (abb (aba (!decide (0<ak L)) ((void=de L k kind/\1=cx L k kind)/\L=fu L k kind) (abb (aba (!(aU L k&&decide (k.kind=4))) ((void=de L k kind/\190=cx L k kind)/\L=fu L k kind) (abb (aba (!(decide ((abp L k 0).kind=1)&&decide ((abp L k 1).kind=1)&&decide (0<=(abp L k 0).value)&&decide ((abp L k 0).value<=(abp L k 1).value)&&decide ((abp L k 1).value<ak L))) ((void=de L k kind/\220=cx L k kind)/\L=fu L k kind) (abb (aba (!(decide (kind=1)||decide (kind=2))) ((void=de L k kind/\2=cx L k kind)/\L=fu L k kind) (abb (abb (abb (∀(r0:Loop),(∃g,jA L k g/\(abp L k 0).value=g/\L=bM L (az L k) g/\k=k/\void=void/\k=k/\aa L k=aa L k/\k.oid=k.oid/\(abp L k 0).value=(abp L k 0).value/\(abp L k 1).value=(abp L k 1).value/\aa L k=aa L k/\abp L k 0=abp L k 0/\abp L k 1=abp L k 1/\aa L k=aa L k/\k.oid=k.oid/\(abp L k 0).value=(abp L k 0).value/\(abp L k 1).value=(abp L k 1).value/\aa L k=aa L k/\k.oid=k.oid/\(abp L k 0).value=(abp L k 0).value/\(abp L k 1).value=(abp L k 1).value/\kind=kind/\void=void/\false=false/\aa L k=aa L k/\k.oid=k.oid/\(abp L k 0).value=(abp L k 0).value/\(abp L k 1).value=(abp L k 1).value/\r0=r0)/\∀(g:Int),jA L k g->aba (decide (g<=(abp L k 1).value)) (r0=r0/\r0=r0/\aba (!decide ((aL (bM L (az L k) g) g).kind=0)) (r0=r0/\abd (g+1)/\∃g',jA L k g'/\(aI L k+1-g').toNat<(aI L k+1-g).toNat/\g+1=g'/\bM L (az L k) g=bM L (az L k) g'/\k=k/\void=void/\k=k/\aa L k=aa L k/\k.oid=k.oid/\(abp L k 0).value=(abp L k 0).value/\(abp L k 1).value=(abp L k 1).value/\aa L k=aa L k/\abp L k 0=abp L k 0/\abp L k 1=abp L k 1/\aa L k=aa L k/\k.oid=k.oid/\(abp L k 0).value=(abp L k 0).value/\(abp L k 1).value=(abp L k 1).value/\aa L k=aa L k/\k.oid=k.oid/\(abp L k 0).value=(abp L k 0).value/\(abp L k 1).value=(abp L k 1).value/\kind=kind/\void=void/\false=false/\aa L k=aa L k/\k.oid=k.oid/\(abp L k 0).value=(abp L k 0).value/\(abp L k 1).value=(abp L k 1).value/\r0=r0) (aba (decide ((aL (bM L (az L k) g) g).count=4294967295)) (abb (r0=r0/\abd (g+1)/\∃g',jA L k g'/\(aI L k+1-g').toNat<(aI L k+1-g).toNat/\g+1=g'/\cN (bM L (az L k) g) g (Obj.mk 3 (aL (bM L (az L k) g) g).count free.calls free.slots free.bytes)=bM L (az L k) g'/\k=k/\void=void/\k=k/\aa L k=aa L k/\k.oid=k.oid/\(abp L k 0).value=(abp L k 0).value/\(abp L k 1).value=(abp L k 1).value/\aa L k=aa L k/\abp L k 0=abp L k 0/\abp L k 1=abp L k 1/\aa L k=aa L k/\k.oid=k.oid/\(abp L k 0).value=(abp L k 0).value/\(abp L k 1).value=(abp L k 1).value/\aa L k=aa L k/\k.oid=k.oid/\(abp L k 0).value=(abp L k 0).value/\(abp L k 1).value=(abp L k 1).value/\kind=kind/\void=void/\false=false/\aa L k=aa L k/\k.oid=k.oid/\(abp L k 0).value=(abp L k 0).value/\(abp L k 1).value=(abp L k 1).value/\r0=r0)) (abd ((aL (bM L (az L k) g) g).count+1)/\abb (abd ((aL (bM L (az L k) g) g).count+1)/\r0=r0/\abb ((dg kind g ((aL (bM L (az L k) g) g).count+1)=de L k kind/\0=cx L k kind)/\cN (bM L (az L k) g) g (Obj.mk kind ((aL (bM L (az L k) g) g).count+1) free.calls free.slots free.bytes)=fu L k kind))))) (abb ((void=de L k kind/\221=cx L k kind)/\bM L (az L k) g=fu L k kind)))))))))))))):=by
 delta aba abp abd abb
 refine⟨rfl,rfl,fun h=>wG (rv (ID h) (by omega)) (by omega),fun h=>⟨rfl,fun h2=>wG (rv (Y2 h h2) (by omega)) (by omega),fun h2=>⟨rfl,fun h3=>wG (rv (Zp h h2 h3) (by omega)) (by omega),fun h3=>⟨rfl,fun h4=>wG (NT (TG h h2 h3).1 h4) (by omega),fun h4=>⟨rfl,rfl,rfl,fun r0=>?_⟩⟩⟩⟩⟩
 obtain⟨e,e1,e2⟩:=TG h h2 h3;obtain⟨_,a0,a1,a2,_⟩:=mI e;rw[e1,e2]
 have hk:kind=1\/kind=2:=by
  simp only[Bool.not_eq_false',Bool.or_eq_true,aa3]at h4;exact h4
 have hlen:=gA hL;have hin:∀g:Int,az L k<=g->g<=aI L k->aF IntKind.i64 (g+1):=fun g h1 h2=>by simp only[aF,bY];omega
 have hcnt:∀j:Nat,j<L.length->0<=(aj L j free).count/\(aj L j free).count<=4294967295:=fun j hj=>⟨(j3 (dq hL j hj)).1,(j3 (dq hL j hj)).2.1⟩
 have hci:∀j:Nat,j<L.length->aF IntKind.i64 ((aj L j free).count+1):=fun j hj=>by have:=hcnt j hj;simp only[aF,bY];omega
 refine⟨⟨az L k,⟨by omega,by omega,ui⟩,rfl,DA,(by(repeat' apply And.intro)<;>rfl)⟩,fun g hg=>⟨fun hgl=>?_,fun hgl=>?_⟩⟩
 ·obtain⟨g0,g1,g2⟩:=hg;have hgl:=aa6 hgl;have hgn:g.toNat<L.length:=by omega
  have hgz:(bM L (az L k) g).length=L.length:=kH;have hgt:aL (bM L (az L k) g) g=aj L g.toNat free:=by rw[fF (by omega) (by omega),Cp (by omega)]
  rw[hgt];refine⟨rfl,rfl,fun hk0=>?_,fun hk0=>⟨fun hc=>?_,fun hc=>?_⟩⟩
  ·obtain⟨f1,f2⟩:=yq (o:=aj L g.toNat free) (by simpa using hk0)
   exact⟨rfl,hin g g0 hgl,g+1,⟨by omega,by omega,jX g2 f2⟩,by omega,rfl,(Ag (by omega) f1).symm,(by(repeat' apply And.intro)<;>rfl)⟩
  ·obtain⟨f1,f2⟩:=CE (o:=aj L g.toNat free) (by simpa using hk0) (by have:=aa6 hc;omega)
   have hp:=(lY (L:=bM L (az L k) g) (i:=g) (by omega) (by omega) (hgz▸CG (dq hL g.toNat hgn))).1
   exact⟨rfl,rfl,hin g g0 hgl,g+1,⟨by omega,by omega,jX g2 f2⟩,by omega,rfl,hp.trans (yr (by omega) (by omega) g0 f1),(by(repeat' apply And.intro)<;>rfl)⟩
  ·have hc:=aa5 hc;have:=hcnt _ hgn;obtain⟨f1,f2⟩:=CW (o:=aj L g.toNat free) (by simpa using hk0) (by omega)
   obtain⟨m1,m2,m3⟩:=xT kind a0 g0 hgl (by omega) g2 f2
   obtain⟨n1,n2,n3,n4⟩:=Hy (kind:=kind) e hk (by rw[m1];omega)
   have hp:=(lY (L:=bM L (az L k) g) (i:=g) (by omega) (by omega) (hgz▸CX (dq hL g.toNat hgn) f2 hk)).1
   refine⟨hci _ hgn,rfl,hci _ hgn,rfl,rfl,⟨?_,n3⟩,hp.trans (m3.symm.trans n4)⟩;have hK:de L k kind=dg kind (bu L (az L k) (aI L k)) ((aj L (bu L (az L k) (aI L k)).toNat free).count+1):=by unfold de;rw[aa9 n3.symm]
   rw[hK,m1]
 ·obtain⟨g0,g1,g2⟩:=hg;have hgl:=aa5 hgl;have:g=aI L k+1:=by omega
  subst this;obtain⟨m1,m2,m3⟩:=CJ kind g2;obtain⟨n1,n2,n3,n4⟩:=yY (kind:=kind) e hk m1;exact⟨rfl,⟨n2,n3⟩,m2.symm.trans n4⟩
theorem NO (L:List Sx.Obj) (k:Key) (kind:Int) (hL:ar L):an Tryz.prog 211 [.lp 0 0,.key k,.it .i64 kind] [.store tS eS L] (B8 (.tp [.key (de L k kind),.it .i64 (cx L k kind)]) (fu L k kind)) (fun _ _=>False):=
 aY (inl:=(fun f=>f==214||f==213||f==218||f==219||f==1000000+232)) (ann:=(iv [(3000+232,1,YD [0,1] (fun g=> [(3,.it .i64 g)]) 0 (fun g=> .store tS eS (bM L (az L k) g)) (jA L k) (zc (aI L k) 1))])) (ae bC (ae bQ (ae ga (ae sP aq)))) (aB dz aD) (eh iw) (NN L k kind hL) (by kernel_rfl)
theorem EA:kL Tryz.prog 211 QV:=
 nK (m:=fun x=>RN.cn x 0) (fL CS (fun _=>rfl)) (fun _=>rfl) (fun _ _=>rfl) (fun x=>aY (inl:=(fun f=>f==214||f==213||f==218||f==219||f==1000000+232)) (ann:=aQ) (ae bC (ae bQ (ae ga (ae sP aq)))) (aB dz aD) (eh iw) (Jt x.1 x.2.1) (by kernel_rfl)) (fun x=>aY (inl:=(fun f=>f==214||f==213||f==218||f==219||f==1000000+232)) (ann:=aQ) (ae bC (ae bQ (ae ga (ae sP aq)))) (aB dz aD) (eh iw) (J8 x.1 x.2.1) (by kernel_rfl)) fun L x hL _ _=>NO L x.1 x.2.1 hL
theorem Ye {P:Program} {f:Nat} {g g':Ct} (h:cq P f g) (ha:∀res nid args q x new,g' res nid args=some (q,x,new)->∃x0,g res nid args=some (q,x0,new)/\(∀J,den J x=den J x0)/\∀K,ok K x0->ok K x):cq P f g':=by
 intro J fps res K w0 F0 w nid args q x new hH hargs hg hq hfr;obtain⟨x0,h1,h2,h3⟩:=ha res nid args q x new hg;obtain⟨c1,c2⟩:=h J fps res K w0 F0 w nid args q x0 new hH hargs h1 hq hfr;refine⟨c1.mono fun e w' ⟨v,he,hv⟩=>⟨v,he,?_⟩,c2⟩
 obtain⟨ρ',hgr,hv,hx⟩:=hv;exact⟨ρ',hgr,by rw[h2];exact hv,h3 _ hx⟩
theorem vq:cq Tryz.prog 42 HT:=by
 refine Ye pV fun res nid args q x new h=>?_
 unfold HT at h;split at h
 ·rename_i a;split at h
  ·rename_i o L hr;split at h
   ·simp only[aa0,aa1]at h;obtain⟨rfl,rfl,rfl⟩:=h
    have hL:L= []:=by
     rcases u9 hr with⟨_,rfl,_⟩|⟨k,h,_⟩
     ·rfl
     ·simp at h
    subst hL;exact⟨.bo (bn []),by unfold FG XI;simp only[hr],fun J=>by simp[den,sG],fun _ _=>trivial⟩
   ·simp only[aa0,aa1]at h;obtain⟨rfl,rfl,rfl⟩:=h;exact⟨.bo (bn L),by unfold FG XI;simp only[hr],fun J=>rfl,fun _ h=>h⟩
  ·simp at h
 ·simp at h
theorem Mr:
 Value.pointer none=Value.pointer none:=by
 rfl
theorem Lg:an Tryz.prog 33 [jJ] [] (oq jJ) (fun _ _=>False):=ba (inl:=bx) (ann:=aQ) (ae vq aq) Mr (by kernel_rfl)
theorem PH (L:List Sx.Obj) (hL:L.length<=1000):
 aba (bn L) (bn L=true) ((∃g,qm L g/\Value.pointer none=Value.pointer none/\bD (ai L)=bD (ai L)/\0=g/\L=L/\[]=lT L g)/\∀(g:Int),qm L g->aba (decide (g<bD (ai L))) ((0<=g/\g< ↑(ai L))/\g.toNat<ai L/\g.toNat<ai L/\sT (ai (lT L g)) 8/\aF IntKind.i64 (g+1)/\∃g',qm L g'/\(bD (ai L)-g').toNat<(bD (ai L)-g).toNat/\Value.pointer none=Value.pointer none/\bD (ai L)=bD (ai L)/\g+1=g'/\L=L/\jh (lT L g) (aj L g.toNat free)=lT L g') (bn L=false/\lT L g=L)):=by
 delta aba
 refine⟨fun h=>h,fun h=>⟨⟨0,⟨by omega,by omega⟩,rfl,rfl,rfl,rfl,rfl⟩,fun g hg=>⟨fun hlt=>?_,fun hge=>?_⟩⟩⟩
 ·obtain⟨g0,g1⟩:=hg;have hlt:g<bD (ai L):=aa6 hlt;have hn:=ij L;have hle:=mz L;rw[hn]at hlt⊢;have ht:=Me (L:=L) (g:=g);exact⟨⟨g0,by omega⟩,by omega,by omega,Il (by omega),by simp only[aF,bY];omega,g+1,⟨by omega,by omega⟩,by omega,rfl,rfl,rfl,rfl,LK g0 hlt⟩
 ·obtain⟨g0,g1⟩:=hg;have hge:¬g<bD (ai L):=aa5 hge;rw[ij]at hge;exact⟨h,OX (by omega)⟩
theorem Mb {L:List Sx.Obj} (hb:bn L=true) {v:V} {r:List aK} (h:Ea L v r):xa jJ v []:=by
 unfold Ea at h;split at h
 ·split at h
  ·exact fun J K=>tt.refl _ _ _
  ·exact h.elim
 ·split at h
  ·split at h
   ·rw[hb]at h;simp at h
   ·exact h.elim
  ·exact h.elim
 ·exact h.elim
theorem Ja {L:List Sx.Obj} (hb:bn L=false) {v:V} {r:List aK} (h:Ea L v r):∃j r',1<=j/\(r'=r\/uD r j=some r')/\ay r' j= .store tS eS L/\∀(κ:Nat->Option Nat) (i:Nat),κ j=some i->jT κ v (.lp i 0):=by
 unfold Ea at h;split at h
 ·split at h
  ·rw[hb]at h;simp at h
  ·exact h.elim
 ·split at h
  ·rename_i j off _ t e M hst;split at h
   ·rename_i hc;simp only[aa2,aa4,Nat.ble_eq]at hc;obtain⟨⟨⟨rfl,rfl⟩,rfl⟩,hj⟩:=hc;obtain⟨_,rfl⟩:=h;have ht:∀(κ:Nat->Option Nat) (i:Nat),κ j=some i->jT κ (.lp j 0) (.lp i 0):=fun κ i hi ρ2 ρ3 N N' hv hN hk=>⟨by simp only[den,(hv j i hi).1],hN j i hi hk⟩
    rcases Fu hst with h1|⟨r',h1,h2⟩
    ·exact⟨j,r,hj,.inl rfl,h1,ht⟩
    ·exact⟨j,r',hj,.inr h1,h2,ht⟩
   ·exact h.elim
  ·exact h.elim
 ·exact h.elim
theorem Q7 {L M:List Sx.Obj} (hb:j4 L M=true) {v:V} {r:List aK} (h:Qc L M v r):xa Yz v []:=by
 unfold Qc at h;split at h
 ·split at h
  ·exact fun J K=>tt.refl _ _ _
  ·exact h.elim
 ·split at h
  ·split at h
   ·split at h
    ·split at h
     ·split at h
      ·rw[hb]at h;simp at h
      ·exact h.elim
     ·exact h.elim
    ·exact h.elim
   ·exact h.elim
  ·exact h.elim
 ·exact h.elim
theorem LA {L M:List Sx.Obj} (hb:j4 L M=false) {v:V} {r:List aK} (h:Qc L M v r):∃j,2<=j/\ay r j= .arr (some tI) 1 (.it .i64 (dM L M))/\∀(κ:Nat->Option Nat) (i:Nat),κ j=some i->jT κ v (.sa i):=by
 unfold Qc at h;split at h
 ·split at h
  ·rw[hb]at h;simp at h
  ·exact h.elim
 ·split at h
  ·rename_i hj;split at h
   ·split at h
    ·split at h
     ·split at h
      ·rename_i hc;simp only[aa2,aa4,Nat.ble_eq]at hc;obtain⟨⟨rfl,rfl⟩,hj2⟩:=hc;obtain⟨_,rfl⟩:=h;exact⟨_,hj2,hj,fun κ i hi ρ2 ρ3 N N' hv hN hk=>⟨by simp only[den,(hv _ i hi).2.1,(hv _ i hi).2.2.2.1,(hv _ i hi).2.2.2.2.1],hN _ i hi hk⟩⟩
      ·exact h.elim
     ·exact h.elim
    ·exact h.elim
   ·exact h.elim
  ·exact h.elim
 ·exact h.elim
theorem EC (L:List Sx.Obj) (hL:L.length<=1000):an Tryz.prog 33 [.lp 0 0] [.ro (.blk tS (.ag [.sa 1])),.ro (.obs eS 2 L),.gen 1] (Ea L) (fun _ _=>False):=ba (inl:=bx) (ann:=(iv [(33,5,lpB [0,2,3,14,15] (fun g=> [(16,.it .i64 g)]) 3 tS eS (lT L) (qm L) (bD (ai L)))])) (ae vq aq) (PH L hL) (by kernel_rfl)
theorem vE:kL Tryz.prog 33 Pk:=by
 intro args res K KP h;unfold Pk at h;split at h
 ·split at h
  ·split at h
   ·exact an.pure rfl rfl (Lg.mono (fun _ _ h=>dD h) fun _ _ h=>h) h
   ·exact h.elim
  ·rename_i k off;split at h
   ·rename_i hoff;have hoff:=aa4.1 hoff;subst hoff;split at h
    ·rename_i t e L hr;split at h
     ·rename_i hc;simp only[aa2,aa4]at hc;obtain⟨rfl,rfl⟩:=hc;obtain⟨hL,h1,h2⟩:=h;have hk:=dV hr (by simp)
      have hlt:=aO hk;have hres:eY (kX 0 (dB [(k,false)])) res [(k,false)]= [.ro (.store tS eS L)]:=by simp[eY,hr,gp]
      cases hb:bn L with
      |true=>
       refine an.WA (pl:= [(k,false)]) (x:=jJ) (args0:= [.lp 0 0]) (by simp[eI,cC.2 hk]) (by simpa[iD,dB,nN]using hlt) (by simp) (by simp[eJ,fS,kX,idxOf,dB]) rfl ?_ (h1 hb)
       rw[hres];exact(an.fE (k:=0) rfl (EC L hL)).mono (fun v r hv=>Mb hb hv) fun _ _ h=>h
      |false=>
       refine an.Zj (pl:= [(k,false)]) (new:= .store tS eS L) (F:=fun j=> .lp j 0) (args0:= [.lp 0 0]) (by simp[eI,cC.2 hk]) (by simpa[iD,dB,nN]using hlt) (by simp) (by simp[eJ,fS,kX,idxOf,dB]) rfl (by simp) (fun κ=>rfl) ?_ (h2 hb)
       rw[hres];refine an.fE (k:=0) rfl (an.shut (EC L hL) fun v r hv=>?_)
       obtain⟨j,r',hj,h1,h2,h3⟩:=Ja hb hv;rcases h1 with rfl|h1
       ·exact .inl ⟨j,hj,h2,h3⟩
       ·exact .inr ⟨j,r',h1,j,hj,h2,h3⟩
     ·exact h.elim
    ·exact h.elim
   ·exact h.elim
  ·exact h.elim
 ·exact h.elim
theorem Sd (L:List Sx.Obj):
 Value.slice none 0 0=Value.slice none 0 0:=by
 rfl
theorem T0 (L:List Sx.Obj):an Tryz.prog 43 [jJ,.lp 0 0] [.ro (.store tS eS L)] (oq Yz) (fun _ _=>False):=ba (inl:=bx) (ann:=aQ) (ae vq aq) (Sd L) (by kernel_rfl)
theorem SR (L M:List Sx.Obj) (hL:L.length<=1000):
 aba (bn L||bn M|| !decide (bD (ai L)=bD (ai M))) (j4 L M=true) (true=true/\true=true/\∀(r0:Loop),(∃g,qm L g/\bD (ai L)=bD (ai L)/\0=g/\L=L/\M=M/\r0=r0/\[]=iT L M g)/\∀(g:Int),qm L g->aba (decide (g<bD (ai L))) ((0<=g/\g< ↑(ai L))/\g.toNat<ai L/\g.toNat<ai L/\(0<=g/\g< ↑(ai M))/\g.toNat<ai M/\g.toNat<ai M/\aba (!CR (aj L g.toNat free) (aj M g.toNat free)) (r0=r0/\r0=r0/\sT (ai (iT L M g)) 8/\r0=r0/\abd (g+1)/\∃g',qm L g'/\(bD (ai L)-g').toNat<(bD (ai L)-g).toNat/\bD (ai L)=bD (ai L)/\g+1=g'/\L=L/\M=M/\r0=r0/\jh (iT L M g) g=iT L M g') (abd (g+1)/\∃g',qm L g'/\(bD (ai L)-g').toNat<(bD (ai L)-g).toNat/\bD (ai L)=bD (ai L)/\g+1=g'/\L=L/\M=M/\r0=r0/\iT L M g=iT L M g')) (j4 L M=false/\iT L M g=dM L M)):=by
 delta aba abd
 refine⟨fun h=>h,fun h=>⟨rfl,rfl,fun r0=>?_⟩⟩
 have hlm:L.length=M.length:=by
  have h2:((bn L||bn M)|| !decide (bD (ai L)=bD (ai M)))=false:=h
  rw[Bool.or_eq_false_iff]at h2;have h3:=h2.2;rw[ij,ij]at h3;have h4:(L.length:Int)=(M.length:Int):=by simpa using h3
  omega
 have hn:=ij L;have hle:=mz L;have hle2:=mz M;refine⟨⟨0,⟨by omega,by omega⟩,rfl,rfl,rfl,rfl,rfl,rfl⟩,fun g hg=>⟨fun hlt=>?_,fun hge=>?_⟩⟩
 obtain⟨g0,g1⟩:=hg;have hlt:g<bD (ai L):=aa6 hlt;rw[hn]at hlt⊢;have ht:=OC (L:=L) (M:=M) (g:=g);have hr:aF IntKind.i64 (g+1):=by simp only[aF,bY];omega
 exact⟨⟨g0,by omega⟩,by omega,by omega,⟨g0,by omega⟩,by omega,by omega,fun h=>⟨rfl,rfl,Il (by omega),rfl,hr,g+1,⟨by omega,by omega⟩,by omega,rfl,rfl,rfl,rfl,rfl,Oi g0 h⟩,fun h=>⟨hr,g+1,⟨by omega,by omega⟩,by omega,rfl,rfl,rfl,rfl,rfl,Sz g0 h⟩⟩
 obtain⟨g0,g1⟩:=hg;have hge:¬g<bD (ai L):=aa5 hge;rw[hn]at hge;exact⟨h,by unfold dM;rw[show g=(ai L:Int) by omega]⟩
theorem HC (L M:List Sx.Obj) (hL:L.length<=1000):an Tryz.prog 43 [.lp 0 0,.lp 1 0] [.ro (.blk tS (.ag [.sa 2])),.ro (.blk tS (.ag [.sa 4])),.ro (.obs eS 3 L),.gen 2,.ro (.obs eS 5 M),.gen 4] (Qc L M) (fun _ _=>False):=ba (inl:=(fun f=>f==43||f==66)) (ann:=(iv [(6000+103,1,lpV [0,1,2,6] (fun g=> [(7,.it .i64 g)]) 6 103 tI 1 (fun g=> .it .i64 (iT L M g)) (qm L) (bD (ai L)))])) (ae vq aq) (SR L M hL) (by kernel_rfl)
theorem Gx:kL Tryz.prog 43 Vl:=by
 intro args res K KP h;unfold Vl at h;split at h
 ·rename_i a b;split at h
  ·rename_i j off;split at h
   ·rename_i hoff;have hoff:=aa4.1 hoff;subst hoff;split at h
    ·rename_i t e M hr;split at h
     ·rename_i hc;simp only[aa2,aa4]at hc;obtain⟨rfl,rfl⟩:=hc;have hj:=dV hr (by simp)
      have hjl:=aO hj;split at h
      ·split at h
       ·have hres:eY (kX 0 (dB [(j,false)])) res [(j,false)]= [.ro (.store tS eS M)]:=by simp[eY,hr,gp]
        refine an.WA (pl:= [(j,false)]) (x:=Yz) (args0:= [jJ,.lp 0 0]) (by simp[eI,cC.2 hj]) (by simpa[iD,dB,nN]using hjl) (by simp) (by simp[eJ,fS,kX,idxOf,dB,jJ]) rfl ?_ h
        rw[hres];exact(T0 M).mono (fun _ _ h=>dD h) fun _ _ h=>h
       ·exact h.elim
      ·rename_i k off';split at h
       ·rename_i hoff;simp only[aa2,aa4,Bool.not_eq_true',beq_eq_false_iff_ne]at hoff;obtain⟨rfl,hkj⟩:=hoff;split at h
        ·rename_i t' e' L hrk;split at h
         ·rename_i hc;simp only[aa2,aa4]at hc;obtain⟨rfl,rfl⟩:=hc;obtain⟨hL,h1,h2⟩:=h;have hk:=dV hrk (by simp)
          have hkl:=aO hk;have hres:eY (kX 0 (dB [(k,false),(j,false)])) res [(k,false),(j,false)]= [.ro (.store tS eS L),.ro (.store tS eS M)]:=by simp[eY,hr,hrk,gp]
          have hargs:eJ (kX 0 (dB [(k,false),(j,false)])) [.lp k 0,.lp j 0]=some [.lp 0 0,.lp 1 0]:=by
           simp[eJ,fS,kX,idxOf,dB,hkj]
          have hka:eI res [(k,false),(j,false)]=true:=by simp[eI,cC.2 hk,cC.2 hj]
          have hoe:iD 0 res.length (dB [(k,false),(j,false)])=true:=by simpa[iD,dB,nN]using⟨⟨hkl,Ne.symm hkj⟩,hjl⟩
          cases hb:j4 L M with
          |true=>
           refine an.WA (x:=Yz) hka hoe (by simp) hargs rfl ?_ (h1 hb)
           rw[hres];exact(an.fE (k:=0) rfl (an.fE (k:=1) rfl (HC L M hL))).mono (fun v r hv=>Q7 hb hv) fun _ _ h=>h
          |false=>
           refine an.Zj (new:= .arr (some tI) 1 (.it .i64 (dM L M))) (F:=fun j=> .sa j) hka hoe (by simp) hargs rfl (by simp) (fun κ=>rfl) ?_ (h2 hb)
           rw[hres];exact(an.fE (k:=0) rfl (an.fE (k:=1) rfl (HC L M hL))).mono (fun v r hv=>LA hb hv) fun _ _ h=>h
         ·exact h.elim
        ·exact h.elim
       ·exact h.elim
      ·exact h.elim
     ·exact h.elim
    ·exact h.elim
   ·exact h.elim
  ·exact h.elim
 ·exact h.elim
abbrev abq(k:Key):=!(decide ((abp [] k 0).kind=1)&&decide ((abp [] k 1).kind=1)&&decide (0<=(abp [] k 0).value)&&decide ((abp [] k 0).value<=(abp [] k 1).value)&&decide ((abp [] k 1).value<ak []))
theorem FN (k:Key) (n:Int):
 abb (abb (aba (!decide (0<ak [])) (void=cc [] k n/\1=bZ [] k n) (abb (aba (!(aU [] k&&decide (k.kind=4))) (void=cc [] k n/\190=bZ [] k n) (abb (aba (abq k) (void=cc [] k n/\220=bZ [] k n) ((decide (1<=n)=true->aF IntKind.i64 ((abp [] k 1).value-(abp [] k 0).value))/\abb (aba (!(decide (1<=n)&&decide (n<=(abp [] k 1).value-(abp [] k 0).value))) (void=cc [] k n/\4=bZ [] k n) (abb (abb (abb (aba (!decide (0<ak [])) (void=cc [] k n/\1=bZ [] k n) (abb (aba (!(aU [] k&&decide (k.kind=4))) (void=cc [] k n/\190=bZ [] k n) (abb (aba (abq k) (void=cc [] k n/\220=bZ [] k n) (abb (abb (abb (∀(r0:Loop),False)))))))))))))))))))):=by
 delta aba abp abq abb
 exact⟨rfl,rfl,fun h=>(pK (vm (ID h) (by omega)) (by omega)).1,fun h=>absurd h (by decide)⟩
theorem Gp (k:Key) (n:Int):
 abb (abb (aba (!decide (0<ak [])) (void=cc [] k n/\1=bZ [] k n) (abb (aba (!(aU [] k&&decide (k.kind=4))) (void=cc [] k n/\190=bZ [] k n) (abb (aba (!(decide ((abp [] k 0).kind=1)&&decide ((abp [] k 1).kind=1)&&decide (0<=(abp [] k 0).value)&&decide ((abp [] k 0).value<=(abp [] k 1).value)&&decide ((abp [] k 1).value<ak []))) (void=cc [] k n/\220=bZ [] k n) ((decide (1<=n)=true->aF IntKind.i64 ((abp [] k 1).value-(abp [] k 0).value))/\abb (aba (!(decide (1<=n)&&decide (n<=(abp [] k 1).value-(abp [] k 0).value))) (void=cc [] k n/\4=bZ [] k n) (abb False))))))))):=by
 delta aba abp abb
 exact⟨rfl,rfl,fun h=>(pK (vm (ID h) (by omega)) (by omega)).1,fun h=>absurd h (by decide)⟩
abbrev abr(L:List Sx.Obj)(k:Key)(g:Int):=(fg L k g).count+1
abbrev abt(L:List Sx.Obj)(k:Key):=!(decide ((abp L k 0).kind=1)&&decide ((abp L k 1).kind=1)&&decide (0<=(abp L k 0).value)&&decide ((abp L k 0).value<=(abp L k 1).value)&&decide ((abp L k 1).value<ak L))
abbrev abu(g:Int):=(aL [] g).count+1
abbrev abv(g:Int)(L:List Sx.Obj)(k:Key)(n:Int)(g_2:Int):=(Key.mk 4 g (abr L k g) (dg 1 g (abr L k g)).call (dg 1 g (abr L k g)).rights (dg 1 g (abr L k g)).value=cc L k n/\0=bZ L k n)/\mS L (bF L k n) g_2=bF L k n
abbrev abw(L:List Sx.Obj)(k:Key)(n:Int):=void=cc L k n/\221=bZ L k n
abbrev abx(L:List Sx.Obj)(k:Key)(n:Int):=(abp L k 1).value-n
theorem I5 (L:List Sx.Obj) (k:Key) (n:Int) (hL:ar L):
 abb (abb (aba (!decide (0<ak L)) ((void=cc L k n/\1=bZ L k n)/\L=bF L k n) (abb (aba (!(aU L k&&decide (k.kind=4))) ((void=cc L k n/\190=bZ L k n)/\L=bF L k n) (abb (aba (abt L k) ((void=cc L k n/\220=bZ L k n)/\L=bF L k n) ((decide (1<=n)=true->abd ((abp L k 1).value-(abp L k 0).value))/\abb (aba (!(decide (1<=n)&&decide (n<=(abp L k 1).value-(abp L k 0).value))) ((void=cc L k n/\4=bZ L k n)/\L=bF L k n) (abb ((ai L).le 1000/\aba (bn L) (abb (abb (aba (!decide (0<ak [])) ((void=cc L k n/\1=bZ L k n)/\L=bF L k n) (abb (aba (!(aU [] k&&decide (k.kind=4))) ((void=cc L k n/\190=bZ L k n)/\L=bF L k n) (abb (aba (!(decide ((abp [] k 0).kind=1)&&decide ((abp [] k 1).kind=1)&&decide (0<=(abp [] k 0).value)&&decide ((abp [] k 0).value<=(abp [] k 1).value)&&decide ((abp [] k 1).value<ak []))) ((void=cc L k n/\220=bZ L k n)/\L=bF L k n) (abb (abb (abb (∀(r0:Loop),(∃g,jA L k g/\False)/\∀(g:Int),jA L k g->aba (decide (g<=(abp [] k 1).value)) (r0=r0/\r0=r0/\aba (!decide ((aL [] g).kind=0)) (r0=r0/\abd (g+1)/\∃g',jA L k g'/\(aI L k+1-g').toNat<(aI L k+1 -g).toNat/\g+1=g'/\L=L/\k=k/\n=n/\void=void/\k=k/\aa L k=aa L k/\k.oid=k.oid/\(abp L k 0).value=(abp L k 0).value/\(abp L k 1).value=(abp L k 1).value/\aa L k=aa L k/\abp L k 0=abp L k 0/\abp L k 1=abp L k 1/\aa L k=aa L k/\k.oid=k.oid/\(abp L k 0).value=(abp L k 0).value/\(abp L k 1).value=(abp L k 1).value/\bM L (az L k) g=bM L (az L k) g'/\aa [] k=aa [] k/\Value.pointer none=Value.pointer none/\k.oid=k.oid/\(abp [] k 0).value=(abp [] k 0).value/\(abp [] k 1).value=(abp [] k 1).value/\aa [] k=aa [] k/\abp [] k 0=abp [] k 0/\abp [] k 1=abp [] k 1/\aa [] k=aa [] k/\Value.pointer none=Value.pointer none/\k.oid=k.oid/\(abp [] k 0).value=(abp [] k 0).value/\(abp [] k 1).value=(abp [] k 1).value/\aa [] k=aa [] k/\Value.pointer none=Value.pointer none/\k.oid=k.oid/\(abp [] k 0).value=(abp [] k 0).value/\(abp [] k 1).value=(abp [] k 1).value/\void=void/\false=false/\aa [] k=aa [] k/\Value.pointer none=Value.pointer none/\k.oid=k.oid/\(abp [] k 0).value=(abp [] k 0).value/\(abp [] k 1).value=(abp [] k 1).value/\r0=r0) (aba (decide ((aL [] g).count=4294967295)) (abb (r0=r0/\abd (g+1)/\∃g',jA L k g'/\(aI L k+1-g').toNat<(aI L k+1-g).toNat/\g+1=g'/\L=L/\k=k/\n=n/\void=void/\k=k/\aa L k=aa L k/\k.oid=k.oid/\(abp L k 0).value=(abp L k 0).value/\(abp L k 1).value=(abp L k 1).value/\aa L k=aa L k/\abp L k 0=abp L k 0/\abp L k 1=abp L k 1/\aa L k=aa L k/\k.oid=k.oid/\(abp L k 0).value=(abp L k 0).value/\(abp L k 1).value=(abp L k 1).value/\bM L (az L k) g=bM L (az L k) g'/\aa [] k=aa [] k/\Value.pointer none=Value.pointer none/\k.oid=k.oid/\(abp [] k 0).value=(abp [] k 0).value/\(abp [] k 1).value=(abp [] k 1).value/\aa [] k=aa [] k/\abp [] k 0=abp [] k 0/\abp [] k 1=abp [] k 1/\aa [] k=aa [] k/\Value.pointer none=Value.pointer none/\k.oid=k.oid/\(abp [] k 0).value=(abp [] k 0).value/\(abp [] k 1).value=(abp [] k 1).value/\aa [] k=aa [] k/\Value.pointer none=Value.pointer none/\k.oid=k.oid/\(abp [] k 0).value=(abp [] k 0).value/\(abp [] k 1).value=(abp [] k 1).value/\void=void/\false=false/\aa [] k=aa [] k/\Value.pointer none=Value.pointer none/\k.oid=k.oid/\(abp [] k 0).value=(abp [] k 0).value/\(abp [] k 1).value=(abp [] k 1).value/\r0=r0)) (abd (abu g)/\abb (abd (abu g)/\r0=r0/\abd ((abp [] k 1).value-n)/\abb (aba (!decide ((dg 1 g (abu g)).oid<=(abp [] k 1).value-n)) ((abw L k n)/\L=bF L k n) (abb (abb (∀(r0:Loop),(∃g_1,qk L k n g_1/\(abp [] k 0).value=g_1/\L=L/\k=k/\n=n/\void=void/\k=k/\aa L k=aa L k/\k.oid=k.oid/\(abp L k 0).value=(abp L k 0).value/\(abp L k 1).value=(abp L k 1).value/\aa L k=aa L k/\abp L k 0=abp L k 0/\abp L k 1=abp L k 1/\aa L k=aa L k/\k.oid=k.oid/\(abp L k 0).value=(abp L k 0).value/\(abp L k 1).value=(abp L k 1).value/\bM L (az L k) g=bM L (az L k) g/\aa [] k=aa [] k/\Value.pointer none=Value.pointer none/\k.oid=k.oid/\(abp [] k 0).value=(abp [] k 0).value/\(abp [] k 1).value=(abp [] k 1).value/\aa [] k=aa [] k/\abp [] k 0=abp [] k 0/\abp [] k 1=abp [] k 1/\aa [] k=aa [] k/\Value.pointer none=Value.pointer none/\k.oid=k.oid/\(abp [] k 0).value=(abp [] k 0).value/\(abp [] k 1).value=(abp [] k 1).value/\aa [] k=aa [] k/\Value.pointer none=Value.pointer none/\k.oid=k.oid/\(abp [] k 0).value=(abp [] k 0).value/\(abp [] k 1).value=(abp [] k 1).value/\dg 1 g (abu g)=dg 1 g (abu g)/\abb (aa [] k=aa [] k/\Value.pointer none=Value.pointer none/\k.oid=k.oid/\(abp [] k 0).value=(abp [] k 0).value/\(abp [] k 1).value=(abp [] k 1).value/\aL [] g=aL [] g/\aL [] g=aL [] g/\dg 1 g (abu g)=dg 1 g (abu g)/\aa [] k=aa [] k/\Value.pointer none=Value.pointer none/\k.oid=k.oid/\(abp [] k 0).value=(abp [] k 0).value/\(abp [] k 1).value=(abp [] k 1).value/\r0=r0))/\∀(g_1:Int),qk L k n g_1->aba (decide (g_1<=(abp [] k 1).value)) (r0=r0/\r0=r0/\abd ((abp [] k 1).value-n)/\abb (aba (!(decide (g_1<=(abp [] k 1).value-n)||decide ((aL [] g_1).kind=0)||decide ((aL [] g_1).kind=3))) (r0=r0/\(abw L k n)/\L=bF L k n) (r0=r0/\abd (g_1+1)/\∃g',qk L k n g'/\(aI L k+1-g').toNat<(aI L k+1- g_1).toNat/\g_1+1=g'/\L=L/\k=k/\n=n/\void=void/\k=k/\aa L k=aa L k/\k.oid=k.oid/\(abp L k 0).value=(abp L k 0).value/\(abp L k 1).value=(abp L k 1).value/\aa L k=aa L k/\abp L k 0=abp L k 0/\abp L k 1=abp L k 1/\aa L k=aa L k/\k.oid=k.oid/\(abp L k 0).value=(abp L k 0).value/\(abp L k 1).value=(abp L k 1).value/\bM L (az L k) g=bM L (az L k) g/\aa [] k=aa [] k/\Value.pointer none=Value.pointer none/\k.oid=k.oid/\(abp [] k 0).value=(abp [] k 0).value/\(abp [] k 1).value=(abp [] k 1).value/\aa [] k=aa [] k/\abp [] k 0=abp [] k 0/\abp [] k 1=abp [] k 1/\aa [] k=aa [] k/\Value.pointer none=Value.pointer none/\k.oid=k.oid/\(abp [] k 0).value=(abp [] k 0).value/\(abp [] k 1).value=(abp [] k 1).value/\aa [] k=aa [] k/\Value.pointer none=Value.pointer none/\k.oid=k.oid/\(abp [] k 0).value=(abp [] k 0).value/\(abp [] k 1).value=(abp [] k 1).value/\dg 1 g (abu g)=dg 1 g (abu g)/\abb (aa [] k=aa [] k/\Value.pointer none=Value.pointer none/\k.oid=k.oid/\(abp [] k 0).value=(abp [] k 0).value/\(abp [] k 1).value=(abp [] k 1).value/\aL [] g=aL [] g/\aL [] g=aL [] g/\dg 1 g (abu g)=dg 1 g (abu g)/\aa [] k=aa [] k/\Value.pointer none=Value.pointer none/\k.oid=k.oid/\(abp [] k 0).value=(abp [] k 0).value/\(abp [] k 1).value=(abp [] k 1).value/\r0=r0)))) (abb (abb (abd ((abp [] k 1).value-n)/\abd ((abp [] k 1).value-n+1)/\abb (abb (abb (abb (abb (abd ((abp [] k 1).value-n)/\abb (abb (abb False)))))))))))))))))) (abb ((abw L k n)/\L=bF L k n))))))))))))) (abb (abb (aba (!decide (0<ak L)) ((void=cc L k n/\1=bZ L k n)/\L=bF L k n) (abb (aba (!(aU L k&&decide (k.kind=4))) ((void=cc L k n/\190=bZ L k n)/\L=bF L k n) (abb (aba (abt L k) ((void=cc L k n/\220=bZ L k n)/\L=bF L k n) (abb (abb (abb (∀(r0:Loop),(∃g,jA L k g/\(abp L k 0).value=g/\L=L/\k=k/\n=n/\void=void/\k=k/\aa L k=aa L k/\k.oid=k.oid/\(abp L k 0).value=(abp L k 0).value/\(abp L k 1).value=(abp L k 1).value/\aa L k=aa L k/\abp L k 0=abp L k 0/\abp L k 1=abp L k 1/\aa L k=aa L k/\k.oid=k.oid/\(abp L k 0).value=(abp L k 0).value/\(abp L k 1).value=(abp L k 1).value/\L=bM L (az L k) g/\k=k/\aa L k=aa L k/\k.oid=k.oid/\(abp L k 0).value=(abp L k 0).value/\(abp L k 1).value=(abp L k 1).value/\aa L k=aa L k/\abp L k 0=abp L k 0/\abp L k 1=abp L k 1/\aa L k=aa L k/\k.oid=k.oid/\(abp L k 0).value=(abp L k 0).value/\(abp L k 1).value=(abp L k 1).value/\aa L k=aa L k/\k.oid=k.oid/\(abp L k 0).value=(abp L k 0).value/\(abp L k 1).value=(abp L k 1).value/\void=void/\false=false/\aa L k=aa L k/\k.oid=k.oid/\(abp L k 0).value=(abp L k 0).value/\(abp L k 1).value=(abp L k 1).value/\r0=r0)/\∀(g:Int),jA L k g->aba (decide (g<=(abp L k 1).value)) (r0=r0/\r0=r0/\aba (!decide ((fg L k g).kind=0)) (r0=r0/\abd (g+1)/\∃g',jA L k g'/\(aI L k+1-g').toNat<(aI L k+1-g).toNat/\g+1=g'/\L=L/\k=k/\n=n/\void=void/\k=k/\aa L k=aa L k/\k.oid=k.oid/\(abp L k 0).value=(abp L k 0).value/\(abp L k 1).value=(abp L k 1).value/\aa L k=aa L k/\abp L k 0=abp L k 0/\abp L k 1=abp L k 1/\aa L k=aa L k/\k.oid=k.oid/\(abp L k 0).value=(abp L k 0).value/\(abp L k 1).value=(abp L k 1).value/\bM L (az L k) g=bM L (az L k) g'/\k=k/\aa L k=aa L k/\k.oid=k.oid/\(abp L k 0).value=(abp L k 0).value/\(abp L k 1).value=(abp L k 1).value/\aa L k=aa L k/\abp L k 0=abp L k 0/\abp L k 1=abp L k 1/\aa L k=aa L k/\k.oid=k.oid/\(abp L k 0).value=(abp L k 0).value/\(abp L k 1).value=(abp L k 1).value/\aa L k=aa L k/\k.oid=k.oid/\(abp L k 0).value=(abp L k 0).value/\(abp L k 1).value=(abp L k 1).value/\void=void/\false=false/\aa L k=aa L k/\k.oid=k.oid/\(abp L k 0).value=(abp L k 0).value/\(abp L k 1).value=(abp L k 1).value/\r0=r0) (aba (decide ((fg L k g).count=4294967295)) (abb (r0=r0/\abd (g+1)/\∃g',jA L k g'/\(aI L k+1-g').toNat<(aI L k+1-g).toNat/\g+1=g'/\L=L/\k=k/\n=n/\void=void/\k=k/\aa L k=aa L k/\k.oid=k.oid/\(abp L k 0).value=(abp L k 0).value/\(abp L k 1).value=(abp L k 1).value/\aa L k=aa L k/\abp L k 0=abp L k 0/\abp L k 1=abp L k 1/\aa L k=aa L k/\k.oid=k.oid/\(abp L k 0).value=(abp L k 0).value/\(abp L k 1).value=(abp L k 1).value/\cN (bM L (az L k) g) g (Obj.mk 3 (fg L k g).count free.calls free.slots free.bytes)=bM L (az L k) g'/\k=k/\aa L k=aa L k/\k.oid=k.oid/\(abp L k 0).value=(abp L k 0).value/\(abp L k 1).value=(abp L k 1).value/\aa L k=aa L k/\abp L k 0=abp L k 0/\abp L k 1=abp L k 1/\aa L k=aa L k/\k.oid=k.oid/\(abp L k 0).value=(abp L k 0).value/\(abp L k 1).value=(abp L k 1).value/\aa L k=aa L k/\k.oid=k.oid/\(abp L k 0).value=(abp L k 0).value/\(abp L k 1).value=(abp L k 1).value/\void=void/\false=false/\aa L k=aa L k/\k.oid=k.oid/\(abp L k 0).value=(abp L k 0).value/\(abp L k 1).value=(abp L k 1).value/\r0=r0)) (abd (abr L k g)/\abb (abd (abr L k g)/\r0=r0/\abd (abx L k n)/\abb (aba (!decide (g<=(abp L k 1).value-n)) ((abw L k n)/\L=bF L k n) (abb (abb (∀(r0:Loop),(∃g_1,qk L k n g_1/\(abp L k 0).value=g_1/\L=L/\k=k/\n=n/\void=void/\k=k/\aa L k=aa L k/\k.oid=k.oid/\(abp L k 0).value=(abp L k 0).value/\(abp L k 1).value=(abp L k 1).value/\aa L k=aa L k/\abp L k 0=abp L k 0/\abp L k 1=abp L k 1/\aa L k=aa L k/\k.oid=k.oid/\(abp L k 0).value=(abp L k 0).value/\(abp L k 1).value=(abp L k 1).value/\qA L k g=qA L k g/\k=k/\aa L k=aa L k/\k.oid=k.oid/\(abp L k 0).value=(abp L k 0).value/\(abp L k 1).value=(abp L k 1).value/\aa L k=aa L k/\abp L k 0=abp L k 0/\abp L k 1=abp L k 1/\aa L k=aa L k/\k.oid=k.oid/\(abp L k 0).value=(abp L k 0).value/\(abp L k 1).value=(abp L k 1).value/\aa L k=aa L k/\k.oid=k.oid/\(abp L k 0).value=(abp L k 0).value/\(abp L k 1).value=(abp L k 1).value/\dg 1 g (abr L k g)=dg 1 g (abr L k g)/\abb (aa L k=aa L k/\k.oid=k.oid/\(abp L k 0).value=(abp L k 0).value/\(abp L k 1).value=(abp L k 1).value/\fg L k g=fg L k g/\fg L k g=fg L k g/\dg 1 g (abr L k g)=dg 1 g (abr L k g)/\aa L k=aa L k/\k.oid=k.oid/\(abp L k 0).value=(abp L k 0).value/\(abp L k 1).value=(abp L k 1).value/\r0=r0))/\∀(g_1:Int),qk L k n g_1->aba (decide (g_1<=(abp L k 1).value)) (r0=r0/\r0=r0/\abd (abx L k n)/\abb (aba (!(decide (g_1<=(abp L k 1).value-n)||decide ((aL (qA L k g) g_1).kind=0)||decide ((aL (qA L k g) g_1).kind=3))) (r0=r0/\(abw L k n)/\L=bF L k n) (r0=r0/\abd (g_1+1)/\∃g',qk L k n g'/\(aI L k+1-g').toNat<(aI L k+1-g_1).toNat/\g_1+1=g'/\L=L/\k=k/\n=n/\void=void/\k=k/\aa L k=aa L k/\k.oid=k.oid/\(abp L k 0).value=(abp L k 0).value/\(abp L k 1).value=(abp L k 1).value/\aa L k=aa L k/\abp L k 0=abp L k 0/\abp L k 1=abp L k 1/\aa L k=aa L k/\k.oid=k.oid/\(abp L k 0).value=(abp L k 0).value/\(abp L k 1).value=(abp L k 1).value/\qA L k g=qA L k g/\k=k/\aa L k=aa L k/\k.oid=k.oid/\(abp L k 0).value=(abp L k 0).value/\(abp L k 1).value=(abp L k 1).value/\aa L k=aa L k/\abp L k 0=abp L k 0/\abp L k 1=abp L k 1/\aa L k=aa L k/\k.oid=k.oid/\(abp L k 0).value=(abp L k 0).value/\(abp L k 1).value=(abp L k 1).value/\aa L k=aa L k/\k.oid=k.oid/\(abp L k 0).value=(abp L k 0).value/\(abp L k 1).value=(abp L k 1).value/\dg 1 g (abr L k g)=dg 1 g (abr L k g)/\abb (aa L k=aa L k/\k.oid=k.oid/\(abp L k 0).value=(abp L k 0).value/\(abp L k 1).value=(abp L k 1).value/\fg L k g=fg L k g/\fg L k g=fg L k g/\dg 1 g (abr L k g)=dg 1 g (abr L k g)/\aa L k=aa L k/\k.oid=k.oid/\(abp L k 0).value=(abp L k 0).value/\(abp L k 1).value=(abp L k 1).value/\r0=r0)))) (abb (abb (abd (abx L k n)/\abd ((abp L k 1).value-n+1)/\abb (abb (abb (abb (abb (abd (abx L k n)/\abb (abb (abb ((ai L).le 1000/\aba (j4 L (mK L k n g)) ((∃g_2,sH L (bF L k n) g_2/\Value.slice none 0 0=Value.slice none 0 0/\0=g_2/\L=mS L (bF L k n) g_2/\k=k/\n=n/\void=void/\k=k/\aa L k=aa L k/\k.oid=k.oid/\(abp L k 0).value=(abp L k 0).value/\(abp L k 1).value=(abp L k 1).value/\aa L k=aa L k/\abp L k 0=abp L k 0/\abp L k 1=abp L k 1/\aa L k=aa L k/\k.oid=k.oid/\(abp L k 0).value=(abp L k 0).value/\(abp L k 1).value=(abp L k 1).value/\mK L k n g=mK L k n g/\k=k/\aa L k=aa L k/\k.oid=k.oid/\(abp L k 0).value=(abp L k 0).value/\(abp L k 1).value=(abp L k 1).value/\aa L k=aa L k/\abp L k 0=abp L k 0/\abp L k 1=abp L k 1/\aa L k=aa L k/\k.oid=k.oid/\(abp L k 0).value=(abp L k 0).value/\(abp L k 1).value=(abp L k 1).value/\aa L k=aa L k/\k.oid=k.oid/\(abp L k 0).value=(abp L k 0).value/\(abp L k 1).value=(abp L k 1).value/\dg 1 g (abr L k g)=dg 1 g (abr L k g)/\abb (aa L k=aa L k/\k.oid=k.oid/\(abp L k 0).value=(abp L k 0).value/\(abp L k 1).value=(abp L k 1).value/\fg L k g=fg L k g/\fg L k g=fg L k g/\dg 1 g (abr L k g)=dg 1 g (abr L k g)/\aa L k=aa L k/\k.oid=k.oid/\(abp L k 0).value=(abp L k 0).value/\(abp L k 1).value=(abp L k 1).value/\Ds L k n g=Ds L k n g/\oI ((abp L k 1).value-n+1)=oI ((abp L k 1).value-n+1)/\oI (abp L k 1).value=oI (abp L k 1).value/\CB L k n g=CB L k n g/\oI (abx L k n)=oI (abx L k n)))/\∀(g_2:Int),sH L (bF L k n) g_2->aba (decide (g_2<0)) False (abv g L k n g_2)) ((∃g_2,sH L (bF L k n) g_2/\bD (ai (dM L (mK L k n g)))=bD (ai (dM L (mK L k n g)))/\0=g_2/\L=mS L (bF L k n) g_2/\k=k/\n=n/\void=void/\k=k/\aa L k=aa L k/\k.oid=k.oid/\(abp L k 0).value=(abp L k 0).value/\(abp L k 1).value=(abp L k 1).value/\aa L k=aa L k/\abp L k 0=abp L k 0/\abp L k 1=abp L k 1/\aa L k=aa L k/\k.oid=k.oid/\(abp L k 0).value=(abp L k 0).value/\(abp L k 1).value=(abp L k 1).value/\mK L k n g=mK L k n g/\k=k/\aa L k=aa L k/\k.oid=k.oid/\(abp L k 0).value=(abp L k 0).value/\(abp L k 1).value=(abp L k 1).value/\aa L k=aa L k/\abp L k 0=abp L k 0/\abp L k 1=abp L k 1/\aa L k=aa L k/\k.oid=k.oid/\(abp L k 0).value=(abp L k 0).value/\(abp L k 1).value=(abp L k 1).value/\aa L k=aa L k/\k.oid=k.oid/\(abp L k 0).value=(abp L k 0).value/\(abp L k 1).value=(abp L k 1).value/\dg 1 g (abr L k g)=dg 1 g (abr L k g)/\abb (aa L k=aa L k/\k.oid=k.oid/\(abp L k 0).value=(abp L k 0).value/\(abp L k 1).value=(abp L k 1).value/\fg L k g=fg L k g/\fg L k g=fg L k g/\dg 1 g (abr L k g)=dg 1 g (abr L k g)/\aa L k=aa L k/\k.oid=k.oid/\(abp L k 0).value=(abp L k 0).value/\(abp L k 1).value=(abp L k 1).value/\Ds L k n g=Ds L k n g/\oI ((abp L k 1).value-n+1)=oI ((abp L k 1).value-n+1)/\oI (abp L k 1).value=oI (abp L k 1).value/\CB L k n g=CB L k n g/\oI (abx L k n)=oI (abx L k n)/\dM L (mK L k n g)=dM L (mK L k n g)))/\∀(g_2:Int),sH L (bF L k n) g_2->aba (decide (g_2<bD (ai (dM L (mK L k n g))))) ((0<=g_2/\g_2< ↑(ai (dM L (mK L k n g))))/\g_2.toNat<ai (dM L (mK L k n g))/\abb (abd (g_2+1)/\∃g',sH L (bF L k n) g'/\(bD (ai (dM L (bF L k n)))-g').toNat<(bD (ai (dM L (bF L k n)))-g_2).toNat/\bD (ai (dM L (mK L k n g)))=bD (ai (dM L (mK L k n g)))/\g_2+1=g'/\cN (mS L (bF L k n) g_2) (aj (dM L (mK L k n g)) g_2.toNat 0) (aL (mK L k n g) (aj (dM L (mK L k n g)) g_2.toNat 0))=mS L (bF L k n) g'/\k=k/\n=n/\void=void/\k=k/\aa L k=aa L k/\k.oid=k.oid/\(abp L k 0).value=(abp L k 0).value/\(abp L k 1).value=(abp L k 1).value/\aa L k=aa L k/\abp L k 0=abp L k 0/\abp L k 1=abp L k 1/\aa L k=aa L k/\k.oid=k.oid/\(abp L k 0).value=(abp L k 0).value/\(abp L k 1).value=(abp L k 1).value/\mK L k n g=mK L k n g/\k=k/\aa L k=aa L k/\k.oid=k.oid/\(abp L k 0).value=(abp L k 0).value/\(abp L k 1).value=(abp L k 1).value/\aa L k=aa L k/\abp L k 0=abp L k 0/\abp L k 1=abp L k 1/\aa L k=aa L k/\k.oid=k.oid/\(abp L k 0).value=(abp L k 0).value/\(abp L k 1).value=(abp L k 1).value/\aa L k=aa L k/\k.oid=k.oid/\(abp L k 0).value=(abp L k 0).value/\(abp L k 1).value=(abp L k 1).value/\dg 1 g (abr L k g)=dg 1 g (abr L k g)/\abb (aa L k=aa L k/\k.oid=k.oid/\(abp L k 0).value=(abp L k 0).value/\(abp L k 1).value=(abp L k 1).value/\fg L k g=fg L k g/\fg L k g=fg L k g/\dg 1 g (abr L k g)=dg 1 g (abr L k g)/\aa L k=aa L k/\k.oid=k.oid/\(abp L k 0).value=(abp L k 0).value/\(abp L k 1).value=(abp L k 1).value/\Ds L k n g=Ds L k n g/\oI ((abp L k 1).value-n+1)=oI ((abp L k 1).value-n+1)/\oI (abp L k 1).value=oI (abp L k 1).value/\CB L k n g=CB L k n g/\oI (abx L k n)=oI (abx L k n)/\dM L (mK L k n g)=dM L (mK L k n g)))) (abv g L k n g_2))))))))))))))))))))) (abb ((abw L k n)/\L=bF L k n))))))))))))))))))))))):=by
 delta aba abp abx abw abv abu abt abr abd abb
 refine⟨rfl,rfl,fun h=>pK (vm (ID h) (by omega)) (by omega),fun h=>⟨rfl,fun h2=>pK (vm (Y2 h h2) (by omega)) (by omega),fun h2=>⟨rfl,fun h3=>pK (vm (Zp h h2 h3) (by omega)) (by omega),fun h3=>?_⟩⟩⟩
 obtain⟨e,e1,e2⟩:=TG h h2 h3;obtain⟨_,a0,a1,a2,a3,a4⟩:=mI e;have hkd:=A0 (nu h2).1 (nu h2).2;have hlen:=gA hL;have hll:ai L=L.length:=rfl;have h3':=h3;rw[e1,e2]at h3';rw[e1,e2];have hr:∀x:Int,-1000<=x->x<=1000->aF IntKind.i64 x:=fun x h1 h2=>by simp only[aF,bY];omega
 refine⟨fun _=>hr _ (by omega) (by omega),rfl,fun h4=>pK (AF e (by simp only[Bool.not_eq_true',Bool.and_eq_false_iff,decide_eq_false_iff_not]at h4;omega)) (by omega),fun h4=>⟨rfl,(show L.length<=1000 by omega),fun hn=>?_,fun _=>⟨rfl,rfl,fun h'=>?_,fun _=>⟨rfl,fun h'=>?_,fun _=>⟨rfl,fun h'=>?_,fun _=>⟨rfl,rfl,rfl,fun r0=>?_⟩⟩⟩⟩⟩⟩
 ·exfalso
  have:=aa6 hn;omega
 ·rw[h]at h';exact absurd h' (by decide)
 ·rw[h2]at h';exact absurd h' (by decide)
 ·rw[h3']at h';exact absurd h' (by decide)
 simp only[Bool.not_eq_false',aa2,aa3]at h4;obtain⟨hn1,hn2⟩:=h4;have h0:=HL e hn1 hn2;have hcnt:∀j:Nat,j<L.length->0<=(aj L j free).count/\(aj L j free).count<=4294967295:=fun j hj=>⟨(j3 (dq hL j hj)).1,(j3 (dq hL j hj)).2.1⟩
 have hci:∀j:Nat,j<L.length->aF IntKind.i64 ((aj L j free).count+1):=fun j hj=>by have:=hcnt j hj;simp only[aF,bY];omega
 refine⟨⟨az L k,⟨by omega,by omega,ui⟩,rfl,?_⟩,fun g hg=>⟨fun hgl=>?_,fun hgl=>?_⟩⟩
 ·have hx:L=bM L (az L k) (az L k):=DA;(repeat' apply And.intro)<;>first|with_reducible rfl|exact hx
 ·obtain⟨g0,g1,g2⟩:=hg;have hgl:=aa6 hgl;have hgn:g.toNat<L.length:=by omega
  have hgz:(bM L (az L k) g).length=L.length:=kH;have hO:fg L k g=aj L g.toNat free:=by unfold fg;rw[fF (by omega) (by omega),Cp (by omega)]
  refine⟨rfl,rfl,fun hk0=>?_,fun hk0=>⟨fun hc=>?_,fun hc=>?_⟩⟩
  ·obtain⟨f1,f2⟩:=yq (o:=aj L g.toNat free) (by rw[<-hO];simpa using hk0)
   have hx:bM L (az L k) g=bM L (az L k) (g+1):=(Ag (by omega) f1).symm
   refine⟨rfl,hr _ (by omega) (by omega),g+1,⟨by omega,by omega,jX g2 f2⟩,by omega,rfl,?_⟩
   (repeat' apply And.intro)<;>first|with_reducible rfl|exact hx
  ·rw[hO]at hk0 hc;obtain⟨f1,f2⟩:=CE (o:=aj L g.toNat free) (by simpa using hk0) (by have:=aa6 hc;omega)
   have hp:=(lY (L:=bM L (az L k) g) (i:=g) (by omega) (by omega) (hgz▸CG (dq hL g.toNat hgn))).1
   have hx:cN (bM L (az L k) g) g (Obj.mk 3 (fg L k g).count free.calls free.slots free.bytes)=bM L (az L k) (g+1):=by rw[hO];exact hp.trans (yr (by omega) (by omega) g0 f1)
   refine⟨rfl,rfl,hr _ (by omega) (by omega),g+1,⟨by omega,by omega,jX g2 f2⟩,by omega,rfl,?_⟩
   (repeat' apply And.intro)<;>first|with_reducible rfl|exact hx
  ·rw[hO]at hk0 hc;have hc:=aa5 hc;have:=hcnt _ hgn;obtain⟨f1,f2⟩:=CW (o:=aj L g.toNat free) (by simpa using hk0) (by omega)
   obtain⟨i1,i2,i3,i4,i5,i6,i7,i8⟩:=Vh hL e hkd g0 hgl g2 f2;have hcg:aF IntKind.i64 ((fg L k g).count+1):=by rw[hO];exact hci _ hgn
   refine⟨hcg,rfl,hcg,rfl,hr _ (by omega) (by omega),rfl,fun hc2=>pK (vb h0 (.inr (by rw[i1];simp only[Bool.not_eq_true',decide_eq_false_iff_not]at hc2;omega))) (by omega),fun hc2=>⟨rfl,rfl,fun r1=>⟨⟨az L k,⟨by omega,by omega,Hx (by omega)⟩,rfl,?_⟩,fun j hj=>⟨fun hjl=>?_,fun hjl=>?_⟩⟩⟩⟩
   ·(repeat' apply And.intro)<;>first|with_reducible rfl|exact hx
   ·obtain⟨j0,j1,j2⟩:=hj;have hjl:=aa6 hjl;have hgj:aL (qA L k g) j=aj (dU L k) j.toNat free:=by rw[i3];exact fF (by omega) (by omega)
    rw[hgj];have hkk:=j3 (dq i5 j.toNat (by omega))
    refine⟨rfl,rfl,hr _ (by omega) (by omega),rfl,fun hb=>⟨rfl,?_⟩,fun hb=>⟨rfl,hr _ (by omega) (by omega),j+1,⟨by omega,by omega,?_⟩,by omega,rfl,?_⟩⟩
    ·simp only[Bool.not_eq_true',Bool.or_eq_false_iff,decide_eq_false_iff_not]at hb;have hbz:mL (aj (dU L k) j.toNat free)=true:=by unfold mL;simp only[Bool.or_eq_true,aa3];omega
     exact pK (Fo h0 (DJ (by omega) (by omega) (by omega) (by omega) hbz)) (by omega)
    ·simp only[Bool.not_eq_false',Bool.or_eq_true,aa3]at hb;by_cases hjn:j<=aI L k-n
     ·exact Hx (by omega)
     ·have hbz:mL (aj (dU L k) j.toNat free)=false:=by unfold mL;simp only[Bool.or_eq_false_iff,decide_eq_false_iff_not];omega
      rw[HH (by omega) hbz];exact j2
    ·(repeat' apply And.intro)<;>first|with_reducible rfl|exact hx
   ·obtain⟨j0,j1,j2⟩:=hj;have hjl:=aa5 hjl;have:j=aI L k+1:=by omega
    subst this;simp only[Bool.not_eq_false',aa3]at hc2;have hE:=IG h0 (by rw[i1];omega) (by rw[i1];omega) j2
    obtain⟨l1,l2,l3,l4⟩:=TB hL e hkd e2 g0 hgl g2 f2 hE;rw[l1];have hul:(dM L (bF L k n)).length<=L.length:=Ty;have hu:bD (ai (dM L (bF L k n)))=((dM L (bF L k n)).length:Int):=rfl
    refine⟨rfl,rfl,hr _ (by omega) (by omega),hr _ (by omega) (by omega),rfl,rfl,rfl,rfl,rfl,hr _ (by omega) (by omega),rfl,rfl,rfl,(show L.length<=1000 by omega),fun hno=>?_,fun _=>⟨⟨0,⟨by omega,by omega⟩,rfl,rfl,?_⟩,fun t ht=>⟨fun htl=>?_,fun htl=>⟨⟨l4,hE.symm⟩,RE l3 l2 ?_⟩⟩⟩⟩
    ·rw[NL l3 (by omega)]at hno;exact absurd hno (by decide)
    ·have hx:L=mS L (bF L k n) 0:=rfl;(repeat' apply And.intro)<;>first|with_reducible rfl|exact hx
    ·obtain⟨t0,t1⟩:=ht;have htl:=aa6 htl;rw[hu]at htl;have hx:cN (mS L (bF L k n) t) (aj (dM L (bF L k n)) t.toNat 0) (aL (bF L k n) (aj (dM L (bF L k n)) t.toNat 0))=mS L (bF L k n) (t+1):=Qk t0;refine⟨⟨t0,htl⟩,(show t.toNat<(dM L (bF L k n)).length by omega),rfl,hr _ (by omega) (by omega),t+1,⟨by omega,by omega⟩,by rw[hu];omega,rfl,rfl,?_⟩
     (repeat' apply And.intro)<;>first|with_reducible rfl|exact hx
    ·have htl:=aa5 htl;rw[hu]at htl;obtain⟨t0,t1⟩:=ht;omega
 ·obtain⟨g0,g1,g2⟩:=hg;have hgl:=aa5 hgl;have:g=aI L k+1:=by omega
  subst this;obtain⟨m1,m2,m3⟩:=CJ 1 g2;exact⟨rfl,pK (vb h0 (.inl (by unfold gu;rw[m1];omega))) (by omega)⟩
theorem J7 (L:List Sx.Obj) (k:Key) (n:Int) (hL:ar L):an Tryz.prog 169 [.lp 0 0,.key k,.it .i64 n] [.store tS eS L] (B8 (.tp [.key (cc L k n),.it .i64 (bZ L k n)]) (bF L k n)) (fun _ _=>False):=
 aY (inl:=(fun f=>f==214||f==213||f==218||f==219||f==220||f==221||f==222||f==223||f==1000000+232)) (ann:=(iv [(3000+232,1,YD [0,1] (fun g=> [(3,.it .i64 g)]) 11 (fun g=> .store tS eS (bM L (az L k) g)) (jA L k) (zc (aI L k) 1)),(9000+232,1,UO [0,1] (fun g=> [(3,.it .i64 g)]) (qk L k n) (zc (aI L k) 1)),(169,16,YD [0,6,7,9,10,90,91] (fun g=> [(92,.it .i64 g)]) 0 (fun g=> .store tS eS (mS L (bF L k n) g)) (sH L (bF L k n)) (bD (ai (dM L (bF L k n)))))])) (ae bC (ae bQ (ae ga (ae sP aq)))) (aB dz (aB vE (aB Gx aD))) (eh iw) (I5 L k n hL) (by kernel_rfl)
theorem Kk:kL Tryz.prog 169 Qr:=
 nK (m:=fun x=>RN.cn x 0) (fL CS (fun _=>rfl)) (fun _=>rfl) (fun _ _=>rfl) (fun x=>aY (inl:=(fun f=>f==214||f==213||f==218||f==219||f==220||f==221||f==222||f==223||f==1000000+232)) (ann:=aQ) (ae bC (ae bQ (ae ga (ae sP aq)))) (aB dz (aB vE (aB Gx aD))) (eh iw) (FN x.1 x.2.1) (by kernel_rfl)) (fun x=>aY (inl:=(fun f=>f==214||f==213||f==218||f==219||f==220||f==221||f==222||f==223||f==1000000+232)) (ann:=aQ) (ae bC (ae bQ (ae ga (ae sP aq)))) (aB dz (aB vE (aB Gx aD))) (eh iw) (Gp x.1 x.2.1) (by kernel_rfl)) fun L x hL _ _=>J7 L x.1 x.2.1 hL
end Go.Proofs.YtlblcfaclmpekaaGreat
