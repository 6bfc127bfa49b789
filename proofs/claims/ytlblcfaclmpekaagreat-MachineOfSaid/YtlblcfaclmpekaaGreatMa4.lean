import Derived.Test.YtlblcfaclmpekaaGreatMa3
set_option linter.unusedSimpArgs false
set_option linter.unusedVariables false
set_option maxRecDepth 100000
namespace Go.Proofs.YtlblcfaclmpekaaGreat
open Go.Sx
abbrev abc(L:List Sx.Obj)(k:Key):=aj L k.oid.toNat free
theorem MD (L:List Sx.Obj) (k:Key):
 aba (!decide (aC L k 4 false=0)) (0=aM L k/\0=aE L k/\aC L k 4 false=aN L k) ((0<=k.oid/\k.oid< ↑(ai L))/\k.oid.toNat<ai L/\(0<=k.oid/\k.oid< ↑(ai L))/\k.oid.toNat<ai L/\aba (!decide (((abc L k).slots.at 0).kind=1)|| !decide (((abc L k).slots.at 1).kind=1)||decide (((abc L k).slots.at 0).value<0)||decide (((abc L k).slots.at 1).value<((abc L k).slots.at 0).value)||decide (bD (ai L)<=((abc L k).slots.at 1).value)) (0=aM L k/\0=aE L k/\220=aN L k) (((abc L k).slots.at 0).value=aM L k/\((abc L k).slots.at 1).value=aE L k/\0=aN L k)):=by
 delta aba abc
 rw[Pb];refine⟨fun h=>?_,fun h=>?_⟩
 ·obtain⟨e1,e2,e3⟩:=F5 (show aC L k 4 false≠0 by simpa using h)
  rw[e1,e2,e3];exact⟨rfl,rfl,rfl⟩
 ·have h0:aC L k 4 false=0:=by simpa using h
  obtain⟨_,b2,b3,_⟩:=ef (gw h0).1;refine⟨⟨b2,b3⟩,by unfold ai;omega,⟨b2,b3⟩,by unfold ai;omega,fun h2=>?_,fun h2=>?_⟩
  ·obtain⟨e1,e2,e3⟩:=B6 h0 (by simpa using h2)
   rw[e1,e2,e3];exact⟨rfl,rfl,rfl⟩
  ·obtain⟨e1,e2,e3⟩:=vG h0 (by simpa using h2)
   rw[e1,e2,e3];exact⟨rfl,rfl,rfl⟩
theorem qJ:cq Tryz.prog 139 QX:=
 eW (aA jc E5) (fun _=>rfl) fun a hq hok=>by
  obtain⟨L,k,_⟩:=a;exact aZ (inl:=bx) (ann:=aQ) (ae pE aq) (MD L k) (by kernel_rfl)
theorem Kg (L:List Sx.Obj) (f l kind:Int) (hq:EF L f l):
 (∃g,uX L f l g/\f=f/\l=l/\kind=kind/\f=g/\L=L)/\(∀(g:Int),uX L f l g->aba (decide (g<=l)) ((0<=g/\g< ↑(ai L))/\g.toNat<ai L/\aba (!decide ((aj L g.toNat free).kind=0)) (abd (g+1)/\((∃g',uX L f l g'/\(l+1-g').toNat<(l+1-g).toNat/\f=f/\l=l/\kind=kind/\g+1=g'/\L=L)\/∃g',rY L f l g'/\(l+1-g').toNat<(l+1-g).toNat/\False)) (aba (decide (4294967295<=(aj L g.toNat free).count)) (dL L g/\abd (g+1)/\((∃g',uX L f l g'/\(l+1-g').toNat<(l+1-g).toNat/\False)\/∃g',rY L f l g'/\(l+1-g').toNat<(l+1-g).toNat/\f=f/\l=l/\kind=kind/\g+1=g'/\L=L/\cz L g.toNat (Obj.mk 3 (aj L g.toNat free).count free.calls free.slots free.bytes)=bM L f g')) (abd ((aj L g.toNat free).count+1)/\dL L g/\lH L f l=true/\g=bu L f l/\cz L g.toNat (Obj.mk kind ((aj L g.toNat free).count+1) free.calls free.slots free.bytes)=cH L f l kind))) (lH L f l=false/\-1=bu L f l))/\∀(g:Int),rY L f l g->aba (decide (g<=l)) ((0<=g/\g< ↑(ai (bM L f g)))/\g.toNat<ai (bM L f g)/\aba (!decide ((aj (bM L f g) g.toNat free).kind=0)) (abd (g+1)/\∃g',rY L f l g'/\(l+1-g').toNat<(l+1-g).toNat/\f=f/\l=l/\kind=kind/\g+1=g'/\L=L/\bM L f g=bM L f g') (aba (decide (4294967295<=(aj (bM L f g) g.toNat free).count)) (dL (bM L f g) g/\abd (g+1)/\∃g',rY L f l g'/\(l+1-g').toNat<(l+1-g).toNat/\f=f/\l=l/\kind=kind/\g+1=g'/\L=L/\cz (bM L f g) g.toNat (Obj.mk 3 (aj (bM L f g) g.toNat free).count free.calls free.slots free.bytes)=bM L f g') (abd ((aj (bM L f g) g.toNat free).count+1)/\dL (bM L f g) g/\lH L f l=true/\g=bu L f l/\cz (bM L f g) g.toNat (Obj.mk kind ((aj (bM L f g) g.toNat free).count+1) free.calls free.slots free.bytes)=cH L f l kind))) (lH L f l=true/\-1=bu L f l/\bM L f g=cH L f l kind):=by
 delta aba abd
 obtain⟨hL,h0,hl,hfl⟩:=hq;have hlen:=gy hL;have hll:(ai L:Int)=(L.length:Int):=rfl;have hrq:∀(M:List Sx.Obj) (g:Int),M.length=L.length->0<=g->g<=l->dL M g:=fun M g hM h1 h2=>⟨h1,by unfold ai;omega,by unfold ai;omega⟩
 have hin:∀g:Int,0<=g->g<=l->aF IntKind.i64 (g+1):=fun g h1 h2=>by simp only[aF,bY];omega
 have hcnt:∀j:Nat,j<L.length->0<=(aj L j free).count/\(aj L j free).count<=4294967295:=fun j hj=>⟨(j7 (dq hL j hj)).1,(j7 (dq hL j hj)).2.1⟩
 have hci:∀j:Nat,j<L.length->aF IntKind.i64 ((aj L j free).count+1):=fun j hj=>by have:=hcnt j hj;simp only[aF,bY];omega
 refine⟨⟨f,⟨by omega,hfl,tz,I5⟩,(by(repeat' apply And.intro)<;>rfl)⟩,fun g hg=>⟨fun hgl=>?_,fun hgl=>?_⟩,fun g hg=>⟨fun hgl=>?_,fun hgl=>?_⟩⟩
 ·obtain⟨g0,g1,g2,g3⟩:=hg;have hgl:=aa1 hgl;have hgn:g.toNat<L.length:=by omega
  refine⟨⟨by omega,by omega⟩,hgn,fun hk=>?_,fun hk=>⟨fun hc=>?_,fun hc=>?_⟩⟩
  ·obtain⟨e1,e2⟩:=xM (o:=aj L g.toNat free) (by simpa using hk)
   exact⟨hin g (by omega) hgl,.inl ⟨g+1,⟨by omega,by omega,jV g2 e2,by rw[HN (by omega) e1];exact g3⟩,by omega,(by(repeat' apply And.intro)<;>rfl)⟩⟩
  ·obtain⟨e1,e2⟩:=C1 (o:=aj L g.toNat free) (by simpa using hk) (aa1 hc)
   have hs:=ya (L:=L) (f:=f) (g:=g) (by omega) (by omega) g0 e1
   rw[Ap g3]at hs;exact⟨hrq L g rfl (by omega) hgl,hin g (by omega) hgl,.inr ⟨g+1,⟨by omega,by omega,jV g2 e2,ES (by omega) (by omega) g0 e1⟩,by omega,rfl,rfl,rfl,rfl,rfl,hs⟩⟩
  ·obtain⟨e1,e2⟩:=Du (o:=aj L g.toNat free) (by simpa using hk) (aa0 hc)
   obtain⟨m1,m2,m3⟩:=yj kind h0 g0 hgl (by omega) g2 e2
   rw[Ap g3]at m3;exact⟨hci _ hgn,hrq L g rfl (by omega) hgl,m2,m1.symm,m3.symm⟩
 ·obtain⟨g0,g1,g2,g3⟩:=hg;have hgl:=aa0 hgl;have:g=l+1:=by omega
  subst this;obtain⟨m1,m2,m3⟩:=CR kind g2;exact⟨by rw[m3];exact g3,m1.symm⟩
 ·obtain⟨g0,g1,g2,g3⟩:=hg;have hgl:=aa1 hgl;have hgn:g.toNat<L.length:=by omega
  have hgl2:(ai (bM L f g):Int)=(L.length:Int):=by unfold ai;rw[kL]
  have hga:=C2 (L:=L) (f:=f) (g:=g) (by omega)
  rw[hga];refine⟨⟨by omega,by omega⟩,by omega,fun hk=>?_,fun hk=>⟨fun hc=>?_,fun hc=>?_⟩⟩
  ·obtain⟨e1,e2⟩:=xM (o:=aj L g.toNat free) (by simpa using hk)
   exact⟨hin g (by omega) hgl,g+1,⟨by omega,by omega,jV g2 e2,by rw[HN (by omega) e1];exact g3⟩,by omega,rfl,rfl,rfl,rfl,rfl,(Ad (by omega) e1).symm⟩
  ·obtain⟨e1,e2⟩:=C1 (o:=aj L g.toNat free) (by simpa using hk) (aa1 hc)
   exact⟨hrq _ g kL (by omega) hgl,hin g (by omega) hgl,g+1,⟨by omega,by omega,jV g2 e2,ES (by omega) (by omega) g0 e1⟩,by omega,rfl,rfl,rfl,rfl,rfl,ya (by omega) (by omega) g0 e1⟩
  ·obtain⟨e1,e2⟩:=Du (o:=aj L g.toNat free) (by simpa using hk) (aa0 hc)
   obtain⟨m1,m2,m3⟩:=yj kind h0 g0 hgl (by omega) g2 e2
   exact⟨hci _ hgn,hrq _ g kL (by omega) hgl,m2,m1.symm,m3.symm⟩
 ·obtain⟨g0,g1,g2,g3⟩:=hg;have hgl:=aa0 hgl;have:g=l+1:=by omega
  subst this;obtain⟨m1,m2,m3⟩:=CR kind g2;exact⟨by rw[m3];exact g3,m1.symm,m2.symm⟩
theorem Jw (L:List Sx.Obj) (f l kind:Int) (hq:EF L f l):an Tryz.prog 140 [.sa 0,.it .i64 f,.it .i64 l,.it .i64 kind] [.ro (.arr none 163 (.ob L))] (xY (lH L f l) (cH L f l kind) [.it .i64 (bu L f l)]) (fun _ _=>False):=
 bj (inl:=bx) (ann:=(iu [(140,2,Y9 [0,1,2,3] (fun g=> [(10,.it .i64 g)]) 0 tO 163 (fun g=> .ob (bM L f g)) (uX L f l) (rY L f l) (Al l 1))])) (ae jy aq) aD (Kg L f l kind hq) (by kernel_rfl)
theorem AP:kJ Tryz.prog 140 Mj:=
 iJ (m:=fun x=>i3B.cn x 0) (fL Wq (fun _=>rfl)) (fun _=>rfl) (fun _ _=>rfl) fun L x hq=>Jw L x.1 x.2.1 x.2.2.1 hq
abbrev abe(L:List Sx.Obj)(k:Key):=bu L (aM L k) (aE L k)
theorem N2 (L:List Sx.Obj) (k:Key) (kind:Int) (hL:ar L):
 aba (decide (aN L k=0)&& !decide (kind=1)&& !decide (kind=2)) (gF L k kind=false/\void=dc L k kind/\2=cx L k kind) (aba (!decide (aN L k=0)) (gF L k kind=false/\void=dc L k kind/\aN L k=cx L k kind) (true=true/\EF L (aM L k) (aE L k)/\(lH L (aM L k) (aE L k)=false->aba (decide (bu L (aM L k) (aE L k)<0)) (gF L k kind=false/\void=dc L k kind/\221=cx L k kind) (abd (1+kind)/\(0<=bu L (aM L k) (aE L k)/\bu L (aM L k) (aE L k)< ↑(ai L))/\(abe L k).toNat<ai L/\gF L k kind=false/\Key.mk (1+kind) (abe L k) (aj L (abe L k).toNat free).count void.call void.rights void.value=dc L k kind/\0=cx L k kind))/\(lH L (aM L k) (aE L k)=true->aba (decide (bu L (aM L k) (aE L k)<0)) (gF L k kind=true/\(void=dc L k kind/\221=cx L k kind)/\cH L (aM L k) (aE L k) kind=ft L k kind) (abd (1+kind)/\(0<=bu L (aM L k) (aE L k)/\bu L (aM L k) (aE L k)< ↑(ai (cH L (aM L k) (aE L k) kind)))/\(abe L k).toNat<ai (cH L (aM L k) (aE L k) kind)/\gF L k kind=true/\(Key.mk (1+kind) (abe L k) (aj (cH L (aM L k) (aE L k) kind) (abe L k).toNat free).count void.call void.rights void.value=dc L k kind/\0=cx L k kind)/\cH L (aM L k) (aE L k) kind=ft L k kind)))):=by
 delta aba abe abd
 refine⟨fun h=>?_,fun h=>⟨fun h2=>?_,fun h2=>?_⟩⟩
 ·simp only[aaX,Bool.not_eq_true',aaY,decide_eq_false_iff_not]at h;exact Q4 h.1.1 h.1.2 h.2
 ·exact RY (by simpa using h2)
 ·have h2:aN L k=0:=by simpa using h2
  have hk:kind=1\/kind=2:=by
   simp only[h2,decide_true,Bool.true_and,Bool.and_eq_false_iff,Bool.not_eq_false',aaY]at h;exact h
  obtain⟨_,a0,a1,a2,_⟩:=mL h2;obtain⟨x1,x2⟩:=Bx h2;have hlen:=gy hL;rw[x1,x2];have hin:aF IntKind.i64 (1+kind):=by simp only[aF,bY];omega
  have hm:=wK (L:=L) (l:=aI L k) a0;refine⟨rfl,⟨hL,a0,a2,by omega⟩,fun hc=>⟨fun hi=>?_,fun hi=>?_⟩,fun hc=>⟨fun hi=>?_,fun hi=>?_⟩⟩
  ·have hi:=aa1 hi;obtain⟨m1,m2,m3,m4⟩:=yS h2 hk (by omega)
   exact⟨m1.trans hc,m2,m3⟩
  ·have hi:=aa0 hi;rw[CI (by omega)]at hc
   simp at hc
  ·have hi:=aa1 hi;obtain⟨m1,m2,m3,m4⟩:=yS h2 hk (by omega)
   exact⟨m1.trans hc,⟨m2,m3⟩,m4⟩
  ·have hi:=aa0 hi;obtain⟨m1,m2,m3,m4⟩:=HG h2 hk (by omega)
   rw[show ai (cH L (az L k) (aI L k) kind)=L.length from vu];exact⟨hin,⟨by omega,by omega⟩,by omega,m1,⟨m2,m3⟩,m4⟩
theorem LG (L:List Sx.Obj) (k:Key) (kind:Int) (hL:ar L):an Tryz.prog 118 [.sa 0,.key k,.it .i64 kind] [.ro (.arr none 163 (.ob L))] (xY (gF L k kind) (ft L k kind) [.key (dc L k kind),.it .i64 (cx L k kind)]) (fun _ _=>False):=
 bj (inl:=bx) (ann:=aQ) (ae qJ aq) (aB AP aD) (N2 L k kind hL) (by kernel_rfl)
theorem Ou:kJ Tryz.prog 118 RD:=
 iJ (m:=fun x=>Sf.cn x 0) (fL Cx (fun _=>rfl)) (fun _=>rfl) (fun _ _=>rfl) fun L x hq=>LG L x.1 x.2.1 hq
theorem Q7 (L:List Sx.Obj) (k v:Key) (hL:ar L):
 aba (!decide (aN L k=0)) (jM L k v=false/\aN L k=cC L k v) (aba (!aU L v|| !decide (v.kind=2)&& !decide (v.kind=3)) (jM L k v=false/\5=cC L k v) (aba (decide (v.oid<aM L k)||decide (aE L k<v.oid)||decide (v.oid=k.oid)) (jM L k v=false/\4=cC L k v) ((0<=v.oid/\v.oid< ↑(ai L))/\v.oid.toNat<ai L/\dL L v.oid/\jM L k v=true/\0=cC L k v/\cz L v.oid.toNat (Obj.mk free.kind (aj L v.oid.toNat free).count free.calls free.slots free.bytes)=gB L k v))):=by
 delta aba
 refine⟨fun h=>?_,fun h=>⟨fun h2=>?_,fun h2=>⟨fun h3=>?_,fun h3=>?_⟩⟩⟩
 ·have h:aN L k≠0:=by simpa using h
  have e:cC L k v=aN L k:=by unfold cC;rw[aa3 h]
  exact⟨by unfold jM;rw[e];simpa using h,e.symm⟩
 ·have h:aN L k=0:=by simpa using h
  have e:cC L k v=5:=by unfold cC;rw[aa4 h,zq,h2];rfl
  exact⟨by unfold jM;rw[e];rfl,e.symm⟩
 ·have h:aN L k=0:=by simpa using h
  obtain⟨x1,x2⟩:=Bx h;rw[x1,x2]at h3
  have e:cC L k v=4:=by
   unfold cC;rw[aa4 h,zq,h2,aa4 (show(!false)=true from rfl),aa3];simp only[Bool.or_eq_true,aaY]at h3;omega
  exact⟨by unfold jM;rw[e];rfl,e.symm⟩
 ·have h:aN L k=0:=by simpa using h
  obtain⟨x1,x2⟩:=Bx h;rw[x1,x2]at h3;have ht:jb L v=true:=by rw[zq,h2];rfl
  obtain⟨_,b2,b3,_⟩:=ef (EW ht)
  have e:cC L k v=0:=by
   unfold cC;rw[aa4 h,ht,aa4 rfl,aa4];simp only[Bool.or_eq_false_iff,decide_eq_false_iff_not]at h3;omega
  have hlen:=gy hL;exact⟨⟨b2,b3⟩,by unfold ai;omega,⟨b2,b3,by unfold ai;omega⟩,by unfold jM;rw[e];rfl,e.symm,by unfold gB;rw[aa4 e];rfl⟩
theorem RK (L:List Sx.Obj) (k v:Key) (hL:ar L):an Tryz.prog 119 [.sa 0,.key k,.key v] [.ro (.arr none 163 (.ob L))] (xY (jM L k v) (gB L k v) [.it .i64 (cC L k v)]) (fun _ _=>False):=
 bj (inl:=bx) (ann:=aQ) (ae qJ (ae mf (ae jy aq))) aD (Q7 L k v hL) (by kernel_rfl)
theorem Ts:kJ Tryz.prog 119 We:=
 iJ (m:=fun x=>O2.cn x 0) (fL wh (fun _=>rfl)) (fun _=>rfl) (fun _ _=>rfl) fun L x hq=>RK L x.1 x.2.1 hq
abbrev abf(L:List Sx.Obj)(k:Key)(g:Int):=dR L (az L k) g k.oid
theorem KC (L:List Sx.Obj) (k:Key) (hL:ar L):
 aba (!decide (aN L k=0)) (kR L k=false/\0=fD L k/\aN L k=aN L k) ((∃g,uQ L k g/\aM L k=aM L k/\aE L k=aE L k/\0=eU L (az L k) g k.oid/\aM L k=g/\L=L/\k=k)/\(∀(g:Int),uQ L k g->aba (decide (g<=aE L k)) ((0<=g/\g< ↑(ai L))/\g.toNat<ai L/\((!decide ((aj L g.toNat free).kind=1))=true->0<=g/\g< ↑(ai L))/\((!decide ((aj L g.toNat free).kind=1))=true->g.toNat<ai L)/\aba ((decide ((aj L g.toNat free).kind=1)||decide ((aj L g.toNat free).kind=2))&& !decide (g=k.oid)) ((0<=g/\g< ↑(ai L))/\g.toNat<ai L/\dL L g/\abd (eU L (az L k) g k.oid+1)/\abd (g+1)/\((∃g',uQ L k g'/\(aI L k+1-g').toNat<(aI L k+1-g).toNat/\False)\/∃g',r9 L k g'/\(aI L k+1-g').toNat<(aI L k+1-g).toNat/\aM L k=aM L k/\aE L k=aE L k/\eU L (az L k) g k.oid+1=eU L (az L k) g' k.oid/\g+1=g'/\L=L/\k=k/\cz L g.toNat (Obj.mk free.kind (aj L g.toNat free).count free.calls free.slots free.bytes)=dR L (az L k) g' k.oid)) (abd (g+1)/\((∃g',uQ L k g'/\(aI L k+1-g').toNat<(aI L k+1-g).toNat/\aM L k=aM L k/\aE L k=aE L k/\eU L (az L k) g k.oid=eU L (az L k) g' k.oid/\g+1=g'/\L=L/\k=k)\/∃g',r9 L k g'/\(aI L k+1-g').toNat<(aI L k+1-g).toNat/\False))) (kR L k=false/\eU L (az L k) g k.oid=fD L k/\0=aN L k))/\∀(g:Int),r9 L k g->aba (decide (g<=aE L k)) ((0<=g/\g< ↑(ai (abf L k g)))/\g.toNat<ai (abf L k g)/\((!decide ((aj (abf L k g) g.toNat free).kind=1))=true->0<=g/\g< ↑(ai (abf L k g)))/\((!decide ((aj (abf L k g) g.toNat free).kind=1))=true->g.toNat<ai (abf L k g))/\aba ((decide ((aj (abf L k g) g.toNat free).kind=1)||decide ((aj (abf L k g) g.toNat free).kind=2))&& !decide (g=k.oid)) ((0<=g/\g< ↑(ai (abf L k g)))/\g.toNat<ai (abf L k g)/\dL (abf L k g) g/\abd (eU L (az L k) g k.oid+1)/\abd (g+1)/\∃g',r9 L k g'/\(aI L k+1-g').toNat<(aI L k+1-g).toNat/\aM L k=aM L k/\aE L k=aE L k/\eU L (az L k) g k.oid+1=eU L (az L k) g' k.oid/\g+1=g'/\L=L/\k=k/\cz (abf L k g) g.toNat (Obj.mk free.kind (aj (abf L k g) g.toNat free).count free.calls free.slots free.bytes)=dR L (az L k) g' k.oid) (abd (g+1)/\∃g',r9 L k g'/\(aI L k+1-g').toNat<(aI L k+1-g).toNat/\aM L k=aM L k/\aE L k=aE L k/\eU L (az L k) g k.oid=eU L (az L k) g' k.oid/\g+1=g'/\L=L/\k=k/\dR L (az L k) g k.oid=dR L (az L k) g' k.oid)) (kR L k=true/\(eU L (az L k) g k.oid=fD L k/\0=aN L k)/\dR L (az L k) g k.oid=g9 L k)):=by
 delta aba abf abd
 refine⟨fun h=>?_,fun h=>?_⟩
 ·have h:aN L k≠0:=by simpa using h
  exact⟨by unfold kR;simp[h],by unfold fD;rw[aa3 h],rfl⟩
 have h:aN L k=0:=by simpa using h
 obtain⟨_,a0,a1,a2,_⟩:=mL h;obtain⟨x1,x2⟩:=Bx h;have hlen:=gy hL;have hll:(ai L:Int)=(L.length:Int):=rfl;rw[x1,x2];have hit:∀g:Int,(((decide ((aj L g.toNat free).kind=1)||decide ((aj L g.toNat free).kind=2))&& !decide (g=k.oid)))=j3 L g k.oid:=fun g=>rfl
 have hin:∀g:Int,az L k<=g->g<=aI L k->aF IntKind.i64 (g+1):=fun g h1 h2=>by simp only[aF,bY];omega
 have hnn:∀g:Int,aF IntKind.i64 (eU L (az L k) g k.oid+1):=fun g=>by
  have:=tH (L:=L) (f:=az L k) (g:=g) (oid:=k.oid);have:=PY (L:=L) (f:=az L k) (g:=g) (oid:=k.oid);simp only[aF,bY];omega
 refine⟨⟨az L k,⟨by omega,by omega,vh⟩,rfl,rfl,vh.symm,rfl,rfl,rfl⟩,fun g hg=>⟨fun hgl=>?_,fun hgl=>?_⟩,fun g hg=>⟨fun hgl=>?_,fun hgl=>?_⟩⟩
 ·obtain⟨g0,g1,g2⟩:=hg;have hgl:=aa1 hgl;have hr1:0<=g/\g<(ai L:Int):=⟨by omega,by omega⟩
  have hr2:g.toNat<ai L:=by omega
  rw[hit g];refine⟨hr1,hr2,fun _=>hr1,fun _=>hr2,fun hh=>?_,fun hh=>?_⟩
  ·have hs:=yx (L:=L) (f:=az L k) (oid:=k.oid) (by omega:0<=g) (by omega) g0 hh
   have hs2:=Cd (L:=L) (f:=az L k) (oid:=k.oid) (by omega:0<=g) (by omega) g0 hh
   rw[zh g2]at hs2;exact⟨hr1,hr2,⟨by omega,by omega,by omega⟩,hnn g,hin g g0 hgl,.inr ⟨g+1,⟨by omega,by omega,by omega⟩,by omega,rfl,rfl,hs.symm,rfl,rfl,rfl,hs2⟩⟩
  ·have hs:=uV (L:=L) (f:=az L k) (oid:=k.oid) (by omega:0<=g) g0 hh
   exact⟨hin g g0 hgl,.inl ⟨g+1,⟨by omega,by omega,by omega⟩,by omega,rfl,rfl,hs.symm,rfl,rfl,rfl⟩⟩
 ·obtain⟨g0,g1,g2⟩:=hg;have hgl:=aa0 hgl;have:g=aI L k+1:=by omega
  subst this;exact⟨by unfold kR;simp[h,g2],by unfold fD;rw[aa4 h],h.symm⟩
 ·obtain⟨g0,g1,g2⟩:=hg;have hgl:=aa1 hgl;have hgz:(ai (dR L (az L k) g k.oid))=L.length:=Dk;have hr1:0<=g/\g<((L.length:Nat):Int):=⟨by omega,by omega⟩
  have hr2:g.toNat<L.length:=by omega
  rw[LR (by omega),hit g,hgz]
  refine⟨hr1,hr2,fun _=>hr1,fun _=>hr2,fun hh=>?_,fun hh=>?_⟩
  ·have hs:=yx (L:=L) (f:=az L k) (oid:=k.oid) (by omega:0<=g) (by omega) g0 hh
   have hs2:=Cd (L:=L) (f:=az L k) (oid:=k.oid) (by omega:0<=g) (by omega) g0 hh
   have:=tH (L:=L) (f:=az L k) (g:=g) (oid:=k.oid);exact⟨hr1,hr2,⟨by omega,by omega,by omega⟩,hnn g,hin g g0 hgl,g+1,⟨by omega,by omega,by omega⟩,by omega,rfl,rfl,hs.symm,rfl,rfl,rfl,hs2⟩
  ·have hs:=uV (L:=L) (f:=az L k) (oid:=k.oid) (by omega:0<=g) g0 hh
   have hs2:=yz (L:=L) (f:=az L k) (oid:=k.oid) (by omega:0<=g) g0 hh
   exact⟨hin g g0 hgl,g+1,⟨by omega,by omega,by omega⟩,by omega,rfl,rfl,hs.symm,rfl,rfl,rfl,hs2.symm⟩
 ·obtain⟨g0,g1,g2⟩:=hg;have hgl:=aa0 hgl;have:g=aI L k+1:=by omega
  subst this;exact⟨by unfold kR;simp[h,g2],⟨by unfold fD;rw[aa4 h],h.symm⟩,by unfold g9;rw[aa4 h]⟩
theorem MS (L:List Sx.Obj) (k:Key) (hL:ar L):an Tryz.prog 122 [.sa 0,.key k] [.ro (.arr none 163 (.ob L))] (xY (kR L k) (g9 L k) [.it .i64 (fD L k),.it .i64 (aN L k)]) (fun _ _=>False):=
 bj (inl:=bx) (ann:=(iu [(122,6,Y9 [0,3,7,8] (fun g=> [(10,.it .i64 (eU L (az L k) g k.oid)),(11,.it .i64 g)]) 0 tO 163 (fun g=> .ob (dR L (az L k) g k.oid)) (uQ L k) (r9 L k) (Al (aI L k) 1))])) (ae qJ (ae jy aq)) aD (KC L k hL) (by kernel_rfl)
theorem OX:kJ Tryz.prog 122 Sj:=
 iJ (m:=fun x=>kB.cn x 0) (fL E5 (fun _=>rfl)) (fun _=>rfl) (fun _ _=>rfl) fun L x hq=>MS L x.1 hq
theorem Ma (L:List Sx.Obj) (k v:Key):
 ((!decide (aN L k=0))=true->false=jz L k v/\aN L k=aN L k)/\((!decide (aN L k=0))=false->(aU L v&&(decide (v.kind=2)||decide (v.kind=3))&&decide (aM L
   k<=v.oid)&&decide (v.oid<=aE L k))=jz L k v/\0=aN L k):=by
 refine⟨fun h=>?_,fun h=>?_⟩
 ·have h:aN L k≠0:=by simpa using h
  exact⟨by unfold jz;simp[h],rfl⟩
 ·have h:aN L k=0:=by simpa using h
  obtain⟨x1,x2⟩:=Bx h;rw[x1,x2];exact⟨by unfold jz jb;simp[h],h.symm⟩
theorem Pc:cq Tryz.prog 121 TC:=
 eW (aA jc wh) (fun _=>rfl) fun a hq hok=>by
  obtain⟨L,k,v,_⟩:=a;exact aZ (inl:=bx) (ann:=aQ) (ae qJ (ae mf aq)) (Ma L k v) (by kernel_rfl)
abbrev abh(L:List Sx.Obj)(k:Key):=aj (cH L (aM L k) (aE L k) 1) (bu L (aM L k) (aE L k)).toNat free
abbrev abi(L:List Sx.Obj)(k:Key):=aj L (bu L (aM L k) (aE L k)).toNat free
abbrev abj(L:List Sx.Obj)(k:Key):=cH L (aM L k) (aE L k) 1
abbrev abk(L:List Sx.Obj)(k:Key)(n:Int):=cz (abj L k) (bu L (aM L k) (aE L k)).toNat (Obj.mk (abh L k).kind (abh L k).count (abh L k).calls (((abh L k).slots.put 0 (abg (aE L k-n+1))).put 1 (abg (aE L k))) (abh L k).bytes)
abbrev abl(L:List Sx.Obj)(k:Key)(n:Int):=cz L (bu L (aM L k) (aE L k)).toNat (Obj.mk (abi L k).kind (abi L k).count (abi L k).calls (((abi L k).slots.put 0 (abg (aE L k-n+1))).put 1 (abg (aE L k))) (abi L k).bytes)
abbrev abm(L:List Sx.Obj)(k:Key)(n:Int):=kZ L k n=false/\void=cc L k n/\221=b7 L k n
abbrev abn(L:List Sx.Obj)(k:Key):=aj (abj L k) k.oid.toNat free
abbrev abo(L:List Sx.Obj)(k:Key):=bu L (aM L k) (aE L k)
theorem JM (L:List Sx.Obj) (k:Key) (n:Int) (hL:ar L):
 ((!decide (n<1)&&decide (aN L k=0))=true->abd (aE L k-aM L k))/\aba (decide (aN L k=0)&&(decide (n<1)||decide (aE L k-aM L k<n))) (kZ L k n=false/\void=cc L k n/\4=b7 L k n) (aba (!decide (aN L k=0)) (kZ L k n=false/\void=cc L k n/\aN L k=b7 L k n) (true=true/\EF L (aM L k) (aE L k)/\(lH L (aM L k) (aE L k)=false->((!decide (bu L (aM L k) (aE L k)<0))=true->abd (aE L k-n))/\aba (decide (bu L (aM L k) (aE L k)<0)||decide (aE L k-n<bu L (aM L k) (aE L k))) (abm L k n) (abd (aE L k-n)/\abd (aE L k-n+1)/\(∃g,pZ L k n g/\n=n/\aM L k=aM L k/\aE L k=aE L k/\bu L (aM L k) (aE L k)=bu L (aM L k) (aE L k)/\aE L k-n+1=g/\L=L/\k=k/\void=void)/\∀(g:Int),pZ L k n g->aba (decide (g<=aE L k)) ((0<=g/\g< ↑(ai L))/\g.toNat<ai L/\((!decide ((aj L g.toNat free).kind=1))=true->0<=g/\g< ↑(ai L))/\((!decide ((aj L g.toNat free).kind=1))=true->g.toNat<ai L)/\aba (decide ((aj L g.toNat free).kind=1)||decide ((aj L g.toNat free).kind=2)) (abm L k n) (abd (g+1)/\∃g',pZ L k n g'/\(aI L k+1-g').toNat<(aI L k+1-g).toNat/\n=n/\aM L k=aM L k/\aE L k=aE L k/\bu L (aM L k) (aE L k)=bu L (aM L k) (aE L k)/\g+1=g'/\L=L/\k=k/\void=void)) ((0<=bu L (aM L k) (aE L k)/\bu L (aM L k) (aE L k)< ↑(ai L))/\(abo L k).toNat<ai L/\(0<=k.oid/\k.oid< ↑(ai L))/\k.oid.toNat<ai L/\abd (aE L k-n)/\abd (aE L k-n+1)/\abd (aE L k-n)/\dL L (abo L k)/\dL (abl L k n) k.oid/\kZ L k n=true/\(Key.mk 4 (abo L k) (abi L k).count void.call void.rights void.value=cc L k n/\0=b7 L k n)/\cz (abl L k n) k.oid.toNat (Obj.mk (aj L k.oid.toNat free).kind (aj L k.oid.toNat free).count (aj L k.oid.toNat free).calls ((aj L k.oid.toNat free).slots.put 1 (abg (aE L k- n))) (aj L k.oid.toNat free).bytes)=bF L k n)))/\(lH L (aM L k) (aE L k)=true->((!decide (bu L (aM L k) (aE L k)<0))=true->abd (aE L k-n))/\aba (decide (bu L (aM L k) (aE L k)<0)||decide (aE L k-n<bu L (aM L k) (aE L k))) (abm L k n) (abd (aE L k-n)/\abd (aE L k-n+1)/\(∃g,pZ L k n g/\n=n/\aM L k=aM L k/\aE L k=aE L k/\bu L (aM L k) (aE L k)=bu L (aM L k) (aE L k)/\aE L k-n+1=g/\L=L/\k=k/\void=void/\cH L (aM L k) (aE L k) 1=cH L (aM L k) (aE L k) 1)/\∀(g:Int),pZ L k n g->aba (decide (g<=aE L k)) ((0<=g/\g< ↑(ai (abj L k)))/\g.toNat<ai (abj L k)/\((!decide ((aj (abj L k) g.toNat free).kind=1))=true->0<=g/\g< ↑(ai (abj L k)))/\((!decide ((aj (abj L k) g.toNat free).kind=1))=true->g.toNat<ai (abj L k))/\aba (decide ((aj (abj L k) g.toNat free).kind=1)||decide ((aj (abj L k) g.toNat free).kind=2)) (abm L k n) (abd (g+1)/\∃g',pZ L k n g'/\(aI L k+1-g').toNat<(aI L k+1-g).toNat/\n=n/\aM L k=aM L k/\aE L k=aE L k/\bu L (aM L k) (aE L k)=bu L (aM L k) (aE L k)/\g+1=g'/\L=L/\k=k/\void=void/\cH L (aM L k) (aE L k) 1=cH L (aM L k) (aE L k) 1)) ((0<=bu L (aM L k) (aE L k)/\bu L (aM L k) (aE L k)< ↑(ai (abj L k)))/\(abo L k).toNat<ai (abj L k)/\(0<=k.oid/\k.oid< ↑(ai (abj L k)))/\k.oid.toNat<ai (abj L k)/\abd (aE L k-n)/\abd (aE L k-n+1)/\abd (aE L k- n)/\dL (abj L k) (abo L k)/\dL (abk L k n) k.oid/\kZ L k n=true/\(Key.mk 4 (abo L k) (abh L k).count void.call void.rights void.value=cc L k n/\0=b7 L k n)/\cz (abk L k n) k.oid.toNat (Obj.mk (abn L k).kind (abn L k).count (abn L k).calls ((abn L k).slots.put 1 (abg (aE L k-n))) (abn L k).bytes)=bF L k n))))):=by
 delta aba abg abo abn abm abl abk abj abi abh abd
 by_cases hE:aN L k≠0
 ·rw[show decide (aN L k=0)=false by simpa using hE]
  refine⟨fun h=>by simp at h,fun h=>by simp at h,fun _=>⟨fun _=>E4 (zI hE) hE,fun h=>by simp at h⟩⟩
 replace hE:aN L k=0:=Decidable.not_not.1 hE
 obtain⟨_,a0,a1,a2,a3,a4⟩:=mL hE;obtain⟨x1,x2⟩:=Bx hE;have hlen:=gy hL;rw[x1,x2,show decide (aN L k=0)=true by simpa using hE]
 have hr:∀x:Int,-1000<=x->x<=1000->aF IntKind.i64 x:=fun x h1 h2=>by simp only[aF,bY];omega
 have hI:bu L (az L k) (aI L k)=gu L k:=rfl;have hM:cH L (az L k) (aI L k) 1=dW L k:=rfl;have hlM:ai (dW L k)=L.length:=vu;have hlM2:(dW L k).length=L.length:=vu;have hll:ai L=L.length:=rfl;rw[hI,hM];refine⟨fun _=>hr _ (by omega) (by omega),fun h=>E4 (Bi hE (by simp only[Bool.true_and,Bool.or_eq_true,aaY]at h;omega)) (by omega),fun h=>⟨fun h=>by simp at h,fun _=>?_⟩⟩
 have hn:1<=n/\n<=aI L k-az L k:=by simp only[Bool.true_and,Bool.or_eq_false_iff,decide_eq_false_iff_not]at h;omega
 obtain⟨hn1,hn2⟩:=hn;have h0:=Ii hE hn1 hn2;have hm:=wK (L:=L) (l:=aI L k) a0;rw[hI]at hm;refine⟨rfl,⟨hL,a0,a2,by omega⟩,fun hc=>⟨fun _=>hr _ (by omega) (by omega),fun hi=>?_,fun hi=>?_⟩,fun hc=>⟨fun _=>hr _ (by omega) (by omega),fun hi=>?_,fun hi=>?_⟩⟩
 ·exact E4 (uG h0 (by simp only[Bool.or_eq_true,aaY]at hi;omega)) (by omega)
 ·simp only[Bool.or_eq_false_iff,decide_eq_false_iff_not]at hi;rw[CI (by rw[hI];omega)]at hc
  simp at hc
 ·exact E4 (uG h0 (by simp only[Bool.or_eq_true,aaY]at hi;omega)) (by omega)
 simp only[Bool.or_eq_false_iff,decide_eq_false_iff_not]at hi;have hbz:∀o:Sx.Obj,(decide (o.kind=1)||decide (o.kind=2))=mH o:=fun o=>rfl
 refine⟨hr _ (by omega) (by omega),hr _ (by omega) (by omega),⟨aI L k-n+1,⟨by omega,by omega,JR⟩,rfl,rfl,rfl,rfl,rfl,rfl,rfl,rfl,rfl⟩,fun g hg=>⟨fun hgl=>?_,fun hgl=>?_⟩⟩
 ·obtain⟨g0,g1,g2⟩:=hg;have hgl:=aa1 hgl;rw[hbz];have hr1:0<=g/\g<(ai (dW L k):Int):=⟨by omega,by omega⟩
  have hr2:g.toNat<ai (dW L k):=by omega
  refine⟨hr1,hr2,fun _=>hr1,fun _=>hr2,fun hb=>?_,fun hb=>?_⟩
  ·exact E4 (Ff h0 (E3 (by omega) (by omega) g0 (by omega) hb)) (by omega)
  ·exact⟨hr _ (by omega) (by omega),g+1,⟨by omega,by omega,by rw[HC (by omega) hb];exact g2⟩,by omega,rfl,rfl,rfl,rfl,rfl,rfl,rfl,rfl,rfl⟩
 ·obtain⟨g0,g1,g2⟩:=hg;have hgl:=aa0 hgl;have:g=aI L k+1:=by omega
  subst this;have e:=Ih h0 (by omega) (by omega) g2
  have hp:∀(M:List Sx.Obj) (x:Int),M.length=L.length->0<=x->x<(L.length:Int)->dL M x:=fun M x hM h1 h2=>⟨h1,by unfold ai;omega,by unfold ai;omega⟩
  exact⟨⟨by omega,by omega⟩,by omega,⟨by omega,by omega⟩,by omega,hr _ (by omega) (by omega),hr _ (by omega) (by omega),hr _ (by omega) (by omega),hp _ _ hlM2 (by omega) (by omega),hp _ _ (by rw[iv];exact hlM2) a3 a4,by unfold kZ;rw[e];rfl,⟨by unfold cc;rw[aa4 e];rfl,e.symm⟩,by unfold bF;rw[aa4 e];rfl⟩
theorem Jy (L:List Sx.Obj) (k:Key) (n:Int) (hL:ar L):an Tryz.prog 120 [.sa 0,.key k,.it .i64 n] [.ro (.arr none 163 (.ob L))] (xY (kZ L k n) (bF L k n) [.key (cc L k n),.it .i64 (b7 L k n)]) (fun _ _=>False):=
 bj (inl:=bx) (ann:=(iu [(120,10,Va [0,2,4,7,9,10,12,13] (fun g=> [(14,.it .i64 g)]) (pZ L k n) (Al (aI L k) 1))])) (ae qJ (ae jy aq)) (aB AP aD) (JM L k n hL) (by kernel_rfl)
theorem Jm:kJ Tryz.prog 120 MM:=
 iJ (m:=fun x=>Sf.cn x 0) (fL Cx (fun _=>rfl)) (fun _=>rfl) (fun _ _=>rfl) fun L x hq=>Jy L x.1 x.2.1 hq
theorem Sk (kind oid count:Int):
 (decide (kind=2)=true->Key.mk 3 oid count void.call void.rights void.value=de kind oid count)/\(decide (kind=2)=false->Key.mk 2 oid count void.call void.rights void.value=de kind
  oid count):=by
 unfold de;exact⟨fun h=>by rw[aa4 (aa1 h)];rfl,fun h=>by rw[aa3 (aa0 h)];rfl⟩
theorem r8:cq Tryz.prog 231 Wh:=
 KM (gi .i64) (gi .i64) (gi .i64) (fun _ _ _=>rfl) fun i j k _ _ _=>aZ (inl:=bx) (ann:=aQ) aq (Sk i j k) (by kernel_rfl)
theorem J8 (k v:Key):
 abb (abb (aba (!decide (0<ak [])) (false=jz [] k v/\1=aN [] k) (abb (aba (!(aU [] k&&decide (k.kind=4))) (false=jz [] k v/\190=aN [] k) (abb (aba (!(decide ((abp [] k 0).kind=1)&&decide ((abp [] k 1).kind=1)&&decide (0<=(abp [] k 0).value)&&decide ((abp [] k 0).value<=(abp [] k 1).value)&&decide ((abp [] k 1).value<ak []))) (false=jz [] k v/\220=aN [] k) (abb ((aU [] v&&(decide (v.kind=2)||decide (v.kind=3))&&decide ((abp [] k 0).value<=cw v)&&decide (cw v<=(abp [] k 1).value))=jz [] k v/\0=aN [] k)))))))):=by
 delta aba abp abb
 exact⟨rfl,rfl,fun h=>CZ (He h) (by omega),fun h=>absurd h (by decide)⟩
theorem Lj (L:List Sx.Obj) (k v:Key):
 abb (abb (aba (!decide (0<ak L)) (false=jz L k v/\1=aN L k) (abb (aba (!(aU L k&&decide (k.kind=4))) (false=jz L k v/\190=aN L k) (abb (aba (!(decide ((abp L k 0).kind=1)&&decide ((abp L k 1).kind=1)&&decide (0<=(abp L k 0).value)&&decide ((abp L k 0).value<=(abp L k 1).value)&&decide ((abp L k 1).value<ak L))) (false=jz L k v/\220=aN L k) (abb ((aU L v&&(decide (v.kind=2)||decide (v.kind=3))&&decide ((abp L k 0).value<=cw v)&&decide (cw v<=(abp L k 1).value))=jz L k v/\0=aN L k)))))))):=by
 delta aba abp abb
 refine⟨rfl,rfl,fun h=>CZ (He h) (by omega),fun h=>⟨rfl,fun h2=>CZ (bk2 h h2) (by omega),fun h2=>⟨rfl,fun h3=>CZ (bk3 h h2 h3) (by omega),fun h3=>⟨rfl,?_,(Tv h h2 h3).1.symm⟩⟩⟩⟩
 obtain⟨e,e1,e2⟩:=Tv h h2 h3;rw[e1,e2];unfold jz jb;rw[e];cases hi:aU L v with
 |false=>simp
 |true=>
  cases hk:(decide (v.kind=2)||decide (v.kind=3))with
  |false=>simp
  |true=>
   have hn:cw v=v.oid:=VW hi;rw[hn];simp
theorem Kz:cq Tryz.prog 224 QQ:=
 eW (aA tc wh) (fun _=>rfl) fun a hq hok=>by
  obtain⟨S,k,v,_⟩:=a;cases S with
  |none=>exact aY (inl:=(fun f=>f==214||f==213||f==215)) (ann:=aQ) (ae bC (ae bQ (ae dH aq))) aD (eh ir) (J8 k v) (by kernel_rfl)
  |some L=>exact aY (inl:=(fun f=>f==214||f==213||f==215)) (ann:=aQ) (ae bC (ae bQ (ae dH aq))) aD (eh ir) (Lj L k v) (by kernel_rfl)
theorem PM (k v:Key):
 abb (abb (aba (!decide (0<ak [])) (1=cC [] k v) (abb (aba (!(aU [] k&&decide (k.kind=4))) (190=cC [] k v) (abb (aba (!(decide ((abp [] k 0).kind=1)&&decide ((abp [] k 1).kind=1)&&decide (0<=(abp [] k 0).value)&&decide ((abp [] k 0).value<=(abp [] k 1).value)&&decide ((abp [] k 1).value<ak []))) (220=cC [] k v) (abb (abb (aba (!(aU [] v&&(decide (v.kind=2)||decide (v.kind=3)))) (5=cC [] k v) (abb (abb (aba (!(decide ((abp [] k 0).value<=v.oid)&&decide (v.oid<=(abp [] k 1).value)&& !decide (v.oid=k.oid))) (4=cC [] k v) (abb (abb (0=cC [] k v))))))))))))))):=by
 delta aba abp abb
 exact⟨rfl,rfl,fun h=>(tr (ru (He h) (by omega)) (by omega)).1,fun h=>absurd h (by decide)⟩
theorem P3 (k v:Key):
 abb (abb (aba (!decide (0<ak [])) (1=cC [] k v) (abb (aba (!(aU [] k&&decide (k.kind=4))) (190=cC [] k v) (abb (aba (!(decide ((abp [] k 0).kind=1)&&decide ((abp [] k 1).kind=1)&&decide (0<=(abp [] k 0).value)&&decide ((abp [] k 0).value<=(abp [] k 1).value)&&decide ((abp [] k 1).value<ak []))) (220=cC [] k v) (abb (abb (aba (!(aU [] v&&(decide (v.kind=2)||decide (v.kind=3)))) (5=cC [] k v) (abb (abb (aba (!(decide ((abp [] k 0).value<=v.oid)&&decide (v.oid<=(abp [] k 1).value)&& !decide (v.oid=k.oid))) (4=cC [] k v) (abb (abb False)))))))))))))):=by
 delta aba abp abb
 exact⟨rfl,rfl,fun h=>(tr (ru (He h) (by omega)) (by omega)).1,fun h=>absurd h (by decide)⟩
theorem Ry (L:List Sx.Obj) (k v:Key) (hL:ar L):
 abb (abb (aba (!decide (0<ak L)) (1=cC L k v/\L=gB L k v) (abb (aba (!(aU L k&&decide (k.kind=4))) (190=cC L k v/\L=gB L k v) (abb (aba (!(decide ((abp L k 0).kind=1)&&decide ((abp L k 1).kind=1)&&decide (0<=(abp L k 0).value)&&decide ((abp L k 0).value<=(abp L k 1).value)&&decide ((abp L k 1).value<ak L))) (220=cC L k v/\L=gB L k v) (abb (abb (aba (!(aU L v&&(decide (v.kind=2)||decide (v.kind=3)))) (5=cC L k v/\L=gB L k v) (abb (abb (aba (!(decide ((abp L k 0).value<=v.oid)&&decide (v.oid<=(abp L k 1).value)&& !decide (v.oid=k.oid))) (4=cC L k v/\L=gB L k v) (abb (abb (0=cC L k v/\cM L v.oid (Obj.mk free.kind (aL L v.oid).count free.calls free.slots free.bytes)=gB L k v))))))))))))))):=by
 delta aba abp abb
 refine⟨rfl,rfl,fun h=>tr (ru (He h) (by omega)) (by omega),fun h=>⟨rfl,fun h2=>tr (ru (bk2 h h2) (by omega)) (by omega),fun h2=>⟨rfl,fun h3=>tr (ru (bk3 h h2 h3) (by omega)) (by omega),fun h3=>⟨rfl,rfl,fun h4=>?_,fun h4=>⟨rfl,rfl,fun h5=>?_,fun h5=>⟨rfl,rfl,?_⟩⟩⟩⟩⟩⟩
 ·obtain⟨e,e1,e2⟩:=Tv h h2 h3;have ht:jb L v=false:=by have h4':(!jb L v)=true:=h4;simpa using h4'
  exact tr (by unfold cC;rw[aa4 e,ht];rfl) (by omega)
 ·obtain⟨e,e1,e2⟩:=Tv h h2 h3;have ht:jb L v=true:=by have h4':(!jb L v)=false:=h4;simpa using h4'
  rw[e1,e2]at h5
  exact tr (by
   unfold cC;rw[aa4 e,ht,aa4 rfl,aa3];intro hh;simp only[Bool.not_eq_true',Bool.and_eq_false_iff,Bool.not_eq_false',decide_eq_false_iff_not,aaY]at h5;omega) (by omega)
 ·obtain⟨e,e1,e2⟩:=Tv h h2 h3;have ht:jb L v=true:=by have h4':(!jb L v)=false:=h4;simpa using h4'
  rw[e1,e2]at h5
  have hE:cC L k v=0:=by
   unfold cC;rw[aa4 e,ht,aa4 rfl,aa4];simp only[Bool.not_eq_false',aaX,Bool.not_eq_true',aaY,decide_eq_false_iff_not]at h5;omega
  obtain⟨_,b2,b3,_⟩:=ef (EW ht);rw[fH b2 b3];refine⟨hE.symm,?_⟩;unfold gB;rw[aa4 hE];exact(lV b2 b3 (yv (dq hL v.oid.toNat (by omega)))).1
theorem T3 (L:List Sx.Obj) (k v:Key) (hL:ar L):an Tryz.prog 167 [.lp 0 0,.key k,.key v] [.store tS eS L] (C5 (.it .i64 (cC L k v)) (gB L k v)) (fun _ _=>False):=
 aY (inl:=(fun f=>f==214||f==213||f==215||f==216||f==217)) (ann:=aQ) (ae bC (ae bQ (ae gd aq))) (aB dz aD) (eh ir) (Ry L k v hL) (by kernel_rfl)
theorem RF:kJ Tryz.prog 167 W0:=
 nV (m:=fun x=>O2.cn x 0) (fL wh (fun _=>rfl)) (fun _=>rfl) (fun _ _=>rfl) (fun x=>aY (inl:=(fun f=>f==214||f==213||f==215||f==216||f==217)) (ann:=aQ) (ae bC (ae bQ (ae gd aq))) (aB dz aD) (eh ir) (PM x.1 x.2.1) (by kernel_rfl)) (fun x=>aY (inl:=(fun f=>f==214||f==213||f==215||f==216||f==217)) (ann:=aQ) (ae bC (ae bQ (ae gd aq))) (aB dz aD) (eh ir) (P3 x.1 x.2.1) (by kernel_rfl)) fun L x hL _ _=>T3 L x.1 x.2.1 hL
theorem J4 (k:Key):
 abb (abb (aba (!decide (0<ak [])) (0=fD [] k/\1=aN [] k) (abb (aba (!(aU [] k&&decide (k.kind=4))) (0=fD [] k/\190=aN [] k) (abb (aba (!(decide ((abp [] k 0).kind=1)&&decide ((abp [] k 1).kind=1)&&decide (0<=(abp [] k 0).value)&&decide ((abp [] k 0).value<=(abp [] k 1).value)&&decide ((abp [] k 1).value<ak []))) (0=fD [] k/\220=aN [] k) (abb (abb (∀(r0:Loop),False))))))))):=by
 delta aba abp abb
 exact⟨rfl,rfl,fun h=>(zs (He h) (by omega)).1,fun h=>absurd h (by decide)⟩
theorem Jv (k:Key):
 abb (abb (aba (!decide (0<ak [])) (0=fD [] k/\1=aN [] k) (abb (aba (!(aU [] k&&decide (k.kind=4))) (0=fD [] k/\190=aN [] k) (abb (aba (!(decide ((abp [] k 0).kind=1)&&decide ((abp [] k 1).kind=1)&&decide (0<=(abp [] k 0).value)&&decide ((abp [] k 0).value<=(abp [] k 1).value)&&decide ((abp [] k 1).value<ak []))) (0=fD [] k/\220=aN [] k) (abb (abb (∀(r0:Loop),False))))))))):=by
 delta aba abp abb
 exact⟨rfl,rfl,fun h=>(zs (He h) (by omega)).1,fun h=>absurd h (by decide)⟩
theorem M4 (L:List Sx.Obj) (k:Key) (hL:ar L):
 abb (abb (aba (!decide (0<ak L)) ((0=fD L k/\1=aN L k)/\L=g9 L k) (abb (aba (!(aU L k&&decide (k.kind=4))) ((0=fD L k/\190=aN L k)/\L=g9 L k) (abb (aba (!(decide ((abp L k 0).kind=1)&&decide ((abp L k 1).kind=1)&&decide (0<=(abp L k 0).value)&&decide ((abp L k 0).value<=(abp L k 1).value)&&decide ((abp L k 1).value<ak L))) ((0=fD L k/\220=aN L k)/\L=g9 L k) (abb (abb (∀(r0 :Loop),(∃g,sH L k g/\(abp L k 0).value=g/\L=dR L (az L k) g k.oid/\k=k/\0=eU L (az L k) g k.oid/\k=k/\aa L k=aa L k/\k.oid=k.oid/\(abp L k 0).value=(abp L k 0).value/\(abp L k 1).value=(abp L k 1).value/\aa L k=aa L k/\abp L k 0=abp L k 0/\abp L k 1=abp L k 1/\aa L k=aa L k/\k.oid=k.oid/\(abp L k 0).value=(abp L k 0).value/\(abp L k 1).value=(abp L k 1).value/\aa L k=aa L k/\k.oid=k.oid/\(abp L k 0).value=(abp L k 0).value/\(abp L k 1).value=(abp L k 1).value/\r0=r0)/\∀(g:Int),sH L k g->aba (decide (g<=(abp L k 1).value)) (r0=r0/\r0=r0/\aba (decide ((aL (dR L (az L k) g k.oid) g).kind=1)||decide ((aL (dR L (az L k) g k.oid) g).kind=2)) (abb (aba (decide ((abp L k 0).value<=g)&&decide (g<=(abp L k 1).value)&& !decide (g=k.oid)) (abb (abb (abd (eU L (az L k) g k.oid+1)/\r0=r0/\abd (g+1)/\∃g',sH L k g'/\(aI L k+1-g').toNat<(aI L k+1- g).toNat/\g+1=g'/\cM (dR L (az L k) g k.oid) g (Obj.mk free.kind (aL (dR L (az L k) g k.oid) g).count free.calls free.slots free.bytes)=dR L (az L k) g' k.oid/\k=k/\eU L (az L k) g k.oid+1=eU L (az L k) g' k.oid/\k=k/\aa L k=aa L k/\k.oid=k.oid/\(abp L k 0).value=(abp L k 0).value/\(abp L k 1).value=(abp L k 1).value/\aa L k=aa L k/\abp L k 0=abp L k 0/\abp L k 1=abp L k 1/\aa L k=aa L k/\k.oid=k.oid/\(abp L k 0).value=(abp L k 0).value/\(abp L k 1).value=(abp L k 1).value/\aa L k=aa L k/\k.oid=k.oid/\(abp L k 0).value=(abp L k 0).value/\(abp L k 1).value=(abp L k 1).value/\r0=r0))) (r0=r0/\abd (g+1)/\∃g',sH L k g'/\(aI L k+1-g').toNat<(aI L k+1-g).toNat/\g+1=g'/\dR L (az L k) g k.oid=dR L (az L k) g' k.oid/\k=k/\eU L (az L k) g k.oid=eU L (az L k) g' k.oid/\k=k/\aa L k=aa L k/\k.oid=k.oid/\(abp L k 0).value=(abp L k 0).value/\(abp L k 1).value=(abp L k 1).value/\aa L k=aa L k/\abp L k 0=abp L k 0/\abp L k 1=abp L k 1/\aa L k=aa L k/\k.oid=k.oid/\(abp L k 0).value=(abp L k 0).value/\(abp L k 1).value=(abp L k 1).value/\aa L k=aa L k/\k.oid=k.oid/\(abp L k 0).value=(abp L k 0).value/\(abp L k 1).value=(abp L k 1).value/\r0=r0))) (r0=r0/\abd (g+1)/\∃g',sH L k g'/\(aI L k+1-g').toNat<(aI L k+1-g).toNat/\g+1=g'/\dR L (az L k) g k.oid=dR L (az L k) g' k.oid/\k=k/\eU L (az L k) g k.oid=eU L (az L k) g' k.oid/\k=k/\aa L k=aa L k/\k.oid=k.oid/\(abp L k 0).value=(abp L k 0).value/\(abp L k 1).value=(abp L k 1).value/\aa L k=aa L k/\abp L k 0=abp L k 0/\abp L k 1=abp L k 1/\aa L k=aa L k/\k.oid=k.oid/\(abp L k 0).value=(abp L k 0).value/\(abp L k 1).value=(abp L k 1).value/\aa L k=aa L k/\k.oid=k.oid/\(abp L k 0).value=(abp L k 0).value/\(abp L k 1).value=(abp L k 1).value/\r0=r0)) ((eU L (az L k) g k.oid=fD L k/\0=aN L k)/\dR L (az L k) g k.oid=g9 L k)))))))))):=by
 delta aba abp abd abb
 refine⟨rfl,rfl,fun h=>zs (He h) (by omega),fun h=>⟨rfl,fun h2=>zs (bk2 h h2) (by omega),fun h2=>⟨rfl,fun h3=>zs (bk3 h h2 h3) (by omega),fun h3=>⟨rfl,rfl,fun r0=>?_⟩⟩⟩⟩
 obtain⟨e,e1,e2⟩:=Tv h h2 h3;obtain⟨_,a0,a1,a2,_⟩:=mL e;rw[e1,e2];have hlen:=gy hL;have hin:∀g:Int,az L k<=g->g<=aI L k->aF IntKind.i64 (g+1):=fun g h1 h2=>by simp only[aF,bY];omega
 have hnn:∀g:Int,aF IntKind.i64 (eU L (az L k) g k.oid+1):=fun g=>by
  have:=tH (L:=L) (f:=az L k) (g:=g) (oid:=k.oid);have:=PY (L:=L) (f:=az L k) (g:=g) (oid:=k.oid);simp only[aF,bY];omega
 refine⟨⟨az L k,⟨by omega,by omega⟩,rfl,MJ,rfl,vh.symm,(by(repeat' apply And.intro)<;>rfl)⟩,fun g hg=>⟨fun hgl=>?_,fun hgl=>?_⟩⟩
 ·obtain⟨g0,g1⟩:=hg;have hgl:=aa1 hgl;have hgz:(dR L (az L k) g k.oid).length=L.length:=Dk;have hgt:aL (dR L (az L k) g k.oid) g=aj L g.toNat free:=by rw[fH (by omega) (by omega),LR (by omega)]
  rw[hgt];refine⟨rfl,rfl,fun hk=>⟨rfl,fun hb=>?_,fun hb=>?_⟩,fun hk=>?_⟩
  ·have hne:¬g=k.oid:=by
    simp only[aaX,Bool.not_eq_true',decide_eq_false_iff_not]at hb;exact hb.2
   have hh:j3 L g k.oid=true:=by unfold j3 mH;rw[hk];simp[hne]
   have hs:=yx (L:=L) (f:=az L k) (oid:=k.oid) (by omega:0<=g) (by omega) g0 hh
   have hs2:=Cd (L:=L) (f:=az L k) (oid:=k.oid) (by omega:0<=g) (by omega) g0 hh
   have hp:=(lV (L:=dR L (az L k) g k.oid) (i:=g) (by omega) (by omega) (hgz▸yv (dq hL g.toNat (by omega)))).1
   exact⟨rfl,rfl,hnn g,rfl,hin g g0 hgl,g+1,⟨by omega,by omega⟩,by omega,rfl,hp.trans hs2,rfl,hs.symm,(by(repeat' apply And.intro)<;>rfl)⟩
  ·have hh:j3 L g k.oid=false:=by
    have e3:decide (az L k<=g)=true:=by simp;omega
    have e4:decide (g<=aI L k)=true:=by simp;omega
    rw[e3,e4]at hb;unfold j3;rw[Bool.and_eq_false_iff];right
    simpa using hb
   have hs:=uV (L:=L) (f:=az L k) (oid:=k.oid) (by omega:0<=g) g0 hh
   have hs2:=yz (L:=L) (f:=az L k) (oid:=k.oid) (by omega:0<=g) g0 hh
   exact⟨rfl,hin g g0 hgl,g+1,⟨by omega,by omega⟩,by omega,rfl,hs2.symm,rfl,hs.symm,(by(repeat' apply And.intro)<;>rfl)⟩
  ·have hh:j3 L g k.oid=false:=by unfold j3 mH;rw[hk];rfl
   have hs:=uV (L:=L) (f:=az L k) (oid:=k.oid) (by omega:0<=g) g0 hh
   have hs2:=yz (L:=L) (f:=az L k) (oid:=k.oid) (by omega:0<=g) g0 hh
   exact⟨rfl,hin g g0 hgl,g+1,⟨by omega,by omega⟩,by omega,rfl,hs2.symm,rfl,hs.symm,(by(repeat' apply And.intro)<;>rfl)⟩
 ·obtain⟨g0,g1⟩:=hg;have hgl:=aa0 hgl;have:g=aI L k+1:=by omega
  subst this;exact⟨⟨by unfold fD;rw[aa4 e],e.symm⟩,by unfold g9;rw[aa4 e]⟩
theorem Mx (L:List Sx.Obj) (k:Key) (hL:ar L):an Tryz.prog 225 [.lp 0 0,.key k] [.store tS eS L] (C5 (.tp [.it .i64 (fD L k),.it .i64 (aN L k)]) (g9 L k)) (fun _ _=>False):=
 aY (inl:=(fun f=>f==214||f==213||f==216||f==217||f==219||f==1000000+232)) (ann:=(iu [(5000+232,1,lpT [0,1] (fun(g:Int)=> [(3,.it .i64 g)]) (fun g=> [(0,.store tS eS (dR L (az L k) g k.oid)),(2,.blk 3 (.it .i64 (eU L (az L k) g k.oid)))]) (sH L k) (fun g=>pH (sW (Al (aI L k) 1) g)))])) (ae bC (ae bQ (ae gd aq))) (aB dz aD) (eh ir) (M4 L k hL) (by kernel_rfl)
theorem LQ:kJ Tryz.prog 225 R0:=
 nV (m:=fun x=>kB.cn x 0) (fL E5 (fun _=>rfl)) (fun _=>rfl) (fun _ _=>rfl) (fun x=>aY (inl:=(fun f=>f==214||f==213||f==216||f==217||f==219||f==1000000+232)) (ann:=aQ) (ae bC (ae bQ (ae gd aq))) (aB dz aD) (eh ir) (J4 x.1) (by kernel_rfl)) (fun x=>aY (inl:=(fun f=>f==214||f==213||f==216||f==217||f==219||f==1000000+232)) (ann:=aQ) (ae bC (ae bQ (ae gd aq))) (aB dz aD) (eh ir) (Jv x.1) (by kernel_rfl)) fun L x hL _ _=>Mx L x.1 hL
theorem I9 (k:Key) (kind:Int):
 abb (abb (aba (!decide (0<ak [])) (void=dc [] k kind/\1=cx [] k kind) (abb (aba (!(aU [] k&&decide (k.kind=4))) (void=dc [] k kind/\190=cx [] k kind) (abb (aba (!(decide ((abp [] k 0).kind=1)&&decide ((abp [] k 1).kind=1)&&decide (0<=(abp [] k 0).value)&&decide ((abp [] k 0).value<=(abp [] k 1).value)&&decide ((abp [] k 1).value<ak []))) (void=dc [] k kind/\220=cx [] k kind) (abb (aba (!(decide (kind=1)||decide (kind=2))) (void=dc [] k kind/\2=cx [] k kind) (abb (abb (abb (∀(r0:Loop),False)))))))))))):=by
 delta aba abp abb
 exact⟨rfl,rfl,fun h=>(wk (rE (He h) (by omega)) (by omega)).1,fun h=>absurd h (by decide)⟩
theorem JI (k:Key) (kind:Int):
 abb (abb (aba (!decide (0<ak [])) (void=dc [] k kind/\1=cx [] k kind) (abb (aba (!(aU [] k&&decide (k.kind=4))) (void=dc [] k kind/\190=cx [] k kind) (abb (aba (!(decide ((abp [] k 0).kind=1)&&decide ((abp [] k 1).kind=1)&&decide (0<=(abp [] k 0).value)&&decide ((abp [] k 0).value<=(abp [] k 1).value)&&decide ((abp [] k 1).value<ak []))) (void=dc [] k kind/\220=cx [] k kind) (abb (aba (!(decide (kind=1)||decide (kind=2))) (void=dc [] k kind/\2=cx [] k kind) (abb (abb (abb (∀(r0:Loop),False)))))))))))):=by
 delta aba abp abb
 exact⟨rfl,rfl,fun h=>(wk (rE (He h) (by omega)) (by omega)).1,fun h=>absurd h (by decide)⟩
theorem NQ (L:List Sx.Obj) (k:Key) (kind:Int) (hL:ar L):
 abb (abb (aba (!decide (0<ak L)) ((void=dc L k kind/\1=cx L k kind)/\L=ft L k kind) (abb (aba (!(aU L k&&decide (k.kind=4))) ((void=dc L k kind/\190=cx L k kind)/\L=ft L k kind) (abb (aba (!(decide ((abp L k 0).kind=1)&&decide ((abp L k 1).kind=1)&&decide (0<=(abp L k 0).value)&&decide ((abp L k 0).value<=(abp L k 1).value)&&decide ((abp L k 1).value<ak L))) ((void=dc L k kind/\220=cx L k kind)/\L=ft L k kind) (abb (aba (!(decide (kind=1)||decide (kind=2))) ((void=dc L k kind/\2=cx L k kind)/\L=ft L k kind) (abb (abb (abb (∀(r0:Loop),(∃g,jB L k g/\(abp L k 0).value=g/\L=bM L (az L k) g/\k=k/\void=void/\k=k/\aa L k=aa L k/\k.oid=k.oid/\(abp L k 0).value=(abp L k 0).value/\(abp L k 1).value=(abp L k 1).value/\aa L k=aa L k/\abp L k 0=abp L k 0/\abp L k 1=abp L k 1/\aa L k=aa L k/\k.oid=k.oid/\(abp L k 0).value=(abp L k 0).value/\(abp L k 1).value=(abp L k 1).value/\aa L k=aa L k/\k.oid=k.oid/\(abp L k 0).value=(abp L k 0).value/\(abp L k 1).value=(abp L k 1).value/\kind=kind/\void=void/\false=false/\aa L k=aa L k/\k.oid=k.oid/\(abp L k 0).value=(abp L k 0).value/\(abp L k 1).value=(abp L k 1).value/\r0=r0)/\∀(g:Int),jB L k g->aba (decide (g<=(abp L k 1).value)) (r0=r0/\r0=r0/\aba (!decide ((aL (bM L (az L k) g) g).kind=0)) (r0=r0/\abd (g+1)/\∃g',jB L k g'/\(aI L k+1-g').toNat<(aI L k+1-g).toNat/\g+1=g'/\bM L (az L k) g=bM L (az L k) g'/\k=k/\void=void/\k=k/\aa L k=aa L k/\k.oid=k.oid/\(abp L k 0).value=(abp L k 0).value/\(abp L k 1).value=(abp L k 1).value/\aa L k=aa L k/\abp L k 0=abp L k 0/\abp L k 1=abp L k 1/\aa L k=aa L k/\k.oid=k.oid/\(abp L k 0).value=(abp L k 0).value/\(abp L k 1).value=(abp L k 1).value/\aa L k=aa L k/\k.oid=k.oid/\(abp L k 0).value=(abp L k 0).value/\(abp L k 1).value=(abp L k 1).value/\kind=kind/\void=void/\false=false/\aa L k=aa L k/\k.oid=k.oid/\(abp L k 0).value=(abp L k 0).value/\(abp L k 1).value=(abp L k 1).value/\r0=r0) (aba (decide ((aL (bM L (az L k) g) g).count=4294967295)) (abb (r0=r0/\abd (g+1)/\∃g',jB L k g'/\(aI L k+1-g').toNat<(aI L k+1-g).toNat/\g+1=g'/\cM (bM L (az L k) g) g (Obj.mk 3 (aL (bM L (az L k) g) g).count free.calls free.slots free.bytes)=bM L (az L k) g'/\k=k/\void=void/\k=k/\aa L k=aa L k/\k.oid=k.oid/\(abp L k 0).value=(abp L k 0).value/\(abp L k 1).value=(abp L k 1).value/\aa L k=aa L k/\abp L k 0=abp L k 0/\abp L k 1=abp L k 1/\aa L k=aa L k/\k.oid=k.oid/\(abp L k 0).value=(abp L k 0).value/\(abp L k 1).value=(abp L k 1).value/\aa L k=aa L k/\k.oid=k.oid/\(abp L k 0).value=(abp L k 0).value/\(abp L k 1).value=(abp L k 1).value/\kind=kind/\void=void/\false=false/\aa L k=aa L k/\k.oid=k.oid/\(abp L k 0).value=(abp L k 0).value/\(abp L k 1).value=(abp L k 1).value/\r0=r0)) (abd ((aL (bM L (az L k) g) g).count+1)/\abb (abd ((aL (bM L (az L k) g) g).count+1)/\r0=r0/\abb ((de kind g ((aL (bM L (az L k) g) g).count+1)=dc L k kind/\0=cx L k kind)/\cM (bM L (az L k) g) g (Obj.mk kind ((aL (bM L (az L k) g) g).count+1) free.calls free.slots free.bytes)=ft L k kind))))) (abb ((void=dc L k kind/\221=cx L k kind)/\bM L (az L k) g=ft L k kind)))))))))))))):=by
 delta aba abp abd abb
 refine⟨rfl,rfl,fun h=>wk (rE (He h) (by omega)) (by omega),fun h=>⟨rfl,fun h2=>wk (rE (bk2 h h2) (by omega)) (by omega),fun h2=>⟨rfl,fun h3=>wk (rE (bk3 h h2 h3) (by omega)) (by omega),fun h3=>⟨rfl,fun h4=>wk (N9 (Tv h h2 h3).1 h4) (by omega),fun h4=>⟨rfl,rfl,rfl,fun r0=>?_⟩⟩⟩⟩⟩
 obtain⟨e,e1,e2⟩:=Tv h h2 h3;obtain⟨_,a0,a1,a2,_⟩:=mL e;rw[e1,e2]
 have hk:kind=1\/kind=2:=by
  simp only[Bool.not_eq_false',Bool.or_eq_true,aaY]at h4;exact h4
 have hlen:=gy hL;have hin:∀g:Int,az L k<=g->g<=aI L k->aF IntKind.i64 (g+1):=fun g h1 h2=>by simp only[aF,bY];omega
 have hcnt:∀j:Nat,j<L.length->0<=(aj L j free).count/\(aj L j free).count<=4294967295:=fun j hj=>⟨(j7 (dq hL j hj)).1,(j7 (dq hL j hj)).2.1⟩
 have hci:∀j:Nat,j<L.length->aF IntKind.i64 ((aj L j free).count+1):=fun j hj=>by have:=hcnt j hj;simp only[aF,bY];omega
 refine⟨⟨az L k,⟨by omega,by omega,tz⟩,rfl,D2,(by(repeat' apply And.intro)<;>rfl)⟩,fun g hg=>⟨fun hgl=>?_,fun hgl=>?_⟩⟩
 ·obtain⟨g0,g1,g2⟩:=hg;have hgl:=aa1 hgl;have hgn:g.toNat<L.length:=by omega
  have hgz:(bM L (az L k) g).length=L.length:=kL;have hgt:aL (bM L (az L k) g) g=aj L g.toNat free:=by rw[fH (by omega) (by omega),C2 (by omega)]
  rw[hgt];refine⟨rfl,rfl,fun hk0=>?_,fun hk0=>⟨fun hc=>?_,fun hc=>?_⟩⟩
  ·obtain⟨f1,f2⟩:=xM (o:=aj L g.toNat free) (by simpa using hk0)
   exact⟨rfl,hin g g0 hgl,g+1,⟨by omega,by omega,jV g2 f2⟩,by omega,rfl,(Ad (by omega) f1).symm,(by(repeat' apply And.intro)<;>rfl)⟩
  ·obtain⟨f1,f2⟩:=C1 (o:=aj L g.toNat free) (by simpa using hk0) (by have:=aa1 hc;omega)
   have hp:=(lV (L:=bM L (az L k) g) (i:=g) (by omega) (by omega) (hgz▸Cb (dq hL g.toNat hgn))).1
   exact⟨rfl,rfl,hin g g0 hgl,g+1,⟨by omega,by omega,jV g2 f2⟩,by omega,rfl,hp.trans (ya (by omega) (by omega) g0 f1),(by(repeat' apply And.intro)<;>rfl)⟩
  ·have hc:=aa0 hc;have:=hcnt _ hgn;obtain⟨f1,f2⟩:=Du (o:=aj L g.toNat free) (by simpa using hk0) (by omega)
   obtain⟨m1,m2,m3⟩:=yj kind a0 g0 hgl (by omega) g2 f2
   obtain⟨n1,n2,n3,n4⟩:=HG (kind:=kind) e hk (by rw[m1];omega)
   have hp:=(lV (L:=bM L (az L k) g) (i:=g) (by omega) (by omega) (hgz▸Dq (dq hL g.toNat hgn) f2 hk)).1
   refine⟨hci _ hgn,rfl,hci _ hgn,rfl,rfl,⟨?_,n3⟩,hp.trans (m3.symm.trans n4)⟩;have hK:dc L k kind=de kind (bu L (az L k) (aI L k)) ((aj L (bu L (az L k) (aI L k)).toNat free).count+1):=by unfold dc;rw[aa4 n3.symm]
   rw[hK,m1]
 ·obtain⟨g0,g1,g2⟩:=hg;have hgl:=aa0 hgl;have:g=aI L k+1:=by omega
  subst this;obtain⟨m1,m2,m3⟩:=CR kind g2;obtain⟨n1,n2,n3,n4⟩:=yS (kind:=kind) e hk m1;exact⟨rfl,⟨n2,n3⟩,m2.symm.trans n4⟩
theorem PC (L:List Sx.Obj) (k:Key) (kind:Int) (hL:ar L):an Tryz.prog 211 [.lp 0 0,.key k,.it .i64 kind] [.store tS eS L] (C5 (.tp [.key (dc L k kind),.it .i64 (cx L k kind)]) (ft L k kind)) (fun _ _=>False):=
 aY (inl:=(fun f=>f==214||f==213||f==218||f==219||f==1000000+232)) (ann:=(iu [(3000+232,1,YI [0,1] (fun g=> [(3,.it .i64 g)]) 0 (fun g=> .store tS eS (bM L (az L k) g)) (jB L k) (Al (aI L k) 1))])) (ae bC (ae bQ (ae gd (ae r8 aq)))) (aB dz aD) (eh ir) (NQ L k kind hL) (by kernel_rfl)
theorem Fs:kJ Tryz.prog 211 Un:=
 nV (m:=fun x=>Sf.cn x 0) (fL Cx (fun _=>rfl)) (fun _=>rfl) (fun _ _=>rfl) (fun x=>aY (inl:=(fun f=>f==214||f==213||f==218||f==219||f==1000000+232)) (ann:=aQ) (ae bC (ae bQ (ae gd (ae r8 aq)))) (aB dz aD) (eh ir) (I9 x.1 x.2.1) (by kernel_rfl)) (fun x=>aY (inl:=(fun f=>f==214||f==213||f==218||f==219||f==1000000+232)) (ann:=aQ) (ae bC (ae bQ (ae gd (ae r8 aq)))) (aB dz aD) (eh ir) (JI x.1 x.2.1) (by kernel_rfl)) fun L x hL _ _=>PC L x.1 x.2.1 hL
theorem WM {P:Program} {f:Nat} {g g':Ct} (h:cq P f g) (ha:∀res nid args q x new,g' res nid args=some (q,x,new)->∃x0,g res nid args=some (q,x0,new)/\(∀J,den J x=den J x0)/\∀K,ok K x0->ok K x):cq P f g':=by
 intro J fps res K w0 F0 w nid args q x new hH hargs hg hq hfr;obtain⟨x0,h1,h2,h3⟩:=ha res nid args q x new hg;obtain⟨c1,c2⟩:=h J fps res K w0 F0 w nid args q x0 new hH hargs h1 hq hfr;refine⟨c1.mono fun e w' ⟨v,he,hv⟩=>⟨v,he,?_⟩,c2⟩
 obtain⟨ρ',hgr,hv,hx⟩:=hv;exact⟨ρ',hgr,by rw[h2];exact hv,h3 _ hx⟩
theorem uM:cq Tryz.prog 42 HJ:=by
 refine WM pY fun res nid args q x new h=>?_
 unfold HJ at h;split at h
 ·rename_i a;split at h
  ·rename_i o L hr;split at h
   ·simp only[aaV,aaW]at h;obtain⟨rfl,rfl,rfl⟩:=h
    have hL:L= []:=by
     rcases u6 hr with⟨_,rfl,_⟩|⟨k,h,_⟩
     ·rfl
     ·simp at h
    subst hL;exact⟨.bo (bn []),by unfold FO Vu;simp only[hr],fun J=>by simp[den,sg],fun _ _=>trivial⟩
   ·simp only[aaV,aaW]at h;obtain⟨rfl,rfl,rfl⟩:=h;exact⟨.bo (bn L),by unfold FO Vu;simp only[hr],fun J=>rfl,fun _ h=>h⟩
  ·simp at h
 ·simp at h
theorem NN:
 Value.pointer none=Value.pointer none:=by
 rfl
theorem Po:an Tryz.prog 33 [jJ] [] (oD jJ) (fun _ _=>False):=aZ (inl:=bx) (ann:=aQ) (ae uM aq) NN (by kernel_rfl)
theorem Oo (L:List Sx.Obj) (hL:L.length<=1000):
 aba (bn L) (bn L=true) ((∃g,p9 L g/\Value.pointer none=Value.pointer none/\bD (ai L)=bD (ai L)/\0=g/\L=L/\[]=lS L g)/\∀(g:Int),p9 L g->aba (decide (g<bD (ai L))) ((0<=g/\g< ↑(ai L))/\g.toNat<ai L/\g.toNat<ai L/\sU (ai (lS L g)) 8/\aF IntKind.i64 (g+1)/\∃g',p9 L g'/\(bD (ai L)-g').toNat<(bD (ai L)-g).toNat/\Value.pointer none=Value.pointer none/\bD (ai L)=bD (ai L)/\g+1=g'/\L=L/\jl (lS L g) (aj L g.toNat free)=lS L g') (bn L=false/\lS L g=L)):=by
 delta aba
 refine⟨fun h=>h,fun h=>⟨⟨0,⟨by omega,by omega⟩,rfl,rfl,rfl,rfl,rfl⟩,fun g hg=>⟨fun hlt=>?_,fun hge=>?_⟩⟩⟩
 ·obtain⟨g0,g1⟩:=hg;have hlt:g<bD (ai L):=aa1 hlt;have hn:=iw L;have hle:=mz L;rw[hn]at hlt⊢;have ht:=Mf (L:=L) (g:=g);exact⟨⟨g0,by omega⟩,by omega,by omega,Il (by omega),by simp only[aF,bY];omega,g+1,⟨by omega,by omega⟩,by omega,rfl,rfl,rfl,rfl,Nh g0 hlt⟩
 ·obtain⟨g0,g1⟩:=hg;have hge:¬g<bD (ai L):=aa0 hge;rw[iw]at hge;exact⟨h,Ld (by omega)⟩
theorem Mq {L:List Sx.Obj} (hb:bn L=true) {v:V} {r:List aK} (h:Fk L v r):xj jJ v []:=by
 unfold Fk at h;split at h
 ·split at h
  ·exact fun J K=>ub.refl _ _ _
  ·exact h.elim
 ·split at h
  ·split at h
   ·rw[hb]at h;simp at h
   ·exact h.elim
  ·exact h.elim
 ·exact h.elim
theorem Jj {L:List Sx.Obj} (hb:bn L=false) {v:V} {r:List aK} (h:Fk L v r):∃j r',1<=j/\(r'=r\/uF r j=some r')/\ay r' j= .store tS eS L/\∀(κ:Nat->Option Nat) (i:Nat),κ j=some i->jR κ v (.lp i 0):=by
 unfold Fk at h;split at h
 ·split at h
  ·rw[hb]at h;simp at h
  ·exact h.elim
 ·split at h
  ·rename_i j off _ t e M hst;split at h
   ·rename_i hc;simp only[aaX,aaZ,Nat.ble_eq]at hc;obtain⟨⟨⟨rfl,rfl⟩,rfl⟩,hj⟩:=hc;obtain⟨_,rfl⟩:=h;have ht:∀(κ:Nat->Option Nat) (i:Nat),κ j=some i->jR κ (.lp j 0) (.lp i 0):=fun κ i hi ρ2 ρ3 N N' hv hN hk=>⟨by simp only[den,(hv j i hi).1],hN j i hi hk⟩
    rcases DK hst with h1|⟨r',h1,h2⟩
    ·exact⟨j,r,hj,.inl rfl,h1,ht⟩
    ·exact⟨j,r',hj,.inr h1,h2,ht⟩
   ·exact h.elim
  ·exact h.elim
 ·exact h.elim
theorem To {L M:List Sx.Obj} (hb:j9 L M=true) {v:V} {r:List aK} (h:Pw L M v r):xj Yw v []:=by
 unfold Pw at h;split at h
 ·split at h
  ·exact fun J K=>ub.refl _ _ _
  ·exact h.elim
 ·split at h
  ·split at h
   ·split at h
    ·split at h
     ·split at h
      ·rw[hb]at h;simp at h
      ·exact h.elim
     ·exact h.elim
    ·exact h.elim
   ·exact h.elim
  ·exact h.elim
 ·exact h.elim
theorem KJ {L M:List Sx.Obj} (hb:j9 L M=false) {v:V} {r:List aK} (h:Pw L M v r):∃j,2<=j/\ay r j= .arr (some tI) 1 (.it .i64 (dN L M))/\∀(κ:Nat->Option Nat) (i:Nat),κ j=some i->jR κ v (.sa i):=by
 unfold Pw at h;split at h
 ·split at h
  ·rw[hb]at h;simp at h
  ·exact h.elim
 ·split at h
  ·rename_i hj;split at h
   ·split at h
    ·split at h
     ·split at h
      ·rename_i hc;simp only[aaX,aaZ,Nat.ble_eq]at hc;obtain⟨⟨rfl,rfl⟩,hj2⟩:=hc;obtain⟨_,rfl⟩:=h;exact⟨_,hj2,hj,fun κ i hi ρ2 ρ3 N N' hv hN hk=>⟨by simp only[den,(hv _ i hi).2.1,(hv _ i hi).2.2.2.1,(hv _ i hi).2.2.2.2.1],hN _ i hi hk⟩⟩
      ·exact h.elim
     ·exact h.elim
    ·exact h.elim
   ·exact h.elim
  ·exact h.elim
 ·exact h.elim
theorem EU (L:List Sx.Obj) (hL:L.length<=1000):an Tryz.prog 33 [.lp 0 0] [.ro (.blk tS (.ag [.sa 1])),.ro (.obs eS 2 L),.gen 1] (Fk L) (fun _ _=>False):=aZ (inl:=bx) (ann:=(iu [(33,5,lpB [0,2,3,14,15] (fun g=> [(16,.it .i64 g)]) 3 tS eS (lS L) (p9 L) (bD (ai L)))])) (ae uM aq) (Oo L hL) (by kernel_rfl)
theorem uo:kJ Tryz.prog 33 Qf:=by
 intro args res K KP h;unfold Qf at h;split at h
 ·split at h
  ·split at h
   ·exact an.pure rfl rfl (Po.mono (fun _ _ h=>dE h) fun _ _ h=>h) h
   ·exact h.elim
  ·rename_i k off;split at h
   ·rename_i hoff;have hoff:=aaZ.1 hoff;subst hoff;split at h
    ·rename_i t e L hr;split at h
     ·rename_i hc;simp only[aaX,aaZ]at hc;obtain⟨rfl,rfl⟩:=hc;obtain⟨hL,h1,h2⟩:=h;have hk:=dU hr (by simp)
      have hlt:=aO hk;have hres:eV (k7 0 (dB [(k,false)])) res [(k,false)]= [.ro (.store tS eS L)]:=by simp[eV,hr,gm]
      cases hb:bn L with
      |true=>
       refine an.VL (pl:= [(k,false)]) (x:=jJ) (args0:= [.lp 0 0]) (by simp[eH,cD.2 hk]) (by simpa[iD,dB,nL]using hlt) (by simp) (by simp[eO,fU,k7,idxOf,dB]) rfl ?_ (h1 hb)
       rw[hres];exact(an.fy (k:=0) rfl (EU L hL)).mono (fun v r hv=>Mq hb hv) fun _ _ h=>h
      |false=>
       refine an.Zn (pl:= [(k,false)]) (new:= .store tS eS L) (F:=fun j=> .lp j 0) (args0:= [.lp 0 0]) (by simp[eH,cD.2 hk]) (by simpa[iD,dB,nL]using hlt) (by simp) (by simp[eO,fU,k7,idxOf,dB]) rfl (by simp) (fun κ=>rfl) ?_ (h2 hb)
       rw[hres];refine an.fy (k:=0) rfl (an.shut (EU L hL) fun v r hv=>?_)
       obtain⟨j,r',hj,h1,h2,h3⟩:=Jj hb hv;rcases h1 with rfl|h1
       ·exact .inl ⟨j,hj,h2,h3⟩
       ·exact .inr ⟨j,r',h1,j,hj,h2,h3⟩
     ·exact h.elim
    ·exact h.elim
   ·exact h.elim
  ·exact h.elim
 ·exact h.elim
theorem Sa (L:List Sx.Obj):
 Value.slice none 0 0=Value.slice none 0 0:=by
 rfl
theorem Rl (L:List Sx.Obj):an Tryz.prog 43 [jJ,.lp 0 0] [.ro (.store tS eS L)] (oD Yw) (fun _ _=>False):=aZ (inl:=bx) (ann:=aQ) (ae uM aq) (Sa L) (by kernel_rfl)
theorem Sc (L M:List Sx.Obj) (hL:L.length<=1000):
 aba (bn L||bn M|| !decide (bD (ai L)=bD (ai M))) (j9 L M=true) (true=true/\true=true/\∀(r0:Loop),(∃g,p9 L g/\bD (ai L)=bD (ai L)/\0=g/\L=L/\M=M/\r0=r0/\[]=iT L M g)/\∀(g:Int),p9 L g->aba (decide (g<bD (ai L))) ((0<=g/\g< ↑(ai L))/\g.toNat<ai L/\g.toNat<ai L/\(0<=g/\g< ↑(ai M))/\g.toNat<ai M/\g.toNat<ai M/\aba (!C0 (aj L g.toNat free) (aj M g.toNat free)) (r0=r0/\r0=r0/\sU (ai (iT L M g)) 8/\r0=r0/\abd (g+1)/\∃g',p9 L g'/\(bD (ai L)-g').toNat<(bD (ai L)-g).toNat/\bD (ai L)=bD (ai L)/\g+1=g'/\L=L/\M=M/\r0=r0/\jl (iT L M g) g=iT L M g') (abd (g+1)/\∃g',p9 L g'/\(bD (ai L)-g').toNat<(bD (ai L)-g).toNat/\bD (ai L)=bD (ai L)/\g+1=g'/\L=L/\M=M/\r0=r0/\iT L M g=iT L M g')) (j9 L M=false/\iT L M g=dN L M)):=by
 delta aba abd
 refine⟨fun h=>h,fun h=>⟨rfl,rfl,fun r0=>?_⟩⟩
 have hlm:L.length=M.length:=by
  have h2:((bn L||bn M)|| !decide (bD (ai L)=bD (ai M)))=false:=h
  rw[Bool.or_eq_false_iff]at h2;have h3:=h2.2;rw[iw,iw]at h3;have h4:(L.length:Int)=(M.length:Int):=by simpa using h3
  omega
 have hn:=iw L;have hle:=mz L;have hle2:=mz M;refine⟨⟨0,⟨by omega,by omega⟩,rfl,rfl,rfl,rfl,rfl,rfl⟩,fun g hg=>⟨fun hlt=>?_,fun hge=>?_⟩⟩
 obtain⟨g0,g1⟩:=hg;have hlt:g<bD (ai L):=aa1 hlt;rw[hn]at hlt⊢;have ht:=N7 (L:=L) (M:=M) (g:=g);have hr:aF IntKind.i64 (g+1):=by simp only[aF,bY];omega
 exact⟨⟨g0,by omega⟩,by omega,by omega,⟨g0,by omega⟩,by omega,by omega,fun h=>⟨rfl,rfl,Il (by omega),rfl,hr,g+1,⟨by omega,by omega⟩,by omega,rfl,rfl,rfl,rfl,rfl,Oz g0 h⟩,fun h=>⟨hr,g+1,⟨by omega,by omega⟩,by omega,rfl,rfl,rfl,rfl,rfl,Tn g0 h⟩⟩
 obtain⟨g0,g1⟩:=hg;have hge:¬g<bD (ai L):=aa0 hge;rw[hn]at hge;exact⟨h,by unfold dN;rw[show g=(ai L:Int) by omega]⟩
theorem H7 (L M:List Sx.Obj) (hL:L.length<=1000):an Tryz.prog 43 [.lp 0 0,.lp 1 0] [.ro (.blk tS (.ag [.sa 2])),.ro (.blk tS (.ag [.sa 4])),.ro (.obs eS 3 L),.gen 2,.ro (.obs eS 5 M),.gen 4] (Pw L M) (fun _ _=>False):=aZ (inl:=(fun f=>f==43||f==66)) (ann:=(iu [(6000+103,1,lpV [0,1,2,6] (fun g=> [(7,.it .i64 g)]) 6 103 tI 1 (fun g=> .it .i64 (iT L M g)) (p9 L) (bD (ai L)))])) (ae uM aq) (Sc L M hL) (by kernel_rfl)
theorem Gd:kJ Tryz.prog 43 UR:=by
 intro args res K KP h;unfold UR at h;split at h
 ·rename_i a b;split at h
  ·rename_i j off;split at h
   ·rename_i hoff;have hoff:=aaZ.1 hoff;subst hoff;split at h
    ·rename_i t e M hr;split at h
     ·rename_i hc;simp only[aaX,aaZ]at hc;obtain⟨rfl,rfl⟩:=hc;have hj:=dU hr (by simp)
      have hjl:=aO hj;split at h
      ·split at h
       ·have hres:eV (k7 0 (dB [(j,false)])) res [(j,false)]= [.ro (.store tS eS M)]:=by simp[eV,hr,gm]
        refine an.VL (pl:= [(j,false)]) (x:=Yw) (args0:= [jJ,.lp 0 0]) (by simp[eH,cD.2 hj]) (by simpa[iD,dB,nL]using hjl) (by simp) (by simp[eO,fU,k7,idxOf,dB,jJ]) rfl ?_ h
        rw[hres];exact(Rl M).mono (fun _ _ h=>dE h) fun _ _ h=>h
       ·exact h.elim
      ·rename_i k off';split at h
       ·rename_i hoff;simp only[aaX,aaZ,Bool.not_eq_true',beq_eq_false_iff_ne]at hoff;obtain⟨rfl,hkj⟩:=hoff;split at h
        ·rename_i t' e' L hrk;split at h
         ·rename_i hc;simp only[aaX,aaZ]at hc;obtain⟨rfl,rfl⟩:=hc;obtain⟨hL,h1,h2⟩:=h;have hk:=dU hrk (by simp)
          have hkl:=aO hk;have hres:eV (k7 0 (dB [(k,false),(j,false)])) res [(k,false),(j,false)]= [.ro (.store tS eS L),.ro (.store tS eS M)]:=by simp[eV,hr,hrk,gm]
          have hargs:eO (k7 0 (dB [(k,false),(j,false)])) [.lp k 0,.lp j 0]=some [.lp 0 0,.lp 1 0]:=by
           simp[eO,fU,k7,idxOf,dB,hkj]
          have hka:eH res [(k,false),(j,false)]=true:=by simp[eH,cD.2 hk,cD.2 hj]
          have hoe:iD 0 res.length (dB [(k,false),(j,false)])=true:=by simpa[iD,dB,nL]using⟨⟨hkl,Ne.symm hkj⟩,hjl⟩
          cases hb:j9 L M with
          |true=>
           refine an.VL (x:=Yw) hka hoe (by simp) hargs rfl ?_ (h1 hb)
           rw[hres];exact(an.fy (k:=0) rfl (an.fy (k:=1) rfl (H7 L M hL))).mono (fun v r hv=>To hb hv) fun _ _ h=>h
          |false=>
           refine an.Zn (new:= .arr (some tI) 1 (.it .i64 (dN L M))) (F:=fun j=> .sa j) hka hoe (by simp) hargs rfl (by simp) (fun κ=>rfl) ?_ (h2 hb)
           rw[hres];exact(an.fy (k:=0) rfl (an.fy (k:=1) rfl (H7 L M hL))).mono (fun v r hv=>KJ hb hv) fun _ _ h=>h
         ·exact h.elim
        ·exact h.elim
       ·exact h.elim
      ·exact h.elim
     ·exact h.elim
    ·exact h.elim
   ·exact h.elim
  ·exact h.elim
 ·exact h.elim
abbrev abq(k:Key):=!(decide ((abp [] k 0).kind=1)&&decide ((abp [] k 1).kind=1)&&decide (0<=(abp [] k 0).value)&&decide ((abp [] k 0).value<=(abp [] k 1).value)&&decide ((abp [] k 1).value<ak []))
theorem GV (k:Key) (n:Int):
 abb (abb (aba (!decide (0<ak [])) (void=cc [] k n/\1=b7 [] k n) (abb (aba (!(aU [] k&&decide (k.kind=4))) (void=cc [] k n/\190=b7 [] k n) (abb (aba (abq k) (void=cc [] k n/\220=b7 [] k n) ((decide (1<=n)=true->aF IntKind.i64 ((abp [] k 1).value-(abp [] k 0).value))/\abb (aba (!(decide (1<=n)&&decide (n<=(abp [] k 1).value-(abp [] k 0).value))) (void=cc [] k n/\4=b7 [] k n) (abb (abb (abb (aba (!decide (0<ak [])) (void=cc [] k n/\1=b7 [] k n) (abb (aba (!(aU [] k&&decide (k.kind=4))) (void=cc [] k n/\190=b7 [] k n) (abb (aba (abq k) (void=cc [] k n/\220=b7 [] k n) (abb (abb (abb (∀(r0:Loop),False)))))))))))))))))))):=by
 delta aba abp abq abb
 exact⟨rfl,rfl,fun h=>(qk (vj (He h) (by omega)) (by omega)).1,fun h=>absurd h (by decide)⟩
theorem GK (k:Key) (n:Int):
 abb (abb (aba (!decide (0<ak [])) (void=cc [] k n/\1=b7 [] k n) (abb (aba (!(aU [] k&&decide (k.kind=4))) (void=cc [] k n/\190=b7 [] k n) (abb (aba (!(decide ((abp [] k 0).kind=1)&&decide ((abp [] k 1).kind=1)&&decide (0<=(abp [] k 0).value)&&decide ((abp [] k 0).value<=(abp [] k 1).value)&&decide ((abp [] k 1).value<ak []))) (void=cc [] k n/\220=b7 [] k n) ((decide (1<=n)=true->aF IntKind.i64 ((abp [] k 1).value-(abp [] k 0).value))/\abb (aba (!(decide (1<=n)&&decide (n<=(abp [] k 1).value-(abp [] k 0).value))) (void=cc [] k n/\4=b7 [] k n) (abb False))))))))):=by
 delta aba abp abb
 exact⟨rfl,rfl,fun h=>(qk (vj (He h) (by omega)) (by omega)).1,fun h=>absurd h (by decide)⟩
abbrev abr(L:List Sx.Obj)(k:Key)(g:Int):=(fi L k g).count+1
abbrev abt(L:List Sx.Obj)(k:Key):=!(decide ((abp L k 0).kind=1)&&decide ((abp L k 1).kind=1)&&decide (0<=(abp L k 0).value)&&decide ((abp L k 0).value<=(abp L k 1).value)&&decide ((abp L k 1).value<ak L))
abbrev abu(g:Int):=(aL [] g).count+1
abbrev abv(g:Int)(L:List Sx.Obj)(k:Key)(n:Int)(g_2:Int):=(Key.mk 4 g (abr L k g) (de 1 g (abr L k g)).call (de 1 g (abr L k g)).rights (de 1 g (abr L k g)).value=cc L k n/\0=b7 L k n)/\mR L (bF L k n) g_2=bF L k n
abbrev abw(L:List Sx.Obj)(k:Key)(n:Int):=void=cc L k n/\221=b7 L k n
abbrev abx(L:List Sx.Obj)(k:Key)(n:Int):=(abp L k 1).value-n
theorem Je (L:List Sx.Obj) (k:Key) (n:Int) (hL:ar L):
 abb (abb (aba (!decide (0<ak L)) ((void=cc L k n/\1=b7 L k n)/\L=bF L k n) (abb (aba (!(aU L k&&decide (k.kind=4))) ((void=cc L k n/\190=b7 L k n)/\L=bF L k n) (abb (aba (abt L k) ((void=cc L k n/\220=b7 L k n)/\L=bF L k n) ((decide (1<=n)=true->abd ((abp L k 1).value-(abp L k 0).value))/\abb (aba (!(decide (1<=n)&&decide (n<=(abp L k 1).value-(abp L k 0).value))) ((void=cc L k n/\4=b7 L k n)/\L=bF L k n) (abb ((ai L).le 1000/\aba (bn L) (abb (abb (aba (!decide (0<ak [])) ((void=cc L k n/\1=b7 L k n)/\L=bF L k n) (abb (aba (!(aU [] k&&decide (k.kind=4))) ((void=cc L k n/\190=b7 L k n)/\L=bF L k n) (abb (aba (!(decide ((abp [] k 0).kind=1)&&decide ((abp [] k 1).kind=1)&&decide (0<=(abp [] k 0).value)&&decide ((abp [] k 0).value<=(abp [] k 1).value)&&decide ((abp [] k 1).value<ak []))) ((void=cc L k n/\220=b7 L k n)/\L=bF L k n) (abb (abb (abb (∀(r0:Loop),(∃g,jB L k g/\False)/\∀(g:Int),jB L k g->aba (decide (g<=(abp [] k 1).value)) (r0=r0/\r0=r0/\aba (!decide ((aL [] g).kind=0)) (r0=r0/\abd (g+1)/\∃g',jB L k g'/\(aI L k+1-g').toNat<(aI L k+1 -g).toNat/\g+1=g'/\L=L/\k=k/\n=n/\void=void/\k=k/\aa L k=aa L k/\k.oid=k.oid/\(abp L k 0).value=(abp L k 0).value/\(abp L k 1).value=(abp L k 1).value/\aa L k=aa L k/\abp L k 0=abp L k 0/\abp L k 1=abp L k 1/\aa L k=aa L k/\k.oid=k.oid/\(abp L k 0).value=(abp L k 0).value/\(abp L k 1).value=(abp L k 1).value/\bM L (az L k) g=bM L (az L k) g'/\aa [] k=aa [] k/\Value.pointer none=Value.pointer none/\k.oid=k.oid/\(abp [] k 0).value=(abp [] k 0).value/\(abp [] k 1).value=(abp [] k 1).value/\aa [] k=aa [] k/\abp [] k 0=abp [] k 0/\abp [] k 1=abp [] k 1/\aa [] k=aa [] k/\Value.pointer none=Value.pointer none/\k.oid=k.oid/\(abp [] k 0).value=(abp [] k 0).value/\(abp [] k 1).value=(abp [] k 1).value/\aa [] k=aa [] k/\Value.pointer none=Value.pointer none/\k.oid=k.oid/\(abp [] k 0).value=(abp [] k 0).value/\(abp [] k 1).value=(abp [] k 1).value/\void=void/\false=false/\aa [] k=aa [] k/\Value.pointer none=Value.pointer none/\k.oid=k.oid/\(abp [] k 0).value=(abp [] k 0).value/\(abp [] k 1).value=(abp [] k 1).value/\r0=r0) (aba (decide ((aL [] g).count=4294967295)) (abb (r0=r0/\abd (g+1)/\∃g',jB L k g'/\(aI L k+1-g').toNat<(aI L k+1-g).toNat/\g+1=g'/\L=L/\k=k/\n=n/\void=void/\k=k/\aa L k=aa L k/\k.oid=k.oid/\(abp L k 0).value=(abp L k 0).value/\(abp L k 1).value=(abp L k 1).value/\aa L k=aa L k/\abp L k 0=abp L k 0/\abp L k 1=abp L k 1/\aa L k=aa L k/\k.oid=k.oid/\(abp L k 0).value=(abp L k 0).value/\(abp L k 1).value=(abp L k 1).value/\bM L (az L k) g=bM L (az L k) g'/\aa [] k=aa [] k/\Value.pointer none=Value.pointer none/\k.oid=k.oid/\(abp [] k 0).value=(abp [] k 0).value/\(abp [] k 1).value=(abp [] k 1).value/\aa [] k=aa [] k/\abp [] k 0=abp [] k 0/\abp [] k 1=abp [] k 1/\aa [] k=aa [] k/\Value.pointer none=Value.pointer none/\k.oid=k.oid/\(abp [] k 0).value=(abp [] k 0).value/\(abp [] k 1).value=(abp [] k 1).value/\aa [] k=aa [] k/\Value.pointer none=Value.pointer none/\k.oid=k.oid/\(abp [] k 0).value=(abp [] k 0).value/\(abp [] k 1).value=(abp [] k 1).value/\void=void/\false=false/\aa [] k=aa [] k/\Value.pointer none=Value.pointer none/\k.oid=k.oid/\(abp [] k 0).value=(abp [] k 0).value/\(abp [] k 1).value=(abp [] k 1).value/\r0=r0)) (abd (abu g)/\abb (abd (abu g)/\r0=r0/\abd ((abp [] k 1).value-n)/\abb (aba (!decide ((de 1 g (abu g)).oid<=(abp [] k 1).value-n)) ((abw L k n)/\L=bF L k n) (abb (abb (∀(r0:Loop),(∃g_1,pU L k n g_1/\(abp [] k 0).value=g_1/\L=L/\k=k/\n=n/\void=void/\k=k/\aa L k=aa L k/\k.oid=k.oid/\(abp L k 0).value=(abp L k 0).value/\(abp L k 1).value=(abp L k 1).value/\aa L k=aa L k/\abp L k 0=abp L k 0/\abp L k 1=abp L k 1/\aa L k=aa L k/\k.oid=k.oid/\(abp L k 0).value=(abp L k 0).value/\(abp L k 1).value=(abp L k 1).value/\bM L (az L k) g=bM L (az L k) g/\aa [] k=aa [] k/\Value.pointer none=Value.pointer none/\k.oid=k.oid/\(abp [] k 0).value=(abp [] k 0).value/\(abp [] k 1).value=(abp [] k 1).value/\aa [] k=aa [] k/\abp [] k 0=abp [] k 0/\abp [] k 1=abp [] k 1/\aa [] k=aa [] k/\Value.pointer none=Value.pointer none/\k.oid=k.oid/\(abp [] k 0).value=(abp [] k 0).value/\(abp [] k 1).value=(abp [] k 1).value/\aa [] k=aa [] k/\Value.pointer none=Value.pointer none/\k.oid=k.oid/\(abp [] k 0).value=(abp [] k 0).value/\(abp [] k 1).value=(abp [] k 1).value/\de 1 g (abu g)=de 1 g (abu g)/\abb (aa [] k=aa [] k/\Value.pointer none=Value.pointer none/\k.oid=k.oid/\(abp [] k 0).value=(abp [] k 0).value/\(abp [] k 1).value=(abp [] k 1).value/\aL [] g=aL [] g/\aL [] g=aL [] g/\de 1 g (abu g)=de 1 g (abu g)/\aa [] k=aa [] k/\Value.pointer none=Value.pointer none/\k.oid=k.oid/\(abp [] k 0).value=(abp [] k 0).value/\(abp [] k 1).value=(abp [] k 1).value/\r0=r0))/\∀(g_1:Int),pU L k n g_1->aba (decide (g_1<=(abp [] k 1).value)) (r0=r0/\r0=r0/\abd ((abp [] k 1).value-n)/\abb (aba (!(decide (g_1<=(abp [] k 1).value-n)||decide ((aL [] g_1).kind=0)||decide ((aL [] g_1).kind=3))) (r0=r0/\(abw L k n)/\L=bF L k n) (r0=r0/\abd (g_1+1)/\∃g',pU L k n g'/\(aI L k+1-g').toNat<(aI L k+1- g_1).toNat/\g_1+1=g'/\L=L/\k=k/\n=n/\void=void/\k=k/\aa L k=aa L k/\k.oid=k.oid/\(abp L k 0).value=(abp L k 0).value/\(abp L k 1).value=(abp L k 1).value/\aa L k=aa L k/\abp L k 0=abp L k 0/\abp L k 1=abp L k 1/\aa L k=aa L k/\k.oid=k.oid/\(abp L k 0).value=(abp L k 0).value/\(abp L k 1).value=(abp L k 1).value/\bM L (az L k) g=bM L (az L k) g/\aa [] k=aa [] k/\Value.pointer none=Value.pointer none/\k.oid=k.oid/\(abp [] k 0).value=(abp [] k 0).value/\(abp [] k 1).value=(abp [] k 1).value/\aa [] k=aa [] k/\abp [] k 0=abp [] k 0/\abp [] k 1=abp [] k 1/\aa [] k=aa [] k/\Value.pointer none=Value.pointer none/\k.oid=k.oid/\(abp [] k 0).value=(abp [] k 0).value/\(abp [] k 1).value=(abp [] k 1).value/\aa [] k=aa [] k/\Value.pointer none=Value.pointer none/\k.oid=k.oid/\(abp [] k 0).value=(abp [] k 0).value/\(abp [] k 1).value=(abp [] k 1).value/\de 1 g (abu g)=de 1 g (abu g)/\abb (aa [] k=aa [] k/\Value.pointer none=Value.pointer none/\k.oid=k.oid/\(abp [] k 0).value=(abp [] k 0).value/\(abp [] k 1).value=(abp [] k 1).value/\aL [] g=aL [] g/\aL [] g=aL [] g/\de 1 g (abu g)=de 1 g (abu g)/\aa [] k=aa [] k/\Value.pointer none=Value.pointer none/\k.oid=k.oid/\(abp [] k 0).value=(abp [] k 0).value/\(abp [] k 1).value=(abp [] k 1).value/\r0=r0)))) (abb (abb (abd ((abp [] k 1).value-n)/\abd ((abp [] k 1).value-n+1)/\abb (abb (abb (abb (abb (abd ((abp [] k 1).value-n)/\abb (abb (abb False)))))))))))))))))) (abb ((abw L k n)/\L=bF L k n))))))))))))) (abb (abb (aba (!decide (0<ak L)) ((void=cc L k n/\1=b7 L k n)/\L=bF L k n) (abb (aba (!(aU L k&&decide (k.kind=4))) ((void=cc L k n/\190=b7 L k n)/\L=bF L k n) (abb (aba (abt L k) ((void=cc L k n/\220=b7 L k n)/\L=bF L k n) (abb (abb (abb (∀(r0:Loop),(∃g,jB L k g/\(abp L k 0).value=g/\L=L/\k=k/\n=n/\void=void/\k=k/\aa L k=aa L k/\k.oid=k.oid/\(abp L k 0).value=(abp L k 0).value/\(abp L k 1).value=(abp L k 1).value/\aa L k=aa L k/\abp L k 0=abp L k 0/\abp L k 1=abp L k 1/\aa L k=aa L k/\k.oid=k.oid/\(abp L k 0).value=(abp L k 0).value/\(abp L k 1).value=(abp L k 1).value/\L=bM L (az L k) g/\k=k/\aa L k=aa L k/\k.oid=k.oid/\(abp L k 0).value=(abp L k 0).value/\(abp L k 1).value=(abp L k 1).value/\aa L k=aa L k/\abp L k 0=abp L k 0/\abp L k 1=abp L k 1/\aa L k=aa L k/\k.oid=k.oid/\(abp L k 0).value=(abp L k 0).value/\(abp L k 1).value=(abp L k 1).value/\aa L k=aa L k/\k.oid=k.oid/\(abp L k 0).value=(abp L k 0).value/\(abp L k 1).value=(abp L k 1).value/\void=void/\false=false/\aa L k=aa L k/\k.oid=k.oid/\(abp L k 0).value=(abp L k 0).value/\(abp L k 1).value=(abp L k 1).value/\r0=r0)/\∀(g:Int),jB L k g->aba (decide (g<=(abp L k 1).value)) (r0=r0/\r0=r0/\aba (!decide ((fi L k g).kind=0)) (r0=r0/\abd (g+1)/\∃g',jB L k g'/\(aI L k+1-g').toNat<(aI L k+1-g).toNat/\g+1=g'/\L=L/\k=k/\n=n/\void=void/\k=k/\aa L k=aa L k/\k.oid=k.oid/\(abp L k 0).value=(abp L k 0).value/\(abp L k 1).value=(abp L k 1).value/\aa L k=aa L k/\abp L k 0=abp L k 0/\abp L k 1=abp L k 1/\aa L k=aa L k/\k.oid=k.oid/\(abp L k 0).value=(abp L k 0).value/\(abp L k 1).value=(abp L k 1).value/\bM L (az L k) g=bM L (az L k) g'/\k=k/\aa L k=aa L k/\k.oid=k.oid/\(abp L k 0).value=(abp L k 0).value/\(abp L k 1).value=(abp L k 1).value/\aa L k=aa L k/\abp L k 0=abp L k 0/\abp L k 1=abp L k 1/\aa L k=aa L k/\k.oid=k.oid/\(abp L k 0).value=(abp L k 0).value/\(abp L k 1).value=(abp L k 1).value/\aa L k=aa L k/\k.oid=k.oid/\(abp L k 0).value=(abp L k 0).value/\(abp L k 1).value=(abp L k 1).value/\void=void/\false=false/\aa L k=aa L k/\k.oid=k.oid/\(abp L k 0).value=(abp L k 0).value/\(abp L k 1).value=(abp L k 1).value/\r0=r0) (aba (decide ((fi L k g).count=4294967295)) (abb (r0=r0/\abd (g+1)/\∃g',jB L k g'/\(aI L k+1-g').toNat<(aI L k+1-g).toNat/\g+1=g'/\L=L/\k=k/\n=n/\void=void/\k=k/\aa L k=aa L k/\k.oid=k.oid/\(abp L k 0).value=(abp L k 0).value/\(abp L k 1).value=(abp L k 1).value/\aa L k=aa L k/\abp L k 0=abp L k 0/\abp L k 1=abp L k 1/\aa L k=aa L k/\k.oid=k.oid/\(abp L k 0).value=(abp L k 0).value/\(abp L k 1).value=(abp L k 1).value/\cM (bM L (az L k) g) g (Obj.mk 3 (fi L k g).count free.calls free.slots free.bytes)=bM L (az L k) g'/\k=k/\aa L k=aa L k/\k.oid=k.oid/\(abp L k 0).value=(abp L k 0).value/\(abp L k 1).value=(abp L k 1).value/\aa L k=aa L k/\abp L k 0=abp L k 0/\abp L k 1=abp L k 1/\aa L k=aa L k/\k.oid=k.oid/\(abp L k 0).value=(abp L k 0).value/\(abp L k 1).value=(abp L k 1).value/\aa L k=aa L k/\k.oid=k.oid/\(abp L k 0).value=(abp L k 0).value/\(abp L k 1).value=(abp L k 1).value/\void=void/\false=false/\aa L k=aa L k/\k.oid=k.oid/\(abp L k 0).value=(abp L k 0).value/\(abp L k 1).value=(abp L k 1).value/\r0=r0)) (abd (abr L k g)/\abb (abd (abr L k g)/\r0=r0/\abd (abx L k n)/\abb (aba (!decide (g<=(abp L k 1).value-n)) ((abw L k n)/\L=bF L k n) (abb (abb (∀(r0:Loop),(∃g_1,pU L k n g_1/\(abp L k 0).value=g_1/\L=L/\k=k/\n=n/\void=void/\k=k/\aa L k=aa L k/\k.oid=k.oid/\(abp L k 0).value=(abp L k 0).value/\(abp L k 1).value=(abp L k 1).value/\aa L k=aa L k/\abp L k 0=abp L k 0/\abp L k 1=abp L k 1/\aa L k=aa L k/\k.oid=k.oid/\(abp L k 0).value=(abp L k 0).value/\(abp L k 1).value=(abp L k 1).value/\qA L k g=qA L k g/\k=k/\aa L k=aa L k/\k.oid=k.oid/\(abp L k 0).value=(abp L k 0).value/\(abp L k 1).value=(abp L k 1).value/\aa L k=aa L k/\abp L k 0=abp L k 0/\abp L k 1=abp L k 1/\aa L k=aa L k/\k.oid=k.oid/\(abp L k 0).value=(abp L k 0).value/\(abp L k 1).value=(abp L k 1).value/\aa L k=aa L k/\k.oid=k.oid/\(abp L k 0).value=(abp L k 0).value/\(abp L k 1).value=(abp L k 1).value/\de 1 g (abr L k g)=de 1 g (abr L k g)/\abb (aa L k=aa L k/\k.oid=k.oid/\(abp L k 0).value=(abp L k 0).value/\(abp L k 1).value=(abp L k 1).value/\fi L k g=fi L k g/\fi L k g=fi L k g/\de 1 g (abr L k g)=de 1 g (abr L k g)/\aa L k=aa L k/\k.oid=k.oid/\(abp L k 0).value=(abp L k 0).value/\(abp L k 1).value=(abp L k 1).value/\r0=r0))/\∀(g_1:Int),pU L k n g_1->aba (decide (g_1<=(abp L k 1).value)) (r0=r0/\r0=r0/\abd (abx L k n)/\abb (aba (!(decide (g_1<=(abp L k 1).value-n)||decide ((aL (qA L k g) g_1).kind=0)||decide ((aL (qA L k g) g_1).kind=3))) (r0=r0/\(abw L k n)/\L=bF L k n) (r0=r0/\abd (g_1+1)/\∃g',pU L k n g'/\(aI L k+1-g').toNat<(aI L k+1-g_1).toNat/\g_1+1=g'/\L=L/\k=k/\n=n/\void=void/\k=k/\aa L k=aa L k/\k.oid=k.oid/\(abp L k 0).value=(abp L k 0).value/\(abp L k 1).value=(abp L k 1).value/\aa L k=aa L k/\abp L k 0=abp L k 0/\abp L k 1=abp L k 1/\aa L k=aa L k/\k.oid=k.oid/\(abp L k 0).value=(abp L k 0).value/\(abp L k 1).value=(abp L k 1).value/\qA L k g=qA L k g/\k=k/\aa L k=aa L k/\k.oid=k.oid/\(abp L k 0).value=(abp L k 0).value/\(abp L k 1).value=(abp L k 1).value/\aa L k=aa L k/\abp L k 0=abp L k 0/\abp L k 1=abp L k 1/\aa L k=aa L k/\k.oid=k.oid/\(abp L k 0).value=(abp L k 0).value/\(abp L k 1).value=(abp L k 1).value/\aa L k=aa L k/\k.oid=k.oid/\(abp L k 0).value=(abp L k 0).value/\(abp L k 1).value=(abp L k 1).value/\de 1 g (abr L k g)=de 1 g (abr L k g)/\abb (aa L k=aa L k/\k.oid=k.oid/\(abp L k 0).value=(abp L k 0).value/\(abp L k 1).value=(abp L k 1).value/\fi L k g=fi L k g/\fi L k g=fi L k g/\de 1 g (abr L k g)=de 1 g (abr L k g)/\aa L k=aa L k/\k.oid=k.oid/\(abp L k 0).value=(abp L k 0).value/\(abp L k 1).value=(abp L k 1).value/\r0=r0)))) (abb (abb (abd (abx L k n)/\abd ((abp L k 1).value-n+1)/\abb (abb (abb (abb (abb (abd (abx L k n)/\abb (abb (abb ((ai L).le 1000/\aba (j9 L (mO L k n g)) ((∃g_2,sP L (bF L k n) g_2/\Value.slice none 0 0=Value.slice none 0 0/\0=g_2/\L=mR L (bF L k n) g_2/\k=k/\n=n/\void=void/\k=k/\aa L k=aa L k/\k.oid=k.oid/\(abp L k 0).value=(abp L k 0).value/\(abp L k 1).value=(abp L k 1).value/\aa L k=aa L k/\abp L k 0=abp L k 0/\abp L k 1=abp L k 1/\aa L k=aa L k/\k.oid=k.oid/\(abp L k 0).value=(abp L k 0).value/\(abp L k 1).value=(abp L k 1).value/\mO L k n g=mO L k n g/\k=k/\aa L k=aa L k/\k.oid=k.oid/\(abp L k 0).value=(abp L k 0).value/\(abp L k 1).value=(abp L k 1).value/\aa L k=aa L k/\abp L k 0=abp L k 0/\abp L k 1=abp L k 1/\aa L k=aa L k/\k.oid=k.oid/\(abp L k 0).value=(abp L k 0).value/\(abp L k 1).value=(abp L k 1).value/\aa L k=aa L k/\k.oid=k.oid/\(abp L k 0).value=(abp L k 0).value/\(abp L k 1).value=(abp L k 1).value/\de 1 g (abr L k g)=de 1 g (abr L k g)/\abb (aa L k=aa L k/\k.oid=k.oid/\(abp L k 0).value=(abp L k 0).value/\(abp L k 1).value=(abp L k 1).value/\fi L k g=fi L k g/\fi L k g=fi L k g/\de 1 g (abr L k g)=de 1 g (abr L k g)/\aa L k=aa L k/\k.oid=k.oid/\(abp L k 0).value=(abp L k 0).value/\(abp L k 1).value=(abp L k 1).value/\B7 L k n g=B7 L k n g/\oV ((abp L k 1).value-n+1)=oV ((abp L k 1).value-n+1)/\oV (abp L k 1).value=oV (abp L k 1).value/\CW L k n g=CW L k n g/\oV (abx L k n)=oV (abx L k n)))/\∀(g_2:Int),sP L (bF L k n) g_2->aba (decide (g_2<0)) False (abv g L k n g_2)) ((∃g_2,sP L (bF L k n) g_2/\bD (ai (dN L (mO L k n g)))=bD (ai (dN L (mO L k n g)))/\0=g_2/\L=mR L (bF L k n) g_2/\k=k/\n=n/\void=void/\k=k/\aa L k=aa L k/\k.oid=k.oid/\(abp L k 0).value=(abp L k 0).value/\(abp L k 1).value=(abp L k 1).value/\aa L k=aa L k/\abp L k 0=abp L k 0/\abp L k 1=abp L k 1/\aa L k=aa L k/\k.oid=k.oid/\(abp L k 0).value=(abp L k 0).value/\(abp L k 1).value=(abp L k 1).value/\mO L k n g=mO L k n g/\k=k/\aa L k=aa L k/\k.oid=k.oid/\(abp L k 0).value=(abp L k 0).value/\(abp L k 1).value=(abp L k 1).value/\aa L k=aa L k/\abp L k 0=abp L k 0/\abp L k 1=abp L k 1/\aa L k=aa L k/\k.oid=k.oid/\(abp L k 0).value=(abp L k 0).value/\(abp L k 1).value=(abp L k 1).value/\aa L k=aa L k/\k.oid=k.oid/\(abp L k 0).value=(abp L k 0).value/\(abp L k 1).value=(abp L k 1).value/\de 1 g (abr L k g)=de 1 g (abr L k g)/\abb (aa L k=aa L k/\k.oid=k.oid/\(abp L k 0).value=(abp L k 0).value/\(abp L k 1).value=(abp L k 1).value/\fi L k g=fi L k g/\fi L k g=fi L k g/\de 1 g (abr L k g)=de 1 g (abr L k g)/\aa L k=aa L k/\k.oid=k.oid/\(abp L k 0).value=(abp L k 0).value/\(abp L k 1).value=(abp L k 1).value/\B7 L k n g=B7 L k n g/\oV ((abp L k 1).value-n+1)=oV ((abp L k 1).value-n+1)/\oV (abp L k 1).value=oV (abp L k 1).value/\CW L k n g=CW L k n g/\oV (abx L k n)=oV (abx L k n)/\dN L (mO L k n g)=dN L (mO L k n g)))/\∀(g_2:Int),sP L (bF L k n) g_2->aba (decide (g_2<bD (ai (dN L (mO L k n g))))) ((0<=g_2/\g_2< ↑(ai (dN L (mO L k n g))))/\g_2.toNat<ai (dN L (mO L k n g))/\abb (abd (g_2+1)/\∃g',sP L (bF L k n) g'/\(bD (ai (dN L (bF L k n)))-g').toNat<(bD (ai (dN L (bF L k n)))-g_2).toNat/\bD (ai (dN L (mO L k n g)))=bD (ai (dN L (mO L k n g)))/\g_2+1=g'/\cM (mR L (bF L k n) g_2) (aj (dN L (mO L k n g)) g_2.toNat 0) (aL (mO L k n g) (aj (dN L (mO L k n g)) g_2.toNat 0))=mR L (bF L k n) g'/\k=k/\n=n/\void=void/\k=k/\aa L k=aa L k/\k.oid=k.oid/\(abp L k 0).value=(abp L k 0).value/\(abp L k 1).value=(abp L k 1).value/\aa L k=aa L k/\abp L k 0=abp L k 0/\abp L k 1=abp L k 1/\aa L k=aa L k/\k.oid=k.oid/\(abp L k 0).value=(abp L k 0).value/\(abp L k 1).value=(abp L k 1).value/\mO L k n g=mO L k n g/\k=k/\aa L k=aa L k/\k.oid=k.oid/\(abp L k 0).value=(abp L k 0).value/\(abp L k 1).value=(abp L k 1).value/\aa L k=aa L k/\abp L k 0=abp L k 0/\abp L k 1=abp L k 1/\aa L k=aa L k/\k.oid=k.oid/\(abp L k 0).value=(abp L k 0).value/\(abp L k 1).value=(abp L k 1).value/\aa L k=aa L k/\k.oid=k.oid/\(abp L k 0).value=(abp L k 0).value/\(abp L k 1).value=(abp L k 1).value/\de 1 g (abr L k g)=de 1 g (abr L k g)/\abb (aa L k=aa L k/\k.oid=k.oid/\(abp L k 0).value=(abp L k 0).value/\(abp L k 1).value=(abp L k 1).value/\fi L k g=fi L k g/\fi L k g=fi L k g/\de 1 g (abr L k g)=de 1 g (abr L k g)/\aa L k=aa L k/\k.oid=k.oid/\(abp L k 0).value=(abp L k 0).value/\(abp L k 1).value=(abp L k 1).value/\B7 L k n g=B7 L k n g/\oV ((abp L k 1).value-n+1)=oV ((abp L k 1).value-n+1)/\oV (abp L k 1).value=oV (abp L k 1).value/\CW L k n g=CW L k n g/\oV (abx L k n)=oV (abx L k n)/\dN L (mO L k n g)=dN L (mO L k n g)))) (abv g L k n g_2))))))))))))))))))))) (abb ((abw L k n)/\L=bF L k n))))))))))))))))))))))):=by
 delta aba abp abx abw abv abu abt abr abd abb
 refine⟨rfl,rfl,fun h=>qk (vj (He h) (by omega)) (by omega),fun h=>⟨rfl,fun h2=>qk (vj (bk2 h h2) (by omega)) (by omega),fun h2=>⟨rfl,fun h3=>qk (vj (bk3 h h2 h3) (by omega)) (by omega),fun h3=>?_⟩⟩⟩
 obtain⟨e,e1,e2⟩:=Tv h h2 h3;obtain⟨_,a0,a1,a2,a3,a4⟩:=mL e;have hkd:=BZ (nZ h2).1 (nZ h2).2;have hlen:=gy hL;have hll:ai L=L.length:=rfl;have h3':=h3;rw[e1,e2]at h3';rw[e1,e2];have hr:∀x:Int,-1000<=x->x<=1000->aF IntKind.i64 x:=fun x h1 h2=>by simp only[aF,bY];omega
 refine⟨fun _=>hr _ (by omega) (by omega),rfl,fun h4=>qk (Bi e (by simp only[Bool.not_eq_true',Bool.and_eq_false_iff,decide_eq_false_iff_not]at h4;omega)) (by omega),fun h4=>⟨rfl,(show L.length<=1000 by omega),fun hn=>?_,fun _=>⟨rfl,rfl,fun h'=>?_,fun _=>⟨rfl,fun h'=>?_,fun _=>⟨rfl,fun h'=>?_,fun _=>⟨rfl,rfl,rfl,fun r0=>?_⟩⟩⟩⟩⟩⟩
 ·exfalso
  have:=aa1 hn;omega
 ·rw[h]at h';exact absurd h' (by decide)
 ·rw[h2]at h';exact absurd h' (by decide)
 ·rw[h3']at h';exact absurd h' (by decide)
 simp only[Bool.not_eq_false',aaX,aaY]at h4;obtain⟨hn1,hn2⟩:=h4;have h0:=Ii e hn1 hn2;have hcnt:∀j:Nat,j<L.length->0<=(aj L j free).count/\(aj L j free).count<=4294967295:=fun j hj=>⟨(j7 (dq hL j hj)).1,(j7 (dq hL j hj)).2.1⟩
 have hci:∀j:Nat,j<L.length->aF IntKind.i64 ((aj L j free).count+1):=fun j hj=>by have:=hcnt j hj;simp only[aF,bY];omega
 refine⟨⟨az L k,⟨by omega,by omega,tz⟩,rfl,?_⟩,fun g hg=>⟨fun hgl=>?_,fun hgl=>?_⟩⟩
 ·have hx:L=bM L (az L k) (az L k):=D2;(repeat' apply And.intro)<;>first|with_reducible rfl|exact hx
 ·obtain⟨g0,g1,g2⟩:=hg;have hgl:=aa1 hgl;have hgn:g.toNat<L.length:=by omega
  have hgz:(bM L (az L k) g).length=L.length:=kL;have hO:fi L k g=aj L g.toNat free:=by unfold fi;rw[fH (by omega) (by omega),C2 (by omega)]
  refine⟨rfl,rfl,fun hk0=>?_,fun hk0=>⟨fun hc=>?_,fun hc=>?_⟩⟩
  ·obtain⟨f1,f2⟩:=xM (o:=aj L g.toNat free) (by rw[<-hO];simpa using hk0)
   have hx:bM L (az L k) g=bM L (az L k) (g+1):=(Ad (by omega) f1).symm
   refine⟨rfl,hr _ (by omega) (by omega),g+1,⟨by omega,by omega,jV g2 f2⟩,by omega,rfl,?_⟩
   (repeat' apply And.intro)<;>first|with_reducible rfl|exact hx
  ·rw[hO]at hk0 hc;obtain⟨f1,f2⟩:=C1 (o:=aj L g.toNat free) (by simpa using hk0) (by have:=aa1 hc;omega)
   have hp:=(lV (L:=bM L (az L k) g) (i:=g) (by omega) (by omega) (hgz▸Cb (dq hL g.toNat hgn))).1
   have hx:cM (bM L (az L k) g) g (Obj.mk 3 (fi L k g).count free.calls free.slots free.bytes)=bM L (az L k) (g+1):=by rw[hO];exact hp.trans (ya (by omega) (by omega) g0 f1)
   refine⟨rfl,rfl,hr _ (by omega) (by omega),g+1,⟨by omega,by omega,jV g2 f2⟩,by omega,rfl,?_⟩
   (repeat' apply And.intro)<;>first|with_reducible rfl|exact hx
  ·rw[hO]at hk0 hc;have hc:=aa0 hc;have:=hcnt _ hgn;obtain⟨f1,f2⟩:=Du (o:=aj L g.toNat free) (by simpa using hk0) (by omega)
   obtain⟨i1,i2,i3,i4,i5,i6,i7,i8⟩:=Vp hL e hkd g0 hgl g2 f2;have hcg:aF IntKind.i64 ((fi L k g).count+1):=by rw[hO];exact hci _ hgn
   refine⟨hcg,rfl,hcg,rfl,hr _ (by omega) (by omega),rfl,fun hc2=>qk (uG h0 (.inr (by rw[i1];simp only[Bool.not_eq_true',decide_eq_false_iff_not]at hc2;omega))) (by omega),fun hc2=>⟨rfl,rfl,fun r1=>⟨⟨az L k,⟨by omega,by omega,HB (by omega)⟩,rfl,?_⟩,fun j hj=>⟨fun hjl=>?_,fun hjl=>?_⟩⟩⟩⟩
   ·(repeat' apply And.intro)<;>first|with_reducible rfl|exact hx
   ·obtain⟨j0,j1,j2⟩:=hj;have hjl:=aa1 hjl;have hgj:aL (qA L k g) j=aj (dW L k) j.toNat free:=by rw[i3];exact fH (by omega) (by omega)
    rw[hgj];have hkk:=j7 (dq i5 j.toNat (by omega))
    refine⟨rfl,rfl,hr _ (by omega) (by omega),rfl,fun hb=>⟨rfl,?_⟩,fun hb=>⟨rfl,hr _ (by omega) (by omega),j+1,⟨by omega,by omega,?_⟩,by omega,rfl,?_⟩⟩
    ·simp only[Bool.not_eq_true',Bool.or_eq_false_iff,decide_eq_false_iff_not]at hb;have hbz:mH (aj (dW L k) j.toNat free)=true:=by unfold mH;simp only[Bool.or_eq_true,aaY];omega
     exact qk (Ff h0 (E3 (by omega) (by omega) (by omega) (by omega) hbz)) (by omega)
    ·simp only[Bool.not_eq_false',Bool.or_eq_true,aaY]at hb;by_cases hjn:j<=aI L k-n
     ·exact HB (by omega)
     ·have hbz:mH (aj (dW L k) j.toNat free)=false:=by unfold mH;simp only[Bool.or_eq_false_iff,decide_eq_false_iff_not];omega
      rw[HC (by omega) hbz];exact j2
    ·(repeat' apply And.intro)<;>first|with_reducible rfl|exact hx
   ·obtain⟨j0,j1,j2⟩:=hj;have hjl:=aa0 hjl;have:j=aI L k+1:=by omega
    subst this;simp only[Bool.not_eq_false',aaY]at hc2;have hE:=Ih h0 (by rw[i1];omega) (by rw[i1];omega) j2
    obtain⟨l1,l2,l3,l4⟩:=QY hL e hkd e2 g0 hgl g2 f2 hE;rw[l1];have hul:(dN L (bF L k n)).length<=L.length:=Rq;have hu:bD (ai (dN L (bF L k n)))=((dN L (bF L k n)).length:Int):=rfl
    refine⟨rfl,rfl,hr _ (by omega) (by omega),hr _ (by omega) (by omega),rfl,rfl,rfl,rfl,rfl,hr _ (by omega) (by omega),rfl,rfl,rfl,(show L.length<=1000 by omega),fun hno=>?_,fun _=>⟨⟨0,⟨by omega,by omega⟩,rfl,rfl,?_⟩,fun t ht=>⟨fun htl=>?_,fun htl=>⟨⟨l4,hE.symm⟩,T0 l3 l2 ?_⟩⟩⟩⟩
    ·rw[KX l3 (by omega)]at hno;exact absurd hno (by decide)
    ·have hx:L=mR L (bF L k n) 0:=rfl;(repeat' apply And.intro)<;>first|with_reducible rfl|exact hx
    ·obtain⟨t0,t1⟩:=ht;have htl:=aa1 htl;rw[hu]at htl;have hx:cM (mR L (bF L k n) t) (aj (dN L (bF L k n)) t.toNat 0) (aL (bF L k n) (aj (dN L (bF L k n)) t.toNat 0))=mR L (bF L k n) (t+1):=KE t0;refine⟨⟨t0,htl⟩,(show t.toNat<(dN L (bF L k n)).length by omega),rfl,hr _ (by omega) (by omega),t+1,⟨by omega,by omega⟩,by rw[hu];omega,rfl,rfl,?_⟩
     (repeat' apply And.intro)<;>first|with_reducible rfl|exact hx
    ·have htl:=aa0 htl;rw[hu]at htl;obtain⟨t0,t1⟩:=ht;omega
 ·obtain⟨g0,g1,g2⟩:=hg;have hgl:=aa0 hgl;have:g=aI L k+1:=by omega
  subst this;obtain⟨m1,m2,m3⟩:=CR 1 g2;exact⟨rfl,qk (uG h0 (.inl (by unfold gu;rw[m1];omega))) (by omega)⟩
theorem JW (L:List Sx.Obj) (k:Key) (n:Int) (hL:ar L):an Tryz.prog 169 [.lp 0 0,.key k,.it .i64 n] [.store tS eS L] (C5 (.tp [.key (cc L k n),.it .i64 (b7 L k n)]) (bF L k n)) (fun _ _=>False):=
 aY (inl:=(fun f=>f==214||f==213||f==218||f==219||f==220||f==221||f==222||f==223||f==1000000+232)) (ann:=(iu [(3000+232,1,YI [0,1] (fun g=> [(3,.it .i64 g)]) 11 (fun g=> .store tS eS (bM L (az L k) g)) (jB L k) (Al (aI L k) 1)),(9000+232,1,Va [0,1] (fun g=> [(3,.it .i64 g)]) (pU L k n) (Al (aI L k) 1)),(169,16,YI [0,6,7,9,10,90,91] (fun g=> [(92,.it .i64 g)]) 0 (fun g=> .store tS eS (mR L (bF L k n) g)) (sP L (bF L k n)) (bD (ai (dN L (bF L k n)))))])) (ae bC (ae bQ (ae gd (ae r8 aq)))) (aB dz (aB uo (aB Gd aD))) (eh ir) (Je L k n hL) (by kernel_rfl)
theorem IY:kJ Tryz.prog 169 Qp:=
 nV (m:=fun x=>Sf.cn x 0) (fL Cx (fun _=>rfl)) (fun _=>rfl) (fun _ _=>rfl) (fun x=>aY (inl:=(fun f=>f==214||f==213||f==218||f==219||f==220||f==221||f==222||f==223||f==1000000+232)) (ann:=aQ) (ae bC (ae bQ (ae gd (ae r8 aq)))) (aB dz (aB uo (aB Gd aD))) (eh ir) (GV x.1 x.2.1) (by kernel_rfl)) (fun x=>aY (inl:=(fun f=>f==214||f==213||f==218||f==219||f==220||f==221||f==222||f==223||f==1000000+232)) (ann:=aQ) (ae bC (ae bQ (ae gd (ae r8 aq)))) (aB dz (aB uo (aB Gd aD))) (eh ir) (GK x.1 x.2.1) (by kernel_rfl)) fun L x hL _ _=>JW L x.1 x.2.1 hL
end Go.Proofs.YtlblcfaclmpekaaGreat
namespace Go.Sx
def bf (h:Int):Int:=64*16^(h-1).toNat
def j6 (h:Int):Prop:=0<=h/\h<=9
def C3 (h g:Int):Prop:=0<=g/\(g=0\/g<=h-1)
def CT (h g:Int):Prop:=1<=g/\(g=1\/g<=h)
def KO:Ct:=s6 (bc iA gK) (fun x=>some (j6 x.1)) fun x=> .it .i64 (bf x.1)
structure Wk where
 pos:Key
 adr:Int
 rts:Int
 kpr:Key
 dep:Int
 hi:Int
structure Wr where
 kd:Int
 pos:Key
 adr:Int
 kpr:Key
 dep:Int
def Yy:Wr:=⟨0,void,0,void,0⟩
def fW (r m g:Int):Int:=r+(if 2<=g/\(gV m 1&& !gV r 1)=true then 1 else 0)+(if 4<=g/\(gV m 2&& !gV r 2)=true then 2 else 0)+(if 8<=g/\(gV m 4&& !gV r 4)=true then 4 else 0)
def nW (r m:Int):Int:=fW r m 8
def oY (r:Int) (p:Key):Key:=if r.tmod 4=0 then p else di p 1
def qs (w:Wk) (h:Key):Bool:=decide (h.kind=1)&&decide (1<=h.value)&&decide (h.value<=8)&&(decide (w.dep=0)||decide (h.value<w.hi))
def wE (r:Int) (k was:Key):Key:=if k.kind=6/\r<4 then k else was
def mn (L:List Obj) (w:Wk) (p:Key) (h k:Key):Wr×Option Wk:=
 if 8<=w.dep then(⟨3,void,0,w.kpr,0⟩,none)
 else if qs w h then
  (if w.adr.tdiv (bf h.value)<14 then(Yy,some ⟨dh L p (w.adr.tdiv (bf h.value)),w.adr.tmod (bf h.value),nW w.rts p.rights,wE (nW w.rts p.rights) k w.kpr,w.dep+1,h.value⟩)
   else(⟨2,void,0,wE (nW w.rts p.rights) k w.kpr,0⟩,none))
 else(⟨4,void,0,w.kpr,0⟩,none)
def QI (L:List Obj):Nat->Wk->Wr
 |0,w=>⟨3,void,0,w.kpr,0⟩
 |n+1,w=>
  if(ah L w.pos).kind=3 then(if w.adr<64 then⟨0,oY w.rts (ah L w.pos),w.adr,w.kpr,w.dep⟩else⟨2,void,0,w.kpr,0⟩)
  else if(ah L w.pos).kind=2 then match mn L w (ah L w.pos) (dh L (di (ah L w.pos) 0) 15) (dh L (di (ah L w.pos) 0) 14)with
   | (r,none)=>r
   | (_,some w')=>QI L n w'
  else⟨1,void,0,w.kpr,0⟩
def jk (L:List Obj) (n:Nat) (w:Wk):Wr:=QI L n w
def xy (k:Key) (a hi:Int):Wk:=⟨k,a,0,void,0,hi⟩
def dI (L:List Obj) (k:Key) (a:Int):Int:=if ai L=0 then 1 else if bK L k then(if a<0 then 4 else 0)else 2
def au (L:List Obj) (k:Key) (a:Int):Wr:=if dI L k a=0 then jk L 9 (xy k a 0)else Yy
def cm (r:Wr):Key:=if r.kd=0 then r.pos else void
def ck (r:Wr):Int:=if r.kd=0 then r.adr else 0
def dn (r:Wr):Key:=if r.kd=0 then r.kpr else void
def dK (r:Wr):Int:=if r.kd=0 then r.dep else 0
def fO (r:Wr):Key:=if r.kd=0 then void else r.kpr
def fP (r:Wr) (a:Int):Int:=if r.kd=0 then 0 else a
def e9 (r:Wr):Int:=r.kd
def aao (r:Wr):V:= .ag [.key (cm r),.it .i64 (ck r),.key (dn r),.it .i64 (dK r)]
def aaM (r:Wr) (a:Int):V:= .ag [.it .i64 (e9 r),.key (fO r),.it .i64 (fP r a)]
def Ft (L:List Obj) (k:Key) (a:Int):V:= .tp [aao (au L k a),aaM (au L k a) a,.it .i64 (dI L k a)]
abbrev tW:Nat:=296
def wkV (s:V) (g:Wk):V:= .ag [s,.key g.pos,.it .i64 g.adr,.it .i64 g.rts,.key g.kpr,.it .i64 g.dep,.it .i64 g.hi,.cb false]
def oa (L:List Obj) (k:Key) (a hi:Int) (g:Wk):Prop:=
 (0<=g.adr/\g.adr<=a)/\(0<=g.rts/\g.rts<=7)/\(0<=g.dep/\g.dep<=8)/\(g.dep=0->g.hi=hi)/\(g.dep≠0->g.hi<=8)/\jk L (9-g.dep).toNat g=jk L 9 (xy k a hi)
def py (g:Wk):Nat:=(9-g.dep).toNat
def aaH (jH:List Nat) (inv:Int->Prop) (m:Int):dv:=
 {γ:=Int,head:=fun U g=>match b9 U.slots 11 with
   | .v x=>match x with
     | .it _ r=>match ay U.res 4 with
       | .blk _ c=>match c with
         | .key k=> {U with slots:=Ib jH [(11,.it .i64 (fW r k.rights g)),(16,.it .i64 g)] 0 U.slots}
         |_=>U
       |_=>U
     |_=>U
   |_=>U,inv:=inv,μ:=fun g=>pH (sW m g)}
def XT:Ct:=s6 (bc sA (bc kA (bc iA gK))) (fun _=>none) fun x=>Ft (Dx x.1) x.2.1 x.2.2.1
def Q8:Ct:=s6 (bc As (bc kA (bc iA gK))) (fun x=>some (ar x.1)) fun x=>Ft x.1 x.2.1 x.2.2.1
def spX (nid:Nat):V:= .mp nid
def spN (nid:Nat):List aK:= [.mp .i64 [3,2] [.fn 245 [],.fn 246 []]]
theorem BI {g:Int} (h:1<=g):bf g*16=bf (g+1):=by
 unfold bf;have e:(g+1-1).toNat=(g-1).toNat+1:=by omega
 rw[e,Int.pow_succ];generalize (16:Int)^(g-1).toNat=x
 omega
theorem nE {h:Int} (hh:h<=1):bf h=64:=by
 unfold bf;have e:(h-1).toNat=0:=by omega
 rw[e];rfl
theorem sq {h:Int} (hh:h<=9):64<=bf h/\bf h<=274877906944:=by
 by_cases h1:h<=1
 ·rw[nE h1];omega
 have:h=2\/h=3\/h=4\/h=5\/h=6\/h=7\/h=8\/h=9:=by omega
 rcases this with rfl|rfl|rfl|rfl|rfl|rfl|rfl|rfl<;>decide
theorem VM:∀r m:Fin 8,bm .or .i64 (r.val:Int) (m.val:Int)=nW (r.val:Int) (m.val:Int)/\0<=nW (r.val:Int) (m.val:Int)/\nW (r.val:Int) (m.val:Int)<=7:=by decide
theorem Ai {r:Int} (h0:0<=r) (h1:r<=7):∃x:Fin 8,(x.val:Int)=r:=⟨⟨r.toNat,by omega⟩,by simp;omega⟩
theorem Yj {r m:Int} (h0:0<=r) (h1:r<=7) (m0:0<=m) (m1:m<=7):bm .or .i64 r m=nW r m/\0<=nW r m/\nW r m<=7:=by
 obtain⟨x,rfl⟩:=Ai h0 h1;obtain⟨y,rfl⟩:=Ai m0 m1;exact VM x y
theorem Lz:∀r:Fin 8,decide (bm .and .i64 (r.val:Int) 4=0)=decide ((r.val:Int)<4):=by decide
theorem aaG {r:Int} (h0:0<=r) (h1:r<=7):decide (bm .and .i64 r 4=0)=decide (r<4):=by
 obtain⟨x,rfl⟩:=Ai h0 h1;exact Lz x
theorem T1:∀r m:Fin 8,∀g∈ [(1:Int),2,4],(0<=fW (r.val:Int) (m.val:Int) g/\fW (r.val:Int) (m.val:Int) g<=7)/\
  ((decide (((m.val:Int).tdiv g).tmod 2=1)&&decide (((fW (r.val:Int) (m.val:Int) g).tdiv g).tmod 2=0))=true->fW (r.val:Int) (m.val:Int) g+g=fW (r.val:Int) (m.val:Int) (g*2))/\
  ((decide (((m.val:Int).tdiv g).tmod 2=1)&&decide (((fW (r.val:Int) (m.val:Int) g).tdiv g).tmod 2=0))=false->fW (r.val:Int) (m.val:Int) g=fW (r.val:Int) (m.val:Int) (g*2)):=by decide
theorem YS {r m g:Int} (h0:0<=r) (h1:r<=7) (m0:0<=m) (m1:m<=7) (hg:g=1\/g=2\/g=4):(0<=fW r m g/\fW r m g<=7)/\
  ((decide ((m.tdiv g).tmod 2=1)&&decide (((fW r m g).tdiv g).tmod 2=0))=true->fW r m g+g=fW r m (g*2))/\
  ((decide ((m.tdiv g).tmod 2=1)&&decide (((fW r m g).tdiv g).tmod 2=0))=false->fW r m g=fW r m (g*2)):=by
 obtain⟨x,rfl⟩:=Ai h0 h1;obtain⟨y,rfl⟩:=Ai m0 m1;exact T1 x y g (by rcases hg with rfl|rfl|rfl<;>simp)
theorem Z7 {r m:Int}:fW r m 1=r:=by simp[fW]
theorem CD {L:List Obj} {k:Key} (h:(ah L k).kind=2\/(ah L k).kind=3):ah L k=k/\aU L k=true:=by
 unfold ah at h⊢;split at h
 ·simp[void]at h
 ·rename_i hn;rw[aa3 hn];refine⟨rfl,?_⟩;simp only[Bool.or_eq_true,Bool.not_eq_true',aaX,not_or,Bool.not_eq_true,not_and]at hn;obtain⟨⟨h1,h2⟩,h3⟩:=hn;have hk:aV k=true:=by simpa using h2
  have:ba k=true:=by
   unfold ba ee;rw[hk];rcases h with h|h<;>simp[h]
  have:=h3 this;simpa using this
theorem TW {L:List Obj} {k:Key} (h:aU L k=true):ah L k=k:=by
 unfold ah;have h':=ef h;rw[aa3];have hl:L≠ []:=fun e=>by have:=h'.2.1;have:=h'.2.2.1;simp[e]at *;omega
 have hs:bn L=false:=by
  unfold bn;cases L with
  |nil=>exact absurd rfl hl
  |cons x l=>simp[ai]
 rw[hs,h'.1,h];simp
theorem W5 {k:Key} (h:aV k=true) (h2:k.kind=2):Key.mk 2 k.oid k.count void.call void.rights void.value=di k 0:=by
 obtain⟨a,b,c,d,e,f⟩:=k;simp only at h2;subst h2;simp[aV,ga,ee,gM,kG]at h;simp[di,void];omega
theorem Xp {L:List Obj} {k:Key} (h:aU L k=true) (h2:k.kind=2):aU L (di k 0)=true:=by
 have hk:=(ef h).1
 have hk':aV (di k 0)=true:=by
  have hk1:=hk;simp only[aV,aaX,aaY]at hk1⊢;obtain⟨⟨⟨⟨⟨⟨⟨x1,x2⟩,x3⟩,x4⟩,x5⟩,x6⟩,x7⟩,x8⟩:=hk1;exact⟨⟨⟨⟨⟨⟨⟨x1,x2⟩,Int.le_refl 0⟩,by show 0<=fu k.kind;omega⟩,x5⟩,x6⟩,x7⟩,x8⟩
 have hn:bd (di k 0)=bd k:=by unfold bd;rw[hk,hk'];rfl
 have hw:gD (di k 0)=gD k:=by unfold gD;rw[hn];rfl
 have hc:∀o,cI (di k 0) o=cI k o:=fun o=>by unfold cI;rw[hn,hw,hk,hk'];rfl
 have hd:ba (di k 0)=ba k:=by unfold ba;rw[hk,hk'];rfl
 unfold aU at h⊢;rw[hd,hc];exact h
theorem Gj {L:List Obj} {k:Key} {i:Int} (h:aU L k=true) (h2:k.kind=2) (h0:0<=i) (h1:i<16):aJ L k i=dh L k i:=by
 have hl:=ef h
 have hA:aC L k 2 false=0:=by
  unfold aC;rw[aa3 (by have:=hl.2.1;have:=hl.2.2.1;unfold ai;omega),aa3 (by rw[h,h2];simp),aa3 (by simp)]
 unfold aJ bV km;rw[hA,aa4 rfl,decide_eq_true h0,decide_eq_true h1];rfl
theorem Ps {L:List Obj} {k:Key} {i:Int} (h:aU L k=true) (h2:k.kind=2) (h0:0<=i) (h1:i<16):aJ L (Key.mk 2 k.oid k.count void.call void.rights void.value) i=dh L (di k 0) i:=by
 rw[W5 (ef h).1 h2];exact Gj (Xp h h2) h2 h0 h1
theorem go_eq {L:List Obj} {g:Wk} (h0:0<=g.dep) (h8:g.dep<=8):jk L (9-g.dep).toNat g=
  if(ah L g.pos).kind=3 then(if g.adr<64 then⟨0,oY g.rts (ah L g.pos),g.adr,g.kpr,g.dep⟩else⟨2,void,0,g.kpr,0⟩)
  else if(ah L g.pos).kind=2 then match mn L g (ah L g.pos) (dh L (di (ah L g.pos) 0) 15) (dh L (di (ah L g.pos) 0) 14)with
   | (r,none)=>r
   | (_,some w')=>jk L (8-g.dep).toNat w'
  else⟨1,void,0,g.kpr,0⟩:=by
 have e:(9-g.dep).toNat=(8-g.dep).toNat+1:=by omega
 rw[e];rfl
theorem HV {L:List Obj} {g:Wk} (h0:0<=g.dep) (h8:g.dep<=8) (h3:(ah L g.pos).kind≠3) (h2:(ah L g.pos).kind≠2):jk L (9-g.dep).toNat g=⟨1,void,0,g.kpr,0⟩:=by
 rw[go_eq h0 h8,aa3 h3,aa3 h2]
theorem NX {L:List Obj} {g:Wk} (h0:0<=g.dep) (h8:g.dep<=8) (h3:(ah L g.pos).kind=3) (h:¬g.adr<64):jk L (9-g.dep).toNat g=⟨2,void,0,g.kpr,0⟩:=by
 rw[go_eq h0 h8,aa4 h3,aa3 h]
theorem yh {L:List Obj} {g:Wk} (h0:0<=g.dep) (h8:g.dep<=8) (h3:(ah L g.pos).kind=3) (h:g.adr<64):jk L (9-g.dep).toNat g=⟨0,oY g.rts (ah L g.pos),g.adr,g.kpr,g.dep⟩:=by
 rw[go_eq h0 h8,aa4 h3,aa4 h]
theorem Kv {L:List Obj} {g:Wk} (h0:0<=g.dep) (h8:g.dep<=8) (h2:(ah L g.pos).kind=2) (h:¬g.dep<8):jk L (9-g.dep).toNat g=⟨3,void,0,g.kpr,0⟩:=by
 rw[go_eq h0 h8,aa3 (by omega),aa4 h2,mn,aa4 (by omega)]
theorem HU {L:List Obj} {g:Wk} (h0:0<=g.dep) (h8:g.dep<=8) (h2:(ah L g.pos).kind=2) (h:g.dep<8) (hf:qs g (dh L (di (ah L g.pos) 0) 15)=false):jk L (9-g.dep).toNat g=⟨4,void,0,g.kpr,0⟩:=by
 rw[go_eq h0 h8,aa3 (by omega),aa4 h2,mn,aa3 (by omega),hf]
 rfl
theorem CP {L:List Obj} {g:Wk} (h0:0<=g.dep) (h8:g.dep<=8) (h2:(ah L g.pos).kind=2) (h:g.dep<8) (hf:qs g (dh L (di (ah L g.pos) 0) 15)=true)
  (hs:¬g.adr.tdiv (bf (dh L (di (ah L g.pos) 0) 15).value)<14):jk L (9-g.dep).toNat g=⟨2,void,0,wE (nW g.rts (ah L g.pos).rights) (dh L (di (ah L g.pos) 0) 14) g.kpr,0⟩:=by
 rw[go_eq h0 h8,aa3 (by omega),aa4 h2,mn,aa3 (by omega),hf,aa4 rfl,aa3 hs]
def Lv (L:List Obj) (g:Wk):Wk:=⟨dh L (ah L g.pos) (g.adr.tdiv (bf (dh L (di (ah L g.pos) 0) 15).value)),g.adr.tmod (bf (dh L (di (ah L g.pos) 0) 15).value),nW g.rts (ah L g.pos).rights,
 wE (nW g.rts (ah L g.pos).rights) (dh L (di (ah L g.pos) 0) 14) g.kpr,g.dep+1,(dh L (di (ah L g.pos) 0) 15).value⟩
theorem Uh {L:List Obj} {g:Wk} (h0:0<=g.dep) (h8:g.dep<=8) (h2:(ah L g.pos).kind=2) (h:g.dep<8) (hf:qs g (dh L (di (ah L g.pos) 0) 15)=true)
  (hs:g.adr.tdiv (bf (dh L (di (ah L g.pos) 0) 15).value)<14):jk L (9-g.dep).toNat g=jk L (9-(g.dep+1)).toNat (Lv L g):=by
 rw[go_eq h0 h8,aa3 (by omega),aa4 h2,mn,aa3 (by omega),hf,aa4 rfl,aa4 hs]
 have e:(9-(g.dep+1)).toNat=(8-g.dep).toNat:=by omega
 rw[e];rfl
theorem vy {g:Wk} {h:Key}:qs g h=true↔h.kind=1/\1<=h.value/\h.value<=8/\(g.dep=0\/h.value<g.hi):=by
 simp[qs,and_assoc]
theorem sd {a e:Int} (h0:0<=a) (he:64<=e):0<=a.tdiv e/\a.tdiv e<=a/\0<=a.tmod e/\a.tmod e<=a:=by
 rw[Int.tdiv_eq_ediv_of_nonneg h0,Int.tmod_eq_emod_of_nonneg h0];have h1:=Int.ediv_nonneg h0 (show 0<=e by omega)
 have h2:=Int.ediv_le_self e h0;have h3:=Int.emod_nonneg a (show e≠0 by omega)
 have h4:=Int.emod_add_mul_ediv a e;have h5:=Int.mul_nonneg (show 0<=e by omega) h1
 omega
theorem Le {L:List Obj} {k:Key} {a hi:Int} {g:Wk} (hI:oa L k a hi g) (h2:(ah L g.pos).kind=2) (h:g.dep<8) (hf:qs g (dh L (di (ah L g.pos) 0) 15)=true)
  (hs:g.adr.tdiv (bf (dh L (di (ah L g.pos) 0) 15).value)<14):oa L k a hi (Lv L g)/\py (Lv L g)<py g:=by
 obtain⟨⟨a1,a2⟩,⟨r1,r2⟩,⟨d1,d2⟩,e1,e2,e3⟩:=hI;have hf':=vy.1 hf;have he:=sq (show(dh L (di (ah L g.pos) 0) 15).value<=9 by omega)
 have hd:=sd a1 he.1;have hp:=pC (qj L g.pos);have ho:=Yj r1 r2 hp.1 hp.2;refine⟨⟨⟨hd.2.2.1,by have:=hd.2.2.2;simp only[Lv];omega⟩,ho.2,⟨by simp only[Lv];omega,by simp only[Lv];omega⟩,fun h=>?_,fun _=>hf'.2.2.1,?_⟩,?_⟩
 ·simp only[Lv]at h;omega
 ·rw[<-e3,Uh d1 d2 h2 h hf hs];rfl
 ·unfold py;simp only[Lv];omega
theorem Ww {L:List Obj} {k:Key} {a:Int} (x y:Int):jk L 9 (xy k a x)=jk L 9 (xy k a y):=by
 show QI L (8+1) _=QI L (8+1) _
 unfold QI;simp only[xy,mn,qs];rfl
theorem Y6 {L:List Obj} {k:Key} {a:Int} (h:¬a<0) (hi:Int):oa L k a hi (xy k a hi):=
 ⟨⟨by simp only[xy];omega,by simp only[xy];omega⟩,by simp[xy],by simp[xy],fun _=>rfl,fun h=>absurd rfl h,rfl⟩
theorem Zi {L:List Obj} {k:Key} {a hi:Int} {g:Wk} (hI:oa L k a hi g) (hE:dI L k a=0):au L k a=jk L (9-g.dep).toNat g:=by
 unfold au;rw[aa4 hE,hI.2.2.2.2.2];exact Ww _ _
theorem yJ {L:List Obj} {k:Key} {a e:Int} (h:dI L k a=e) (he:e≠0):void=cm (au L k a)/\0=ck (au L k a)/\void=dn (au L k a)/\0=dK (au L k a)/\0=e9 (au L k a)/\void=fO (au L k a)/\0=fP (au L k a) a/\e=dI L k a:=by
 have:au L k a=Yy:=by unfold au;rw[aa3 (by omega)]
 rw[this,h];exact⟨rfl,rfl,rfl,rfl,rfl,rfl,rfl,rfl⟩
theorem qq {L:List Obj} {k:Key} {a hi d:Int} {g:Wk} {p:Key} (hI:oa L k a hi g) (hE:dI L k a=0) (h:jk L (9-g.dep).toNat g=⟨d,void,0,p,0⟩) (hd:d≠0):
  void=cm (au L k a)/\0=ck (au L k a)/\void=dn (au L k a)/\0=dK (au L k a)/\d=e9 (au L k a)/\p=fO (au L k a)/\a=fP (au L k a) a/\0=dI L k a:=by
 rw[Zi hI hE,h,hE];simp only[cm,ck,dn,dK,e9,fO,fP,aa3 hd];simp
theorem Hw {L:List Obj} {k:Key} {a hi ad dp:Int} {g:Wk} {q p:Key} (hI:oa L k a hi g) (hE:dI L k a=0) (h:jk L (9-g.dep).toNat g=⟨0,q,ad,p,dp⟩):
  q=cm (au L k a)/\ad=ck (au L k a)/\p=dn (au L k a)/\dp=dK (au L k a)/\0=e9 (au L k a)/\void=fO (au L k a)/\0=fP (au L k a) a/\0=dI L k a:=by
 rw[Zi hI hE,h,hE];exact⟨rfl,rfl,rfl,rfl,rfl,rfl,rfl,rfl⟩
theorem AO (L:List Obj) (v:Key):(!decide (bw v=0)||ba v&&decide (ak L<=cw v))= !bK L v:=by
 rw[<-ve]
 have:decide (ak L<=cw v)= !decide (cw v<ak L):=by
  rw[Bool.eq_iff_iff];simp
 rw[this];cases decide (bw v=0)<;>cases ba v<;>cases decide (cw v<ak L)<;>rfl
theorem wE1 {L:List Obj} {k:Key} {a:Int} (h:decide (ak L=0)=true):dI L k a=1:=by
 have h:=aa1 h;unfold ak at h;unfold dI;rw[aa4 (by omega)]
theorem Ud {L:List Obj} {k:Key} {a:Int} (h:decide (ak L=0)=false):dI L k a=if bK L k then(if a<0 then 4 else 0)else 2:=by
 have h:=aa0 h;unfold ak at h;unfold dI;rw[aa3 (by omega)]
theorem Rf {L:List Obj} {k:Key} (hk:aV k=true) (hL:0<L.length):(k.kind=1->ah L k=k)/\(k.kind≠1->(ah L k).kind≠1):=by
 refine⟨fun h=>?_,fun h=>?_⟩
 ·unfold ah;rw[aa3]
  have hs:bn L=false:=by
   unfold bn ai;rw[decide_eq_false];omega
  have hn:ba k=false:=by unfold ba ee;rw[h,hk];rfl
  rw[hs,hk,hn];simp
 ·unfold ah;split
  ·simp[void]
  ·exact h
def cg (L:List Obj) (k:Key) (a n:Int):Int:=if dI L k a=0 then(if n<0\/64<n then 4 else 0)else dI L k a
def bU (L:List Obj) (k:Key) (a n:Int) (w:Bool):Int:=if cg L k a n=0 then(if(au L k a).kd=0 then(if 64<(au L k a).adr+n then 5 else if(w&& !decide ((au L k a).pos.rights=0))=true then 6 else 0)else(au L k a).kd)else 0
def fC (L:List Obj) (k:Key) (a n:Int) (w:Bool):Key:=if bU L k a n w=0 then void else(au L k a).kpr
def fJ (L:List Obj) (k:Key) (a n:Int) (w:Bool):Int:=if bU L k a n w=0 then 0 else a
def lW (L:List Obj) (k:Key) (a n:Int) (w:Bool):Bool:=decide (cg L k a n=0)&&decide (bU L k a n w=0)
def bI (L:List Obj) (k:Key) (a n:Int) (w:Bool):Wr:=if lW L k a n w=true then au L k a else Yy
def VN (L:List Obj) (k:Key) (a n:Int) (w:Bool):V:= .ag [.it .i64 (bU L k a n w),.key (fC L k a n w),.it .i64 (fJ L k a n w)]
def jU (L:List Obj) (k:Key) (a n:Int):ByteArray:=if lW L k a n false=true then dY L (cm (bI L k a n false)) (ck (bI L k a n false)) n else⟨#[]⟩
def kz (L:List Obj) (k:Key) (a:Int) (s:ByteArray):List Obj:=if lW L k a (bN s) true=true then eX L (cm (bI L k a (bN s) true)) (ck (bI L k a (bN s) true)) s else L
def Y1 (L:List Obj) (k:Key) (a n:Int) (w:Bool):V:= .tp [aao (bI L k a n w),VN L k a n w,.it .i64 (cg L k a n)]
def ZH:Ct:=s6 (bc sA (bc kA (bc iA (bc iA (bc bA gK))))) (fun _=>none) fun x=>Y1 (Dx x.1) x.2.1 x.2.2.1 x.2.2.2.1 x.2.2.2.2.1
def Ys:Ct:=s6 (bc As (bc kA (bc iA (bc iA (bc bA gK))))) (fun x=>some (ar x.1)) fun x=>Y1 x.1 x.2.1 x.2.2.1 x.2.2.2.1 x.2.2.2.2.1
def ki (L:List Obj) (k:Key) (i:Int) (s:ByteArray):Bool:=decide (cN L k i s=0)
def aah:ke:=Ar BA (fun L x=>ar L/\aw x.2.2) (fun L x=>ki L x.1 x.2.1 x.2.2) (fun L x=>eX L x.1 x.2.1 x.2.2) fun L x=> [.it .i64 (cN L x.1 x.2.1 x.2.2)]
def aaN:Ct:=s6 (bc sA (bc kA (bc iA (bc iA gK)))) (fun _=>none) fun x=> .tp [.st (jU (Dx x.1) x.2.1 x.2.2.1 x.2.2.2.1),VN (Dx x.1) x.2.1 x.2.2.1 x.2.2.2.1 false,.it .i64 (cg (Dx x.1) x.2.1 x.2.2.1 x.2.2.2.1)]
def ZG:Ct:=s6 (bc As (bc kA (bc iA (bc iA gK)))) (fun x=>some (ar x.1)) fun x=> .tp [.st (jU x.1 x.2.1 x.2.2.1 x.2.2.2.1),VN x.1 x.2.1 x.2.2.1 x.2.2.2.1 false,.it .i64 (cg x.1 x.2.1 x.2.2.1 x.2.2.2.1)]
def aaA:ke:=YJ BA (fun x=>aw x.2.2) (fun L x=>ar L/\aw x.2.2) (fun L x=> .tp [VN L x.1 x.2.1 (bN x.2.2) true,.it .i64 (cg L x.1 x.2.1 (bN x.2.2))]) fun L x=>kz L x.1 x.2.1 x.2.2
def ZS:ke:=Ar BA (fun L x=>ar L/\aw x.2.2) (fun L x=>lW L x.1 x.2.1 (bN x.2.2) true) (fun L x=>kz L x.1 x.2.1 x.2.2) fun L x=> [VN L x.1 x.2.1 (bN x.2.2) true,.it .i64 (cg L x.1 x.2.1 (bN x.2.2))]
theorem T4 {L:List Obj} {k:Key} {r:Int} (h:aU L k=true) (h3:k.kind=3):aU L (oY r k)=true/\(oY r k).kind=3:=by
 unfold oY;split
 ·exact⟨h,h3⟩
 ·refine⟨?_,h3⟩;have hk:=(ef h).1;have hm:fu k.kind=1:=by rw[h3];rfl
  have hk':aV (di k 1)=true:=by
   have hk1:=hk;simp only[aV,aaX,aaY]at hk1⊢;obtain⟨⟨⟨⟨⟨⟨⟨x1,x2⟩,x3⟩,x4⟩,x5⟩,x6⟩,x7⟩,x8⟩:=hk1;exact⟨⟨⟨⟨⟨⟨⟨x1,x2⟩,by show(0:Int)<=1;omega⟩,by show 1<=fu k.kind;omega⟩,x5⟩,x6⟩,x7⟩,x8⟩
  have hn:bd (di k 1)=bd k:=by unfold bd;rw[hk,hk'];rfl
  have hw:gD (di k 1)=gD k:=by unfold gD;rw[hn];rfl
  have hc:∀o,cI (di k 1) o=cI k o:=fun o=>by unfold cI;rw[hn,hw,hk,hk'];rfl
  have hd:ba (di k 1)=ba k:=by unfold ba;rw[hk,hk'];rfl
  unfold aU at h⊢;rw[hd,hc];exact h
theorem Iv {L:List Obj}:∀(n:Nat) (w:Wk),0<=w.adr->(jk L n w).kd=0->(aU L (jk L n w).pos=true/\(jk L n w).pos.kind=3)/\0<=(jk L n w).adr/\(jk L n w).adr<64
 |0,w,_,h=>absurd h (by show¬(3:Int)=0;omega)
 |n+1,w,ha,h=>by
  unfold jk QI at h⊢;split at h
  ·rename_i h3;split at h
   ·rename_i hlt;rw[aa4 h3,aa4 hlt];obtain⟨pe,pi⟩:=CD (.inr h3);rw[pe]at h3⊢;exact⟨T4 pi h3,ha,hlt⟩
   ·exact absurd h (by show¬(2:Int)=0;omega)
  ·rename_i h3;rw[aa3 h3];split at h
   ·rename_i h2;rw[aa4 h2];split at h
    ·rename_i r hr;unfold mn at hr;split at hr
     ·simp only[aaW,and_true]at hr;subst hr;exact absurd h (by show¬(3:Int)=0;omega)
     ·split at hr
      ·split at hr<;>simp only[aaW,and_true,reduceCtorEq,and_false]at hr
       subst hr;exact absurd h (by show¬(2:Int)=0;omega)
      ·simp only[aaW,and_true]at hr;subst hr;exact absurd h (by show¬(4:Int)=0;omega)
    ·rename_i r w' hr;refine Iv n w' ?_ h;unfold mn at hr;split at hr
     ·simp at hr
     ·split at hr
      ·rename_i hf;split at hr<;>simp only[aaW,aaV,reduceCtorEq,and_false]at hr
       obtain⟨_,rfl⟩:=hr;have hf':=vy.1 hf;have he:=sq (show(dh L (di (ah L w.pos) 0) 15).value<=9 by omega)
       exact(sd ha he.1).2.2.1
      ·simp at hr
   ·exact absurd h (by show¬(1:Int)=0;omega)
theorem Gt {L:List Obj} {k:Key} {a:Int} (hE:dI L k a=0) (h:(au L k a).kd=0):(aU L (au L k a).pos=true/\(au L k a).pos.kind=3)/\0<=(au L k a).adr/\(au L k a).adr<64:=by
 have ha:0<=a:=by
  unfold dI at hE;split at hE
  ·omega
  ·split at hE
   ·split at hE<;>omega
   ·omega
 unfold au at h⊢;rw[aa4 hE]at h⊢;exact Iv 9 _ ha h
theorem tL {L:List Obj} {k:Key} {a n:Int} {w:Bool}:(!decide (cg L k a n=0)|| !decide (bU L k a n w=0))= !lW L k a n w:=by
 unfold lW;cases decide (cg L k a n=0)<;>cases decide (bU L k a n w=0)<;>rfl
theorem uj {L:List Obj} {k:Key} {a n:Int} {w:Bool} (h:lW L k a n w=true):cg L k a n=0/\bU L k a n w=0:=by
 unfold lW at h;simpa using h
theorem Qy {L:List Obj} {k:Key} {a n e:Int} (h:dI L k a=e) (he:e≠0):cg L k a n=e:=by unfold cg;rw[h,aa3 he]
theorem Zj {L:List Obj} {k:Key} {a n:Int} (h:dI L k a=0) (hr:(decide (n<0)||decide (64<n))=true):cg L k a n=4:=by
 unfold cg;rw[aa4 h,aa4 (by simpa using hr)]
theorem Xt {L:List Obj} {k:Key} {a n:Int} (h:dI L k a=0) (hr:(decide (n<0)||decide (64<n))=false):cg L k a n=0:=by
 unfold cg;rw[aa4 h,aa3 (by simpa using hr)]
theorem zm {L:List Obj} {k:Key} {a n:Int} (h:cg L k a n=0):dI L k a=0/\0<=n/\n<=64:=by
 unfold cg at h;split at h
 ·rename_i hw;split at h
  ·omega
  ·exact⟨hw,by omega,by omega⟩
 ·rename_i hw;exact absurd h hw
theorem XB {L:List Obj} {k:Key} {a n:Int} {w:Bool} (h:lW L k a n w=true):dI L k a=0/\(au L k a).kd=0/\0<=n/\(au L k a).adr+n<=64/\(w=true->(au L k a).pos.rights=0):=by
 unfold lW at h;rw[aaX,aaY,aaY]at h;obtain⟨hE,hF⟩:=h;obtain⟨h1,h2,h3⟩:=zm hE;unfold bU at hF;rw[aa4 hE]at hF;split at hF
 ·rename_i hk;split at hF
  ·omega
  ·split at hF
   ·omega
   ·rename_i h4 h5;exact⟨h1,hk,h2,by omega,fun hw=>by rw[hw]at h5;simpa using h5⟩
 ·rename_i hk;exact absurd hF hk
theorem pW {L:List Obj} {k:Key} {a n e:Int} {w:Bool} (h:cg L k a n=e) (he:e≠0):void=cm (bI L k a n w)/\0=ck (bI L k a n w)/\void=dn (bI L k a n w)/\0=dK (bI L k a n w)/\0=bU L k a n w/\void=fC L k a n w/\0=fJ L k a n w/\e=cg L k a n:=by
 have hF:bU L k a n w=0:=by unfold bU;rw[h,aa3 he]
 have hC:lW L k a n w=false:=by unfold lW;rw[h,decide_eq_false he];rfl
 unfold bI fC fJ;rw[hC,hF,h];exact⟨rfl,rfl,rfl,rfl,rfl,rfl,rfl,rfl⟩
theorem sm {L:List Obj} {k:Key} {a n d:Int} {w:Bool} (hE:cg L k a n=0) (h:bU L k a n w=d) (hd:d≠0):void=cm (bI L k a n w)/\0=ck (bI L k a n w)/\void=dn (bI L k a n w)/\0=dK (bI L k a n w)/\d=bU L k a n w/\(au L k a).kpr=fC L k a n w/\a=fJ L k a n w/\0=cg L k a n:=by
 have hC:lW L k a n w=false:=by unfold lW;rw[h,decide_eq_false hd,Bool.and_false]
 unfold bI fC fJ;rw[hC,h,hE,aa3 hd,aa3 hd];exact⟨rfl,rfl,rfl,rfl,rfl,rfl,rfl,rfl⟩
theorem It {L:List Obj} {k:Key} {a n:Int} {w:Bool} (hE:cg L k a n=0) (h:bU L k a n w=0):cm (au L k a)=cm (bI L k a n w)/\ck (au L k a)=ck (bI L k a n w)/\dn (au L k a)=dn (bI L k a n w)/\dK (au L k a)=dK (bI L k a n w)/\0=bU L k a n w/\void=fC L k a n w/\0=fJ L k a n w/\0=cg L k a n:=by
 have hC:lW L k a n w=true:=by unfold lW;rw[h,hE];rfl
 unfold bI fC fJ;rw[hC,h,hE];exact⟨rfl,rfl,rfl,rfl,rfl,rfl,rfl,rfl⟩
theorem P5 {r:Wr} (h:r.kd=0):cm r=r.pos/\ck r=r.adr/\dn r=r.kpr:=by
 unfold cm ck dn;rw[aa4 h,aa4 h,aa4 h];exact⟨rfl,rfl,rfl⟩
theorem ZX {r:Wr} {a:Int} (h:r.kd≠0):e9 r=r.kd/\fO r=r.kpr/\fP r a=a:=by
 unfold fO fP;rw[aa3 h,aa3 h];exact⟨rfl,rfl,rfl⟩
theorem ZJ {L:List Obj} {k:Key} {a n:Int} {w:Bool} (hE:cg L k a n=0) (h:(au L k a).kd≠0):bU L k a n w=(au L k a).kd:=by unfold bU;rw[aa4 hE,aa3 h]
theorem aap {L:List Obj} {k:Key} {a n:Int} {w:Bool} (hE:cg L k a n=0) (h:(au L k a).kd=0) (h5:64<(au L k a).adr+n):bU L k a n w=5:=by unfold bU;rw[aa4 hE,aa4 h,aa4 h5]
theorem aas {L:List Obj} {k:Key} {a n:Int} {w:Bool} (hE:cg L k a n=0) (h:(au L k a).kd=0) (h5:¬64<(au L k a).adr+n) (h6:(w&& !decide ((au L k a).pos.rights=0))=true):bU L k a n w=6:=by unfold bU;rw[aa4 hE,aa4 h,aa3 h5,aa4 h6]
theorem Zm {L:List Obj} {k:Key} {a n:Int} {w:Bool} (hE:cg L k a n=0) (h:(au L k a).kd=0) (h5:¬64<(au L k a).adr+n) (h6:(w&& !decide ((au L k a).pos.rights=0))=false):bU L k a n w=0:=by unfold bU;rw[aa4 hE,aa4 h,aa3 h5,aa3 (by rw[h6];simp)]
theorem Nu {L:List Obj} {k:Key} {a n:Int} {w:Bool} (h:lW L k a n w=true):(aU L (cm (bI L k a n w))=true/\(cm (bI L k a n w)).kind=3)/\aW L (cm (bI L k a n w)) w=0/\cB (ck (bI L k a n w)) n=true:=by
 obtain⟨h1,h2,h3,h4,h5⟩:=XB h;obtain⟨⟨e1,e2⟩,e3,e4⟩:=Gt h1 h2;obtain⟨f1,f2,_⟩:=P5 h2;unfold bI;rw[aa4 h,f1,f2];have hl:=ef e1
 have hA:aC L (au L k a).pos 3 false=0:=by
  unfold aC;rw[aa3 (by have:=hl.2.1;have:=hl.2.2.1;unfold ai;omega),aa3 (by rw[e1,e2];simp),aa3 (by simp)]
 refine⟨⟨e1,e2⟩,?_,n7.2 ⟨e3,h3,by omega,by omega⟩⟩
 unfold aW;rw[aa4 hA,aa3];cases w
 ·simp
 ·simp[h5 rfl]
theorem HZ {L:List Obj} {k:Key} {i:Int} {s:ByteArray} (hL:ar L):ar (eX L k i s):=by
 unfold eX;split
 ·rename_i h;unfold cN at h;split at h
  ·rename_i hp;obtain⟨a1,a2,_⟩:=m5 hp;exact(rk hL a1 a2).2.2
  ·rename_i hp;exact absurd h hp
 ·exact hL
theorem VR {L:List Obj} {k:Key} {a:Int} {s:ByteArray} (hL:ar L):ar (kz L k a s):=by
 unfold kz;split
 ·exact HZ hL
 ·exact hL
structure Acs where
 kind:Int
 num:Int
 root:Key
 adr:Int
 bytes:ByteArray
structure Lnk where
 hgt:Int
 slot:Int
 rts:Int
 kept:Bool
theorem XX {L:List Obj} {k:Key} {a:Int} {s:ByteArray} (h:lW L k a (bN s) true=false):kz L k a s=L:=by unfold kz;rw[h];rfl
end Go.Sx
namespace Go.Proofs.YtlblcfaclmpekaaGreat
open Go.Sx
theorem Rx (h:Int) (hh:bY .i64 h) (hq:j6 h):
 abd (h-1)/\(∃g,C3 h g/\h=h/\64=bf (g+1)/\h-1=h-1/\0=g)/\∀(g:Int),C3 h g->aba (decide (g<h-1)) (abd (bf (g+1)*16)/\abd (g+1)/\∃g',C3 h g'/\(h-g').toNat<(h-g).toNat/\h=h/\bf (g+1)*16=bf (g'+1)/\h-1=h-1/\g+1=g') (bf (g+1)=bf h):=by
 delta aba abd
 obtain⟨q0,q9⟩:=hq;refine⟨by simp only[aF,bY]at *;omega,⟨0,⟨by omega,.inl rfl⟩,rfl,(nE (by omega)).symm,rfl,rfl⟩,fun g hg=>⟨fun hlt=>?_,fun hge=>?_⟩⟩
 ·obtain⟨g0,g1⟩:=hg;have hlt:=aa1 hlt;have hb:=sq (show g+1<=9 by omega)
  exact⟨by simp only[aF,bY];omega,by simp only[aF,bY];omega,g+1,⟨by omega,.inr (by omega)⟩,by omega,rfl,BI (by omega),rfl,rfl⟩
 ·obtain⟨g0,g1⟩:=hg;have hge:=aa0 hge;rcases g1 with rfl|g1
  ·rw[nE (by omega),nE (by omega)]
  ·rw[show g+1=h by omega]
theorem Ia:cq Tryz.prog 248 KO:=
 eW (aA dO bW) (fun _=>rfl) fun a hq hok=>by
  obtain⟨h,_⟩:=a;exact aZ (inl:=bx) (ann:=(iu [(248,3,Va [0,2,5] (fun g=> [(3,.it .i64 (bf (Al g 1))),(6,.it .i64 g)]) (C3 h) h)])) aq (Rx h hok.1 hq) (by kernel_rfl)
theorem Ll (h:Int) (hh:bY .i64 h) (hq:j6 h):
 (∃g,CT h g/\h=h/\64=bf g/\1=g)/\∀(g:Int),CT h g->(decide (g<h)=true->aF IntKind.i64 (bf g*16)/\aF IntKind.i64 (g+1)/\∃g',CT h g'/\(h-g').toNat<
  (h-g).toNat/\h=h/\bf g*16=bf g'/\g+1=g')/\(decide (g<h)=false->bf g=bf h):=by
 obtain⟨q0,q9⟩:=hq;refine⟨⟨1,⟨by omega,.inl rfl⟩,rfl,(nE (by omega)).symm,rfl⟩,fun g hg=>⟨fun hlt=>?_,fun hge=>?_⟩⟩
 ·obtain⟨g0,g1⟩:=hg;have hlt:=aa1 hlt;have hb:=sq (show g<=9 by omega)
  exact⟨by simp only[aF,bY];omega,by simp only[aF,bY];omega,g+1,⟨by omega,.inr (by omega)⟩,by omega,rfl,BI (by omega),rfl⟩
 ·obtain⟨g0,g1⟩:=hg;have hge:=aa0 hge;rcases g1 with rfl|g1
  ·rw[nE (by omega),nE (by omega)]
  ·rw[show g=h by omega]
theorem KG:cq Tryz.prog 229 KO:=
 eW (aA dO bW) (fun _=>rfl) fun a hq hok=>by
  obtain⟨h,_⟩:=a;exact aZ (inl:=bx) (ann:=(iu [(229,3,Va [0,2] (fun g=> [(3,.it .i64 (bf g)),(4,.it .i64 g)]) (CT h) h)])) aq (Ll h hok.1 hq) (by kernel_rfl)
theorem M5:
 ∀(nid:Nat),some (V.mp nid)=some (V.mp nid)/\some [aK.mp IntKind.i64 [3,2] [V.fn 245 [],V.fn 246 []]]=some [aK.mp IntKind.i64 [3,2] [V.fn 245 [],V.fn 246 []]]:=by
 exact fun nid=>⟨rfl,rfl⟩
theorem EL:cq Tryz.prog 243 (A0 spX spN):=vA (π:= [0]) (by decide) (fun _=>rfl) (bj (inl:=bx) (ann:=aQ) aq aD M5 (by kernel_rfl))
abbrev acq(g:Wk)(k:Key)(a:Int):=ah [] g.pos=cm (au [] k a)/\g.adr=ck (au [] k a)/\g.kpr=dn (au [] k a)/\g.dep=dK (au [] k a)/\0=e9 (au [] k a)/\void=fO (au [] k a)/\0=fP (au [] k a) a/\0=dI [] k a
abbrev acr(g:Wk):=aJ [] (abE 2 (ah [] g.pos) void.value) 15
abbrev acs(k:Key)(a:Int)(g:Wk):=aba (!decide (2=0)) (void=cm (au [] k a)/\0=ck (au [] k a)/\void=dn (au [] k a)/\0=dK (au [] k a)/\2=e9 (au [] k a)/\g.kpr=fO (au [] k a)/\a=fP (au [] k a) a/\0=dI [] k a) (acq g k a)
abbrev acu(g:Wk):=bf (acr g).value
abbrev acv(g:Wk):=abE 2 (ah [] g.pos) void.value
theorem NL (k:Key) (a:Int) (ha:bY .i64 a):
 abb (aba (decide (ak []=0)) (void=cm (au [] k a)/\0=ck (au [] k a)/\void=dn (au [] k a)/\0=dK (au [] k a)/\0=e9 (au [] k a)/\void=fO (au [] k a)/\0=fP (au [] k a) a/\1=dI [] k a) (aba (!decide (bw k=0)||ba k&&decide (ak []<=cw k)) (void=cm (au [] k a)/\0=ck (au [] k a)/\void=dn (au [] k a)/\0=dK (au [] k a)/\0=e9 (au [] k a)/\void=fO (au [] k a)/\0=fP (au [] k a) a/\2=dI [] k a) (aba (decide (a<0)) (void=cm (au [] k a)/\0=ck (au [] k a)/\void=dn (au [] k a)/\0=dK (au [] k a)/\0=e9 (au [] k a)/\void=fO (au [] k a)/\0=fP (au [] k a) a/\4=dI [] k a) (abb ((∃g,oa [] k a 0 g/\k=k/\void=void/\void=void/\void=void/\k=k/\Value.pointer none=Value.pointer none/\k=g.pos/\a=g.adr/\0=g.rts/\void=g.kpr/\0=g.dep/\0=g.hi/\false=false)/\∀(g:Wk),oa [] k a 0 g->abb (aba (!(decide ((ah [] g.pos).kind=3)||decide ((ah [] g.pos).kind=2))) (aba (!decide (1=0)) (void=cm (au [] k a)/\0=ck (au [] k a)/\void=dn (au [] k a)/\0=dK (au [] k a)/\1=e9 (au [] k a)/\g.kpr=fO (au [] k a)/\a=fP (au [] k a) a/\0=dI [] k a) (acq g k a)) (aba (decide ((ah [] g.pos).kind=3)) (abb (abb (aba (!decide (g.adr<64)) (acs k a g) (aba (!decide (bm BinOp.and IntKind.i64 g.rts 3=0)) (Key.mk (ah [] g.pos).kind (ah [] g.pos).oid (ah [] g.pos).count (ah [] g.pos).call (bm BinOp.or IntKind.i64 (ah [] g.pos).rights 1) (ah [] g.pos).value=cm (au [] k a)/\g.adr=ck (au [] k a)/\g.kpr=dn (au [] k a)/\g.dep=dK (au [] k a)/\0=e9 (au [] k a)/\void=fO (au [] k a)/\0=fP (au [] k a) a/\0=dI [] k a) (acq g k a))))) (aba (decide ((ah [] g.pos).kind=2)) (abb (abb (aba (!decide (g.dep<8)) (aba (!decide (3=0)) (void=cm (au [] k a)/\0=ck (au [] k a)/\void=dn (au [] k a)/\0=dK (au [] k a)/\3=e9 (au [] k a)/\g.kpr=fO (au [] k a)/\a=fP (au [] k a) a/\0=dI [] k a) (acq g k a)) (abb (abb (aba (!(decide ((acr g).kind=1)&&decide (1<=(acr g).value)&&decide ((acr g).value<=8)&&(decide (g.dep=0)||decide ((acr g).value<g.hi)))) (aba (!decide (4=0)) (void=cm (au [] k a)/\0=ck (au [] k a)/\void=dn (au [] k a)/\0=dK (au [] k a)/\4=e9 (au [] k a)/\g.kpr=fO (au [] k a)/\a=fP (au [] k a) a/\0=dI [] k a) (acq g k a)) (abb (aba (decide ((aJ [] (acv g) 14).kind=6)&&decide (bm BinOp.and IntKind.i64 (bm BinOp.or IntKind.i64 g.rts (ah [] g.pos).rights) 4=0)) (j6 (acr g).value/\(ny (acu g)/\abd (g.adr.tdiv (acu g)))/\abb (aba (!decide (g.adr.tdiv (acu g)<14)) (aba (!decide (2=0)) (void=cm (au [] k a)/\0=ck (au [] k a)/\void=dn (au [] k a)/\0=dK (au [] k a)/\2=e9 (au [] k a)/\aJ [] (acv g) 14=fO (au [] k a)/\a=fP (au [] k a) a/\0=dI [] k a) (ah [] g.pos=cm (au [] k a)/\g.adr=ck (au [] k a)/\aJ [] (acv g) 14=dn (au [] k a)/\g.dep=dK (au [] k a)/\0=e9 (au [] k a)/\void=fO (au [] k a)/\0=fP (au [] k a) a/\0=dI [] k a)) (abd (g.dep+1)/\(ny (acu g)/\abd (g.adr.tmod (acu g)))/\∃g',oa [] k a 0 g'/\py g'<py g/\k=k/\void=void/\void=void/\void=void/\k=k/\Value.pointer none=Value.pointer none/\aJ [] (ah [] g.pos) (g.adr.tdiv (acu g))=g'.pos/\g.adr.tmod (acu g)=g'.adr/\bm BinOp.or IntKind.i64 g.rts (ah [] g.pos).rights=g'.rts/\aJ [] (acv g) 14=g'.kpr/\g.dep+1=g'.dep/\(acr g).value=g'.hi/\false=false))) (j6 (acr g).value/\(ny (acu g)/\abd (g.adr.tdiv (acu g)))/\abb (aba (!decide (g.adr.tdiv (acu g)<14)) (acs k a g) (abd (g.dep+1)/\(ny (acu g)/\abd (g.adr.tmod (acu g)))/\∃g',oa [] k a 0 g'/\py g'<py g/\k=k/\void=void/\void=void/\void=void/\k=k/\Value.pointer none=Value.pointer none/\aJ [] (ah [] g.pos) (g.adr.tdiv (acu g))=g'.pos/\g.adr.tmod (acu g)=g'.adr/\bm BinOp.or IntKind.i64 g.rts (ah [] g.pos).rights=g'.rts/\g.kpr=g'.kpr/\g.dep+1=g'.dep/\(acr g).value=g'.hi/\false=false))))))))))) False)))))))):=by
 delta aba abE acv acu acs acr acq abd abb
 refine⟨rfl,fun h=>yJ (wE1 h) (by omega),fun h=>absurd h (by decide)⟩
theorem Nv (k:Key) (a:Int) (ha:bY .i64 a):an Tryz.prog 236 [jJ,.key k,.it .i64 a] [] (oD (Ft [] k a)) (fun _ _=>False):=
 aY (inl:=(fun f=>f==235||f==241||f==244||f==245||f==246||f==247)) (ann:=(iu [(241,2,YB [0,2] (fun _=> []) 0 (fun g=> .blk tW (wkV (jJ) g)) (oa [] k a 0) py)])) (ae EL (ae bC (ae gx (ae dH (ae ia (ae Ia (ae sw aq))))))) aD (eh HT) (NL k a ha) (by kernel_rfl)
abbrev acw(L:List Sx.Obj)(g:Wk)(k:Key)(a:Int):=ah L g.pos=cm (au L k a)/\g.adr=ck (au L k a)/\g.kpr=dn (au L k a)/\g.dep=dK (au L k a)/\0=e9 (au L k a)/\void=fO (au L k a)/\0=fP (au L k a) a/\0=dI L k a
abbrev acx(L:List Sx.Obj)(g:Wk):=aJ L (abE 2 (ah L g.pos) void.value) 15
abbrev acy(L:List Sx.Obj)(k:Key)(a:Int)(g:Wk):=aba (!decide (2=0)) (void=cm (au L k a)/\0=ck (au L k a)/\void=dn (au L k a)/\0=dK (au L k a)/\2=e9 (au L k a)/\g.kpr=fO (au L k a)/\a=fP (au L k a) a/\0=dI L k a) (acw L g k a)
abbrev acz(L:List Sx.Obj)(g:Wk):=bf (acx L g).value
theorem Ty (L:List Sx.Obj) (k:Key) (a:Int) (ha:bY .i64 a):
 abb (aba (decide (ak L=0)) (void=cm (au L k a)/\0=ck (au L k a)/\void=dn (au L k a)/\0=dK (au L k a)/\0=e9 (au L k a)/\void=fO (au L k a)/\0=fP (au L k a) a/\1=dI L k a) (aba (!decide (bw k=0)||ba k&&decide (ak L<=cw k)) (void=cm (au L k a)/\0=ck (au L k a)/\void=dn (au L k a)/\0=dK (au L k a)/\0=e9 (au L k a)/\void=fO (au L k a)/\0=fP (au L k a) a/\2=dI L k a) (aba (decide (a<0)) (void=cm (au L k a)/\0=ck (au L k a)/\void=dn (au L k a)/\0=dK (au L k a)/\0=e9 (au L k a)/\void=fO (au L k a)/\0=fP (au L k a) a/\4=dI L k a) (abb ((∃g,oa L k a 0 g/\L=L/\k=k/\void=void/\void=void/\void=void/\k=k/\k=g.pos/\a=g.adr/\0=g.rts/\void=g.kpr/\0=g.dep/\0=g.hi/\false=false)/\∀(g:Wk),oa L k a 0 g->abb (aba (!(decide ((ah L g.pos).kind=3)||decide ((ah L g.pos).kind=2))) (aba (!decide (1=0)) (void=cm (au L k a)/\0=ck (au L k a)/\void=dn (au L k a)/\0=dK (au L k a)/\1=e9 (au L k a)/\g.kpr=fO (au L k a)/\a=fP (au L k a) a/\0=dI L k a) (acw L g k a)) (aba (decide ((ah L g.pos).kind=3)) (abb (abb (aba (!decide (g.adr<64)) (acy L k a g) (aba (!decide (bm BinOp.and IntKind.i64 g.rts 3=0)) (Key.mk (ah L g.pos).kind (ah L g.pos).oid (ah L g.pos).count (ah L g.pos).call (bm BinOp.or IntKind.i64 (ah L g.pos).rights 1) (ah L g.pos).value=cm (au L k a)/\g.adr=ck (au L k a)/\g.kpr=dn (au L k a)/\g.dep=dK (au L k a)/\0=e9 (au L k a)/\void=fO (au L k a)/\0=fP (au L k a) a/\0=dI L k a) (acw L g k a))))) (aba (decide ((ah L g.pos).kind=2)) (abb (abb (aba (!decide (g.dep<8)) (aba (!decide (3=0)) (void=cm (au L k a)/\0=ck (au L k a)/\void=dn (au L k a)/\0=dK (au L k a)/\3=e9 (au L k a)/\g.kpr=fO (au L k a)/\a=fP (au L k a) a/\0=dI L k a) (acw L g k a)) (abb (abb (aba (!(decide ((acx L g).kind=1)&&decide (1<=(acx L g).value)&&decide ((acx L g).value<=8)&&(decide (g.dep=0)||decide ((acx L g).value<g.hi)))) (aba (!decide (4=0)) (void=cm (au L k a)/\0=ck (au L k a)/\void=dn (au L k a)/\0=dK (au L k a)/\4=e9 (au L k a)/\g.kpr=fO (au L k a)/\a=fP (au L k a) a/\0=dI L k a) (acw L g k a)) (abb (aba (decide ((aJ L (abE 2 (ah L g.pos) void.value) 14).kind=6)&&decide (bm BinOp.and IntKind.i64 (bm BinOp.or IntKind.i64 g.rts (ah L g.pos).rights) 4=0)) (j6 (acx L g).value/\(ny (acz L g)/\abd (g.adr.tdiv (acz L g)))/\abb (aba (!decide (g.adr.tdiv (acz L g)<14)) (aba (!decide (2=0)) (void=cm (au L k a)/\0=ck (au L k a)/\void=dn (au L k a)/\0=dK (au L k a)/\2=e9 (au L k a)/\aJ L (abE 2 (ah L g.pos) void.value) 14=fO (au L k a)/\a=fP (au L k a) a/\0=dI L k a) (ah L g.pos=cm (au L k a)/\g.adr=ck (au L k a)/\aJ L (abE 2 (ah L g.pos) void.value) 14=dn (au L k a)/\g.dep=dK (au L k a)/\0=e9 (au L k a)/\void=fO (au L k a)/\0=fP (au L k a) a/\0=dI L k a)) (abd (g.dep+1)/\(ny (acz L g)/\abd (g.adr.tmod (acz L g)))/\∃g',oa L k a 0 g'/\py g'<py g/\L=L/\k=k/\void=void/\void=void/\void=void/\k=k/\aJ L (ah L g.pos) (g.adr.tdiv (acz L g))=g'.pos/\g.adr.tmod (acz L g)=g'.adr/\bm BinOp.or IntKind.i64 g.rts (ah L g.pos).rights=g'.rts/\aJ L (abE 2 (ah L g.pos) void.value) 14=g'.kpr/\g.dep+1=g'.dep/\(acx L g).value=g'.hi/\false=false))) (j6 (acx L g).value/\(ny (acz L g)/\abd (g.adr.tdiv (acz L g)))/\abb (aba (!decide (g.adr.tdiv (acz L g)<14)) (acy L k a g) (abd (g.dep+1)/\(ny (acz L g)/\abd (g.adr.tmod (acz L g)))/\∃g',oa L k a 0 g'/\py g'<py g/\L=L/\k=k/\void=void/\void=void/\void=void/\k=k/\aJ L (ah L g.pos) (g.adr.tdiv (acz L g))=g'.pos/\g.adr.tmod (acz L g)=g'.adr/\bm BinOp.or IntKind.i64 g.rts (ah L g.pos).rights=g'.rts/\g.kpr=g'.kpr/\g.dep+1=g'.dep/\(acx L g).value=g'.hi/\false=false))))))))))) False)))))))):=by
 delta aba abE acz acy acx acw abd abb
 refine⟨rfl,fun h=>yJ (wE1 h) (by omega),fun h=>⟨fun h2=>?_,fun h2=>⟨fun h3=>?_,fun h3=>⟨rfl,?_,fun g hI=>⟨rfl,?_⟩⟩⟩⟩⟩
 ·rw[AO,Bool.not_eq_true']at h2;exact yJ (by rw[Ud h,h2];rfl) (by omega)
 ·rw[AO,Bool.not_eq_false']at h2;exact yJ (by rw[Ud h,h2,aa4 rfl,aa4 (aa1 h3)]) (by omega)
 ·refine⟨xy k a 0,Y6 (aa0 h3) 0,?_⟩;repeat' apply And.intro
  all_goals rfl
 rw[AO,Bool.not_eq_false']at h2;have hE:dI L k a=0:=by rw[Ud h,h2,aa4 rfl,aa3 (aa0 h3)]
 clear h h2 h3;obtain⟨⟨a1,a2⟩,⟨r1,r2⟩,⟨d1,d2⟩,e1,e2,e3⟩:=id hI;refine⟨fun v=>⟨fun _=>?_,fun h=>absurd h (by decide)⟩,fun v=>⟨fun v3=>⟨rfl,rfl,fun b=>⟨fun _=>?_,fun h=>absurd h (by decide)⟩,fun b=>⟨fun ro=>?_,fun ro=>?_⟩⟩,fun v3=>⟨fun v2=>?_,fun v2=>?_⟩⟩⟩
 ·simp only[Bool.not_eq_true',Bool.or_eq_false_iff,decide_eq_false_iff_not]at v;exact qq hI hE (HV d1 d2 v.1 v.2) (by omega)
 ·have v3:=aa1 v3;exact qq hI hE (NX d1 d2 v3 (by simpa using b)) (by omega)
 ·have v3:=aa1 v3;have hb:g.adr<64:=by simpa using b
  have hp:=jf (qj L g.pos);have hm:fu (ah L g.pos).kind=1:=by rw[v3];rfl
  rw[S5 r1 r2]at ro;have ro:g.rts.tmod 4≠0:=by simpa using ro
  refine Hw hI hE ((yh d1 d2 v3 hb).trans ?_);rw[DA hp.1 (by omega)]
  unfold oY;rw[aa3 ro];rfl
 ·have v3:=aa1 v3;have hb:g.adr<64:=by simpa using b
  rw[S5 r1 r2]at ro;have ro:g.rts.tmod 4=0:=by simpa using ro
  refine Hw hI hE ((yh d1 d2 v3 hb).trans ?_);unfold oY;rw[aa4 ro]
 ·have v3:=aa0 v3;have v2:=aa1 v2;obtain⟨pe,pi⟩:=CD (.inl v2);have pi':aU L (ah L g.pos)=true:=by rw[pe];exact pi
  have hp:=pC (qj L g.pos);have ho:=Yj r1 r2 hp.1 hp.2;rw[Ps (i:=15) pi' v2 (by omega) (by omega),Ps (i:=14) pi' v2 (by omega) (by omega),ho.1,aaG ho.2.1 ho.2.2]
  refine⟨rfl,rfl,fun b=>⟨fun _=>?_,fun h=>absurd h (by decide)⟩,fun b=>⟨rfl,rfl,fun f=>⟨fun _=>?_,fun h=>absurd h (by decide)⟩,fun f=>⟨rfl,?_⟩⟩⟩
  ·exact qq hI hE (Kv d1 d2 v2 (by simpa using b)) (by omega)
  ·have b:g.dep<8:=by simpa using b
   exact qq hI hE (HU d1 d2 v2 b (by unfold qs;rw[Bool.not_eq_true']at f;exact f)) (by omega)
  ·have b:g.dep<8:=by simpa using b
   have f:qs g (dh L (di (ah L g.pos) 0) 15)=true:=by unfold qs;rw[Bool.not_eq_false']at f;exact f
   have hf':=vy.1 f;have he:=sq (show(dh L (di (ah L g.pos) 0) 15).value<=9 by omega)
   have hd:=sd a1 he.1;have q1:j6 (dh L (di (ah L g.pos) 0) 15).value:=⟨by omega,by omega⟩
   have q2:ny (bf (dh L (di (ah L g.pos) 0) 15).value):=by unfold ny;omega
   unfold bY at ha;have q3:aF IntKind.i64 (g.adr.tdiv (bf (dh L (di (ah L g.pos) 0) 15).value)):=by simp only[aF,bY];omega
   have q4:aF IntKind.i64 (g.adr.tmod (bf (dh L (di (ah L g.pos) 0) 15).value)):=by simp only[aF,bY];omega
   have q5:aF IntKind.i64 (g.dep+1):=by simp only[aF,bY];omega
   have kp:∀b,(decide ((dh L (di (ah L g.pos) 0) 14).kind=6)&&decide (nW g.rts (ah L g.pos).rights<4))=b->wE (nW g.rts (ah L g.pos).rights) (dh L (di (ah L g.pos) 0) 14) g.kpr=if b then dh L (di (ah L g.pos) 0) 14 else g.kpr:=by
    intro b hb;unfold wE;cases b
    ·simp only[Bool.and_eq_false_iff,decide_eq_false_iff_not]at hb;rw[aa3 (by omega)];rfl
    ·simp only[aaX,aaY]at hb;rw[aa4 hb];rfl
   refine⟨fun c=>⟨q1,⟨q2,q3⟩,rfl,fun s=>⟨fun _=>?_,fun h=>absurd h (by decide)⟩,fun s=>⟨q5,⟨q2,q4⟩,Lv L g,?_⟩⟩,fun c=>⟨q1,⟨q2,q3⟩,rfl,fun s=>⟨fun _=>?_,fun h=>absurd h (by decide)⟩,fun s=>⟨q5,⟨q2,q4⟩,Lv L g,?_⟩⟩⟩
   ·exact qq hI hE ((CP d1 d2 v2 b f (by simpa using s)).trans (by rw[kp _ c];rfl)) (by omega)
   ·have s:g.adr.tdiv (bf (dh L (di (ah L g.pos) 0) 15).value)<14:=by simpa using s
    obtain⟨n1,n2⟩:=Le hI v2 b f s;rw[Gj pi' v2 hd.1 (by omega)]
    refine⟨n1,n2,rfl,rfl,rfl,rfl,rfl,rfl,rfl,rfl,rfl,?_,rfl,rfl,rfl⟩;show _=wE _ _ _
    rw[kp _ c];rfl
   ·exact qq hI hE ((CP d1 d2 v2 b f (by simpa using s)).trans (by rw[kp _ c];rfl)) (by omega)
   ·have s:g.adr.tdiv (bf (dh L (di (ah L g.pos) 0) 15).value)<14:=by simpa using s
    obtain⟨n1,n2⟩:=Le hI v2 b f s;rw[Gj pi' v2 hd.1 (by omega)]
    refine⟨n1,n2,rfl,rfl,rfl,rfl,rfl,rfl,rfl,rfl,rfl,?_,rfl,rfl,rfl⟩;show _=wE _ _ _
    rw[kp _ c];rfl
 ·simp only[Bool.not_eq_false',Bool.or_eq_true,aaY]at v;have v3:=aa0 v3;have v2:=aa0 v2;omega
theorem Tg (L:List Sx.Obj) (k:Key) (a:Int) (ha:bY .i64 a):an Tryz.prog 236 [.lp 0 0,.key k,.it .i64 a] [.ro (.store tS eS L)] (oD (Ft L k a)) (fun _ _=>False):=
 aY (inl:=(fun f=>f==235||f==241||f==244||f==245||f==246||f==247)) (ann:=(iu [(241,2,YB [0,2] (fun _=> []) 0 (fun g=> .blk tW (wkV (.lp 0 0) g)) (oa L k a 0) py)])) (ae EL (ae bC (ae gx (ae dH (ae ia (ae Ia (ae sw aq))))))) aD (eh HT) (Ty L k a ha) (by kernel_rfl)
theorem Hn:cq Tryz.prog 236 XT:=
 eW (aA tc (aA iF (aA dO bW))) (fun _=>rfl) fun a hq hok=>by
  obtain⟨S,k,i,_⟩:=a;cases S with
  |none=>exact Nv k i hok.2.2.1
  |some L=>exact Tg L k i hok.2.2.1
abbrev acA(L:List Sx.Obj)(g:Wk):=(aj L g.pos.oid.toNat free).slots.at 15
abbrev acB(L:List Sx.Obj)(g:Wk):=bf (acA L g).value
abbrev acC(L:List Sx.Obj)(k:Key)(a:Int):=void=cm (au L k a)/\0=ck (au L k a)/\void=dn (au L k a)/\0=dK (au L k a)/\0=e9 (au L k a)/\void=fO (au L k a)/\0=fP (au L k a) a/\2=dI L k a
abbrev acD(L:List Sx.Obj)(k:Key)(a:Int)(g:Wk):=void=cm (au L k a)/\0=ck (au L k a)/\void=dn (au L k a)/\0=dK (au L k a)/\2=e9 (au L k a)/\g.kpr=fO (au L k a)/\a=fP (au L k a) a/\0=dI L k a
theorem L9 (L:List Sx.Obj) (k:Key) (a:Int) (ha:bY .i64 a) (hL:ar L):
 aba (decide (bD (ai L)=0)) (void=cm (au L k a)/\0=ck (au L k a)/\void=dn (au L k a)/\0=dK (au L k a)/\0=e9 (au L k a)/\void=fO (au L k a)/\0=fP (au L k a) a/\1=dI L k a) (aba (!bK L k) (acC L k a) (aba (decide (a<0)) (void=cm (au L k a)/\0=ck (au L k a)/\void=dn (au L k a)/\0=dK (au L k a)/\0=e9 (au L k a)/\void=fO (au L k a)/\0=fP (au L k a) a/\4=dI L k a) ((∃g,oa L k a 99 g/\a=a/\a=g.adr/\0=g.rts/\99=g.hi/\0=g.dep/\L=L/\k=k/\void=void/\void=void/\void=void/\k=g.pos/\void=g.kpr)/\∀(g:Wk),oa L k a 99 g->aba (decide (g.dep<20)) (aba (!aU L g.pos|| !decide (g.pos.kind=2)&& !decide (g.pos.kind=3)) (void=cm (au L k a)/\0=ck (au L k a)/\void=dn (au L k a)/\0=dK (au L k a)/\1=e9 (au L k a)/\g.kpr=fO (au L k a)/\a=fP (au L k a) a/\0=dI L k a) (aba (decide (g.pos.kind=3)) (aba (decide (63<g.adr)) (acD L k a g) ((ny 4/\abd (g.rts.tmod 4))/\aba (!decide (g.rts.tmod 4=0)) (Key.mk g.pos.kind g.pos.oid g.pos.count g.pos.call 1 g.pos.value=cm (au L k a)/\g.adr=ck (au L k a)/\g.kpr=dn (au L k a)/\g.dep=dK (au L k a)/\0=e9 (au L k a)/\void=fO (au L k a)/\0=fP (au L k a) a/\0=dI L k a) (g.pos=cm (au L k a)/\g.adr=ck (au L k a)/\g.kpr=dn (au L k a)/\g.dep=dK (au L k a)/\0=e9 (au L k a)/\void=fO (au L k a)/\0=fP (au L k a) a/\0=dI L k a))) (aba (decide (8<=g.dep)) (void=cm (au L k a)/\0=ck (au L k a)/\void=dn (au L k a)/\0=dK (au L k a)/\3=e9 (au L k a)/\g.kpr=fO (au L k a)/\a=fP (au L k a) a/\0=dI L k a) ((∃g_1,kP g_1/\a=a/\g.adr=g.adr/\g.rts=fW g.rts g.pos.rights g_1/\g.hi=g.hi/\g.dep=g.dep/\1=g_1/\L=L/\k=k/\void=void/\void=void/\void=void/\g.pos=g.pos/\g.kpr=g.kpr/\g.kpr=g.kpr/\a=a)/\∀(g_1:Int),kP g_1->aba (decide (g_1<=4)) ((ny g_1/\abd (g.pos.rights.tdiv g_1))/\(ny 2/\abd ((g.pos.rights.tdiv g_1).tmod 2))/\(decide ((g.pos.rights.tdiv g_1).tmod 2=1)=true->ny g_1/\abd ((fW g.rts g.pos.rights g_1).tdiv g_1))/\(decide ((g.pos.rights.tdiv g_1).tmod 2=1)=true->ny 2/\abd (((fW g.rts g.pos.rights g_1).tdiv g_1).tmod 2))/\aba (decide ((g.pos.rights.tdiv g_1).tmod 2=1)&&decide (((fW g.rts g.pos.rights g_1).tdiv g_1).tmod 2=0)) (abd (fW g.rts g.pos.rights g_1+g_1)/\abd (g_1*2)/\∃g',kP g'/\(8-g').toNat<(8-g_1).toNat/\a=a/\g.adr=g.adr/\fW g.rts g.pos.rights g_1+g_1=fW g.rts g.pos.rights g'/\g.hi=g.hi/\g.dep=g.dep/\g_1*2=g'/\L=L/\k=k/\void=void/\void=void/\void=void/\g.pos=g.pos/\g.kpr=g.kpr/\g.kpr=g.kpr/\a=a) (abd (g_1*2)/\∃g',kP g'/\(8-g').toNat<(8-g_1).toNat/\a=a/\g.adr=g.adr/\fW g.rts g.pos.rights g_1=fW g.rts g.pos.rights g'/\g.hi=g.hi/\g.dep=g.dep/\g_1*2=g'/\L=L/\k=k/\void=void/\void=void/\void=void/\g.pos=g.pos/\g.kpr=g.kpr/\g.kpr=g.kpr/\a=a)) ((0<=g.pos.oid/\g.pos.oid< ↑(ai L))/\g.pos.oid.toNat<ai L/\aba (!decide ((acA L g).kind=1)||decide ((acA L g).value<1)||decide (8<(acA L g).value)||decide (g.hi<=(acA L g).value)) (void=cm (au L k a)/\0=ck (au L k a)/\void=dn (au L k a)/\0=dK (au L k a)/\4=e9 (au L k a)/\g.kpr=fO (au L k a)/\a=fP (au L k a) a/\0=dI L k a) (aba (decide ((ah L ((aj L g.pos.oid.toNat free).slots.at 14)).kind=6)&&decide (fW g.rts g.pos.rights g_1<4)) (j6 (acA L g).value/\(ny (acB L g)/\abd (g.adr.tdiv (acB L g)))/\aba (decide (13<g.adr.tdiv (acB L g))) (void=cm (au L k a)/\0=ck (au L k a)/\void=dn (au L k a)/\0=dK (au L k a)/\2=e9 (au L k a)/\ah L ((aj L g.pos.oid.toNat free).slots.at 14)=fO (au L k a)/\a=fP (au L k a) a/\0=dI L k a) (j6 (acA L g).value/\(ny (acB L g)/\abd (g.adr.tmod (acB L g)))/\om L g.pos (g.adr.tdiv (acB L g))/\abd (g.dep+1)/\∃g',oa L k a 99 g'/\py g'<py g/\a=a/\g.adr.tmod (acB L g)=g'.adr/\fW g.rts g.pos.rights g_1=g'.rts/\(acA L g).value=g'.hi/\g.dep+1=g'.dep/\L=L/\k=k/\void=void/\void=void/\void=void/\dh L g.pos (g.adr.tdiv (acB L g))=g'.pos/\ah L ((aj L g.pos.oid.toNat free).slots.at 14)=g'.kpr)) (j6 (acA L g).value/\(ny (acB L g)/\abd (g.adr.tdiv (acB L g)))/\aba (decide (13<g.adr.tdiv (acB L g))) (acD L k a g) (j6 (acA L g).value/\(ny (acB L g)/\abd (g.adr.tmod (acB L g)))/\om L g.pos (g.adr.tdiv (acB L g))/\abd (g.dep+1)/\∃g',oa L k a 99 g'/\py g'<py g/\a=a/\g.adr.tmod (acB L g)=g'.adr/\fW g.rts g.pos.rights g_1=g'.rts/\(acA L g).value=g'.hi/\g.dep+1=g'.dep/\L=L/\k=k/\void=void/\void=void/\void=void/\dh L g.pos (g.adr.tdiv (acB L g))=g'.pos/\g.kpr=g'.kpr)))))))) (acC L k a)))):=by
 delta aba acD acC acB acA abd
 refine⟨fun h=>yJ (wE1 h) (by omega),fun h=>⟨fun h2=>?_,fun h2=>⟨fun h3=>?_,fun h3=>⟨?_,fun g hI=>⟨fun _=>?_,fun hd=>?_⟩⟩⟩⟩⟩
 ·rw[Bool.not_eq_true']at h2;exact yJ (by rw[Ud h,h2];rfl) (by omega)
 ·rw[Bool.not_eq_false']at h2;exact yJ (by rw[Ud h,h2,aa4 rfl,aa4 (aa1 h3)]) (by omega)
 ·refine⟨xy k a 99,Y6 (aa0 h3) 99,?_⟩;repeat' apply And.intro
  all_goals rfl
 rotate_left
 ·have:=hI.2.2.1.2;have:=aa0 hd;omega
 rw[Bool.not_eq_false']at h2;have hE:dI L k a=0:=by rw[Ud h,h2,aa4 rfl,aa3 (aa0 h3)]
 clear h h2 h3;obtain⟨⟨a1,a2⟩,⟨r1,r2⟩,⟨d1,d2⟩,e1,e2,e3⟩:=id hI;refine⟨fun v=>?_,fun v=>?_⟩
 ·have hv:∀d:Int,d=2\/d=3->(ah L g.pos).kind≠d:=fun d hd hk=>by
   obtain⟨p1,p2⟩:=CD (L:=L) (k:=g.pos) (by rw[hk];exact hd)
   rw[p1]at hk;rw[p2,hk]at v;rcases hd with rfl|rfl<;>simp at v
  exact qq hI hE (HV d1 d2 (hv 3 (.inr rfl)) (hv 2 (.inl rfl))) (by omega)
 simp only[Bool.or_eq_false_iff,Bool.not_eq_false',Bool.and_eq_false_iff,aaY]at v;obtain⟨vi,vk⟩:=v;have pe:ah L g.pos=g.pos:=TW vi;have hall:=ef vi;have hp:=pC hall.1;refine⟨fun v3=>⟨fun b=>?_,fun b=>⟨⟨by unfold ny;omega,?_⟩,fun ro=>?_,fun ro=>?_⟩⟩,fun v3=>⟨fun b=>?_,fun b=>⟨?_,fun i hi=>⟨fun hlt=>?_,fun hge=>?_⟩⟩⟩⟩
 ·have v3:=aa1 v3;have b:=aa1 b;exact qq hI hE (NX d1 d2 (by rw[pe];exact v3) (by omega)) (by omega)
 ·have h1:=Int.tmod_lt_of_pos g.rts (show(0:Int)<4 by omega)
  have h2:=Int.lt_tmod_of_pos g.rts (show(0:Int)<4 by omega)
  simp only[aF,bY];omega
 ·have v3:=aa1 v3;have b:=aa0 b;have ro:g.rts.tmod 4≠0:=by simpa using ro
  have:=yh d1 d2 (by rw[pe];exact v3) (by omega)
  rw[pe]at this;unfold oY at this;rw[aa3 ro]at this;exact Hw hI hE this
 ·have v3:=aa1 v3;have b:=aa0 b;have ro:g.rts.tmod 4=0:=by simpa using ro
  have:=yh d1 d2 (by rw[pe];exact v3) (by omega)
  rw[pe]at this;unfold oY at this;rw[aa4 ro]at this;exact Hw hI hE this
 ·have v3:=aa0 v3;have b:=aa1 b;exact qq hI hE (Kv d1 d2 (by rw[pe];omega) (by omega)) (by omega)
 ·refine⟨1,.inl rfl,?_⟩;have:=(Z7 (r:=g.rts) (m:=g.pos.rights)).symm;repeat' apply And.intro
  all_goals first|rfl|exact this
 ·have hlt:=aa1 hlt;have hi3:i=1\/i=2\/i=4:=by unfold kP at hi;omega
  obtain⟨⟨o1,o2⟩,o3,o4⟩:=YS r1 r2 hp.1 hp.2 hi3;have hne:ny i:=by unfold ny;omega
  have h2:ny 2:=by unfold ny;omega
  have hi4:i=1\/i=2\/i=4\/i=8:=hi;have hn:kP (i*2)/\(8-i*2).toNat<(8-i).toNat:=by unfold kP;omega
  have t1:aF IntKind.i64 (g.pos.rights.tdiv i):=vJ (by simp only[bY];omega) hi4
  have t2:aF IntKind.i64 ((fW g.rts g.pos.rights i).tdiv i):=vJ (by simp only[bY];omega) hi4
  refine⟨⟨hne,t1⟩,⟨h2,pF _⟩,fun _=>⟨hne,t2⟩,fun _=>⟨h2,pF _⟩,fun c=>⟨by simp only[aF,bY];omega,by simp only[aF,bY];omega,i*2,hn.1,hn.2,?_⟩,fun c=>⟨by simp only[aF,bY];omega,i*2,hn.1,hn.2,?_⟩⟩
  ·have:=o3 c;repeat' apply And.intro
   all_goals first|rfl|exact this
  ·have:=o4 c;repeat' apply And.intro
   all_goals first|rfl|exact this
 ·have hge:=aa0 hge;have hi8:i=8:=by unfold kP at hi;omega
  subst hi8;have v3:=aa0 v3;have b:=aa0 b;have v2:g.pos.kind=2:=by omega
  have v2':(ah L g.pos).kind=2:=by rw[pe];exact v2
  have hsl:=(ua hL vi v2 15 (by omega)).1
  have hO:0<=nW g.rts g.pos.rights/\nW g.rts g.pos.rights<=7:=(Yj r1 r2 hp.1 hp.2).2;have hraw:=Rf (L:=L) hsl (by have:=hall.2.1;have:=hall.2.2.1;omega)
  have eG:∀j,dh L (di (ah L g.pos) 0) j=ah L ((aj L g.pos.oid.toNat free).slots.at j.toNat):=fun j=>by rw[pe];rfl
  have e15:dh L (di (ah L g.pos) 0) 15=ah L ((aj L g.pos.oid.toNat free).slots.at 15):=eG 15;have e14:dh L (di (ah L g.pos) 0) 14=ah L ((aj L g.pos.oid.toNat free).slots.at 14):=eG 14;generalize hS:(aj L g.pos.oid.toNat free).slots.at 15=S at *
  refine⟨⟨hall.2.1,hall.2.2.1⟩,by have:=hall.2.1;have:=hall.2.2.1;unfold ai;omega,fun f=>?_,fun f=>?_⟩
  ·refine qq hI hE (HU d1 d2 v2' (by omega) ?_) (by omega)
   rw[e15];rw[Bool.eq_false_iff,ne_eq,vy];rintro⟨f1,f2,f3,f4⟩
   have:ah L S=S:=hraw.1 (by by_cases hk:S.kind=1;exact hk;exact absurd f1 (hraw.2 hk))
   rw[this]at f1 f2 f3 f4;simp only[Bool.or_eq_true,Bool.not_eq_true',aaY,decide_eq_false_iff_not]at f;rcases f4 with f4|f4
   ·have:=e1 f4;omega
   ·omega
  ·simp only[Bool.or_eq_false_iff,Bool.not_eq_false',aaY,decide_eq_false_iff_not]at f;obtain⟨⟨⟨f1,f2⟩,f3⟩,f4⟩:=f;have eS:ah L S=S:=hraw.1 f1;rw[eS]at e15;have fh:qs g (dh L (di (ah L g.pos) 0) 15)=true:=by rw[e15,vy];exact⟨f1,by omega,by omega,.inr (by omega)⟩
   have he:=sq (show S.value<=9 by omega)
   have hd:=sd a1 he.1;have q1:j6 S.value:=⟨by omega,by omega⟩
   have q2:ny (bf S.value):=by unfold ny;omega
   unfold bY at ha;have q3:aF IntKind.i64 (g.adr.tdiv (bf S.value)):=by simp only[aF,bY];omega
   have q4:aF IntKind.i64 (g.adr.tmod (bf S.value)):=by simp only[aF,bY];omega
   have q5:aF IntKind.i64 (g.dep+1):=by simp only[aF,bY];omega
   have kp:∀b,(decide ((ah L ((aj L g.pos.oid.toNat free).slots.at 14)).kind=6)&&decide (fW g.rts g.pos.rights 8<4))=b->wE (nW g.rts g.pos.rights) (ah L ((aj L g.pos.oid.toNat free).slots.at 14)) g.kpr=if b then ah L ((aj L g.pos.oid.toNat free).slots.at 14)else g.kpr:=by
    intro b hb;unfold wE nW;cases b
    ·simp only[Bool.and_eq_false_iff,decide_eq_false_iff_not]at hb;rw[aa3 (by omega)];rfl
    ·simp only[aaX,aaY]at hb;rw[aa4 hb];rfl
   have gs:∀s:¬g.adr.tdiv (bf S.value)<14,jk L (9-g.dep).toNat g=⟨2,void,0,wE (nW g.rts g.pos.rights) (ah L ((aj L g.pos.oid.toNat free).slots.at 14)) g.kpr,0⟩:=fun s=>by
    have:=CP d1 d2 v2' (by omega) fh (by rw[e15];exact s)
    rw[e14,pe]at this;exact this
   have gn:∀s:g.adr.tdiv (bf S.value)<14,oa L k a 99 ⟨dh L g.pos (g.adr.tdiv (bf S.value)),g.adr.tmod (bf S.value),nW g.rts g.pos.rights,wE (nW g.rts g.pos.rights) (ah L ((aj L g.pos.oid.toNat free).slots.at 14)) g.kpr,g.dep+1,S.value⟩/\
     py ⟨dh L g.pos (g.adr.tdiv (bf S.value)),g.adr.tmod (bf S.value),nW g.rts g.pos.rights,wE (nW g.rts g.pos.rights) (ah L ((aj L g.pos.oid.toNat free).slots.at 14)) g.kpr,g.dep+1,S.value⟩<py g:=fun s=>by
    have:=Le hI v2' (by omega) fh (by rw[e15];exact s)
    unfold Lv at this;rw[e15,e14,pe]at this;exact this
   refine⟨fun c=>⟨q1,⟨q2,q3⟩,fun s=>?_,fun s=>⟨q1,⟨q2,q4⟩,?_,q5,_,(gn ?_).1,(gn ?_).2,?_⟩⟩,fun c=>⟨q1,⟨q2,q3⟩,fun s=>?_,fun s=>⟨q1,⟨q2,q4⟩,?_,q5,_,(gn ?_).1,(gn ?_).2,?_⟩⟩⟩
   ·have s:=aa1 s;exact qq hI hE ((gs (by omega)).trans (by rw[kp _ c];rfl)) (by omega)
   ·have s:=aa0 s;exact⟨hd.1,by omega,hall.2.1,hall.2.2.1⟩
   ·have s:=aa0 s;omega
   ·have s:=aa0 s;omega
   ·have:=kp _ c;repeat' apply And.intro
    all_goals first|with_reducible rfl|exact this.symm|rfl
   ·have s:=aa1 s;exact qq hI hE ((gs (by omega)).trans (by rw[kp _ c];rfl)) (by omega)
   ·have s:=aa0 s;exact⟨hd.1,by omega,hall.2.1,hall.2.2.1⟩
   ·have s:=aa0 s;omega
   ·have s:=aa0 s;omega
   ·have:=kp _ c;repeat' apply And.intro
    all_goals first|with_reducible rfl|exact this.symm|rfl
theorem Kx (L:List Sx.Obj) (k:Key) (a:Int) (ha:bY .i64 a) (hL:ar L):an Tryz.prog 192 [.sa 0,.key k,.it .i64 a] [.ro (.arr none 163 (.ob L))] (oD (Ft L k a)) (fun _ _=>False):=
 aZ (inl:=bx) (ann:=(iu [(192,10,lpT [0,2,4,6,7,8,9,13] (fun g=> [(10,.it .i64 g.adr),(11,.it .i64 g.rts),(12,.it .i64 g.hi),(14,.it .i64 g.dep)]) (fun g=> [(4,.blk tK (.key g.pos)),(5,.blk tK (.key g.kpr))]) (oa L k a 99) py),(192,27,aaH [0,2,4,6,7,8,9,10,12,13,14,15] kP 8)])) (ae yW (ae mf (ae pd (ae KG (ae yr aq))))) (L9 L k a ha hL) (by kernel_rfl)
theorem Nk:cq Tryz.prog 192 Q8:=
 eW (aA jc (aA iF (aA dO bW))) (fun _=>rfl) fun a hq hok=>by
  obtain⟨L,k,i,_⟩:=a;exact Kx L k i hok.2.2.1 hq
abbrev acE(k:Key)(a:Int)(n:Int)(w:Bool):=void=cm (bI [] k a n w)/\0=ck (bI [] k a n w)/\void=dn (bI [] k a n w)/\0=dK (bI [] k a n w)/\0=bU [] k a n w/\void=fC [] k a n w/\0=fJ [] k a n w/\4=cg [] k a n
theorem Te (k:Key) (a:Int) (n:Int) (w:Bool):
 abb (aba (decide (ak []=0)) (void=cm (bI [] k a n w)/\0=ck (bI [] k a n w)/\void=dn (bI [] k a n w)/\0=dK (bI [] k a n w)/\0=bU [] k a n w/\void=fC [] k a n w/\0=fJ [] k a n w/\1=cg [] k a n) (aba (!decide (bw k=0)||ba k&&decide (ak []<=cw k)) (void=cm (bI [] k a n w)/\0=ck (bI [] k a n w)/\void=dn (bI [] k a n w)/\0=dK (bI [] k a n w)/\0=bU [] k a n w/\void=fC [] k a n w/\0=fJ [] k a n w/\2=cg [] k a n) (aba (decide (a<0)) (acE k a n w) (aba (decide (n<0)||decide (64<n)) (acE k a n w) (aba (!decide (e9 (au [] k a)=0)) (void=cm (bI [] k a n w)/\0=ck (bI [] k a n w)/\void=dn (bI [] k a n w)/\0=dK (bI [] k a n w)/\e9 (au [] k a)=bU [] k a n w/\fO (au [] k a)=fC [] k a n w/\fP (au [] k a) a=fJ [] k a n w/\0=cg [] k a n) (aF IntKind.i64 (ck (au [] k a)+n)/\aba (decide (64<ck (au [] k a)+n)) (abb (void=cm (bI [] k a n w)/\0=ck (bI [] k a n w)/\void=dn (bI [] k a n w)/\0=dK (bI [] k a n w)/\5=bU [] k a n w/\dn (au [] k a)=fC [] k a n w/\a=fJ [] k a n w/\0=cg [] k a n)) (aba (w&& !decide (bm BinOp.and IntKind.i64 (cm (au [] k a)).rights 1=0)) (abb (void=cm (bI [] k a n w)/\0=ck (bI [] k a n w)/\void=dn (bI [] k a n w)/\0=dK (bI [] k a n w)/\6=bU [] k a n w/\dn (au [] k a)=fC [] k a n w/\a=fJ [] k a n w/\0=cg [] k a n)) (cm (au [] k a)=cm (bI [] k a n w)/\ck (au [] k a)=ck (bI [] k a n w)/\dn (au [] k a)=dn (bI [] k a n w)/\dK (au [] k a)=dK (bI [] k a n w)/\0=bU [] k a n w/\void=fC [] k a n w/\0=fJ [] k a n w/\0=cg [] k a n)))))))):=by
 delta aba acE abb
 exact⟨rfl,fun h=>pW (Qy (wE1 h) (by omega)) (by omega),fun h=>absurd h (by decide)⟩
abbrev acF(L:List Sx.Obj)(k:Key)(a:Int)(n:Int)(w:Bool):=void=cm (bI L k a n w)/\0=ck (bI L k a n w)/\void=dn (bI L k a n w)/\0=dK (bI L k a n w)/\0=bU L k a n w/\void=fC L k a n w/\0=fJ L k a n w/\4=cg L k a n
theorem VE (L:List Sx.Obj) (k:Key) (a:Int) (n:Int) (w:Bool):
 abb (aba (decide (ak L=0)) (void=cm (bI L k a n w)/\0=ck (bI L k a n w)/\void=dn (bI L k a n w)/\0=dK (bI L k a n w)/\0=bU L k a n w/\void=fC L k a n w/\0=fJ L k a n w/\1=cg L k a n) (aba (!decide (bw k=0)||ba k&&decide (ak L<=cw k)) (void=cm (bI L k a n w)/\0=ck (bI L k a n w)/\void=dn (bI L k a n w)/\0=dK (bI L k a n w)/\0=bU L k a n w/\void=fC L k a n w/\0=fJ L k a n w/\2=cg L k a n) (aba (decide (a<0)) (acF L k a n w) (aba (decide (n<0)||decide (64<n)) (acF L k a n w) (aba (!decide (e9 (au L k a)=0)) (void=cm (bI L k a n w)/\0=ck (bI L k a n w)/\void=dn (bI L k a n w)/\0=dK (bI L k a n w)/\e9 (au L k a)=bU L k a n w/\fO (au L k a)=fC L k a n w/\fP (au L k a) a=fJ L k a n w/\0=cg L k a n) (aF IntKind.i64 (ck (au L k a)+n)/\aba (decide (64<ck (au L k a)+n)) (abb (void=cm (bI L k a n w)/\0=ck (bI L k a n w)/\void=dn (bI L k a n w)/\0=dK (bI L k a n w)/\5=bU L k a n w/\dn (au L k a)=fC L k a n w/\a=fJ L k a n w/\0=cg L k a n)) (aba (w&& !decide (bm BinOp.and IntKind.i64 (cm (au L k a)).rights 1=0)) (abb (void=cm (bI L k a n w)/\0=ck (bI L k a n w)/\void=dn (bI L k a n w)/\0=dK (bI L k a n w)/\6=bU L k a n w/\dn (au L k a)=fC L k a n w/\a=fJ L k a n w/\0=cg L k a n)) (cm (au L k a)=cm (bI L k a n w)/\ck (au L k a)=ck (bI L k a n w)/\dn (au L k a)=dn (bI L k a n w)/\dK (au L k a)=dK (bI L k a n w)/\0=bU L k a n w/\void=fC L k a n w/\0=fJ L k a n w/\0=cg L k a n)))))))):=by
 delta aba acF abb
 refine⟨rfl,fun h=>pW (Qy (wE1 h) (by omega)) (by omega),fun h=>⟨fun h2=>?_,fun h2=>⟨fun h3=>?_,fun h3=>?_⟩⟩⟩
 ·rw[AO,Bool.not_eq_true']at h2;exact pW (Qy (by rw[Ud h,h2];rfl) (by omega)) (by omega)
 ·rw[AO,Bool.not_eq_false']at h2;exact pW (Qy (by rw[Ud h,h2,aa4 rfl,aa4 (aa1 h3)]) (by omega)) (by omega)
 rw[AO,Bool.not_eq_false']at h2;have hW:dI L k a=0:=by rw[Ud h,h2,aa4 rfl,aa3 (aa0 h3)]
 clear h h2 h3;refine⟨fun h=>pW (Zj hW h) (by omega),fun h=>?_⟩
 have hE:=Xt hW h;refine⟨fun hk=>?_,fun hk=>?_⟩
 ·have hk:e9 (au L k a)≠0:=by simpa using hk
  have hk:(au L k a).kd≠0:=hk;obtain⟨u1,u2,u3⟩:=ZX (a:=a) hk;rw[u1,u2,u3];exact sm hE (ZJ hE hk) hk
 have hk:e9 (au L k a)=0:=by simpa using hk
 have hk:(au L k a).kd=0:=hk;obtain⟨⟨e1,e2⟩,e3,e4⟩:=Gt hW hk;obtain⟨f1,f2,f3⟩:=P5 hk;have hr:=CF e1 e2;obtain⟨_,n0,n1⟩:=zm hE;rw[f1,f2,f3];rw[Yq hr.1 hr.2];refine⟨by simp only[aF,bY];omega,fun h5=>?_,fun h5=>⟨fun h6=>?_,fun h6=>?_⟩⟩
 ·exact⟨rfl,sm hE (aap hE hk (aa1 h5)) (by omega)⟩
 ·exact⟨rfl,sm hE (aas hE hk (aa0 h5) h6) (by omega)⟩
 ·have:=It hE (Zm hE hk (aa0 h5) h6);rw[f1,f2,f3]at this;exact this
theorem zn:cq Tryz.prog 233 ZH:=
 eW (aA tc (aA iF (aA dO (aA dO (aA DI bW))))) (fun _=>rfl) fun a hq hok=>by
  obtain⟨S,k,i,n,w,_⟩:=a;cases S with
  |none=>exact aZ (inl:=(fun f=>f==235||f==237)) (ann:=aQ) (ae bC (ae gx (ae dH (ae Hn aq)))) (Te k i n w) (by kernel_rfl)
  |some L=>exact aZ (inl:=(fun f=>f==235||f==237)) (ann:=aQ) (ae bC (ae gx (ae dH (ae Hn aq)))) (VE L k i n w) (by kernel_rfl)
theorem Tx (L:List Sx.Obj) (k:Key) (a:Int) (n:Int) (w:Bool) (hL:ar L):
 ar L/\aba (decide (dI L k a=0)&&(decide (n<0)||decide (64<n))) (void=cm (bI L k a n w)/\0=ck (bI L k a n w)/\void=dn (bI L k a n w)/\0=dK (bI L k a n w)/\0=bU L k a n w/\void=fC L k a n w/\0=fJ L k a n w/\4=cg L k a n) (aba (!decide (dI L k a=0)|| !decide (e9 (au L k a)=0)) (void=cm (bI L k a n w)/\0=ck (bI L k a n w)/\void=dn (bI L k a n w)/\0=dK (bI L k a n w)/\e9 (au L k a)=bU L k a n w/\fO (au L k a)=fC L k a n w/\fP (au L k a) a=fJ L k a n w/\dI L k a=cg L k a n) (aF IntKind.i64 (ck (au L k a)+n)/\aba (decide (64<ck (au L k a)+n)) (void=cm (bI L k a n w)/\0=ck (bI L k a n w)/\void=dn (bI L k a n w)/\0=dK (bI L k a n w)/\5=bU L k a n w/\dn (au L k a)=fC L k a n w/\a=fJ L k a n w/\0=cg L k a n) (aba (w&& !decide ((cm (au L k a)).rights=0)) (void=cm (bI L k a n w)/\0=ck (bI L k a n w)/\void=dn (bI L k a n w)/\0=dK (bI L k a n w)/\6=bU L k a n w/\dn (au L k a)=fC L k a n w/\a=fJ L k a n w/\0=cg L k a n) (cm (au L k a)=cm (bI L k a n w)/\ck (au L k a)=ck (bI L k a n w)/\dn (au L k a)=dn (bI L k a n w)/\dK (au L k a)=dK (bI L k a n w)/\0=bU L k a n w/\void=fC L k a n w/\0=fJ L k a n w/\0=cg L k a n)))):=by
 delta aba
 refine⟨hL,fun h=>?_,fun h=>⟨fun h2=>?_,fun h2=>?_⟩⟩
 ·rw[aaX,aaY]at h;exact pW (Zj h.1 h.2) (by omega)
 ·by_cases hW:dI L k a=0
  ·rw[decide_eq_true hW,Bool.true_and]at h;rw[decide_eq_true hW]at h2;have hE:=Xt hW h;have hk:e9 (au L k a)≠0:=by simpa using h2
   have hk:(au L k a).kd≠0:=hk;obtain⟨u1,u2,u3⟩:=ZX (a:=a) hk;rw[u1,u2,u3,hW];exact sm hE (ZJ hE hk) hk
  ·have hr:au L k a=Yy:=by unfold au;rw[aa3 hW]
   rw[hr];exact pW (Qy rfl hW) hW
 simp only[Bool.or_eq_false_iff,Bool.not_eq_false',aaY]at h2;obtain⟨hW,hk⟩:=h2;rw[decide_eq_true hW,Bool.true_and]at h;have hE:=Xt hW h;have hk:(au L k a).kd=0:=hk;obtain⟨⟨e1,e2⟩,e3,e4⟩:=Gt hW hk;obtain⟨f1,f2,f3⟩:=P5 hk;obtain⟨_,n0,n1⟩:=zm hE;rw[f1,f2,f3];refine⟨by simp only[aF,bY];omega,fun h5=>?_,fun h5=>⟨fun h6=>?_,fun h6=>?_⟩⟩
 ·exact sm hE (aap hE hk (aa1 h5)) (by omega)
 ·exact sm hE (aas hE hk (aa0 h5) h6) (by omega)
 ·have:=It hE (Zm hE hk (aa0 h5) h6);rw[f1,f2,f3]at this;exact this
theorem H9:cq Tryz.prog 141 Ys:=
 eW (aA jc (aA iF (aA dO (aA dO (aA DI bW))))) (fun _=>rfl) fun a hq hok=>by
  obtain⟨L,k,i,n,w,_⟩:=a;exact aZ (inl:=bx) (ann:=aQ) (ae Nk aq) (Tx L k i n w hq) (by kernel_rfl)
theorem V5 (L:List Sx.Obj) (k:Key) (i:Int) (s:ByteArray) (hL:ar L) (hs:aw s):
 (decide (aW L k true=0)=true->abd (bN s))/\aba (decide (aW L k true=0)&& !cB i (bN s)) (ki L k i s=false/\4=cN L k i s) (aba (!decide (aW L k true=0)) (ki L k i s=false/\aW L k true=cN L k i s) ((0<=k.oid/\k.oid< ↑(ai L))/\k.oid.toNat<ai L/\(∃g,qC s g/\k=k/\i=i/\s=s/\Value.slice none 0 0=Value.slice none 0 0/\aW L k true=aW L k true/\0=g/\L=L/\k=k/\aj L k.oid.toNat free=ue L k i s g)/\∀(g:Int),qC s g->abd (bN s)/\aba (decide (g<bN s)) (abd (i+g)/\pSz s g/\(0<=i+g/\i+g< ↑64)/\abd (g+1)/\∃g',qC s g'/\w7 s g'<w7 s g/\k=k/\i=i/\s=s/\Value.slice none 0 0=Value.slice none 0 0/\aW L k true=aW L k true/\g+1=g'/\L=L/\k=k/\Obj.mk (ue L k i s g).kind (ue L k i s g).count (ue L k i s g).calls (ue L k i s g).slots ((ue L k i s g).bytes.put (i+g).toNat (sat s g.toNat))=ue L k i s g') (dL L k.oid/\ki L k i s=true/\0=cN L k i s/\cz L k.oid.toNat (ue L k i s g)=eX L k i s))):=by
 delta aba abd
 have hsz:aF IntKind.i64 (bN s):=by unfold aw at hs;simp only[aF,bY,bN];omega
 refine⟨fun _=>hsz,fun h=>?_,fun h=>⟨fun h'=>?_,fun h'=>?_⟩⟩
 ·rw[aaX,aaY]at h;obtain⟨e1,e2⟩:=OL h.1 h.2;exact⟨by unfold ki;rw[<-e1];rfl,e1⟩
 ·have h':aW L k true≠0:=by simpa using h'
  obtain⟨e1,e2⟩:=wq (i:=i) (z:=s) rfl h';exact⟨by unfold ki;rw[<-e1];simpa using h',e1⟩
 ·have h':aW L k true=0:=by simpa using h'
  have hi:(!cB i (bN s))=false:=by rw[h']at h;simpa using h
  have hi':cB i (bN s)=true:=by simpa using hi
  obtain⟨i0,i1,i2,i3⟩:=n7.1 hi';have i3:(s.size:Int)<=64-i:=i3;have hE:cN L k i s=0:=by unfold cN;rw[aa4 h',hi'];rfl
  obtain⟨r1,r2,r3,r4⟩:=pc hL (m5 h').1;refine⟨⟨r2,r3⟩,r4,⟨0,⟨by omega,by omega⟩,?_⟩,fun g hg=>⟨hsz,fun hlt=>?_,fun hge=>?_⟩⟩
  ·have hz:=Ss (L:=L) (k:=k) (i:=i) (s:=s);repeat' apply And.intro
   all_goals first|with_reducible rfl|exact hz
  ·obtain⟨g0,g1⟩:=hg;have hlt:g<(s.size:Int):=aa1 hlt;have hs:=RQ (L:=L) (k:=k) (i:=i) (s:=s) (g:=g) i0 g0 (by omega)
   refine⟨by simp only[aF,bY];omega,⟨g0,hlt⟩,⟨by omega,by omega⟩,by simp only[aF,bY];omega,g+1,⟨by omega,by omega⟩,by unfold w7;omega,?_⟩
   repeat' apply And.intro
   all_goals first|with_reducible rfl|exact hs
  ·obtain⟨g0,g1⟩:=hg;have hge:¬g<(s.size:Int):=aa0 hge;have hg:g=(s.size:Int):=by omega
   subst hg;refine⟨r1,by unfold ki;simpa using hE,hE.symm,?_⟩
   unfold eX;rw[hE,aa4 rfl];rfl
theorem X0 (L:List Sx.Obj) (k:Key) (i:Int) (s:ByteArray) (hL:ar L) (hs:aw s):an Tryz.prog 115 [.sa 0,.key k,.it .i64 i,.st s] [.ro (.arr none 163 (.ob L))] (xY (ki L k i s) (eX L k i s) [.it .i64 (cN L k i s)]) (fun _ _=>False):=
 bj (inl:=bx) (ann:=(iu [(115,8,YB [0,1,2,3,4,5,8,9,10,11] (fun g=> [(12,.it .i64 g)]) 11 (fun g=> .blk tO (.ob (ue L k i s g))) (qC s) (w7 s))])) (ae vH (ae tY (ae jy aq))) aD (V5 L k i s hL hs) (by kernel_rfl)
theorem L7:kJ Tryz.prog 115 aah:=
 iJ (m:=fun x=> [.key x.1,.it .i64 x.2.1,.st x.2.2]) vl (fun _=>rfl) (fun _ _=>rfl) fun L x hq=>X0 L x.1 x.2.1 x.2.2 hq.1 hq.2
theorem XS (k:Key) (a:Int) (n:Int):
 aba (!decide (cg [] k a n=0)|| !decide (bU [] k a n false=0)) (ByteArray.mk (Array.mk [])=jU [] k a n/\bU [] k a n false=bU [] k a n false/\fC [] k a n false=fC [] k a n false/\fJ [] k a n false=fJ [] k a n false/\cg [] k a n=cg [] k a n) (dY [] (cm (bI [] k a n false)) (ck (bI [] k a n false)) n=jU [] k a n/\0=bU [] k a n false/\void=fC [] k a n false/\0=fJ [] k a n false/\0=cg [] k a n):=by
 delta aba
 rw[tL];refine⟨fun h=>⟨?_,rfl,rfl,rfl,rfl⟩,fun h=>?_⟩
 ·rw[Bool.not_eq_true']at h;unfold jU;rw[aa3 (by rw[h];simp)]
 ·rw[Bool.not_eq_false']at h;have h0:=uj h;unfold jU fC fJ;rw[aa4 h,h0.1,h0.2];exact⟨rfl,rfl,rfl,rfl,rfl⟩
theorem Z1 (L:List Sx.Obj) (k:Key) (a:Int) (n:Int):
 aba (!decide (cg L k a n=0)|| !decide (bU L k a n false=0)) (ByteArray.mk (Array.mk [])=jU L k a n/\bU L k a n false=bU L k a n false/\fC L k a n false=fC L k a n false/\fJ L k a n false=fJ L k a n false/\cg L k a n=cg L k a n) (dY L (cm (bI L k a n false)) (ck (bI L k a n false)) n=jU L k a n/\0=bU L k a n false/\void=fC L k a n false/\0=fJ L k a n false/\0=cg L k a n):=by
 delta aba
 rw[tL];refine⟨fun h=>⟨?_,rfl,rfl,rfl,rfl⟩,fun h=>?_⟩
 ·rw[Bool.not_eq_true']at h;unfold jU;rw[aa3 (by rw[h];simp)]
 ·rw[Bool.not_eq_false']at h;have h0:=uj h;unfold jU fC fJ;rw[aa4 h,h0.1,h0.2];exact⟨rfl,rfl,rfl,rfl,rfl⟩
theorem aay:cq Tryz.prog 226 aaN:=
 eW (aA tc (aA iF (aA dO (aA dO bW)))) (fun _=>rfl) fun a hq hok=>by
  obtain⟨S,k,i,n,_⟩:=a;cases S with
  |none=>exact aZ (inl:=bx) (ann:=aQ) (ae zn (ae pD (ae bC aq))) (XS k i n) (by kernel_rfl)
  |some L=>exact aZ (inl:=bx) (ann:=aQ) (ae zn (ae pD (ae bC aq))) (Z1 L k i n) (by kernel_rfl)
abbrev acG(L:List Sx.Obj)(k:Key)(a:Int)(n:Int):=abJ=jU L k a n/\bU L k a n false=bU L k a n false/\fC L k a n false=fC L k a n false/\fJ L k a n false=fJ L k a n false/\0=cg L k a n
theorem Yl (L:List Sx.Obj) (k:Key) (a:Int) (n:Int) (hL:ar L):
 ar L/\aba (!decide (cg L k a n=0)|| !decide (bU L k a n false=0)) (abJ=jU L k a n/\bU L k a n false=bU L k a n false/\fC L k a n false=fC L k a n false/\fJ L k a n false=fJ L k a n false/\cg L k a n=cg L k a n) (true=true/\aba (decide (aW L (cm (bI L k a n false)) false=0)&& !cB (ck (bI L k a n false)) n) (acG L k a n) (aba (!decide (aW L (cm (bI L k a n false)) false=0)) (acG L k a n) ((0<=(cm (bI L k a n false)).oid/\(cm (bI L k a n false)).oid< ↑(ai L))/\aF IntKind.i64 (ck (bI L k a n false)+n)/\B8 (ck (bI L k a n false)) (ck (bI L k a n false)+n) 64/\(cm (bI L k a n false)).oid.toNat<ai L/\xC (aj L (cm (bI L k a n false)).oid.toNat free).bytes (ck (bI L k a n false)).toNat (ck (bI L k a n false)+n).toNat=jU L k a n/\bU L k a n false=bU L k a n false/\fC L k a n false=fC L k a n false/\fJ L k a n false=fJ L k a n false/\0=cg L k a n))):=by
 delta aba abJ acG
 rw[tL];refine⟨hL,fun h=>⟨?_,rfl,rfl,rfl,rfl⟩,fun h=>?_⟩
 ·rw[Bool.not_eq_true']at h;unfold jU;rw[aa3 (by rw[h];simp)]
 ·rw[Bool.not_eq_false']at h;have h0:=uj h;have hC:lW L k a n false=true:=h;obtain⟨⟨p1,p2⟩,p3,p4⟩:=Nu hC;obtain⟨r1,r2,r3,r4⟩:=pc hL p1;obtain⟨e1,e2,e3,e4⟩:=yt p3 (by rw[p4];rfl)
  refine⟨rfl,fun h=>?_,fun _=>⟨fun h=>?_,fun _=>⟨⟨r2,r3⟩,e1,e2,r4,?_,rfl,rfl,rfl,h0.1.symm⟩⟩⟩
  ·rw[p4]at h;simp at h
  ·rw[p3]at h;simp at h
  ·unfold jU;rw[aa4 hC];exact e3
theorem WK:cq Tryz.prog 123 ZG:=
 eW (aA jc (aA iF (aA dO (aA dO bW)))) (fun _=>rfl) fun a hq hok=>by
  obtain⟨L,k,i,n,_⟩:=a;exact aZ (inl:=(fun f=>f==114||f==110)) (ann:=aQ) (ae H9 (ae vH (ae tY aq))) (Yl L k i n hq) (by kernel_rfl)
theorem T6 (k:Key) (a:Int) (s:ByteArray) (hs:aw s):
 aF IntKind.i64 (bN s)/\aba (!decide (cg [] k a (bN s)=0)|| !decide (bU [] k a (bN s) true=0)) (bU [] k a (bN s) true=bU [] k a (bN s) true/\fC [] k a (bN s) true=fC [] k a (bN s) true/\fJ [] k a (bN s) true=fJ [] k a (bN s) true/\cg [] k a (bN s)=cg [] k a (bN s)) (true=true/\0=bU [] k a (bN s) true/\void=fC [] k a (bN s) true/\0=fJ [] k a (bN s) true/\0=cg [] k a (bN s)):=by
 delta aba
 have hsz:aF IntKind.i64 (bN s):=by unfold aw at hs;simp only[aF,bY,bN];omega
 rw[tL];refine⟨hsz,fun h=>⟨rfl,rfl,rfl,rfl⟩,fun h=>?_⟩
 rw[Bool.not_eq_false']at h;have:=(zm (uj h).1).1;have h1:dI [] k a=1:=rfl;omega
theorem Ug (k:Key) (a:Int) (s:ByteArray) (hs:aw s):
 aF IntKind.i64 (bN s)/\aba (!decide (cg [] k a (bN s)=0)|| !decide (bU [] k a (bN s) true=0)) (bU [] k a (bN s) true=bU [] k a (bN s) true/\fC [] k a (bN s) true=fC [] k a (bN s) true/\fJ [] k a (bN s) true=fJ [] k a (bN s) true/\cg [] k a (bN s)=cg [] k a (bN s)) (true=true/\False):=by
 delta aba
 have hsz:aF IntKind.i64 (bN s):=by unfold aw at hs;simp only[aF,bY,bN];omega
 rw[tL];refine⟨hsz,fun h=>⟨rfl,rfl,rfl,rfl⟩,fun h=>?_⟩
 rw[Bool.not_eq_false']at h;have:=(zm (uj h).1).1;have h1:dI [] k a=1:=rfl;omega
theorem Vv (L:List Sx.Obj) (k:Key) (a:Int) (s:ByteArray) (hL:ar L) (hs:aw s):
 aF IntKind.i64 (bN s)/\aba (!decide (cg L k a (bN s)=0)|| !decide (bU L k a (bN s) true=0)) ((bU L k a (bN s) true=bU L k a (bN s) true/\fC L k a (bN s) true=fC L k a (bN s) true/\fJ L k a (bN s) true=fJ L k a (bN s) true/\cg L k a (bN s)=cg L k a (bN s))/\L=kz L k a s) (true=true/\(ar L/\aw s)/\(0=bU L k a (bN s) true/\void=fC L k a (bN s) true/\0=fJ L k a (bN s) true/\0=cg L k a (bN s))/\eX L (cm (bI L k a (bN s) true)) (ck (bI L k a (bN s) true)) s=kz L k a s):=by
 delta aba
 have hsz:aF IntKind.i64 (bN s):=by unfold aw at hs;simp only[aF,bY,bN];omega
 rw[tL];refine⟨hsz,fun h=>⟨⟨rfl,rfl,rfl,rfl⟩,?_⟩,fun h=>?_⟩
 ·rw[Bool.not_eq_true']at h;unfold kz;rw[aa3 (by rw[h];simp)]
 ·rw[Bool.not_eq_false']at h;have h0:=uj h;refine⟨rfl,⟨hL,hs⟩,?_,?_⟩
  ·unfold fC fJ;rw[h0.1,h0.2];exact⟨rfl,rfl,rfl,rfl⟩
  ·unfold kz;rw[aa4 h]
theorem V2 (L:List Sx.Obj) (k:Key) (a:Int) (s:ByteArray) (hL:ar L) (hs:aw s):an Tryz.prog 228 [.lp 0 0,.key k,.it .i64 a,.st s] [.store tS eS L] (C5 (.tp [VN L k a (bN s) true,.it .i64 (cg L k a (bN s))]) (kz L k a s)) (fun _ _=>False):=
 bj (inl:=bx) (ann:=aQ) (ae zn (ae pD (ae bC aq))) (aB CY aD) (Vv L k a s hL hs) (by kernel_rfl)
theorem Xr:kJ Tryz.prog 228 aaA:=
 Ci (m:=fun x=> [.key x.1,.it .i64 x.2.1,.st x.2.2]) vl (fun _=>rfl) (fun _ _=>rfl) (fun x hs=>bj (inl:=bx) (ann:=aQ) (ae zn (ae pD (ae bC aq))) (aB CY aD) (T6 x.1 x.2.1 x.2.2 hs) (by kernel_rfl)) (fun x hs=>bj (inl:=bx) (ann:=aQ) (ae zn (ae pD (ae bC aq))) (aB CY aD) (Ug x.1 x.2.1 x.2.2 hs) (by kernel_rfl)) fun L x hL=>V2 L x.1 x.2.1 x.2.2 hL.1 hL.2
theorem XA (L:List Sx.Obj) (k:Key) (a:Int) (s:ByteArray) (hL:ar L) (hs:aw s):
 aF IntKind.i64 (bN s)/\ar L/\aba (!decide (cg L k a (bN s)=0)|| !decide (bU L k a (bN s) true=0)) (lW L k a (bN s) true=false/\bU L k a (bN s) true=bU L k a (bN s) true/\fC L k a (bN s) true=fC L k a (bN s) true/\fJ L k a (bN s) true=fJ L k a (bN s) true/\cg L k a (bN s)=cg L k a (bN s)) (true=true/\(ar L/\aw s)/\(ki L (cm (bI L k a (bN s) true)) (ck (bI L k a (bN s) true)) s=false->lW L k a (bN s) true=false/\bU L k a (bN s) true=bU L k a (bN s) true/\fC L k a (bN s) true=fC L k a (bN s) true/\fJ L k a (bN s) true=fJ L k a (bN s) true/\0=cg L k a (bN s))/\(ki L (cm (bI L k a (bN s) true)) (ck (bI L k a (bN s) true)) s=true->lW L k a (bN s) true=true/\(bU L k a (bN s) true=bU L k a (bN s) true/\fC L k a (bN s) true=fC L k a (bN s) true/\fJ L k a (bN s) true=fJ L k a (bN s) true/\0=cg L k a (bN s))/\eX L (cm (bI L k a (bN s) true)) (ck (bI L k a (bN s) true)) s=kz L k a s)):=by
 delta aba
 have hsz:aF IntKind.i64 (bN s):=by unfold aw at hs;simp only[aF,bY,bN];omega
 rw[tL];refine⟨hsz,hL,fun h=>⟨?_,rfl,rfl,rfl,rfl⟩,fun h=>?_⟩
 ·rw[Bool.not_eq_true']at h;exact h
 ·rw[Bool.not_eq_false']at h;have h0:=uj h;have hC:lW L k a (bN s) true=true:=h;obtain⟨⟨p1,p2⟩,p3,p4⟩:=Nu hC;have hE:cN L (cm (bI L k a (bN s) true)) (ck (bI L k a (bN s) true)) s=0:=by unfold cN;rw[aa4 p3,p4];rfl
  refine⟨rfl,⟨hL,hs⟩,fun h=>?_,fun _=>⟨hC,⟨rfl,rfl,rfl,h0.1.symm⟩,?_⟩⟩
  ·unfold ki at h;rw[hE]at h;simp at h
  ·unfold kz;rw[aa4 hC]
theorem XE (L:List Sx.Obj) (k:Key) (a:Int) (s:ByteArray) (hL:ar L) (hs:aw s):an Tryz.prog 124 [.sa 0,.key k,.it .i64 a,.st s] [.ro (.arr none 163 (.ob L))] (xY (lW L k a (bN s) true) (kz L k a s) [VN L k a (bN s) true,.it .i64 (cg L k a (bN s))]) (fun _ _=>False):=
 bj (inl:=bx) (ann:=aQ) (ae H9 aq) (aB L7 aD) (XA L k a s hL hs) (by kernel_rfl)
theorem Xu:kJ Tryz.prog 124 ZS:=
 iJ (m:=fun x=> [.key x.1,.it .i64 x.2.1,.st x.2.2]) vl (fun _=>rfl) (fun _ _=>rfl) fun L x hq=>XE L x.1 x.2.1 x.2.2 hq.1 hq.2
end Go.Proofs.YtlblcfaclmpekaaGreat
namespace Go.Sx
def wR (o:Obj):Bool:=decide (o.kind=1)&&decide ((o.slots.at 2).kind=1)&&decide (0<=(o.slots.at 2).value)&&decide ((o.slots.at 2).value<=2)
def dP (L:List Obj) (i:Int):Bool:=wR (aL L i)
def iE (L:List Obj) (i:Int):Int:=if dP L i=true then((aL L i).slots.at 2).value else 0
def bz (L:List Obj) (i:Int):Int:=if dP L i=true then((aL L i).slots.at 2).value else -1
def iQ:ld (Int×Unit):=bc iA gK
theorem Vf:gR iQ:=aA dO bW
def Ym:Ct:=s6 (bc As iQ) (fun _=>none) fun x=> .it .i64 (bz x.1 x.2.1)
def Zz:Ct:=s6 (bc sA iQ) (fun _=>none) fun x=> .tp [.it .i64 (iE (Dx x.1) x.2.1),.bo (dP (Dx x.1) x.2.1)]
theorem L5 {L:List Obj} {i:Int} (h:i<0\/(L.length:Int)<=i):aL L i=free:=by
 unfold aL;rw[aa3 fun e=>by have:=lu.1 e;omega]
theorem uY (o:Obj):wR o=true↔o.kind=1/\(o.slots.at 2).kind=1/\0<=(o.slots.at 2).value/\(o.slots.at 2).value<=2:=by
 unfold wR;simp only[aaX,aaY,and_assoc]
theorem tV {L:List Obj} {i:Int} (h:dP L i=false):bz L i= -1/\iE L i=0:=by
 unfold bz iE;rw[h];exact⟨rfl,rfl⟩
theorem mj {L:List Obj} {i:Int} (h:dP L i=true):bz L i=((aL L i).slots.at 2).value/\iE L i=((aL L i).slots.at 2).value:=by
 unfold bz iE;rw[h];exact⟨rfl,rfl⟩
theorem yg (o:Obj):(!decide (o.kind=1)|| !decide ((o.slots.at 2).kind=1)||decide ((o.slots.at 2).value<0)||decide (2<(o.slots.at 2).value))= !wR o:=by
 have h:=uY o;cases hp:wR o with
 |true=>
  obtain⟨a,b,c,d⟩:=h.1 hp;have c':¬(o.slots.at 2).value<0:=by omega
  have d':¬2<(o.slots.at 2).value:=by omega
  simp[a,b,c',d']
 |false=>
  rw[Bool.not_false,Bool.or_eq_true,Bool.or_eq_true,Bool.or_eq_true,Bool.not_eq_true',Bool.not_eq_true',decide_eq_false_iff_not,decide_eq_false_iff_not,aaY,aaY];rw[hp]at h;have hn:¬(o.kind=1/\(o.slots.at 2).kind=1/\0<=(o.slots.at 2).value/\(o.slots.at 2).value<=2):=fun hh=>by have:=h.2 hh;simp at this
  omega
def en (L:List Obj) (i st:Int):Int:=if ai L=0 then 1 else if¬(aL L i).kind=1 then 230 else if st<0\/2<st then 2 else 0
def EC (o:Obj) (st:Int):Obj:= {o with slots:=o.slots.put 2 (cJ st)}
def dg (L:List Obj) (i st:Int):List Obj:=if en L i st=0 then cz L i.toNat (EC (aL L i) st)else L
def kq (L:List Obj) (i st:Int):Bool:=decide (en L i st=0)
def Zc:ld (Int×Int×Unit):=bc iA (bc iA gK)
theorem Pt:gR Zc:=aA dO (aA dO bW)
def WE:ke:=Ar (um Zc) (fun L _=>ar L) (fun L x=>kq L x.1 x.2.1) (fun L x=>dg L x.1 x.2.1) fun L x=> [.it .i64 (en L x.1 x.2.1)]
def aaa:ke:=IP (um Zc) (fun L _=>ar L) (fun L x=> .it .i64 (en L x.1 x.2.1)) fun L x=>dg L x.1 x.2.1
structure br where
 code:Int
 data:ByteArray
 k0:Key
 k1:Key
 k2:Key
def jG (m:br):V:= .ag [.it .i64 m.code,.st m.data,.ag [.key m.k0,.key m.k1,.key m.k2]]
def cY:br:=⟨0,⟨#[]⟩,void,void,void⟩
def Au (v:V):Option br:=
 match v with
 | .ag l=>match l with
   | [a,b,c]=>match rI .i64 a with
     |some n=>match DD b with
      |some s=>match c with
       | .ag l'=>match l' with
         | [x,y,z]=>match rK x with
           |some k=>match rK y with
            |some k'=>match rK z with
             |some k''=>some ⟨n,s,k,k',k''⟩
             |none=>none
            |none=>none
           |none=>none
         |_=>none
       |_=>none
      |none=>none
     |none=>none
   |_=>none
 |_=>none
theorem Cm:sT Au jG:=by
 intro v x h;unfold Au at h;split at h
 case h_2=>simp at h
 split at h
 case h_2=>simp at h
 rename_i a b c;split at h
 case h_2=>simp at h
 rename_i n hn;split at h
 case h_2=>simp at h
 rename_i s hs;split at h
 case h_2=>simp at h
 split at h
 case h_2=>simp at h
 rename_i p q r;split at h
 case h_2=>simp at h
 rename_i k hk;split at h
 case h_2=>simp at h
 rename_i k' hk';split at h<;>simp only[aaV,reduceCtorEq]at h
 rename_i k'' hk'';subst h;refine⟨fun J=>?_,fun K hK=>?_⟩
 ·simp only[den,jG,bp,(gi .i64 _ _ hn).1 J,(xX _ _ hs).1 J,(gH _ _ hk).1 J,(gH _ _ hk').1 J,(gH _ _ hk'').1 J]
 ·obtain⟨h1,h2⟩:=hK;obtain⟨g1,g2⟩:=h1.2.2.1;exact⟨⟨(gi .i64 _ _ hn).2 K h1.1,(xX _ _ hs).2 K h1.2.1,⟨⟨(gH _ _ hk).2 K g1.1,(gH _ _ hk').2 K g1.2.1,(gH _ _ hk'').2 K g1.2.2.1,trivial⟩,by simp[ti]⟩,trivial⟩,by simp[ti]⟩
def mA:Arg br:=Et Au jG
theorem zM:mU mA:=sr Cm (fun _=>rfl) fun v x h=>by cases v<;>simp[Au]at h;rfl
def fk (L:List Obj) (m:br):Bool:=decide (bN m.data<=32)&&bK L m.k0&&bK L m.k1&&bK L m.k2
def aH (L:List Obj) (m:br):br:=⟨m.code,m.data,ah L m.k0,ah L m.k1,ah L m.k2⟩
def AN (s:cL) (m:br) (a:Key):cL:=(((((s.put 2 (cJ 1)).put 3 (cJ m.code)).put 12 m.k0).put 13 m.k1).put 14 m.k2).put 15 a
def AR (s:ByteArray) (g:Int):Bytes:=sV (fa.put 0 (UInt8.ofNat s.size)) 1 g.toNat s
def zY (o:Obj) (m:br) (a:Key):Obj:=⟨o.kind,o.count,o.calls,AN o.slots m a,AR m.data (bN m.data)⟩
def rj (L:List Obj) (i:Int) (m:br) (a:Key) (g:Int):Obj:=⟨(aj L i.toNat free).kind,(aj L i.toNat free).count,(aj L i.toNat free).calls,AN (aj L i.toNat free).slots m a,AR m.data g⟩
def rC (L:List Obj) (i:Int) (m:br) (a:Key):List Obj:=cz L i.toNat (zY (aj L i.toNat free) m a)
def hdB:ld (List Obj×Int×br×Key×Unit):=bc As (bc iA (bc mA (bc kA gK)))
theorem Xe:gR hdB:=aA jc (aA dO (aA zM (aA iF bW)))
def B1 (L:List Obj) (i:Int) (m:br):Prop:=dL L i/\(0<=i/\i<(ai L:Int))/\bN m.data<=32
def UF:ke:=QG hdB (fun x=>B1 x.1 x.2.1 x.2.2.1) (fun _=>true) (fun _=>jJ) (fun _ n=> .sa n) fun x=> .arr (some tO) 163 (.ob (rC x.1 x.2.1 x.2.2.1 x.2.2.2.1))
def VY:Ct:=s6 (bc As (bc mA gK)) (fun x=>some (aw x.2.1.data)) fun x=> .bo (fk x.1 x.2.1)
def XZ:Ct:=s6 (bc As (bc mA gK)) (fun _=>none) fun x=>jG (aH x.1 x.2.1)
def b6 (L:List Obj) (i:Int) (k:Key) (md:Int) (m:br):Int:=
 if ai L=0 then 1 else if¬(1<=md/\md<=3)\/bK L k=false\/fk L m=false then 2 else if bz L i≠1 then 230
 else if aU L k=false\/¬(k.kind=6\/k.kind=7)\/bz L k.oid<0 then 231
 else if(k.kind=6/\bz L k.oid≠0/\¬(md=3/\k.oid=i))\/(k.kind=7/\bz L k.oid≠2)then 232
 else if(k.kind=7/\4294967295<=(aj L k.oid.toNat free).calls)\/(md=1/\4294967295<=(aj L i.toNat free).calls)then 233 else 0
def iL (L:List Obj) (i md:Int):Key:=if md=1 then⟨7,i,(aj L i.toNat free).count,(aj L i.toNat free).calls,0,0⟩else void
def jY (md:Int):Int:=if md=1 then 2 else if md=2 then 1 else 0
def IA (L:List Obj) (i:Int) (k:Key) (md:Int) (m:br):Prop:=
 ai L≠0/\(1<=md/\md<=3)/\bK L k=true/\fk L m=true/\bz L i=1/\aU L k=true/\(k.kind=6\/k.kind=7)/\0<=bz L k.oid/\
 ¬((k.kind=6/\bz L k.oid≠0/\¬(md=3/\k.oid=i))\/(k.kind=7/\bz L k.oid≠2))/\¬(k.kind=7/\4294967295<=(aj L k.oid.toNat free).calls)
def nM (L:List Obj) (i:Int) (k:Key) (md:Int) (m:br):Prop:=b6 L i k md m=0
def NR (o:Obj):Obj:= {o with calls:=o.calls+1}
def gS (L:List Obj) (i md:Int):List Obj:=cz L i.toNat (EC (aj L i.toNat free) (jY md))
def gX (L:List Obj) (i:Int) (k:Key) (md:Int):List Obj:=if k.kind=7 then cz (gS L i md) k.oid.toNat (NR (aj (gS L i md) k.oid.toNat free))else gS L i md
def fe (L:List Obj) (i:Int) (k:Key) (md:Int) (m:br):List Obj:=if b6 L i k md m=0 then rC (gX L i k md) k.oid (aH L m) (iL L i md)else L
def lM (L:List Obj) (i:Int) (k:Key) (md:Int) (m:br):Bool:=decide (b6 L i k md m=0)
def fY (L:List Obj) (i:Int) (m:br):Int:=if ai L=0 then 1 else if fk L m=false then 2 else if bz L i≠1 then 230 else 0
def gr (L:List Obj) (i:Int) (m:br):List Obj:=if fY L i m=0 then rC L i (aH L m) void else L
def o7 (L:List Obj) (i:Int) (m:br):Bool:=decide (fY L i m=0)
abbrev tM:Nat:=47
def bcB:ld (List Obj×Int×Int×Unit):=bc As (bc iA (bc iA gK))
theorem W8:gR bcB:=aA jc (aA dO (aA dO bW))
def HM (L:List Obj) (i st:Int):Prop:=en L i st=0/\ar L
def RS:ke:=QG bcB (fun x=>HM x.1 x.2.1 x.2.2.1) (fun _=>true) (fun _=>jJ) (fun _ n=> .tp [.sa n,.ci .i64 0]) fun x=> .arr (some tO) 163 (.ob (dg x.1 x.2.1 x.2.2.1))
def ZE:ld (Int×Key×Int×br×Unit):=bc iA (bc kA (bc iA (bc mA gK)))
theorem MI:gR ZE:=aA dO (aA iF (aA dO (aA zM bW)))
def Zg:ld (Int×br×Unit):=bc iA (bc mA gK)
theorem Qx:gR Zg:=aA dO (aA zM bW)
def Yh:ke:=Ar (um ZE) (fun L x=>ar L/\aw x.2.2.2.1.data) (fun L x=>lM L x.1 x.2.1 x.2.2.1 x.2.2.2.1) (fun L x=>fe L x.1 x.2.1 x.2.2.1 x.2.2.2.1) fun L x=> [.it .i64 (b6 L x.1 x.2.1 x.2.2.1 x.2.2.2.1)]
def WO:ke:=Ar (um Zg) (fun L x=>ar L/\aw x.2.1.data) (fun L x=>o7 L x.1 x.2.1) (fun L x=>gr L x.1 x.2.1) fun L x=> [.it .i64 (fY L x.1 x.2.1)]
def Zo:ke:=YJ (um ZE) (fun x=>aw x.2.2.2.1.data) (fun L x=>ar L/\aw x.2.2.2.1.data) (fun L x=> .it .i64 (b6 L x.1 x.2.1 x.2.2.1 x.2.2.2.1)) fun L x=>fe L x.1 x.2.1 x.2.2.1 x.2.2.2.1
def Y7:ke:=YJ (um Zg) (fun x=>aw x.2.1.data) (fun L x=>ar L/\aw x.2.1.data) (fun L x=> .it .i64 (fY L x.1 x.2.1)) fun L x=>gr L x.1 x.2.1
def GU:Ct:=fun res _ xs=>match xs with
 | [a]=>match rS tS eS res a with
   |some (_,L)=>match L with
    | []=>some (none,.ci .i64 0,[])
    |_=>none
   |none=>none
 |_=>none
theorem Ur {P:Program} {f:Nat} (h:cq P f Gg):cq P f GU:=by
 intro J fps res K w0 F0 w nid args q x new hH hargs hg hq hfr;unfold GU at hg;split at hg
 case h_2=>simp at hg
 rename_i a;split at hg
 case h_2=>simp at hg
 rename_i o L hr;split at hg<;>simp only[aaV,aaW,reduceCtorEq]at hg
 obtain⟨rfl,rfl,rfl⟩:=hg;obtain⟨h1,h2⟩:=h J fps res K w0 F0 w nid [a] none (.it .i64 (ak [])) [] hH hargs (by unfold Gg Vu;simp only[hr]) trivial hfr
 refine⟨h1.mono ?_,h2⟩;rintro e w' ⟨v,he,ρ',g,hv,_⟩
 refine⟨v,he,ρ',g,hv,?_⟩;simp[ok,bY]
def kdX (nid:Nat):V:= .mp nid
def kdN (nid:Nat):List aK:= [.mp .i64 [6,7] [.fn 126 [],.fn 127 []]]
def dJ (L:List Obj) (g:Int):List Int:=((List.range g.toNat).filter fun(j:Nat)=>decide (bz L (j:Int)=1)).map Int.ofNat
def ie (L:List Obj) (g:Int):Prop:=0<=g/\g<=(ai L:Int)
def iq (L:List Obj):Prop:=L.length<=1000
def Vx:ke:=QG (bc As gK) (fun x=>iq x.1) (fun _=>true) (fun _=>jJ) (fun _ n=> .sa n) fun x=> .arr (some tI) 1 (.it .i64 (dJ x.1 (bD (ai x.1))))
def YP:ke:=QG (bc sA gK) (fun x=>iq (Dx x.1)) (fun _=>true) (fun _=>jJ) (fun _ n=> .sa n) fun x=> .arr (some tI) 1 (.it .i64 (dJ (Dx x.1) (bD (ai (Dx x.1)))))
theorem Gp {L:List Obj} {i:Int} (h:(aL L i).kind=1):0<=i/\i<(L.length:Int)/\aL L i=aj L i.toNat free:=by
 by_cases hr:i<0\/(L.length:Int)<=i
 ·rw[L5 hr]at h;simp[free]at h
 ·exact⟨by omega,by omega,fH (by omega) (by omega)⟩
theorem oO {L:List Obj} {i:Int} (h:dP L i=true):0<=i/\i<(L.length:Int)/\aL L i=aj L i.toNat free/\(aj L i.toNat free).kind=1:=by
 have hk:=((uY _).1 h).1;obtain⟨a,b,c⟩:=Gp hk;rw[c]at hk;exact⟨a,b,c,hk⟩
theorem qy {L:List Obj} {i:Int}:(0<=bz L i↔dP L i=true)/\(bz L i<0↔dP L i=false):=by
 cases h:dP L i with
 |false=>rw[(tV h).1];simp
 |true=>
  have h2:=(mj h).1;have h3:=((uY _).1 h).2.2.1;rw[<-h2]at h3;simp;exact h3
theorem Ht {L:List Obj} {i:Int}:(dP L i&&decide (iE L i=1))=decide (bz L i=1):=by
 cases h:dP L i with
 |false=>rw[(tV h).1];simp
 |true=>rw[(mj h).1,(mj h).2];simp
theorem ZT {L:List Obj} {i:Int} (h:dP L i=true):iE L i=bz L i:=by rw[(mj h).1,(mj h).2]
theorem OI {o:Obj} {n st:Int} (h:bP o n=true) (hk:o.kind=1):bP (EC o st) n=true:=by
 have hn:=(dT.1 h).1;exact Aa h hk (TK (by omega) (sf h hk) (sI (by omega) _))
theorem Ns {o:Obj} {n:Int} (h:bP o n=true) (hk:o.kind=1) (hc:o.calls<4294967295):bP (NR o) n=true:=by
 obtain⟨a1,a2,a3,a4,a5,a6,a7,a8,a9,a10,a11⟩:=dT.1 h;rw[dT];exact⟨a1,a2,a3,a4,a5,a6,by show 0<=o.calls+1;omega,by show o.calls+1<=4294967295;omega,.inl hk,a10,a11⟩
theorem Lx {o:Obj} {n:Int} {s:cL} {b:Bytes} (h:bP o n=true) (hk:o.kind=1) (hs:∀i,i<16->dD n (s.at i)):bP (jQ (ev o s) b) n=true:=by
 have h':bP (ev o s) n=true:=Aa h hk hs;have hk':(ev o s).kind=1:=hk;exact O0 h' (Or.inl hk')
theorem FG {o:Obj} {n:Int} {m:br} {a:Key} (h:bP o n=true) (hk:o.kind=1) (h0:dD n m.k0) (h1:dD n m.k1) (h2:dD n m.k2) (ha:dD n a):bP (zY o m a) n=true:=by
 have hn:=(dT.1 h).1
 have hs:∀i,i<16->dD n ((AN o.slots m a).at i):=fun i hi=>by
  unfold AN;rw[cL.fX _ _ _ _ (by omega),cL.fX _ _ _ _ (by omega),cL.fX _ _ _ _ (by omega),cL.fX _ _ _ _ (by omega),cL.fX _ _ _ _ (by omega),cL.fX _ _ _ _ (by omega)]
  split
  ·exact ha
  ·split
   ·exact h2
   ·split
    ·exact h1
    ·split
     ·exact h0
     ·split
      ·exact sI (by omega) _
      ·split
       ·exact sI (by omega) _
       ·exact sf h hk i hi
 have e:zY o m a=jQ (ev o (AN o.slots m a)) (AR m.data (bN m.data)):=by unfold zY jQ ev;rfl
 rw[e];exact Lx h hk hs
theorem yT {n:Int} (hn:0<=n):dD n void:=⟨nc.1,by rw[nc.2];omega⟩
theorem Sm {n i c d:Int} (h0:0<=i) (h1:i<n) (h2:n<=64) (c0:0<=c) (c1:c<=4294967295) (d0:0<=d) (d1:d<=4294967295):dD n ⟨7,i,c,d,0,0⟩:=by
 have hk:aV ⟨7,i,c,d,0,0⟩=true:=by
  unfold aV kG ee gM ga fu;simp;omega
 refine⟨hk,?_⟩;unfold bd;rw[hk];simp[ee];omega
theorem CU {L:List Obj} (hL:0<L.length) (m:br):dD (L.length:Int) (aH L m).k0/\dD (L.length:Int) (aH L m).k1/\dD (L.length:Int) (aH L m).k2:=⟨pB hL _,pB hL _,pB hL _⟩
theorem Nw {s:ByteArray} (h:bN s<=32):Ks (fa.put 0 (U9 (bN s))) (Int.toNat 1) (Int.toNat 64) s=AR s (bN s):=by
 have hz:(s.size:Int)<=32:=h;have e:Nat.min s.size (64-1)=s.size:=Nat.min_eq_left (by omega)
 show sV _ 1 (Nat.min s.size (64-1)) s=sV _ 1 (bN s).toNat s
 rw[e];rfl
theorem MA {L:List Obj} {i st:Int} (h:en L i st=0):(0<=i/\i<(L.length:Int))/\aL L i=aj L i.toNat free/\(aj L i.toNat free).kind=1/\0<=st/\st<=2:=by
 unfold en at h;split at h
 ·omega
 ·split at h
  ·omega
  ·split at h
   ·omega
   ·rename_i h1 h2 h3;have h2:(aL L i).kind=1:=by omega
    obtain⟨a,b,c⟩:=Gp h2;exact⟨⟨a,b⟩,c,by rw[<-c];exact h2,by omega,by omega⟩
theorem FT {L:List Obj} {i st:Int} (hL:ar L):ar (dg L i st):=by
 unfold dg;split
 ·rename_i h;obtain⟨⟨a,b⟩,c,d,_⟩:=MA h;rw[c];exact lF hL (OI (dq hL _ (by omega)) d)
 ·exact hL
theorem GP {L:List Obj} {i st e:Int} (h:en L i st=e) (he:e≠0):e=en L i st/\L=dg L i st:=⟨h.symm,by unfold dg;rw[h,aa3 he]⟩
theorem Vq {L:List Obj} {i st:Int} (h:ai L=0):en L i st=1:=by unfold en;rw[aa4 h]
theorem Hi {L:List Obj} {i st:Int} (h:ai L≠0) (h2:¬(aL L i).kind=1):en L i st=230:=by unfold en;rw[aa3 h,aa4 h2]
theorem UU {L:List Obj} {i st:Int} (h:ai L≠0) (h2:(aL L i).kind=1) (h3:st<0\/2<st):en L i st=2:=by unfold en;rw[aa3 h,aa3 (by omega),aa4 h3]
theorem Mg {L:List Obj} {i st:Int} (h:ai L≠0) (h2:(aL L i).kind=1) (h3:¬(st<0\/2<st)):en L i st=0:=by unfold en;rw[aa3 h,aa3 (by omega),aa3 h3]
theorem Me {L:List Obj} {i st:Int} (hL:ar L) (h:en L i st=0):fz L i (EC (aL L i) st)=0/\cM L i (EC (aL L i) st)=dg L i st:=by
 obtain⟨⟨a,b⟩,c,d,_⟩:=MA h;obtain⟨p1,p2⟩:=lV a b (OI (st:=st) (dq hL _ (by omega)) d)
 rw[c,p1,p2];refine⟨rfl,?_⟩;unfold dg;rw[aa4 h,c]
theorem su {L:List Obj} {i:Int} (hL:ar L) (h0:0<=i) (h1:i<(L.length:Int)):dL L i:=⟨h0,h1,by have:=(gy hL).2;unfold ai;omega⟩
theorem SN {L:List Obj} {i:Int} (h:(decide (i<0)||decide (bD (ai L)<=i)|| !decide ((aj L i.toNat free).kind=1))=true):¬(aL L i).kind=1:=fun hk=>by
 obtain⟨a,b,c⟩:=Gp hk;rw[c]at hk;have hb:¬bD (ai L)<=i:=by unfold bD ai;omega
 rw[decide_eq_false (by omega:¬i<0),decide_eq_false hb,decide_eq_true hk]at h
 simp at h
theorem DN {L:List Obj} {i:Int} (h:(decide (i<0)||decide (bD (ai L)<=i)|| !decide ((aj L i.toNat free).kind=1))=false):0<=i/\i<(L.length:Int)/\aL L i=aj L i.toNat free/\(aL L i).kind=1:=by
 simp only[Bool.or_eq_false_iff,decide_eq_false_iff_not,Bool.not_eq_false',aaY]at h;obtain⟨⟨h1,h2⟩,h3⟩:=h;unfold bD ai at h2;have e:=fH (L:=L) (j:=i) (by omega) (by omega)
 exact⟨by omega,by omega,e,by rw[e];exact h3⟩
theorem Dl {L:List Obj} {m:br} (h:fk L m=true):bN m.data<=32:=by
 unfold fk at h;simp only[aaX,aaY]at h;exact h.1.1.1
section
variable {L:List Obj} {i:Int} {k:Key} {md:Int} {m:br}
theorem V3 (a:ai L=0):b6 L i k md m=1:=by unfold b6;rw[aa4 a]
theorem D4 (a:ai L≠0) (b:¬(1<=md/\md<=3)\/bK L k=false\/fk L m=false):b6 L i k md m=2:=by unfold b6;rw[aa3 a,aa4 b]
theorem Gz (a:ai L≠0) (b:¬(¬(1<=md/\md<=3)\/bK L k=false\/fk L m=false)) (c:bz L i≠1):b6 L i k md m=230:=by unfold b6;rw[aa3 a,aa3 b,aa4 c]
theorem zj (a:ai L≠0) (b:¬(¬(1<=md/\md<=3)\/bK L k=false\/fk L m=false)) (c:bz L i=1) (d:aU L k=false\/¬(k.kind=6\/k.kind=7)\/bz L k.oid<0):b6 L i k md m=231:=by
 unfold b6;rw[aa3 a,aa3 b,aa3 (by omega),aa4 d]
theorem C9 (a:ai L≠0) (b:¬(¬(1<=md/\md<=3)\/bK L k=false\/fk L m=false)) (c:bz L i=1) (d:¬(aU L k=false\/¬(k.kind=6\/k.kind=7)\/bz L k.oid<0))
  (e:(k.kind=6/\bz L k.oid≠0/\¬(md=3/\k.oid=i))\/(k.kind=7/\bz L k.oid≠2)):b6 L i k md m=232:=by
 unfold b6;rw[aa3 a,aa3 b,aa3 (by omega),aa3 d,aa4 e]
theorem Dm (a:ai L≠0) (b:¬(¬(1<=md/\md<=3)\/bK L k=false\/fk L m=false)) (c:bz L i=1) (d:¬(aU L k=false\/¬(k.kind=6\/k.kind=7)\/bz L k.oid<0))
  (e:¬((k.kind=6/\bz L k.oid≠0/\¬(md=3/\k.oid=i))\/(k.kind=7/\bz L k.oid≠2))) (f:(k.kind=7/\4294967295<=(aj L k.oid.toNat free).calls)\/(md=1/\4294967295<=(aj L i.toNat free).calls)):b6 L i k md m=233:=by
 unfold b6;rw[aa3 a,aa3 b,aa3 (by omega),aa3 d,aa3 e,aa4 f]
theorem YR (a:ai L≠0) (b:¬(¬(1<=md/\md<=3)\/bK L k=false\/fk L m=false)) (c:bz L i=1) (d:¬(aU L k=false\/¬(k.kind=6\/k.kind=7)\/bz L k.oid<0))
  (e:¬((k.kind=6/\bz L k.oid≠0/\¬(md=3/\k.oid=i))\/(k.kind=7/\bz L k.oid≠2))) (f:¬((k.kind=7/\4294967295<=(aj L k.oid.toNat free).calls)\/(md=1/\4294967295<=(aj L i.toNat free).calls))):b6 L i k md m=0:=by
 unfold b6;rw[aa3 a,aa3 b,aa3 (by omega),aa3 d,aa3 e,aa3 f]
theorem Wn (h:b6 L i k md m=0):ai L≠0/\¬(¬(1<=md/\md<=3)\/bK L k=false\/fk L m=false)/\bz L i=1/\¬(aU L k=false\/¬(k.kind=6\/k.kind=7)\/bz L k.oid<0)/\
  ¬((k.kind=6/\bz L k.oid≠0/\¬(md=3/\k.oid=i))\/(k.kind=7/\bz L k.oid≠2))/\¬((k.kind=7/\4294967295<=(aj L k.oid.toNat free).calls)\/(md=1/\4294967295<=(aj L i.toNat free).calls)):=by
 by_cases a:ai L=0
 ·rw[V3 a]at h;omega
 ·by_cases b:¬(1<=md/\md<=3)\/bK L k=false\/fk L m=false
  ·rw[D4 a b]at h;omega
  ·by_cases c:bz L i=1
   ·by_cases d:aU L k=false\/¬(k.kind=6\/k.kind=7)\/bz L k.oid<0
    ·rw[zj a b c d]at h;omega
    ·by_cases e:(k.kind=6/\bz L k.oid≠0/\¬(md=3/\k.oid=i))\/(k.kind=7/\bz L k.oid≠2)
     ·rw[C9 a b c d e]at h;omega
     ·by_cases f:(k.kind=7/\4294967295<=(aj L k.oid.toNat free).calls)\/(md=1/\4294967295<=(aj L i.toNat free).calls)
      ·rw[Dm a b c d e f]at h;omega
      ·exact⟨a,b,c,d,e,f⟩
   ·rw[Gz a b c]at h;omega
theorem nz {e:Int} (h:b6 L i k md m=e) (he:e≠0):e=b6 L i k md m/\L=fe L i k md m:=⟨h.symm,by unfold fe;rw[h,aa3 he]⟩
theorem tX {e:Int} (h:b6 L i k md m=e) (he:e≠0):lM L i k md m=false/\e=b6 L i k md m:=⟨by unfold lM;rw[h];simpa using he,h.symm⟩
theorem U6:(decide (md<1)||decide (3<md)|| !bK L k|| !fk L m)=true↔(¬(1<=md/\md<=3)\/bK L k=false\/fk L m=false):=by
 cases bK L k<;>cases fk L m<;>simp<;>omega
theorem UM:(!aU L k|| !decide (k.kind=6)&& !decide (k.kind=7))=true↔(aU L k=false\/¬(k.kind=6\/k.kind=7)):=by
 cases aU L k<;>simp
theorem Vn:(decide (k.kind=6)&& !decide (bz L k.oid=0)&& !(decide (md=3)&&decide (k.oid=i))||decide (k.kind=7)&& !decide (bz L k.oid=2))=true↔((k.kind=6/\bz L k.oid≠0/\¬(md=3/\k.oid=i))\/(k.kind=7/\bz L k.oid≠2)):=by
 simp[and_assoc,Classical.or_iff_not_imp_left (a:=¬md=3)]
theorem UL {x y:Int}:(decide (k.kind=7)&&decide (4294967295<=x)||decide (md=1)&&decide (4294967295<=y))=true↔((k.kind=7/\4294967295<=x)\/(md=1/\4294967295<=y)):=by simp
theorem Gn (h:1<=md/\md<=3):0<=jY md/\jY md<=2/\aj [0,2,1,0] md.toNat 0=jY md/\z9 (decide (md=1)) 2 (z9 (decide (md=2)) 1 (z9 (decide (md=3)) 0 0))=jY md:=by
 have:md=1\/md=2\/md=3:=by omega
 rcases this with rfl|rfl|rfl<;>decide
theorem yZ (hL:ar L) (hE:b6 L i k md m=0):
 ((0<=i/\i<(L.length:Int))/\aL L i=aj L i.toNat free/\(aj L i.toNat free).kind=1)/\((0<=k.oid/\k.oid<(L.length:Int))/\aL L k.oid=aj L k.oid.toNat free/\(aj L k.oid.toNat free).kind=1)/\(en L i (jY md)=0/\dg L i (jY md)=gS L i md)/\(ar (gS L i md)/\(gS L i md).length=L.length)/\(ar (gX L i k md)/\(gX L i k md).length=L.length)/\((aj (gS L i md) k.oid.toNat free).kind=1/\(aj (gS L i md) k.oid.toNat free).calls=(aj L k.oid.toNat free).calls)/\(aj (gX L i k md) k.oid.toNat free).kind=1/\bN m.data<=32/\dD (L.length:Int) (iL L i md):=by
 obtain⟨a,b,c,d,e,f⟩:=Wn hE
 have b1:1<=md/\md<=3:=by
  by_cases h:1<=md/\md<=3
  ·exact h
  ·exact absurd (.inl h) b
 have b3:fk L m=true:=by
  cases h:fk L m with
  |true=>rfl
  |false=>exact absurd (.inr (.inr h)) b
 have d3:0<=bz L k.oid:=by
  by_cases h:bz L k.oid<0
  ·exact absurd (.inr (.inr h)) d
  ·omega
 obtain⟨i0,i1,i2,i3⟩:=oO (qy.1.1 (by omega:0<=bz L i))
 obtain⟨k0,k1,k2,k3⟩:=oO (qy.1.1 d3);obtain⟨n0,n1,_,_⟩:=Gn b1;have hb:en L i (jY md)=0:=Mg a (by rw[i2];exact i3) (by omega)
 have h1:dg L i (jY md)=gS L i md:=by unfold dg gS;rw[aa4 hb,i2]
 have o1:ar (gS L i md):=by rw[<-h1];exact FT hL
 have l1:(gS L i md).length=L.length:=by unfold gS;rw[iv]
 have g1:(aj (gS L i md) k.oid.toNat free).kind=1/\(aj (gS L i md) k.oid.toNat free).calls=(aj L k.oid.toNat free).calls:=by
  unfold gS;rw[gg (by omega)]
  split
  ·rename_i e;rw[e];exact⟨i3,rfl⟩
  ·exact⟨k3,rfl⟩
 have l2:(gX L i k md).length=L.length:=by
  unfold gX;split
  ·rw[iv,l1]
  ·exact l1
 have o2:ar (gX L i k md):=by
  unfold gX;split
  ·rename_i h7;have hc:¬4294967295<=(aj L k.oid.toNat free).calls:=fun h=>f (.inl ⟨h7,h⟩)
   exact lF o1 (Ns (dq o1 _ (by rw[l1];omega)) g1.1 (by rw[g1.2];omega))
  ·exact o1
 have g2:(aj (gX L i k md) k.oid.toNat free).kind=1:=by
  unfold gX;split
  ·rw[gg (by rw[l1];omega),aa4 rfl];exact g1.1
  ·exact g1.1
 have ho:=dT.1 (dq hL i.toNat (by omega))
 have hn:=(gy hL)
 have hA:dD (L.length:Int) (iL L i md):=by
  unfold iL;split
  ·exact Sm i0 i1 (by omega) ho.2.2.2.2.1 ho.2.2.2.2.2.1 ho.2.2.2.2.2.2.1 ho.2.2.2.2.2.2.2.1
  ·exact yT (by omega)
 exact⟨⟨⟨i0,i1⟩,i2,i3⟩,⟨⟨k0,k1⟩,k2,k3⟩,⟨hb,h1⟩,⟨o1,l1⟩,⟨o2,l2⟩,g1,g2,Dl b3,hA⟩
theorem FU (hL:ar L) (hE:b6 L i k md m=0):ar (fe L i k md m)/\(fe L i k md m).length=L.length/\cM (gX L i k md) k.oid (zY (aL (gX L i k md) k.oid) (aH L m) (iL L i md))=fe L i k md m:=by
 obtain⟨_,⟨⟨k0,k1⟩,_,_⟩,_,_,⟨o2,l2⟩,_,g2,_,hA⟩:=yZ hL hE;obtain⟨f0,f1,f2⟩:=CU (by have:=gy hL;omega:0<L.length) m
 have ho:=FG (m:=aH L m) (a:=iL L i md) (dq o2 k.oid.toNat (by omega)) g2 (by rw[l2];exact f0) (by rw[l2];exact f1) (by rw[l2];exact f2) (by rw[l2];exact hA)
 have hq:fe L i k md m=cz (gX L i k md) k.oid.toNat (zY (aj (gX L i k md) k.oid.toNat free) (aH L m) (iL L i md)):=by unfold fe rC;rw[aa4 hE]
 rw[hq,fH k0 (by omega)]
 exact⟨lF o2 ho,by rw[iv,l2],(lV k0 (by omega) ho).1⟩
theorem Wd (hL:ar L):ar (fe L i k md m):=by
 by_cases hE:b6 L i k md m=0
 ·exact(FU hL hE).1
 ·rw[<-(nz rfl hE).2];exact hL
end
theorem vU (L:List Obj):dJ L 0= []:=rfl
theorem wC (L:List Obj) {g:Int} (h:0<=g):dJ L (g+1)=if bz L g=1 then jl (dJ L g) g else dJ L g:=by
 unfold dJ jl;rw[show(g+1).toNat=g.toNat+1 by omega,List.range_succ,List.filter_append,List.map_append]
 have e:((g.toNat:Nat):Int)=g:=by omega
 by_cases hp:bz L g=1
 ·rw[aa4 hp];simp[e,hp]
 ·rw[aa3 hp];simp[e,hp]
theorem Ed (L:List Obj) (g:Int):ai (dJ L g)<=g.toNat:=by
 unfold dJ ai;rw[List.length_map];exact Nat.le_trans (List.length_filter_le _ _) (by rw[List.length_range];exact Nat.le_refl _)
theorem DE {L:List Obj} {g:Int} (hl:iq L) (h1:g<(L.length:Int)):sU (ai (dJ L g)) 8:=by
 have:=Ed L g;unfold iq at hl;unfold sU maxLen;omega
theorem DW {L:List Obj} {g:Int} (hl:iq L) (h0:ie L g) (h1:g<(L.length:Int)):aF IntKind.i64 (g+1)/\ie L (g+1)/\(bD (ai L)-(g+1)).toNat<(bD (ai L)-g).toNat:=by
 unfold iq at hl;unfold ie bD ai at *;simp only[aF,bY];omega
end Go.Sx
namespace Go.Proofs.YtlblcfaclmpekaaGreat
open Go.Sx
theorem Rb (L:List Sx.Obj) (i:Int):
 ((!(decide (i<0)||decide (bD (ai L)<=i)))=true->0<=i/\i< ↑(ai L))/\((!(decide (i<0)||decide (bD (ai L)<=i)))=true->i.toNat<ai L)/\aba (decide (i<0)||decide (bD (ai L)<=i)|| !decide ((aj L i.toNat free).kind=1)) (-1=bz L i) ((0<=i/\i< ↑(ai L))/\i.toNat<ai L/\aba (!decide (((aj L i.toNat free).slots.at 2).kind=1)||decide (((aj L i.toNat free).slots.at 2).value<0)||decide (2<((aj L i.toNat free).slots.at 2).value)) (-1=bz L i) (((aj L i.toNat free).slots.at 2).value=bz L i)):=by
 delta aba
 have hn:bD (ai L)=(L.length:Int):=rfl;have hl:ai L=L.length:=rfl;rw[hn,hl]
 have hin:∀{b:Bool},(!(decide (i<0)||decide ((L.length:Int)<=i)))=true->0<=i/\i<(L.length:Int):=fun h=>by
  simp only[Bool.not_eq_true',Bool.or_eq_false_iff,decide_eq_false_iff_not]at h;omega
 refine⟨fun h=>hin (b:=true) h,fun h=>by have:=hin (b:=true) h;omega,fun h=>?_,fun h=>?_⟩
 ·simp only[Bool.or_eq_true,Bool.not_eq_true',aaY,decide_eq_false_iff_not]at h;refine(tV ?_).1.symm;unfold dP;cases hb:wR (aL L i)with
  |false=>rfl
  |true=>
   exfalso
   have hk:=((uY _).1 hb).1;by_cases hr:i<0\/(L.length:Int)<=i
   ·rw[L5 hr]at hk;simp[free]at hk
   ·rw[fH (by omega) (by omega)]at hk
    omega
 ·simp only[Bool.or_eq_false_iff,Bool.not_eq_false',aaY,decide_eq_false_iff_not]at h;have hr:0<=i/\i<(L.length:Int):=by omega
  have hg:aL L i=aj L i.toNat free:=fH hr.1 hr.2;have e:=yg (aj L i.toNat free);rw[show decide ((aj L i.toNat free).kind=1)=true from decide_eq_true h.2,Bool.not_true,Bool.false_or]at e;rw[e];refine⟨hr,by omega,fun h'=>?_,fun h'=>?_⟩
  ·exact(tV (by unfold dP;rw[hg];simpa using h')).1.symm
  ·rw[(mj (by unfold dP;rw[hg];simpa using h')).1,hg]
theorem vr:cq Tryz.prog 53 Ym:=
 eW (aA jc Vf) (fun _=>rfl) fun a hq hok=>by
  obtain⟨L,i,_⟩:=a;exact aZ (inl:=bx) (ann:=aQ) aq (Rb L i) (by kernel_rfl)
theorem SP (i:Int):
 true=true/\aba (!decide ((aL [] i).kind=1)|| !decide (((aL [] i).slots.at 2).kind=1)||decide (((aL [] i).slots.at 2).value<0)||decide (2<((aL [] i).slots.at 2).value)) (0=iE [] i/\false=dP [] i) (((aL [] i).slots.at 2).value=iE [] i/\true=dP [] i):=by
 delta aba
 have e:=yg (aL [] i);rw[e];refine⟨rfl,fun h=>?_,fun h=>?_⟩
 ·have h:dP [] i=false:=by unfold dP;simpa using h
  exact⟨(tV h).2.symm,h.symm⟩
 ·have h:dP [] i=true:=by unfold dP;simpa using h
  exact⟨(mj h).2.symm,h.symm⟩
theorem Ya (L:List Sx.Obj) (i:Int):
 true=true/\aba (!decide ((aL L i).kind=1)|| !decide (((aL L i).slots.at 2).kind=1)||decide (((aL L i).slots.at 2).value<0)||decide (2<((aL L i).slots.at 2).value)) (0=iE L i/\false=dP L i) (((aL L i).slots.at 2).value=iE L i/\true=dP L i):=by
 delta aba
 have e:=yg (aL L i);rw[e];refine⟨rfl,fun h=>?_,fun h=>?_⟩
 ·have h:dP L i=false:=by unfold dP;simpa using h
  exact⟨(tV h).2.symm,h.symm⟩
 ·have h:dP L i=true:=by unfold dP;simpa using h
  exact⟨(mj h).2.symm,h.symm⟩
theorem rH:cq Tryz.prog 62 Zz:=
 eW (aA tc Vf) (fun _=>rfl) fun a hq hok=>by
  obtain⟨S,i,_⟩:=a;cases S with
  |none=>exact aZ (inl:=(fun f=>f==88)) (ann:=aQ) (ae gd aq) (SP i) (by kernel_rfl)
  |some L=>exact aZ (inl:=(fun f=>f==88)) (ann:=aQ) (ae gd aq) (Ya L i) (by kernel_rfl)
theorem Rt (L:List Sx.Obj) (i st:Int) (hL:ar L):
 aba (decide (bD (ai L)=0)) (kq L i st=false/\1=en L i st) (((!(decide (i<0)||decide (bD (ai L)<=i)))=true->0<=i/\i< ↑(ai L))/\((!(decide (i<0)||decide (bD (ai L)<=i)))=true->i.toNat<ai L)/\aba (decide (i<0)||decide (bD (ai L)<=i)|| !decide ((aj L i.toNat free).kind=1)) (kq L i st=false/\230=en L i st) (aba (decide (st<0)||decide (2<st)) (kq L i st=false/\2=en L i st) ((0<=i/\i< ↑(ai L))/\i.toNat<ai L/\true=true/\dL L i/\kq L i st=true/\0=en L i st/\cz L i.toNat (Obj.mk (aj L i.toNat free).kind (aj L i.toNat free).count (aj L i.toNat free).calls ((aj L i.toNat free).slots.put 2 (abg st)) (aj L i.toNat free).bytes)=dg L i st))):=by
 delta aba abg
 have hn:bD (ai L)=(L.length:Int):=rfl;have hlL:ai L=L.length:=rfl
 have hin:(!(decide (i<0)||decide (bD (ai L)<=i)))=true->0<=i/\i<(L.length:Int):=fun h=>by
  rw[hn]at h;simp only[Bool.not_eq_true',Bool.or_eq_false_iff,decide_eq_false_iff_not]at h;omega
 refine⟨fun h=>?_,fun h=>⟨fun h=>hin h,fun h=>by have:=hin h;omega,fun h2=>?_,fun h2=>⟨fun h3=>?_,fun h3=>?_⟩⟩⟩
 ·have hl:ai L=0:=by have h1:bD (ai L)=0:=aa1 h;unfold bD at h1;omega
  unfold kq;rw[Vq hl];exact⟨rfl,rfl⟩
 ·have hl:ai L≠0:=by have h1:¬bD (ai L)=0:=aa0 h;unfold bD at h1;omega
  unfold kq;rw[Hi hl (SN h2)];exact⟨rfl,rfl⟩
 ·have hl:ai L≠0:=by have h1:¬bD (ai L)=0:=aa0 h;unfold bD at h1;omega
  unfold kq;rw[UU hl (DN h2).2.2.2 (by simpa using h3)];exact⟨rfl,rfl⟩
 ·have hl:ai L≠0:=by have h1:¬bD (ai L)=0:=aa0 h;unfold bD at h1;omega
  obtain⟨a,b,c,d⟩:=DN h2;have hE:=Mg (st:=st) hl d (by simpa using h3)
  refine⟨⟨a,b⟩,by omega,rfl,su hL a b,by unfold kq;rw[hE];rfl,hE.symm,?_⟩
  unfold dg;rw[aa4 hE,c];rfl
theorem Tc (L:List Sx.Obj) (i st:Int) (hL:ar L):an Tryz.prog 55 [.sa 0,.it .i64 i,.it .i64 st] [.ro (.arr none 163 (.ob L))] (xY (kq L i st) (dg L i st) [.it .i64 (en L i st)]) (fun _ _=>False):=
 bj (inl:=(fun f=>f==31)) (ann:=aQ) (ae jy aq) aD (Rt L i st hL) (by kernel_rfl)
theorem Io:kJ Tryz.prog 55 WE:=
 iJ (m:=fun x=>Zc.cn x 0) (fL Pt (fun _=>rfl)) (fun _=>rfl) (fun _ _=>rfl) fun L x hq=>Tc L x.1 x.2.1 hq
theorem Q6 (i st:Int):
 abb (aba (!decide (0<ak [])) (1=en [] i st) (abb (aba (!decide ((aL [] i).kind=1)) (230=en [] i st) (abb (aba (!(decide (0<=st)&&decide (st<=2))) (2=en [] i st) (abb (abb (fz [] i (Obj.mk (aL [] i).kind (aL [] i).count (aL [] i).calls ((aL [] i).slots.put 2 (abg st)) (aL [] i).bytes)=en [] i st)))))))):=by
 delta aba abg abb
 exact⟨rfl,fun h=>rfl,fun h=>absurd h (by decide)⟩
theorem TT (i st:Int):
 abb (aba (!decide (0<ak [])) (1=en [] i st) (abb (aba (!decide ((aL [] i).kind=1)) (230=en [] i st) (abb (aba (!(decide (0<=st)&&decide (st<=2))) (2=en [] i st) (abb (abb False))))))):=by
 delta aba abb
 exact⟨rfl,fun h=>rfl,fun h=>absurd h (by decide)⟩
abbrev aby(L:List Sx.Obj)(i:Int)(st:Int):=Obj.mk (aL L i).kind (aL L i).count (aL L i).calls ((aL L i).slots.put 2 (abg st)) (aL L i).bytes
theorem VC (L:List Sx.Obj) (i st:Int) (hL:ar L):
 abb (aba (!decide (0<ak L)) (1=en L i st/\L=dg L i st) (abb (aba (!decide ((aL L i).kind=1)) (230=en L i st/\L=dg L i st) (abb (aba (!(decide (0<=st)&&decide (st<=2))) (2=en L i st/\L=dg L i st) (abb (abb (fz L i (aby L i st)=en L i st/\cM L i (aby L i st)=dg L i st)))))))):=by
 delta aba abg aby abb
 have hq:∀b,(!decide (0<ak L))=b->(b=true->ai L=0)/\(b=false->ai L≠0):=fun b hb=>by
  subst hb;refine⟨fun h=>?_,fun h=>?_⟩
  ·have h1:¬0<ak L:=by simpa using h
   unfold ak at h1;omega
  ·have h1:0<ak L:=by simpa using h
   unfold ak at h1;omega
 refine⟨rfl,fun h=>GP (Vq ((hq _ h).1 rfl)) (by omega),fun h=>⟨rfl,fun h2=>?_,fun h2=>⟨rfl,fun h3=>?_,fun h3=>⟨rfl,rfl,?_⟩⟩⟩⟩
 ·exact GP (Hi ((hq _ h).2 rfl) (by simpa using h2)) (by omega)
 ·exact GP (UU ((hq _ h).2 rfl) (by simpa using h2) (by simp only[Bool.not_eq_true',Bool.and_eq_false_iff,decide_eq_false_iff_not]at h3;omega)) (by omega)
 ·have hE:en L i st=0:=Mg ((hq _ h).2 rfl) (by simpa using h2) (by simp only[Bool.not_eq_false',aaX,aaY]at h3;omega)
  rw[hE];exact Me hL hE
theorem WA (L:List Sx.Obj) (i st:Int) (hL:ar L):an Tryz.prog 64 [.lp 0 0,.it .i64 i,.it .i64 st] [.store tS eS L] (C5 (.it .i64 (en L i st)) (dg L i st)) (fun _ _=>False):=
 aY (inl:=(fun f=>f==91||f==98)) (ann:=aQ) (ae bC (ae gd aq)) (aB dz aD) (eh lg) (VC L i st hL) (by kernel_rfl)
theorem NM:kJ Tryz.prog 64 aaa:=
 nV (m:=fun x=>Zc.cn x 0) (fL Pt (fun _=>rfl)) (fun _=>rfl) (fun _ _=>rfl) (fun x=>aY (inl:=(fun f=>f==91||f==98)) (ann:=aQ) (ae bC (ae gd aq)) (aB dz aD) (eh lg) (Q6 x.1 x.2.1) (by kernel_rfl)) (fun x=>aY (inl:=(fun f=>f==91||f==98)) (ann:=aQ) (ae bC (ae gd aq)) (aB dz aD) (eh lg) (TT x.1 x.2.1) (by kernel_rfl)) fun L x hL _ _=>WA L x.1 x.2.1 hL
abbrev abz(nid:Nat):=V.tp [V.sa nid,V.ci IntKind.i64 0]
theorem OD (L:List Sx.Obj) (i st:Int) (hz:HM L i st):
 aba (decide (bD (ai L)=0)) (abb (∀(nid:Nat),some (V.tp [V.sa nid,V.ci IntKind.i64 1])=some (abz nid)/\none=some [aK.arr (some tO) 163 (TL.ob (dg L i st))])) (((!(decide (i<0)||decide (bD (ai L)<=i)))=true->0<=i/\i< ↑(ai L))/\((!(decide (i<0)||decide (bD (ai L)<=i)))=true->i.toNat<ai L)/\aba (decide (i<0)||decide (bD (ai L)<=i)|| !decide ((aj L i.toNat free).kind=1)) (abb (∀(nid:Nat),some (V.tp [V.sa nid,V.ci IntKind.i64 230])=some (abz nid)/\none=some [aK.arr (some tO) 163 (TL.ob (dg L i st))])) (aba (decide (st<0)||decide (2<st)) (abb (∀(nid:Nat),some (V.tp [V.sa nid,V.ci IntKind.i64 2])=some (abz nid)/\none=some [aK.arr (some tO) 163 (TL.ob (dg L i st))])) ((0<=i/\i< ↑(ai L))/\i.toNat<ai L/\abb (dL L i/\abb (∀(nid:Nat),some (abz nid)=some (abz nid)/\some [aK.arr (some tO) 163 (TL.ob (cz L i.toNat (Obj.mk (aj L i.toNat free).kind (aj L i.toNat free).count (aj L i.toNat free).calls ((aj L i.toNat free).slots.put 2 (abg st)) (aj L i.toNat free).bytes)))]=some [aK.arr (some tO) 163 (TL.ob (dg L i st))]))))):=by
 delta aba abg abz abb
 obtain⟨hE,hL⟩:=hz;obtain⟨⟨a,b⟩,c,d,s0,s1⟩:=MA hE;have hl:ai L≠0:=by unfold ai;omega
 have hn:bD (ai L)=(L.length:Int):=rfl;have hlL:ai L=L.length:=rfl;rw[decide_eq_false (by unfold bD;omega:¬bD (ai L)=0),decide_eq_false (by omega:¬i<0),decide_eq_false (by rw[hn];omega:¬bD (ai L)<=i),decide_eq_true d,decide_eq_false (by omega:¬st<0),decide_eq_false (by omega:¬2<st)]
 refine⟨fun h=>by simp at h,fun _=>⟨fun _=>⟨a,b⟩,fun _=>by omega,fun h=>by simp at h,fun _=>⟨fun h=>by simp at h,fun _=>⟨⟨a,b⟩,by omega,rfl,su hL a b,rfl,fun nid=>⟨rfl,?_⟩⟩⟩⟩⟩
 unfold dg;rw[aa4 hE,c];rfl
theorem Mt (L:List Sx.Obj) (i st:Int) (hz:HM L i st):an Tryz.prog 55 [.sa 0,.it .i64 i,.it .i64 st] [.ro (.arr none 163 (.ob L))] (Cz true jJ (fun n=> .tp [.sa n,.ci .i64 0]) (.arr (some tO) 163 (.ob (dg L i st)))) (fun _ _=>False):=
 bj (inl:=(fun f=>f==31)) (ann:=aQ) (ae jy aq) aD (OD L i st hz) (by kernel_rfl)
theorem LP:kJ Tryz.prog 55 RS:=
 Ao W8 (fun _=>rfl) (fun _=>by simp) fun a hq hok=>by
  obtain⟨L,i,st,_⟩:=a;exact Mt L i st hq
theorem RI (L:List Sx.Obj) (m:br) (hs:aw m.data):
 aF IntKind.i64 (bN m.data)/\(decide (bN m.data<=32)&&bK L m.k0&&bK L m.k1&&bK L m.k2)=fk L m:=by
 have hsz:aF IntKind.i64 (bN m.data):=by unfold aw at hs;simp only[aF,bY,bN];omega
 exact⟨hsz,rfl⟩
theorem Cy:cq Tryz.prog 74 VY:=
 eW (aA jc (aA zM bW)) (fun _=>rfl) fun a hq hok=>by
  obtain⟨L,m,_⟩:=a;exact aZ (inl:=bx) (ann:=(iu [(74,3,MV 4)])) (ae yW aq) (RI L m hq) (by kernel_rfl)
theorem T7 (L:List Sx.Obj) (m:br):
 m.code=(aH L m).code/\m.data=(aH L m).data/\ah L m.k0=(aH L m).k0/\ah L m.k1=(aH L m).k1/\ah L m.k2=(aH L m).k2:=by
 exact⟨rfl,rfl,rfl,rfl,rfl⟩
theorem CS:cq Tryz.prog 75 XZ:=
 eW (aA jc (aA zM bW)) (fun _=>rfl) fun a hq hok=>by
  obtain⟨L,m,_⟩:=a;exact aZ (inl:=bx) (ann:=(iu [(75,2,MV 4)])) (ae pd aq) (T7 L m) (by kernel_rfl)
theorem Ot (L:List Sx.Obj) (i:Int) (m:br) (k:Key) (hz:B1 L i m):
 (0<=i/\i< ↑(ai L))/\i.toNat<ai L/\abb (abb (abd (bN m.data)/\aF IntKind.u8 (bN m.data)/\(∃g,qC m.data g/\i=i/\Value.slice none 0 0=Value.slice none 0 0/\0=g/\L=L/\m.code=m.code/\m.data=m.data/\m.k0=m.k0/\m.k1=m.k1/\m.k2=m.k2/\k=k/\Obj.mk (aj L i.toNat free).kind (aj L i.toNat free).count (aj L i.toNat free).calls (((((((aj L i.toNat free).slots.put 2 (abg 1)).put 3 (abg m.code)).put 12 m.k0).put 13 m.k1).put 14 m.k2).put 15 k) (fa.put 0 (U9 (bN m.data)))=rj L i m k g/\abg 1=abg 1/\abg m.code=abg m.code)/\∀(g:Int),qC m.data g->abd (bN m.data)/\aba (decide (g<bN m.data)) (abd (1+g)/\pSz m.data g/\(0<=1+g/\1+g< ↑64)/\abd (g+1)/\∃g',qC m.data g'/\w7 m.data g'<w7 m.data g/\i=i/\Value.slice none 0 0=Value.slice none 0 0/\g+1=g'/\L=L/\m.code=m.code/\m.data=m.data/\m.k0=m.k0/\m.k1=m.k1/\m.k2=m.k2/\k=k/\Obj.mk (rj L i m k g).kind (rj L i m k g).count (rj L i m k g).calls (rj L i m k g).slots ((rj L i m k g).bytes.put (1+g).toNat (sat m.data g.toNat))=rj L i m k g'/\abg 1=abg 1/\abg m.code=abg m.code) (dL L i/\abb (∀(nid:Nat),some (V.sa nid)=some (V.sa nid)/\some [aK.arr (some tO) 163 (TL.ob (cz L i.toNat (rj L i m k g)))]=some [aK.arr (some tO) 163 (TL.ob (rC L i m k))])))):=by
 delta aba abg abd abb
 obtain⟨hp,⟨i0,i1⟩,hs⟩:=hz;have i1':i.toNat<ai L:=by omega
 have hsz:aF IntKind.i64 (bN m.data):=by simp only[aF,bY,bN]at *;omega
 have hs8:aF IntKind.u8 (bN m.data):=by simp only[aF,bY,bN]at *;omega
 have hz:(m.data.size:Int)<=32:=hs;simp only[ko,jr,mC,hU,decide_true,Bool.and_true,Bool.not_true,Bool.or_false,Bool.not_false,Bool.false_eq_true,Bool.true_eq_false,false_implies,implies_true,true_implies,true_and,and_true,and_self];refine⟨⟨i0,i1⟩,i1',hsz,hs8,⟨0,⟨by omega,by omega⟩,rfl,?_⟩,fun g hg=>⟨hsz,fun hlt=>?_,fun hge=>?_⟩⟩
 ·unfold rj AN AR;rw[show(0:Int).toNat=0 from rfl,AJ];rfl
 ·obtain⟨g0,g1⟩:=hg;have hlt:g<(m.data.size:Int):=aa1 hlt;refine⟨by simp only[aF,bY];omega,⟨g0,hlt⟩,⟨by omega,by omega⟩,by simp only[aF,bY];omega,g+1,⟨by omega,by omega⟩,by unfold w7;omega,rfl,?_⟩
  have e:=BP (fa.put 0 (UInt8.ofNat m.data.size)) 1 g.toNat m.data (by omega)
  unfold rj AR;simp only;rw[show(1+g).toNat=1+g.toNat by omega,e,show(g+1).toNat=g.toNat+1 by omega]
 ·obtain⟨g0,g1⟩:=hg;have hge:¬g<(m.data.size:Int):=aa0 hge;have:g=bN m.data:=by unfold bN;omega
  subst this;exact⟨hp,fun nid=>rfl⟩
theorem Oi (L:List Sx.Obj) (i:Int) (m:br) (k:Key) (hz:B1 L i m):an Tryz.prog 77 [.sa 0,.it .i64 i,jG m,.key k] [.ro (.arr none 163 (.ob L))] (Cz true jJ (fun n=> .sa n) (.arr (some tO) 163 (.ob (rC L i m k)))) (fun _ _=>False):=
 bj (inl:=(fun f=>f==31)) (ann:=(iu [(77,7,YB [0,1,6,7,8,9] (fun g=> [(10,.it .i64 g)]) 9 (fun g=> .blk tO (.ob (rj L i m k g))) (qC m.data) (w7 m.data))])) (ae jy aq) aD (Ot L i m k hz) (by kernel_rfl)
theorem EN:kJ Tryz.prog 77 UF:=
 Ao Xe (fun _=>rfl) (fun _=>by simp) fun a hq hok=>by
  obtain⟨L,i,m,k,_⟩:=a;exact Oi L i m k hq
abbrev abA(L:List Sx.Obj)(i:Int)(md:Int)(k:Key):=aj (dg L i (aj [0,2,1,0] md.toNat 0)) k.oid.toNat free
abbrev abC(md:Int):=aj [0,2,1,0] md.toNat 0
abbrev abD(L:List Sx.Obj)(i:Int)(md:Int)(k:Key):=cz (dg L i (abC md)) k.oid.toNat (Obj.mk (abA L i md k).kind (abA L i md k).count ((abA L i md k).calls+1) (abA L i md k).slots (abA L i md k).bytes)
theorem Uk (L:List Sx.Obj) (i:Int) (k:Key) (md:Int) (m:br) (hL:ar L) (hs:aw m.data):
 aba (decide (bD (ai L)=0)) (lM L i k md m=false/\1=b6 L i k md m) (((!(decide (md<1)||decide (3<md)|| !bK L k))=true->aw m.data)/\aba (decide (md<1)||decide (3<md)|| !bK L k|| !fk L m) (lM L i k md m=false/\2=b6 L i k md m) (aba (!decide (bz L i=1)) (lM L i k md m=false/\230=b6 L i k md m) (aba (!aU L k|| !decide (k.kind=6)&& !decide (k.kind=7)) (lM L i k md m=false/\231=b6 L i k md m) (aba (decide (bz L k.oid<0)) (lM L i k md m=false/\231=b6 L i k md m) (aba (decide (k.kind=6)&& !decide (bz L k.oid=0)&& !(decide (md=3)&&decide (k.oid=i))||decide (k.kind=7)&& !decide (bz L k.oid=2)) (lM L i k md m=false/\232=b6 L i k md m) ((decide (k.kind=7)=true->0<=k.oid/\k.oid< ↑(ai L))/\(decide (k.kind=7)=true->k.oid.toNat<ai L)/\((decide (md=1)&& !(decide (k.kind=7)&&decide (4294967295<=(aj L k.oid.toNat free).calls)))=true->0<=i/\i< ↑(ai L))/\((decide (md=1)&& !(decide (k.kind=7)&&decide (4294967295<=(aj L k.oid.toNat free).calls)))=true->i.toNat<ai L)/\aba (decide (k.kind=7)&&decide (4294967295<=(aj L k.oid.toNat free).calls)||decide (md=1)&&decide (4294967295<=(aj L i.toNat free).calls)) (lM L i k md m=false/\233=b6 L i k md m) ((aba (decide (md=1)) ((0<=i/\i< ↑(ai L))/\i.toNat<ai L/\(0<=i/\i< ↑(ai L))/\i.toNat<ai L/\∃g:Unit,nM L i k md m/\i=i/\md=md/\Value.slice none 0 0=Value.slice none 0 0/\k.kind=k.kind/\L=L/\k=k/\(aH L m).code=(aH L m).code/\(aH L m).data=(aH L m).data/\(aH L m).k0=(aH L m).k0/\(aH L m).k1=(aH L m).k1/\(aH L m).k2=(aH L m).k2/\Key.mk 7 i (aj L i.toNat free).count (aj L i.toNat free).calls void.rights void.value=iL L i md) (∃g:Unit,nM L i k md m/\i=i/\md=md/\Value.slice none 0 0=Value.slice none 0 0/\k.kind=k.kind/\L=L/\k=k/\(aH L m).code=(aH L m).code/\(aH L m).data=(aH L m).data/\(aH L m).k0=(aH L m).k0/\(aH L m).k1=(aH L m).k1/\(aH L m).k2=(aH L m).k2/\void=iL L i md))/\∀(g:Unit),nM L i k md m->(0<=md/\md< ↑4)/\abb (HM L i (abC md)/\(true=false->False)/\(true=true->aba (decide (k.kind=7)) ((0<=k.oid/\k.oid< ↑(ai (dg L i (abC md))))/\k.oid.toNat<ai (dg L i (abC md))/\aF IntKind.i64 ((abA L i md k).calls+1)/\dL (dg L i (abC md)) k.oid/\abb (B1 (abD L i md k) k.oid (aH L m)/\(true=false->False)/\(true=true->lM L i k md m=true/\0=b6 L i k md m/\rC (abD L i md k) k.oid (aH L m) (iL L i md)=fe L i k md m))) (abb (B1 (dg L i (abC md)) k.oid (aH L m)/\(true=false->False)/\(true=true->lM L i k md m=true/\0=b6 L i k md m/\rC (dg L i (abC md)) k.oid (aH L m) (iL L i md)=fe L i k md m)))))))))))):=by
 delta aba abD abC abA abb
 simp only[ko,jr,mC,hU,decide_true,Bool.and_true,Bool.not_true,Bool.or_false,Bool.not_false,Bool.false_eq_true,Bool.true_eq_false,false_implies,implies_true,true_implies,true_and,and_true,and_self];refine⟨fun h=>?_,fun h=>⟨fun _=>hs,fun h2=>?_,fun h2=>⟨fun h3=>?_,fun h3=>⟨fun h4=>?_,fun h4=>⟨fun h5=>?_,fun h5=>⟨fun h6=>?_,fun h6=>?_⟩⟩⟩⟩⟩⟩
 ·have hl:ai L=0:=by have h1:bD (ai L)=0:=aa1 h;unfold bD at h1;omega
  exact tX (V3 hl) (by omega)
 all_goals
  have hl:ai L≠0:=by have h1:¬bD (ai L)=0:=aa0 h;unfold bD at h1;omega
 ·exact tX (D4 hl (U6.1 h2)) (by omega)
 all_goals
  have b:¬(¬(1<=md/\md<=3)\/bK L k=false\/fk L m=false):=fun hh=>by rw[U6.2 hh]at h2;simp at h2
 ·exact tX (Gz hl b (by simpa using h3)) (by omega)
 all_goals
  have c:bz L i=1:=by simpa using h3
 ·exact tX (zj hl b c ((UM.1 h4).imp id .inl)) (by omega)
 all_goals
  have d1:¬(aU L k=false\/¬(k.kind=6\/k.kind=7)):=fun hh=>by rw[UM.2 hh]at h4;simp at h4
 ·exact tX (zj hl b c (.inr (.inr (aa1 h5)))) (by omega)
 all_goals
  have d:¬(aU L k=false\/¬(k.kind=6\/k.kind=7)\/bz L k.oid<0):=by
   rintro(h|h|h)
   ·exact d1 (.inl h)
   ·exact d1 (.inr h)
   ·exact aa0 h5 h
 ·exact tX (C9 hl b c d (Vn.1 h6)) (by omega)
 have e:¬((k.kind=6/\bz L k.oid≠0/\¬(md=3/\k.oid=i))\/(k.kind=7/\bz L k.oid≠2)):=fun hh=>by rw[Vn.2 hh]at h6;simp at h6
 have b1:1<=md/\md<=3:=by
  by_cases h:1<=md/\md<=3
  ·exact h
  ·exact absurd (.inl h) b
 have d3:0<=bz L k.oid:=by
  by_cases h:bz L k.oid<0
  ·exact absurd (.inr (.inr h)) d
  ·omega
 obtain⟨i0,i1,i2,i3⟩:=oO (qy.1.1 (by omega:0<=bz L i))
 obtain⟨k0,k1,k2,k3⟩:=oO (qy.1.1 d3);have hlL:ai L=L.length:=rfl;have hk:(0<=k.oid/\k.oid<(ai L:Int))/\k.oid.toNat<ai L:=by omega
 have hi:(0<=i/\i<(ai L:Int))/\i.toNat<ai L:=by omega
 refine⟨fun _=>hk.1,fun _=>hk.2,fun _=>hi.1,fun _=>hi.2,fun h7=>tX (Dm hl b c d e (UL.1 h7)) (by omega),fun h7=>?_⟩
 have hE:b6 L i k md m=0:=YR hl b c d e fun hh=>by rw[UL.2 hh]at h7;simp at h7
 obtain⟨_,_,⟨hb,hb1⟩,⟨o1,l1⟩,⟨o2,l2⟩,⟨g1,g1c⟩,g2,hsz,hA⟩:=yZ hL hE;obtain⟨n0,n1,n2,n3⟩:=Gn b1;obtain⟨_,_,hend⟩:=FU hL hE;have hC:lM L i k md m=true:=by unfold lM;rw[hE];rfl
 have hq:fe L i k md m=rC (gX L i k md) k.oid (aH L m) (iL L i md):=by unfold fe;rw[aa4 hE]
 rw[n2,hb1,hC,hE,hq];have hl1:ai (gS L i md)=L.length:=l1;have hl2:ai (gX L i k md)=L.length:=l2;refine⟨⟨fun h1=>⟨hi.1,hi.2,hi.1,hi.2,⟨⟩,hE,?_⟩,fun h1=>⟨⟨⟩,hE,?_⟩⟩,fun _ _=>⟨by omega,⟨hb,hL⟩,fun h7=>?_,fun h7=>?_⟩⟩
 ·unfold iL;rw[aa4 (aa1 h1)];rfl
 ·unfold iL;rw[aa3 (aa0 h1)]
 ·have h7':=aa1 h7;have hc:gX L i k md=cz (gS L i md) k.oid.toNat (NR (aj (gS L i md) k.oid.toNat free)):=by unfold gX;rw[aa4 h7']
  have ho:=dT.1 (dq o1 k.oid.toNat (by omega))
  refine⟨by omega,by omega,by have:=ho.2.2.2.2.2.2.1;have:=ho.2.2.2.2.2.2.2.1;simp only[aF,bY];omega,su o1 k0 (by omega),?_,?_⟩
  ·have:=su o2 k0 (by omega)
   rw[hc]at this;exact⟨this,⟨k0,by rw[show∀x,ai (cz (gS L i md) k.oid.toNat x)=L.length from fun x=>by unfold ai;rw[iv,l1]];omega⟩,hsz⟩
  ·rw[hc];exact⟨rfl,rfl,rfl⟩
 ·have h7':=aa0 h7;have hc:gX L i k md=gS L i md:=by unfold gX;rw[aa3 h7']
  rw[hc]at *;exact⟨⟨su o1 k0 (by omega),by omega,hsz⟩,rfl,rfl,rfl⟩
theorem TZ (L:List Sx.Obj) (i:Int) (k:Key) (md:Int) (m:br) (hL:ar L) (hs:aw m.data):an Tryz.prog 51 [.sa 0,.it .i64 i,.key k,.it .i64 md,jG m] [.ro (.arr none 163 (.ob L))] (xY (lM L i k md m) (fe L i k md m) [.it .i64 (b6 L i k md m)]) (fun _ _=>False):=
 bj (inl:=bx) (ann:=(iu [(51,2000021,QJ [0,1,3,7,9,10,11,12,14] (fun(_:Unit)=> []) (fun _=> [(14,.blk tK (.key (iL L i md)))]) (fun _=> []) (fun _=>nM L i k md m))])) (ae yW (ae Cy (ae CS (ae vr (ae mf (ae jy aq)))))) (aB LP (aB EN aD)) (Uk L i k md m hL hs) (by kernel_rfl)
theorem SM:kJ Tryz.prog 51 Yh:=
 iJ (m:=fun x=>ZE.cn x 0) (fL MI (fun _=>rfl)) (fun _=>rfl) (fun _ _=>rfl) fun L x hq=>TZ L x.1 x.2.1 x.2.2.1 x.2.2.2.1 hq.1 hq.2
theorem RC (L:List Sx.Obj) (i:Int) (m:br) (hL:ar L) (hs:aw m.data):
 aba (decide (bD (ai L)=0)) (o7 L i m=false/\1=fY L i m) (aw m.data/\aba (!fk L m) (o7 L i m=false/\2=fY L i m) (aba (!decide (bz L i=1)) (o7 L i m=false/\230=fY L i m) (true=true/\B1 L i (aH L m)/\(true=false->False)/\(true=true->o7 L i m=true/\0=fY L i m/\rC L i (aH L m) void=gr L i m)))):=by
 delta aba
 have no:∀e,fY L i m=e->e≠0->o7 L i m=false/\e=fY L i m:=fun e h he=>⟨by unfold o7;rw[h];simpa using he,h.symm⟩
 simp only[ko,jr,mC,hU,decide_true,Bool.and_true,Bool.not_true,Bool.or_false,Bool.not_false,Bool.false_eq_true,Bool.true_eq_false,false_implies,implies_true,true_implies,true_and,and_true,and_self];refine⟨fun h=>no _ ?_ (by omega),fun h=>⟨hs,fun h2=>no _ ?_ (by omega),fun h2=>⟨fun h3=>no _ ?_ (by omega),fun h3=>?_⟩⟩⟩
 ·have hl:ai L=0:=by have h1:bD (ai L)=0:=aa1 h;unfold bD at h1;omega
  unfold fY;rw[aa4 hl]
 ·have hl:ai L≠0:=by have h1:¬bD (ai L)=0:=aa0 h;unfold bD at h1;omega
  unfold fY;rw[aa3 hl,aa4 (by simpa using h2)]
 ·have hl:ai L≠0:=by have h1:¬bD (ai L)=0:=aa0 h;unfold bD at h1;omega
  unfold fY;rw[aa3 hl,aa3 (by simpa using h2),aa4 (by simpa using h3)]
 ·have hl:ai L≠0:=by have h1:¬bD (ai L)=0:=aa0 h;unfold bD at h1;omega
  have h2':fk L m=true:=by simpa using h2
  have h3':bz L i=1:=by simpa using h3
  have hE:fY L i m=0:=by unfold fY;rw[aa3 hl,aa3 (by simpa using h2'),aa3 (by simpa using h3')]
  obtain⟨a,b,c,d⟩:=oO (qy.1.1 (by omega:0<=bz L i))
  refine⟨⟨su hL a b,⟨a,b⟩,(Dl h2':bN m.data<=32)⟩,by unfold o7;rw[hE];rfl,hE.symm,?_⟩
  unfold gr;rw[aa4 hE]
theorem TQ (L:List Sx.Obj) (i:Int) (m:br) (hL:ar L) (hs:aw m.data):an Tryz.prog 54 [.sa 0,.it .i64 i,jG m] [.ro (.arr none 163 (.ob L))] (xY (o7 L i m) (gr L i m) [.it .i64 (fY L i m)]) (fun _ _=>False):=
 bj (inl:=bx) (ann:=aQ) (ae Cy (ae CS (ae vr aq))) (aB EN aD) (RC L i m hL hs) (by kernel_rfl)
theorem Us:kJ Tryz.prog 54 WO:=
 iJ (m:=fun x=>Zg.cn x 0) (fL Qx (fun _=>rfl)) (fun _=>rfl) (fun _ _=>rfl) fun L x hq=>TQ L x.1 x.2.1 hq.1 hq.2
theorem Jb:
 ∀(nid:Nat),some (V.mp nid)=some (V.mp nid)/\some [aK.mp IntKind.i64 [6,7] [V.fn 126 [],V.fn 127 []]]=some [aK.mp IntKind.i64
  [6,7] [V.fn 126 [],V.fn 127 []]]:=by
 exact fun nid=>⟨rfl,rfl⟩
theorem wL:cq Tryz.prog 95 (A0 kdX kdN):=vA (π:= [0]) (by decide) (fun _=>rfl) (bj (inl:=bx) (ann:=aQ) aq aD Jb (by kernel_rfl))
theorem rW:cq Tryz.prog 36 GU:=Ur bC
theorem Tl (i:Int) (m:br) (hs:aw m.data):
 true=true/\1=fY [] i m:=by
 exact⟨rfl,rfl⟩
theorem Rs (i:Int) (m:br) (hs:aw m.data):
 true=true/\1=fY [] i m:=by
 exact⟨rfl,rfl⟩
theorem WY (L:List Sx.Obj) (i:Int) (m:br) (hL:ar L) (hs:aw m.data):
 abb (aba (!decide (0<ak L)) (1=fY L i m/\L=gr L i m) (abb (abd (bN m.data)/\abb (aba (!decide (bN m.data<=32)) (2=fY L i m/\L=gr L i m) (abb (abb (aba (!(decide (bw m.k0=0)&&(!ba m.k0||decide (cw m.k0<ak L)))) (2=fY L i m/\L=gr L i m) (abb (abb (aba (!(decide (bw m.k1=0)&&(!ba m.k1||decide (cw m.k1<ak L)))) (2=fY L i m/\L=gr L i m) (abb (abb (aba (!(decide (bw m.k2=0)&&(!ba m.k2||decide (cw m.k2<ak L)))) (2=fY L i m/\L=gr L i m) (abb (aba (!(dP L i&&decide (iE L i=1))) (230=fY L i m/\L=gr L i m) (abb (abb (abb (abb (abb (abd (bN m.data)/\aF IntKind.u8 (bN m.data)/\B8 1 64 64/\abb (0=fY L i m/\cM L i (Obj.mk (aL L i).kind (aL L i).count (aL L i).calls (((((((aL L i).slots.put 2 (abg 1)).put 3 (abg m.code)).put 12 (ah L m.k0)).put 13 (ah L m.k1)).put 14 (ah L m.k2)).put 15 void) (Ks (fa.put 0 (U9 (bN m.data))) (Int.toNat 1) (Int.toNat 64) m.data))=gr L i m)))))))))))))))))))))):=by
 delta aba abg abd abb
 have no:∀e,fY L i m=e->e≠0->e=fY L i m/\L=gr L i m:=fun e h he=>⟨h.symm,by unfold gr;rw[h,aa3 he]⟩
 have hq1:(!decide (0<ak L))=true->ai L=0:=fun h=>by
  have h1:¬0<ak L:=by simpa using h
  unfold ak at h1;omega
 have hq0:(!decide (0<ak L))=false->ai L≠0:=fun h=>by
  have h1:0<ak L:=by simpa using h
  unfold ak at h1;omega
 have hsz:aF IntKind.i64 (bN m.data):=by unfold aw at hs;simp only[aF,bY,bN];omega
 have hs8:bN m.data<=32->aF IntKind.u8 (bN m.data):=fun h=>by simp only[aF,bY,bN]at *;omega
 simp only[ve,Ht];simp only[ko,jr,mC,hU,decide_true,Bool.and_true,Bool.not_true,Bool.or_false,Bool.not_false,Bool.false_eq_true,Bool.true_eq_false,false_implies,implies_true,true_implies,true_and,and_true,and_self];have mk:fk L m=(decide (bN m.data<=32)&&bK L m.k0&&bK L m.k1&&bK L m.k2):=rfl
 have bad:ai L≠0->fk L m=false->2=fY L i m/\L=gr L i m:=fun h hm=>no _ (by unfold fY;rw[aa3 h,aa4 hm]) (by omega)
 refine⟨fun h=>no _ (by unfold fY;rw[aa4 (hq1 h)]) (by omega),fun h=>⟨hsz,fun g1=>bad (hq0 h) ?_,fun g1=>⟨fun g2=>bad (hq0 h) ?_,fun g2=>⟨fun g3=>bad (hq0 h) ?_,fun g3=>⟨fun g4=>bad (hq0 h) ?_,fun g4=>⟨fun g5=>no _ ?_ (by omega),fun g5=>?_⟩⟩⟩⟩⟩⟩
 ·rw[mk,show decide (bN m.data<=32)=false by simpa using g1];rfl
 ·rw[mk,show bK L m.k0=false by simpa using g2];simp
 ·rw[mk,show bK L m.k1=false by simpa using g3];simp
 ·rw[mk,show bK L m.k2=false by simpa using g4];simp
 all_goals
  have hm:fk L m=true:=by
   rw[mk,show decide (bN m.data<=32)=true by simpa using g1,show bK L m.k0=true by simpa using g2,show bK L m.k1=true by simpa using g3,show bK L m.k2=true by simpa using g4];rfl
 ·unfold fY;rw[aa3 (hq0 h),aa3 (by simp[hm]),aa4 (by simpa using g5)]
 have g5':bz L i=1:=by simpa using g5
 have hE:fY L i m=0:=by unfold fY;rw[aa3 (hq0 h),aa3 (by simp[hm]),aa3 (by omega)]
 obtain⟨a,b,c,d⟩:=oO (qy.1.1 (by omega:0<=bz L i))
 refine⟨hsz,hs8 (Dl hm),⟨by omega,by omega,by omega⟩,hE.symm,?_⟩
 obtain⟨f0,f1,f2⟩:=CU (by have:=gy hL;omega:0<L.length) m
 have ho:=FG (m:=aH L m) (a:=void) (dq hL i.toNat (by omega)) d f0 f1 f2 (yT (by omega))
 have e:Obj.mk (aL L i).kind (aL L i).count (aL L i).calls (((((((aL L i).slots.put 2 (Key.mk 1 void.oid void.count void.call void.rights 1)).put 3 (Key.mk 1 void.oid void.count void.call void.rights m.code)).put 12 (ah L m.k0)).put 13 (ah L m.k1)).put 14 (ah L m.k2)).put 15 void) (Ks (fa.put 0 (U9 (bN m.data))) (Int.toNat 1) (Int.toNat 64) m.data)=zY (aL L i) (aH L m) void:=by
  rw[Nw (Dl hm)];rfl
 rw[e,c,(lV a b ho).1];unfold gr rC;rw[aa4 hE]
theorem WR (L:List Sx.Obj) (i:Int) (m:br) (hL:ar L) (hs:aw m.data):an Tryz.prog 63 [.lp 0 0,.it .i64 i,jG m] [.store tS eS L] (C5 (.it .i64 (fY L i m)) (gr L i m)) (fun _ _=>False):=
 aY (inl:=(fun f=>f==91||f==94||f==93||f==100||f==129||f==96||f==128||f==98)) (ann:=(iu [(94,2,MV 4)])) (ae bC (ae gd (ae ia (ae gx (ae dH (ae rH aq)))))) (aB dz aD) (eh lg) (WY L i m hL hs) (by kernel_rfl)
theorem WL:kJ Tryz.prog 63 Y7:=
 Ci (m:=fun x=>Zg.cn x 0) (fL Qx (fun _=>rfl)) (fun _=>rfl) (fun _ _=>rfl) (fun x hs=>aY (inl:=(fun f=>f==91||f==94||f==93||f==100||f==129||f==96||f==128||f==98)) (ann:=aQ) (ae rW (ae gd (ae ia (ae gx (ae dH (ae rH aq)))))) (aB dz aD) (eh lg) (Tl x.1 x.2.1 hs) (by kernel_rfl)) (fun x hs=>aY (inl:=(fun f=>f==91||f==94||f==93||f==100||f==129||f==96||f==128||f==98)) (ann:=aQ) (ae rW (ae gd (ae ia (ae gx (ae dH (ae rH aq)))))) (aB dz aD) (eh lg) (Rs x.1 x.2.1 hs) (by kernel_rfl)) fun L x hq=>WR L x.1 x.2.1 hq.1 hq.2
theorem T8 (i:Int) (k:Key) (md:Int) (m:br) (hs:aw m.data):
 true=true/\1=b6 [] i k md m:=by
 exact⟨rfl,rfl⟩
theorem Uv (i:Int) (k:Key) (md:Int) (m:br) (hs:aw m.data):
 true=true/\1=b6 [] i k md m:=by
 exact⟨rfl,rfl⟩
theorem VT (L:List Sx.Obj) (i:Int) (k:Key) (md:Int) (m:br) (hL:ar L) (hs:aw m.data):
 abb (aba (!decide (0<ak L)) (1=b6 L i k md m/\L=fe L i k md m) (abb (abb (aba (!(decide (md=1)||(decide (md=2)||decide (md=3)))) (2=b6 L i k md m/\L=fe L i k md m) (abb (abb (aba (!(decide (bw k=0)&&(!ba k||decide (cw k<ak L)))) (2=b6 L i k md m/\L=fe L i k md m) (abb (abd (bN m.data)/\abb (aba (!decide (bN m.data<=32)) (2=b6 L i k md m/\L=fe L i k md m) (abb (abb (aba (!(decide (bw m.k0=0)&&(!ba m.k0||decide (cw m.k0<ak L)))) (2=b6 L i k md m/\L=fe L i k md m) (abb (abb (aba (!(decide (bw m.k1=0)&&(!ba m.k1||decide (cw m.k1<ak L)))) (2=b6 L i k md m/\L=fe L i k md m) (abb (abb (aba (!(decide (bw m.k2=0)&&(!ba m.k2||decide (cw m.k2<ak L)))) (2=b6 L i k md m/\L=fe L i k md m) (abb (aba (!(dP L i&&decide (iE L i=1))) (230=b6 L i k md m/\L=fe L i k md m) (abb (aba (!((decide (k.kind=6)||decide (k.kind=7))&&aU L k)) (231=b6 L i k md m/\L=fe L i k md m) ((aba (decide (k.kind=6)) (abb (abb (aba (!dP L k.oid) (231=b6 L i k md m/\L=fe L i k md m) (abb (aba (!(decide (iE L k.oid=0)||decide (md=3)&&decide (k.oid=i))) (232=b6 L i k md m/\L=fe L i k md m) (∃g:Unit,IA L i k md m/\i=i/\md=md/\L=L/\k=k/\m.code=m.code/\m.data=m.data/\ah L m.k0=ah L m.k0/\ah L m.k1=ah L m.k1/\ah L m.k2=ah L m.k2/\i=i/\k=k/\md=md/\z9 (decide (md=1)) 2 (z9 (decide (md=2)) 1 (z9 (decide (md=3)) 0 0))=jY md/\aL L i=aL L i)))))) (aba (decide (k.kind=7)) (abb (abb (aba (!dP L k.oid) (231=b6 L i k md m/\L=fe L i k md m) (abb (aba (!decide (iE L k.oid=2)) (232=b6 L i k md m/\L=fe L i k md m) (abb (aba (!decide ((aL L k.oid).calls<4294967295)) (233=b6 L i k md m/\L=fe L i k md m) (∃g:Unit,IA L i k md m/\i=i/\md=md/\L=L/\k=k/\m.code=m.code/\m.data=m.data/\ah L m.k0=ah L m.k0/\ah L m.k1=ah L m.k1/\ah L m.k2=ah L m.k2/\i=i/\k=k/\md=md/\z9 (decide (md=1)) 2 (z9 (decide (md=2)) 1 (z9 (decide (md=3)) 0 0))=jY md/\aL L i=aL L i)))))))) False))/\∀(g:Unit),IA L i k md m->abb (aba (!(!decide (md=1)||decide ((aL L i).calls<4294967295))) (233=b6 L i k md m/\L=fe L i k md m) ((aba (decide (md=1)) (∃g:Unit,nM L i k md m/\i=i/\md=md/\L=L/\k=k/\m.code=m.code/\m.data=m.data/\ah L m.k0=ah L m.k0/\ah L m.k1=ah L m.k1/\ah L m.k2=ah L m.k2/\i=i/\k=k/\md=md/\jY md=jY md/\aL L i=aL L i/\Key.mk 7 i (aL L i).count (aL L i).calls void.rights void.value=iL L i md) (∃g:Unit,nM L i k md m/\i=i/\md=md/\L=L/\k=k/\m.code=m.code/\m.data=m.data/\ah L m.k0=ah L m.k0/\ah L m.k1=ah L m.k1/\ah L m.k2=ah L m.k2/\i=i/\k=k/\md=md/\jY md=jY md/\aL L i=aL L i/\void=iL L i md))/\∀(g:Unit),nM L i k md m->(abb (abb (abb (abb (∃g:Unit,nM L i k md m/\i=i/\md=md/\cM L i (Obj.mk (aL L i).kind (aL L i).count (aL L i).calls ((aL L i).slots.put 2 (abg (jY md))) (aL L i).bytes)=gS L i md/\k=k/\m.code=m.code/\m.data=m.data/\ah L m.k0=ah L m.k0/\ah L m.k1=ah L m.k1/\ah L m.k2=ah L m.k2/\i=i/\k=k/\md=md/\jY md=jY md/\aL L i=aL L i/\iL L i md=iL L i md)))))/\∀(g:Unit),nM L i k md m->(aba (decide (k.kind=7)) (abb (abb (abd ((aL (gS L i md) k.oid).calls+1)/\abb (∃g:Unit,nM L i k md m/\i=i/\md=md/\cM (gS L i md) k.oid (Obj.mk (aL (gS L i md) k.oid).kind (aL (gS L i md) k.oid).count ((aL (gS L i md) k.oid).calls+1) (aL (gS L i md) k.oid).slots (aL (gS L i md) k.oid).bytes)=gX L i k md/\k=k/\m.code=m.code/\m.data=m.data/\ah L m.k0=ah L m.k0/\ah L m.k1=ah L m.k1/\ah L m.k2=ah L m.k2/\i=i/\k=k/\md=md/\jY md=jY md/\aL L i=aL L i/\iL L i md=iL L i md)))) (∃g:Unit,nM L i k md m/\i=i/\md=md/\gS L i md=gX L i k md/\k=k/\m.code=m.code/\m.data=m.data/\ah L m.k0=ah L m.k0/\ah L m.k1=ah L m.k1/\ah L m.k2=ah L m.k2/\i=i/\k=k/\md=md/\jY md=jY md/\aL L i=aL L i/\iL L i md=iL L i md))/\∀(g:Unit),nM L i k md m->abb (abb (abb (abb (abb (abd (bN m.data)/\aF IntKind.u8 (bN m.data)/\B8 1 64 64/\abb (0=b6 L i k md m/\cM (gX L i k md) k.oid (Obj.mk (aL (gX L i k md) k.oid).kind (aL (gX L i k md) k.oid).count (aL (gX L i k md) k.oid).calls (((((((aL (gX L i k md) k.oid).slots.put 2 (abg 1)).put 3 (abg m.code)).put 12 (ah L m.k0)).put 13 (ah L m.k1)).put 14 (ah L m.k2)).put 15 (iL L i md)) (Ks (fa.put 0 (U9 (bN m.data))) (Int.toNat 1) (Int.toNat 64) m.data))=fe L i k md m)))))))))))))))))))))))))))))))):=by
 delta aba abg abd abb
 have hq1:(!decide (0<ak L))=true->ai L=0:=fun h=>by
  have h1:¬0<ak L:=by simpa using h
  unfold ak at h1;omega
 have hq0:(!decide (0<ak L))=false->ai L≠0:=fun h=>by
  have h1:0<ak L:=by simpa using h
  unfold ak at h1;omega
 have hsz:aF IntKind.i64 (bN m.data):=by unfold aw at hs;simp only[aF,bY,bN];omega
 have hs8:bN m.data<=32->aF IntKind.u8 (bN m.data):=fun h=>by simp only[aF,bY,bN]at *;omega
 simp only[ve,Ht];simp only[ko,jr,mC,hU,decide_true,Bool.and_true,Bool.not_true,Bool.or_false,Bool.not_false,Bool.false_eq_true,Bool.true_eq_false,false_implies,implies_true,true_implies,true_and,and_true,and_self];have mk:fk L m=(decide (bN m.data<=32)&&bK L m.k0&&bK L m.k1&&bK L m.k2):=rfl
 refine⟨fun h=>nz (V3 (hq1 h)) (by omega),fun h=>⟨fun c1=>nz (D4 (hq0 h) (.inl ?_)) (by omega),fun c1=>⟨fun c2=>nz (D4 (hq0 h) (.inr (.inl ?_))) (by omega),fun c2=>⟨hsz,fun g1=>nz (D4 (hq0 h) (.inr (.inr ?_))) (by omega),fun g1=>⟨fun g2=>nz (D4 (hq0 h) (.inr (.inr ?_))) (by omega),fun g2=>⟨fun g3=>nz (D4 (hq0 h) (.inr (.inr ?_))) (by omega),fun g3=>⟨fun g4=>nz (D4 (hq0 h) (.inr (.inr ?_))) (by omega),fun g4=>?_⟩⟩⟩⟩⟩⟩⟩
 ·simp at c1;omega
 ·simpa using c2
 ·rw[mk,show decide (bN m.data<=32)=false by simpa using g1];rfl
 ·rw[mk,show bK L m.k0=false by simpa using g2];simp
 ·rw[mk,show bK L m.k1=false by simpa using g3];simp
 ·rw[mk,show bK L m.k2=false by simpa using g4];simp
 have hl:=hq0 h;have b1:1<=md/\md<=3:=by simp at c1;omega
 have b2:bK L k=true:=by simpa using c2
 have b3:fk L m=true:=by
  rw[mk,show decide (bN m.data<=32)=true by simpa using g1,show bK L m.k0=true by simpa using g2,show bK L m.k1=true by simpa using g3,show bK L m.k2=true by simpa using g4];rfl
 have b:¬(¬(1<=md/\md<=3)\/bK L k=false\/fk L m=false):=by
  rw[b2,b3];rintro(x|x|x)
  ·exact x b1
  ·exact Bool.noConfusion x
  ·exact Bool.noConfusion x
 refine⟨fun g5=>nz (Gz hl b (by simpa using g5)) (by omega),fun g5=>?_⟩
 have c:bz L i=1:=by simpa using g5
 refine⟨fun g6=>nz (zj hl b c ?_) (by omega),fun g6=>?_⟩
 ·simp only[Bool.not_eq_true',Bool.and_eq_false_iff,Bool.or_eq_false_iff,decide_eq_false_iff_not]at g6;rcases g6 with⟨x,y⟩|x
  ·exact .inr (.inl (by omega))
  ·exact .inl x
 have d1:(k.kind=6\/k.kind=7)/\aU L k=true:=by simp at g6;exact⟨by omega,g6.2⟩
 have hd:(!dP L k.oid)=true->231=b6 L i k md m/\L=fe L i k md m:=fun x=>nz (zj hl b c (.inr (.inr (qy.2.2 (by simpa using x))))) (by omega)
 have dd:0<=bz L k.oid->¬(aU L k=false\/¬(k.kind=6\/k.kind=7)\/bz L k.oid<0):=fun h0=>by
  rw[d1.2];rintro(x|x|x)
  ·exact Bool.noConfusion x
  ·exact x d1.1
  ·omega
 have hd':(!dP L k.oid)=false->0<=bz L k.oid/\iE L k.oid=bz L k.oid:=fun x=>by
  have hb:dP L k.oid=true:=by simpa using x
  exact⟨qy.1.2 hb,ZT hb⟩
 obtain⟨n0,n1,_,n3⟩:=Gn b1;rw[n3];refine⟨⟨fun h6=>⟨hd,fun x=>⟨fun y=>?_,fun y=>⟨⟨⟩,?_,rfl⟩⟩⟩,fun h6=>⟨fun h7=>⟨hd,fun x=>⟨fun y=>?_,fun y=>⟨fun z=>?_,fun z=>⟨⟨⟩,?_,rfl⟩⟩⟩⟩,fun h7=>?_⟩⟩,fun _ hF=>?_⟩
 ·obtain⟨p0,pv⟩:=hd' x;have h6':=aa1 h6;rw[pv]at y;refine nz (C9 hl b c (dd p0) (.inl ⟨h6',?_⟩)) (by omega)
  simp only[Bool.not_eq_true',Bool.or_eq_false_iff,Bool.and_eq_false_iff,decide_eq_false_iff_not]at y;exact⟨y.1,fun hh=>y.2.elim (fun u=>u hh.1) (fun u=>u hh.2)⟩
 ·obtain⟨p0,pv⟩:=hd' x;have h6':=aa1 h6;rw[pv]at y;simp only[Bool.not_eq_false',Bool.or_eq_true,aaX,aaY]at y;refine⟨hl,b1,b2,b3,c,d1.2,d1.1,p0,?_,fun hh=>by omega⟩
  rintro(⟨_,u,v⟩|⟨u,_⟩)
  ·exact y.elim u v
  ·omega
 ·obtain⟨p0,pv⟩:=hd' x;have h7':=aa1 h7;rw[pv]at y;exact nz (C9 hl b c (dd p0) (.inr ⟨h7',by simpa using y⟩)) (by omega)
 ·obtain⟨p0,pv⟩:=hd' x;have h7':=aa1 h7;rw[pv]at y;have y':bz L k.oid=2:=by simpa using y
  obtain⟨_,_,k2,_⟩:=oO (qy.1.1 p0);rw[k2]at z;refine nz (Dm hl b c (dd p0) ?_ (.inl ⟨h7',by simpa using z⟩)) (by omega)
  rintro(⟨u,_⟩|⟨_,u⟩)<;>omega
 ·obtain⟨p0,pv⟩:=hd' x;have h7':=aa1 h7;rw[pv]at y;have y':bz L k.oid=2:=by simpa using y
  obtain⟨_,_,k2,_⟩:=oO (qy.1.1 p0);rw[k2]at z;have z':(aj L k.oid.toNat free).calls<4294967295:=by simpa using z
  refine⟨hl,b1,b2,b3,c,d1.2,d1.1,p0,?_,fun hh=>by omega⟩
  rintro(⟨u,_⟩|⟨_,u⟩)<;>omega
 ·have h6':=aa0 h6;have h7':=aa0 h7;omega
 obtain⟨_,_,_,_,_,_,_,p0,f9,f10⟩:=hF;obtain⟨i0,i1,i2,i3⟩:=oO (qy.1.1 (by omega:0<=bz L i))
 rw[i2];refine⟨fun g7=>nz (Dm hl b c (dd p0) f9 (.inr ?_)) (by omega),fun g7=>?_⟩
 ·simp only[Bool.not_eq_true',Bool.or_eq_false_iff,Bool.not_eq_false',aaY,decide_eq_false_iff_not]at g7;omega
 have hE:b6 L i k md m=0:=by
  refine YR hl b c (dd p0) f9 ?_;simp only[Bool.not_eq_false',Bool.or_eq_true,Bool.not_eq_true',aaY,decide_eq_false_iff_not]at g7;rintro(u|u)
  ·exact f10 u
  ·omega
 obtain⟨_,⟨⟨k0,k1⟩,_,_⟩,⟨hb,hb1⟩,⟨o1,l1⟩,⟨o2,l2⟩,⟨q1,q1c⟩,q2,hs32,hA⟩:=yZ hL hE;obtain⟨_,_,hend⟩:=FU hL hE;refine⟨⟨fun h1=>⟨⟨⟩,hE,?_⟩,fun h1=>⟨⟨⟩,hE,?_⟩⟩,fun _ _=>⟨⟨⟨⟩,hE,?_⟩,fun _ _=>⟨⟨fun h7=>⟨?_,⟨⟩,hE,?_⟩,fun h7=>⟨⟨⟩,hE,?_⟩⟩,fun _ _=>⟨hsz,hs8 hs32,⟨by omega,by omega,by omega⟩,hE.symm,?_⟩⟩⟩⟩
 ·unfold iL;rw[aa4 (aa1 h1)];rfl
 ·unfold iL;rw[aa3 (aa0 h1)]
 ·have e:=(Me hL hb).2;rw[hb1,i2]at e;exact e
 ·have ho:=dT.1 (dq o1 k.oid.toNat (by omega))
  rw[fH k0 (by omega)]
  have:=ho.2.2.2.2.2.2.1;have:=ho.2.2.2.2.2.2.2.1;simp only[aF,bY];omega
 ·have h7':=aa1 h7;have hc:¬4294967295<=(aj L k.oid.toNat free).calls:=fun h=>f10 ⟨h7',h⟩
  have e:=(lV k0 (by omega) (Ns (dq o1 k.oid.toNat (by omega)) q1 (by rw[q1c];omega))).1
  rw[fH k0 (by omega)]
  unfold gX;rw[aa4 h7'];exact e
 ·unfold gX;rw[aa3 (aa0 h7)]
 ·rw[Nw hs32,hE]at *;exact hend
theorem V7 (L:List Sx.Obj) (i:Int) (k:Key) (md:Int) (m:br) (hL:ar L) (hs:aw m.data):an Tryz.prog 60 [.lp 0 0,.it .i64 i,.key k,.it .i64 md,jG m] [.store tS eS L] (C5 (.it .i64 (b6 L i k md m)) (fe L i k md m)) (fun _ _=>False):=
 aY (inl:=(fun f=>f==91||f==92||f==97||f==99||f==126||f==127||f==94||f==93||f==100||f==129||f==96||f==128||f==98)) (ann:=(iu [(94,2,MV 4),(60,2000015,QJ [0,1,3,7,10,11,12,15,20] (fun(_:Unit)=> []) (fun _=> [(12,.blk 129 (.it .i64 (jY md)))]) (fun _=> []) (fun _=>IA L i k md m)),(60,2000019,QJ [0,1,3,7,10,11,12,15,20] (fun(_:Unit)=> []) (fun _=> [(20,.blk tK (.key (iL L i md)))]) (fun _=> []) (fun _=>nM L i k md m)),(60,2000020,QJ [0,1,3,7,10,11,12,15,20] (fun(_:Unit)=> []) (fun _=> []) (fun _=> [(0,.store tS eS (gS L i md))]) (fun _=>nM L i k md m)),(60,2000022,QJ [0,1,3,7,10,11,12,15,20] (fun(_:Unit)=> []) (fun _=> []) (fun _=> [(0,.store tS eS (gX L i k md))]) (fun _=>nM L i k md m))])) (ae bC (ae gd (ae ia (ae gx (ae dH (ae rH (ae bQ (ae wL aq)))))))) (aB dz aD) (eh lg) (VT L i k md m hL hs) (by kernel_rfl)
theorem Yu:kJ Tryz.prog 60 Zo:=
 Ci (m:=fun x=>ZE.cn x 0) (fL MI (fun _=>rfl)) (fun _=>rfl) (fun _ _=>rfl) (fun x hs=>aY (inl:=(fun f=>f==91||f==92||f==97||f==99||f==126||f==127||f==94||f==93||f==100||f==129||f==96||f==128||f==98)) (ann:=aQ) (ae rW (ae gd (ae ia (ae gx (ae dH (ae rH (ae bQ (ae wL aq)))))))) (aB dz aD) (eh lg) (T8 x.1 x.2.1 x.2.2.1 x.2.2.2.1 hs) (by kernel_rfl)) (fun x hs=>aY (inl:=(fun f=>f==91||f==92||f==97||f==99||f==126||f==127||f==94||f==93||f==100||f==129||f==96||f==128||f==98)) (ann:=aQ) (ae rW (ae gd (ae ia (ae gx (ae dH (ae rH (ae bQ (ae wL aq)))))))) (aB dz aD) (eh lg) (Uv x.1 x.2.1 x.2.2.1 x.2.2.2.1 hs) (by kernel_rfl)) fun L x hq=>V7 L x.1 x.2.1 x.2.2.1 x.2.2.2.1 hq.1 hq.2
theorem RW (L:List Sx.Obj) (hl:iq L):
 (∃g,ie L g/\Value.slice none 0 0=Value.slice none 0 0/\0=g/\L=L/\[]=dJ L g)/\∀(g:Int),ie L g->aba (decide (g<bD (ai L))) (aba (decide (bz L g=1)) (sU (ai (dJ L g)) 8/\abd (g+1)/\∃g',ie L g'/\(bD (ai L)-g').toNat<(bD (ai L)-g).toNat/\Value.slice none 0 0=Value.slice none 0 0/\g+1=g'/\L=L/\jl (dJ L g) g=dJ L g') (abd (g+1)/\∃g',ie L g'/\(bD (ai L)-g').toNat<(bD (ai L)-g).toNat/\Value.slice none 0 0=Value.slice none 0 0/\g+1=g'/\L=L/\dJ L g=dJ L g')) (true=true/\∀(nid:Nat),some (V.sa nid)=some (V.sa nid)/\some [aK.arr (some tI) 1 (TL.it IntKind.i64 (dJ L g))]=some [aK.arr (some tI) 1 (TL.it IntKind.i64 (dJ L (bD (ai L))))]):=by
 delta aba abd
 simp only[ko,jr,mC,hU,decide_true,Bool.and_true,Bool.not_true,Bool.or_false,Bool.not_false,Bool.false_eq_true,Bool.true_eq_false,false_implies,implies_true,true_implies,true_and,and_true,and_self];refine⟨⟨0,⟨by omega,by omega⟩,rfl,(vU L).symm⟩,fun g hg=>⟨fun h=>?_,fun h=>?_⟩⟩
 ·have h1:g<(L.length:Int):=aa1 h;obtain⟨s1,s2,s3⟩:=DW hl hg h1;have e:=wC L hg.1;refine⟨fun h2=>⟨DE hl h1,s1,g+1,s2,s3,rfl,?_⟩,fun h2=>⟨s1,g+1,s2,s3,rfl,?_⟩⟩
  ·rw[e,aa4 (aa1 h2)]
  ·rw[e,aa3 (aa0 h2)]
 ·have h1:¬g<(L.length:Int):=aa0 h;have:g=bD (ai L):=by have:=hg.2;unfold bD ai at *;omega
  rw[this];exact fun _=>rfl
theorem RT (L:List Sx.Obj) (hl:iq L):an Tryz.prog 49 [.sa 0] [.ro (.arr none 163 (.ob L))] (Cz true jJ (fun n=> .sa n) (.arr (some tI) 1 (.it .i64 (dJ L (bD (ai L)))))) (fun _ _=>False):=
 bj (inl:=bx) (ann:=(iu [(49,3,lpS [0,2] (fun g=> [(4,.it .i64 g)]) 3 tI 1 (fun g=> .it .i64 (dJ L g)) (ie L) (bD (ai L)))])) (ae vr aq) aD (RW L hl) (by kernel_rfl)
theorem TG:kJ Tryz.prog 49 Vx:=
 Ao (aA jc bW) (fun _=>rfl) (fun _=>by simp) fun a hq hok=>by
  obtain⟨L,_⟩:=a;exact RT L hq
theorem S9:
 abb (abb (∀(r0:Loop),(∃g,ie [] g/\ak []=ak []/\0=g/\Value.pointer none=Value.pointer none/\r0=r0/\[]=dJ [] g)/\∀(g:Int),ie [] g->aba (decide (g<ak [])) False (abb (∀(nid:Nat),some (V.sa nid)=some (V.sa nid)/\some [aK.arr (some tI) 1 (TL.it IntKind.i64 (dJ [] g))]=some [aK.arr (some tI) 1 (TL.it IntKind.i64 (dJ [] (bD (ai ([]:List Sx.Obj)))))])))):=by
 delta aba abb
 simp only[ko,jr,mC,hU,decide_true,Bool.and_true,Bool.not_true,Bool.or_false,Bool.not_false,Bool.false_eq_true,Bool.true_eq_false,false_implies,implies_true,true_implies,true_and,and_true,and_self];refine fun _=>⟨⟨0,⟨by omega,by unfold ai;simp⟩,rfl,rfl⟩,fun g hg=>⟨fun h=>?_,fun h _=>?_⟩⟩
 ·have h1:g<ak []:=aa1 h;have:=hg.1;unfold ak ai at h1;simp at h1;omega
 ·have:g=bD (ai ([]:List Obj)):=by have:=hg.1;have:=hg.2;unfold bD ai at *;simp at *;omega
  rw[this];rfl
theorem RL:an Tryz.prog 57 [jJ] [] (Cz true jJ (fun n=> .sa n) (.arr (some tI) 1 (.it .i64 (dJ [] (bD (ai ([]:List Sx.Obj))))))) (fun _ _=>False):=
 bj (inl:=(fun f=>f==88||f==24)) (ann:=(iu [(4000+44,1,lpV [0,1,5] (fun g=> [(6,.it .i64 g)]) 0 103 tI 1 (fun g=> .it .i64 (dJ [] g)) (ie []) (bD (ai ([]:List Sx.Obj))))])) (ae bC aq) aD (S9) (by kernel_rfl)
theorem Xj (L:List Sx.Obj) (hl:iq L):
 abb (abb (∀(r0:Loop),(∃g,ie L g/\ak L=ak L/\0=g/\L=L/\r0=r0/\[]=dJ L g)/\∀(g:Int),ie L g->aba (decide (g<ak L)) ((0<=g/\g< ↑(ai L))/\g.toNat<ai L/\g.toNat<ai L/\r0=r0/\r0=r0/\abb (aba (!decide ((aj L g.toNat free).kind=1)|| !decide (((aj L g.toNat free).slots.at 2).kind=1)||decide (((aj L g.toNat free).slots.at 2).value<0)||decide (2<((aj L g.toNat free).slots.at 2).value)) (r0=r0/\abd (g+1)/\∃g',ie L g'/\(bD (ai L)-g').toNat<(bD (ai L)-g).toNat/\ak L=ak L/\g+1=g'/\L=L/\r0=r0/\dJ L g=dJ L g') (aba (decide (((aj L g.toNat free).slots.at 2).value=1)) (sU (ai (dJ L g)) 8/\r0=r0/\abd (g+1)/\∃g',ie L g'/\(bD (ai L)-g').toNat<(bD (ai L)-g).toNat/\ak L=ak L/\g+1=g'/\L=L/\r0=r0/\jl (dJ L g) g=dJ L g') (r0=r0/\abd (g+1)/\∃g',ie L g'/\(bD (ai L)-g').toNat<(bD (ai L)- g).toNat/\ak L=ak L/\g+1=g'/\L=L/\r0=r0/\dJ L g=dJ L g')))) (abb (∀(nid:Nat),some (V.sa nid)=some (V.sa nid)/\some [aK.arr (some tI) 1 (TL.it IntKind.i64 (dJ L g))]=some [aK.arr (some tI) 1 (TL.it IntKind.i64 (dJ L (bD (ai L))))])))):=by
 delta aba abd abb
 simp only[yg];simp only[ko,jr,mC,hU,decide_true,Bool.and_true,Bool.not_true,Bool.or_false,Bool.not_false,Bool.false_eq_true,Bool.true_eq_false,false_implies,implies_true,true_implies,true_and,and_true,and_self];refine fun _=>⟨⟨0,⟨by omega,by omega⟩,rfl,(vU L).symm⟩,fun g hg=>⟨fun h=>?_,fun h=>?_⟩⟩
 ·have h1:g<(L.length:Int):=aa1 h;obtain⟨s1,s2,s3⟩:=DW hl hg h1;have e:=wC L hg.1;have hlL:ai L=L.length:=rfl;have hg0:=hg.1;have hget:aL L g=aj L g.toNat free:=fH hg.1 h1;refine⟨⟨by omega,by omega⟩,by omega,by omega,fun h2=>⟨s1,g+1,s2,s3,rfl,?_⟩,fun h2=>⟨fun h3=>⟨DE hl h1,s1,g+1,s2,s3,rfl,?_⟩,fun h3=>⟨s1,g+1,s2,s3,rfl,?_⟩⟩⟩
  ·have hb:dP L g=false:=by unfold dP;rw[hget];simpa using h2
   rw[e,aa3 (by rw[(tV hb).1];omega)]
  ·have hb:dP L g=true:=by unfold dP;rw[hget];simpa using h2
   rw[e,aa4 (by rw[(mj hb).1,hget];exact aa1 h3)]
  ·have hb:dP L g=true:=by unfold dP;rw[hget];simpa using h2
   rw[e,aa3 (by rw[(mj hb).1,hget];exact aa0 h3)]
 ·have h1:¬g<(L.length:Int):=aa0 h;have:g=bD (ai L):=by have:=hg.2;unfold bD ai at *;omega
  rw[this];exact fun _=>rfl
theorem Wp (L:List Sx.Obj) (hl:iq L):an Tryz.prog 57 [.lp 0 0] [.ro (.store tS eS L)] (Cz true jJ (fun n=> .sa n) (.arr (some tI) 1 (.it .i64 (dJ L (bD (ai L)))))) (fun _ _=>False):=
 bj (inl:=(fun f=>f==88||f==24)) (ann:=(iu [(4000+44,1,lpV [0,1,5] (fun g=> [(6,.it .i64 g)]) 1 103 tI 1 (fun g=> .it .i64 (dJ L g)) (ie L) (bD (ai L)))])) (ae bC aq) aD (Xj L hl) (by kernel_rfl)
theorem Xc:kJ Tryz.prog 57 YP:=
 Ao (aA tc bW) (fun _=>rfl) (fun _=>by simp) fun a hq hok=>by
  obtain⟨S,_⟩:=a;cases S with
  |none=>exact RL
  |some L=>exact Wp L hq
end Go.Proofs.YtlblcfaclmpekaaGreat
namespace Go.Sx
def oP:Nat:=179
def jx (k:Key) (r:Int):Key:=if k.kind=2 then di k (iy k.rights r)else if k.kind=3 then di k (iy k.rights (r.tmod 2))else k
def iH (k:Key) (r:Int):Prop:=aV k=true/\0<=r/\r<=7
def Vw:Ct:=s6 (bc kA (bc iA gK)) (fun x=>some (iH x.1 x.2.1)) fun x=> .tp [.key (jx x.1 x.2.1),.ci .i64 0]
def Rz:Ct:=s6 (bc kA (bc iA gK)) (fun x=>some (iH x.1 x.2.1)) fun x=> .key (jx x.1 x.2.1)
def kU (a b:Key):Bool:=aV a&&aV b&&(decide (a.kind=0)||yf a b||(decide (a.kind=2)||decide (a.kind=3))&&decide (a.kind=b.kind)&&decide (a.oid=b.oid)&&decide (a.count=b.count)&&decide (iy a.rights b.rights=a.rights))
def Pg:Ct:=QK rK rK fun a b=> .bo (kU a b)
theorem FN {a:Int} (h:0<=a/\a<=7):∃x:Fin 8,a=(x.val:Int):=⟨⟨a.toNat,by omega⟩,by simp;omega⟩
theorem MN {a r:Int} (h:0<=a/\a<=7) (h':0<=r/\r<=7):bm .or .i64 a (bm .and .i64 r 7)=iy a r:=by
 have key:∀x y:Fin 8,bm .or .i64 (x.val:Int) (bm .and .i64 (y.val:Int) 7)=iy (x.val:Int) (y.val:Int):=by decide+kernel
 obtain⟨x,rfl⟩:=FN h;obtain⟨y,rfl⟩:=FN h';exact key x y
theorem Px {a r:Int} (h:0<=a/\a<=1) (h':0<=r/\r<=7):bm .or .i64 a (bm .and .i64 r 1)=iy a (r.tmod 2):=by
 have key:∀x y:Fin 8,x.val<=1->bm .or .i64 (x.val:Int) (bm .and .i64 (y.val:Int) 1)=iy (x.val:Int) ((y.val:Int).tmod 2):=by decide+kernel
 obtain⟨x,rfl⟩:=FN (a:=a) (by omega)
 obtain⟨y,rfl⟩:=FN h';exact key x y (by omega)
theorem Mn {r:Int} (h':0<=r/\r<=7):bm .or .i64 0 (bm .and .i64 r 0)=0:=by
 have key:∀y:Fin 8,bm .or .i64 0 (bm .and .i64 (y.val:Int) 0)=0:=by decide+kernel
 obtain⟨y,rfl⟩:=FN h';exact key y
theorem Bf {a b:Int} (h:0<=a/\a<=7) (h':0<=b/\b<=7):decide (bm .andNot .i64 b a=0)=decide (iy a b=a):=by
 have key:∀x y:Fin 8,decide (bm .andNot .i64 (y.val:Int) (x.val:Int)=0)=decide (iy (x.val:Int) (y.val:Int)=(x.val:Int)):=by decide+kernel
 obtain⟨x,rfl⟩:=FN h;obtain⟨y,rfl⟩:=FN h';exact key x y
def eY (k:Key):br:=⟨0,⟨#[]⟩,k,void,void⟩
def fq (n:Int):br:=⟨0,⟨#[]⟩,void,void,cJ n⟩
def gk (s:ByteArray):br:=⟨0,s,void,void,void⟩
def gf (e:Int):br:=⟨e,⟨#[]⟩,void,void,void⟩
def fj (k:Key):Key:=⟨2,k.oid,k.count,0,0,0⟩
def aS (m:br):Int:=if 0<=m.k2.value/\m.k2.value<=2147483647 then m.k2.value else -1
def dZ (b:Bool):Int:=if b then 1 else 0
def qu (n:Int):Int:=imax 0 (lP 32 (64-n))
abbrev LA:=Int×br×List Obj
def eo (L:List Obj) (k:Key) (m:br):LA:=
 if m.code=1 then(bV L k (aS m),eY (aJ L k (aS m)),L)
 else if m.code=2 then(bk L k (aS m) m.k0,eY (cU L k (aS m) m.k0),cA L k (aS m) m.k0)
 else if m.code=3 then(aC L k 2 true,cY,fG L k)
 else if m.code=4 then(bS L k m.k0,cY,eQ L k m.k0)
 else if m.code=5 then(if 0<=m.k2.value/\m.k2.value<=7 then 0 else 2,eY (jx k m.k2.value),L)
 else(if k.rights=0 then 0 else 191,eY ⟨5,k.oid,k.count,0,0,0⟩,L)
def ep (L:List Obj) (k:Key) (m:br):LA:=
 if m.code=1 then(cy L k (aS m) (qu (aS m)),gk (dY L k (aS m) (qu (aS m))),L)
 else if m.code=2 then(cN L k (aS m) m.data,cY,eX L k (aS m) m.data)
 else if m.code=3 then(aW L k true,cY,fl L k)
 else if m.code=4 then(cS L k m.k0,cY,fA L k m.k0)
 else(if 0<=m.k2.value/\m.k2.value<=7 then 0 else 2,eY (jx k m.k2.value),L)
def dA (L:List Obj) (k:Key) (m:br):LA:=
 if m.code=1 then(cx L k 1,eY (dc L k 1),ft L k 1)
 else if m.code=2 then(cx L k 2,eY (dc L k 2),ft L k 2)
 else if m.code=3 then(cC L k m.k0,cY,gB L k m.k0)
 else if m.code=4 then(b7 L k (aS m),eY (cc L k (aS m)),bF L k (aS m))
 else if m.code=5 then(aN L k,fq (dZ (jz L k m.k0)),L)
 else(aN L k,fq (fD L k),g9 L k)
def fK (L:List Obj) (k:Key):Key:=aJ L (fj k) 0
def dr (L:List Obj) (k:Key) (m:br):LA:=
 if m.code=1 then(if aS m<0\/11<aS m then 4 else bV L (fj k) (aS m+4),eY (aJ L (fj k) (aS m+4)),L)
 else if m.code=2 then(if aS m<0\/11<aS m then 4 else bk L (fj k) (aS m+4) m.k0,eY (cU L (fj k) (aS m+4) m.k0),if aS m<0\/11<aS m then L else cA L (fj k) (aS m+4) m.k0)
 else if m.code=3 then(0,eY ⟨6,k.oid,k.count,0,0,m.k2.value⟩,L)
 else if m.code=4 then(0,fq (bz L k.oid),L)
 else if m.code=5 then(en L k.oid (aS m),cY,dg L k.oid (aS m))
 else if m.code=6 then(if cg L (fK L k) m.k2.value 32=0 then(if bU L (fK L k) m.k2.value 32 false=0 then 0 else 1000+bU L (fK L k) m.k2.value 32 false)else cg L (fK L k) m.k2.value 32,gk (jU L (fK L k) m.k2.value 32),L)
 else(if cg L (fK L k) m.k2.value (bN m.data)=0 then(if bU L (fK L k) m.k2.value (bN m.data) true=0 then 0 else 1000+bU L (fK L k) m.k2.value (bN m.data) true)else cg L (fK L k) m.k2.value (bN m.data),cY,kz L (fK L k) m.k2.value m.data)
def c9 (kind:Int):Int:=if kind=1 then 1 else if kind=2 then 6 else if kind=3 then 5 else if kind=4 then 6 else if kind=5 then 7 else if kind=8 then 3 else if kind=9\/kind=10 then 1 else 0
def cW (kind c:Int):Bool:=
 if kind=2\/kind=3 then decide (c=1)||decide (c=2)||decide (c=5)else if kind=4 then decide (c=4)
 else if kind=5 then decide (1<=c/\c<=3)||decide (5<=c/\c<=7)else false
def eJ (L:List Obj) (now:Int) (k:Key) (m:br):LA:=
 if k.kind=1 then(0,fq k.value,L)
 else if k.kind=2 then eo L k m
 else if k.kind=3 then ep L k m
 else if k.kind=4 then dA L k m
 else if k.kind=5 then dr L k m
 else if k.kind=8 then(0,if m.code=1 then fq m.k0.kind else if m.code=2 then fq (dZ (kU m.k0 m.k1))else fq m.k0.rights,L)
 else if k.kind=9 then(0,fq now,L)
 else(0,cY,L)
def dG (L:List Obj) (now:Int) (k:Key) (m:br):LA:=
 if k.kind=0 then(190,cY,L)
 else if m.code=0 then(0,fq k.kind,L)
 else if m.code<1\/c9 k.kind<m.code\/(cW k.kind m.code=true/\m.k2.kind≠1)then(240,cY,L)
 else eJ L now k m
def ei (L:List Obj) (now:Int) (k:Key) (m:br):br:=if(dG L now k m).1=0 then(dG L now k m).2.1 else gf (dG L now k m).1
def ey (L:List Obj) (now:Int) (k:Key) (m:br):List Obj:=(dG L now k m).2.2
def aP (L:List Obj) (now:Int) (k:Key) (m:br):br×List Obj:=(ei L now k m,ey L now k m)
def kk (c:Int) (k:Key):Key:=⟨c,k.oid,k.count,k.call,k.rights,k.value⟩
def mm (c:Int) (m:br):br:=⟨c,m.data,m.k0,m.k1,m.k2⟩
def eB:ByteArray:=⟨#[]⟩
def iR (c:V) (m:br) (n:Int) (kd:V) (k:Key):V:= .ag [.ag [c,.st m.data,.ag [.key m.k0,.key m.k1,.key m.k2]],.lp 1 0,.it .i64 n,.ag [kd,.it .i64 k.oid,.it .i64 k.count,.it .i64 k.call,.it .i64 k.rights,.it .i64 k.value]]
def kO (A:br×List Obj) (v:V) (r:List aK):Prop:=
 match Au v with
 |some x=>match ay r 1 with
  | .store t e M=>if t==tS&&e==eS then(x,M)=A else False
  |_=>False
 |none=>False
theorem WQ {A:br×List Obj} {v:V} {r:List aK} (h:kO A v r):xj (jG A.1) v r/\ay r 1= .store tS eS A.2:=by
 unfold kO at h;split at h
 case h_2=>exact h.elim
 rename_i x hx;split at h
 case h_2=>exact h.elim
 rename_i hr;split at h
 case isFalse=>exact h.elim
 rename_i hc;simp only[aaX,aaZ]at hc;obtain⟨rfl,rfl⟩:=hc;subst h;obtain⟨a,b⟩:=Cm v x hx;have ht:cV v=false:=by cases v<;>first|rfl|simp[Au]at hx
 exact⟨fun J K=>⟨a J,fun h=>fQ (b K h),ht⟩,hr⟩
def u4 (r:LA):br×List Obj:=(if r.1=0 then r.2.1 else gf r.1,r.2.2)
theorem Hk {L:List Obj} {n:Int} {k:Key} {m:br} {c:Int} (hc:1<=c/\c<=7):aP L n (kk 5 k) (mm c m)=if cW 5 c=true/\m.k2.kind≠1 then(gf 240,L)else u4 (dr L (kk 5 k) (mm c m)):=by
 have h0:¬c=0:=by omega
 have h1:¬(c<1\/c9 5<c):=by have:c9 5=7:=by decide
                            omega
 have e1:(kk 5 k).kind=5:=rfl;have e2:(mm c m).code=c:=rfl;have e3:(mm c m).k2=m.k2:=rfl;have hb:eJ L n (kk 5 k) (mm c m)=dr L (kk 5 k) (mm c m):=by unfold eJ;rw[e1];rfl
 have hr:dG L n (kk 5 k) (mm c m)=if cW 5 c=true/\m.k2.kind≠1 then(240,cY,L)else dr L (kk 5 k) (mm c m):=by
  unfold dG;rw[e1,e2,e3,aa3 (by omega),aa3 h0,hb]
  by_cases h:cW 5 c=true/\m.k2.kind≠1
  ·rw[aa4 (.inr (.inr h)),aa4 h]
  ·rw[aa3 (fun hh=>by rcases hh with hh|hh|hh;exact h1 (.inl hh);exact h1 (.inr hh);exact h hh),aa3 h]
 unfold aP ei ey;rw[hr];by_cases h:cW 5 c=true/\m.k2.kind≠1
 ·simp only[aa4 h];rfl
 ·simp only[aa3 h];rfl
theorem Kt {L:List Obj}:∀(n:Nat) (w:Wk),0<=(QI L n w).kd/\(QI L n w).kd<=4
 |0,w=>by simp[QI]
 |n+1,w=>by
  unfold QI;split
  ·split<;>simp
  ·split
   ·split
    ·rename_i r heq;unfold mn at heq;split at heq
     ·simp at heq;rw[<-heq];simp
     ·split at heq
      ·split at heq
       ·simp at heq
       ·simp at heq;rw[<-heq];simp
      ·simp at heq;rw[<-heq];simp
    ·exact Kt n _
   ·simp
theorem Hb {L:List Obj} {k:Key} {a n:Int} {w:Bool}:0<=bU L k a n w/\bU L k a n w<=6:=by
 have h:0<=(au L k a).kd/\(au L k a).kd<=4:=by
  unfold au;split
  ·exact Kt _ _
  ·simp[Yy]
 unfold bU;grind
def qp (L:List Obj) (n:Int) (k:Key) (m:br):Bool:=decide (0<=n)&&fk L m&&bK L k
def cK (L:List Obj) (n:Int) (k:Key) (m:br):Int:=
 if ai L=0 then 1 else if qp L n k m=false then 2 else if(ah L k).kind=6\/(ah L k).kind=7 then 241 else 0
def aG (L:List Obj) (n:Int) (k:Key) (m:br):br:=if cK L n k m=0 then ei L n (ah L k) (aH L m)else cY
def cX (L:List Obj) (n:Int) (k:Key) (m:br):Bool:=decide (cK L n k m=0)&&decide ((ah L k).kind=10)&&decide (m.code=1)
def gY (L:List Obj) (n:Int) (k:Key) (m:br):List Obj:=if cK L n k m=0 then ey L n (ah L k) (aH L m)else L
def Qd:Ct:=s6 (bc sA (bc kA gK)) (fun _=>none) fun x=> .bo (bK (Dx x.1) x.2.1)
def Ox:ld (Int×Key×br×Unit):=bc iA (bc kA (bc mA gK))
theorem HP:gR Ox:=aA dO (aA iF (aA zM bW))
def aaE:ke:=YJ (um Ox) (fun x=>aw x.2.2.1.data) (fun L x=>ar L/\aw x.2.2.1.data) (fun L x=> .tp [jG (aG L x.1 x.2.1 x.2.2.1),.bo (cX L x.1 x.2.1 x.2.2.1),.it .i64 (cK L x.1 x.2.1 x.2.2.1)]) fun L x=>gY L x.1 x.2.1 x.2.2.1
def Vo (L:List Obj) (k:Key) (m:br):Prop:=ar L/\aw m.data/\aV k=true
def Vj:ke:=fun args res K=>
 match args with
 | [a]=>match a with
   | .lp j off=>if off==0 then match ay res j with
     | .blk t c=>if t==oP then match c with
       | .ag cl=>match cl with
         | [mv,sv,nv,kv]=>match Au mv with
           |some m=>match sv with
            | .lp i o2=>if o2==0&& !(i==j)then match rI .i64 nv with
              |some n=>match rK kv with
               |some k=>match ay res i with
                | .store t2 e L=>if t2==tS&&e==eS then Vo L k m/\K (jG (ei L n k m)) (bO res i (.store tS eS (ey L n k m)))else False
                |_=>False
               |none=>False
              |none=>False
              else False
            |_=>False
           |none=>False
         |_=>False
       |_=>False
       else False
     |_=>False
     else False
   |_=>False
 |_=>False
theorem tC {L:List Obj} {k:Key}:aV (ah L k)=true:=by
 unfold ah;split
 ·rfl
 ·rename_i h;simp only[Bool.or_eq_true,not_or,Bool.not_eq_true',Bool.not_eq_false]at h;exact h.1.2
theorem ry {k:IntKind} {v:V} {n:Int} (h:rI k v=some n):kf v=true:=by
 cases v<;>first|rfl|simp[rI,toInt]at h
theorem Mu {v:V} {s:ByteArray} (h:DD v=some s):kf v=true:=by
 cases v<;>first|rfl|simp[DD]at h
theorem Ch {v:V} {k:Key} (h:rK v=some k):kf v=true:=by
 unfold rK at h;split at h
 ·rfl
 ·split at h
  case h_2=>simp at h
  repeat' (split at h<;>try(simp at h;done))
  rename_i h1 _ _ h2 _ _ h3 _ _ h4 _ _ h5 _ _ h6;simp[kf,lf,ry h1,ry h2,ry h3,ry h4,ry h5,ry h6]
 ·simp at h
theorem Nt {v:V} {m:br} (h:Au v=some m):kf v=true:=by
 unfold Au at h;split at h
 case h_2=>simp at h
 split at h
 case h_2=>simp at h
 split at h
 case h_2=>simp at h
 rename_i hn;split at h
 case h_2=>simp at h
 rename_i hs;split at h
 case h_2=>simp at h
 split at h
 case h_2=>simp at h
 split at h
 case h_2=>simp at h
 rename_i hk;split at h
 case h_2=>simp at h
 rename_i hk';split at h<;>simp only[aaV,reduceCtorEq]at h
 rename_i hk'';simp[kf,lf,ry hn,Mu hs,Ch hk,Ch hk',Ch hk'']
theorem EK {P:Program} {f:Nat} {K KP:V->List aK->Prop} {t:Nat} {c c':V} {r:aK} (hr:r≠ .yet) (hc:∀J,cells J c=cells J c') (hc':∀K,ok K c->ok K c') (hct:cV c'=false)
  (h:an P f [.lp 0 0] [.ro (.blk t c'),r] K KP):an P f [.lp 0 0] [.ro (.blk t c),r] K KP:=by
 have hk:∀i (x:V),known [.ro (.blk t x),r] i↔i=0\/i=1:=fun i x=>by
  unfold known;rcases i with _|_|i<;>simp[ay,hr]
 have hkk:∀i (x y:V),known [.ro (.blk t x),r] i->known [.ro (.blk t y),r] i:=fun i x y h=>(hk i y).2 ((hk i x).1 h)
 refine h.tx fun J fps w0 F0 w hH=>⟨J,fps,hH.weaken fun i hi=>⟨hkk i _ _ hi,fun fp hh=>?_⟩,Env.bE.refl _ _,fun i hi=>hkk i _ _ hi⟩
 rcases(hk i _).1 hi with rfl|rfl
 ·obtain⟨fp',⟨h1,h2,h3,h4⟩,h5⟩:=hh;exact⟨fp',⟨hc' _ (ec (fun i hi=>hkk i _ _ hi) _ h1),hct,h3,by rw[<-hc];exact h4⟩,h5⟩
 ·exact aK.oG _ hh fun i hi=>hkk i _ _ hi
theorem zL {P:Program} {f:Nat} {K KP:V->List aK->Prop} {c c' d d':V} {m:br} {n:Int} {k:Key} {r:aK} (hr:r≠ .yet) (hc:∀J,den J c=den J c') (hc':∀K,ok K c->ok K c') (hct:cV c'=false) (hd:∀J,den J d=den J d') (hd':∀K,ok K d->ok K d') (hdt:cV d'=false)
  (h:an P f [.lp 0 0] [.ro (.blk oP (iR c' m n d' k)),r] K KP):an P f [.lp 0 0] [.ro (.blk oP (iR c m n d k)),r] K KP:=by
 refine EK hr (fun J=>by simp only[cells,iR,den,bp,hc,hd]) (fun K h1=>?_) rfl h
 obtain⟨⟨⟨⟨x1,x2⟩,_⟩,y,z,⟨⟨u1,u2⟩,_⟩,_⟩,v⟩:=h1;exact⟨⟨⟨⟨hc' _ x1,x2⟩,by cases c'<;>first| (simp[ti];done)|simp[cV]at hct⟩,y,z,⟨⟨hd' _ u1,u2⟩,by cases d'<;>first| (simp[ti];done)|simp[cV]at hdt⟩,trivial⟩,by simp[ti]⟩
theorem KV {P:Program} {f:Nat} {K KP:V->List aK->Prop} {mv nv kv:V} {m:br} {n:Int} {k:Key} {r:aK} (hr:r≠ .yet) (hm:Au mv=some m) (hn:rI .i64 nv=some n) (hk:rK kv=some k)
  (h:an P f [.lp 0 0] [.ro (.blk oP (iR (.it .i64 m.code) m n (.it .i64 k.kind) k)),r] K KP):an P f [.lp 0 0] [.ro (.blk oP (.ag [mv,.lp 1 0,nv,kv])),r] K KP:=by
 obtain⟨m1,m2⟩:=Cm _ _ hm;obtain⟨n1,n2⟩:=gi .i64 _ _ hn;obtain⟨k1,k2⟩:=gH _ _ hk;refine EK hr (fun J=>?_) (fun K h1=>?_) rfl h
 ·simp only[cells,iR,den,bp,m1 J,n1 J,k1 J,jG,Value.cells,ea,i64];simp
 ·obtain⟨⟨x,y,z,u,_⟩,_⟩:=h1;obtain⟨a1,a2,a3,a4,a5,a6⟩:=(k2 K u:k.wf);exact⟨⟨fQ (m2 K x),y,n2 K z,⟨⟨a1,a2,a3,a4,a5,a6,trivial⟩,by simp[ti]⟩,trivial⟩,by simp[ti,jG]⟩
def oc (a b:Int) (k:Key) (m:br):Bool:=decide (k.kind=a)&&decide (m.code=b)
theorem yb {c:Int} {k:Key} (h:k.kind=c):kk c k=k:=by subst h;rfl
theorem H8 {c:Int} {m:br} (h:m.code=c):mm c m=m:=by subst h;rfl
def odX (nid:Nat):V:= .mp nid
def Iq (nid:Nat):List aK:= [.mq [[1,1],[2,1],[2,2],[2,3],[2,4],[2,5],[2,6],[3,1],[3,2],[3,3],[3,4],[3,5],[4,1],[4,2],[4,3],[4,4],[4,5],[4,6],[5,1],[5,2],[5,3],[5,4],[5,5],[5,6],[5,7],[8,1],[8,2],[8,3],[9,1],[10,1]] [.fn 143 [],.fn 145 [],.fn 149 [],.fn 151 [],.fn 154 [],.fn 156 [],.fn 157 [],.fn 158 [],.fn 159 [],.fn 161 [],.fn 163 [],.fn 156 [],.fn 210 [.lp (nid+1) 0],.fn 210 [.lp (nid+1+1) 0],.fn 166 [],.fn 168 [],.fn 170 [],.fn 171 [],.fn 172 [],.fn 175 [],.fn 176 [],.fn 178 [],.fn 179 [],.fn 180 [],.fn 181 [],.fn 182 [],.fn 183 [],.fn 187 [],.fn 189 [],.fn 190 []],.blk 70 (.ci .i64 1),.blk 70 (.ci .i64 2)]
end Go.Sx
namespace Go.Proofs.YtlblcfaclmpekaaGreat
open Go.Sx
theorem Lm (k:Key) (r:Int) (hq:iH k r):
 ((!aV k||decide (r<0)||decide (7<r))=true->False)/\((!aV k||decide (r<0)||decide (7<r))=false->Key.mk k.kind k.oid k.count k.call (bm BinOp.or IntKind.i64 k.rights
   (bm BinOp.and IntKind.i64 r (fu k.kind))) k.value=jx k r):=by
 obtain⟨hk,h0,h7⟩:=hq;have hr:=jf hk;refine⟨fun h=>?_,fun _=>?_⟩
 ·simp[hk]at h;omega
 obtain⟨kind,oid,count,call,rights,value⟩:=k;simp only at hr⊢;unfold jx di;by_cases h2:kind=2
 ·subst h2;have:=MN (a:=rights) (r:=r) (by have:fu 2=7:=rfl;omega) ⟨h0,h7⟩
  simp only[if_true,show fu 2=7 from rfl,this]
 ·by_cases h3:kind=3
  ·subst h3;have:=Px (a:=rights) (r:=r) (by have:fu 3=1:=rfl;omega) ⟨h0,h7⟩
   simp only[show¬(3:Int)=2 by omega,if_false,if_true,show fu 3=1 from rfl,this]
  ·have hm:fu kind=0:=by unfold fu;simp[h2,h3]
   have hz:rights=0:=by omega
   subst hz;simp only[h2,h3,if_false,hm,Mn ⟨h0,h7⟩]
theorem E9:cq Tryz.prog 201 Vw:=
 eW (aA iF (aA dO bW)) (fun _=>rfl) fun a hq hok=>by
  obtain⟨k,r,_⟩:=a;exact aZ (inl:=bx) (ann:=aQ) (ae zk aq) (Lm k r hq) (by kernel_rfl)
theorem Mb (k:Key) (r:Int) (hq:iH k r):
 aba (decide (k.kind=2)) (Key.mk k.kind k.oid k.count k.call (iy k.rights r) k.value=jx k r) (aba (decide (k.kind=3)) ((ny 2/\aF IntKind.i64 (r.tmod 2))/\Key.mk k.kind k.oid k.count k.call (iy k.rights (r.tmod 2)) k.value=jx k r) (k=jx k r)):=by
 delta aba
 refine⟨fun h=>?_,fun h=>⟨fun h'=>⟨⟨by unfold ny;omega,pF _⟩,?_⟩,fun h'=>?_⟩⟩
 ·unfold jx;rw[aa4 (aa1 h)];rfl
 ·unfold jx;rw[aa3 (aa0 h),aa4 (aa1 h')];rfl
 ·unfold jx;rw[aa3 (aa0 h),aa3 (aa0 h')]
theorem Dz:cq Tryz.prog 113 Rz:=
 eW (aA iF (aA dO bW)) (fun _=>rfl) fun a hq hok=>by
  obtain⟨k,r,_⟩:=a;exact aZ (inl:=bx) (ann:=aQ) (ae Ab aq) (Mb k r hq) (by kernel_rfl)
theorem Rm (a b:Key) (ha:a.wf) (hb:b.wf):
 aba (!aV a|| !aV b) (false=kU a b) (aba (decide (a.kind=0)||yf a b) (true=kU a b) ((pt a.kind&&decide (a.kind=b.kind)&&decide (a.oid=b.oid)&&decide (a.count=b.count)&&decide (bm BinOp.andNot IntKind.i64 b.rights a.rights=0))=kU a b)):=by
 delta aba
 unfold kU;cases ha1:aV a
 ·simp
 cases hb1:aV b
 ·simp
 have hra:=jf ha1;have hrb:=jf hb1;refine⟨fun h=>by simp at h,fun _=>⟨fun h=>by simp only[h,Bool.true_and,Bool.true_or],fun h=>?_⟩⟩
 rw[h];simp only[Bool.true_and,Bool.false_or];by_cases hk:a.kind=b.kind
 ·by_cases h2:a.kind=2
  ·have m1:fu a.kind=7:=by rw[h2];rfl
   have m2:fu b.kind=7:=by rw[<-hk,h2];rfl
   rw[Bf (by omega) (by omega)]
   simp[pt,h2]
  ·by_cases h3:a.kind=3
   ·have m1:fu a.kind=1:=by rw[h3];rfl
    have m2:fu b.kind=1:=by rw[<-hk,h3];rfl
    rw[Bf (by omega) (by omega)]
    simp[pt,h3]
   ·simp[pt,h2,h3]
 ·simp[hk]
theorem Tj:cq Tryz.prog 186 Pg:=
 nJ gH gH (fun _ _=>rfl) fun a b ha hb=>aZ (inl:=bx) (ann:=aQ) (ae zk aq) (Rm a b ha hb) (by kernel_rfl)
theorem QS (a b:Key) (ha:a.wf) (hb:b.wf):
 aba (!decide (bw a=0)|| !decide (bw b=0)) (false=kU a b) (aba (decide (a.kind=0)||yf a b) (true=kU a b) (((decide (a.kind=2)||decide (a.kind=3))&&decide (a.kind=b.kind)&&decide (a.oid=b.oid)&&decide (a.count=b.count)&&decide (iy a.rights b.rights=a.rights))=kU a b)):=by
 delta aba
 unfold kU bw;cases ha1:aV a
 ·simp
 cases hb1:aV b
 ·simp
 refine⟨fun h=>by simp at h,fun _=>⟨fun h=>by simp only[h,Bool.true_and,Bool.true_or],fun h=>?_⟩⟩
 rw[h];simp only[Bool.true_and,Bool.false_or]
theorem Sn:cq Tryz.prog 87 Pg:=
 nJ gH gH (fun _ _=>rfl) fun a b ha hb=>aZ (inl:=bx) (ann:=aQ) (ae sB (ae Ab aq)) (QS a b ha hb) (by kernel_rfl)
open Go.RowKit (Below)
theorem Th {P:Program} {ops:Array Oper} {Q:Exit->Act->World->Prop} (I:(Nat->Bool)->Act->World->Prop)
  (hlt:∀(i:Nat) o,ops[i]? =some o->∀e∈o.after,Region.binds .any e=true->e.on<i)
  (hstep:∀L a w (i:Nat) o,ops[i]? =some o->L i=false->(∀e∈o.after,Region.binds .any e=true->L e.on=true)->I L a w->∀K:Act->World->Prop,(∀a' w',I (ins L i) a' w'->K a' w')->wpOpIn (FF P none) 0 P ops Q i K a w)
  (hfin:∀L a w,(∀i,i<ops.size->L i=true)->I L a w->Q .normal a w):
  ∀(fuel:Nat) (listed:Array Bool) (a:Act) (w:World),listed.size=ops.size->Dg listed ops.size<=fuel->I (fun k=>listed.getD k false) a w->wpAnyIn (FF P none) 0 P .any ops Q fuel listed a w:=by
 intro fuel
 have hall:∀(listed:Array Bool),listed.size=ops.size->Region.ready .any ops listed= []->∀i,i<ops.size->listed.getD i false=true:=by
  intro listed hs hnil i;induction i using Nat.strongRecOn with
  |_ i ihi=>
   intro hi;cases h:listed.getD i false with
   |true=>rfl
   |false=>
    have hio:ops[i]? =some (ops[i]'hi):=Array.getElem?_eq_getElem hi
    have:i∈Region.ready .any ops listed:=by
     rw[mem_ready];refine⟨?_,_,hio,fun e e1 e2=>ihi e.on (hlt i _ hio e e1 e2) (by have:=hlt i _ hio e e1 e2;omega)⟩
     have:i<listed.size:=by omega
     simpa[Array.getD_eq_getD_getElem?,this]using h
    rw[hnil]at this;simp at this
 induction fuel with
 |zero=>
  intro listed a w hs hc hI
  have hall0:∀i,i<ops.size->listed.getD i false=true:=fun i hi=>by
   cases h:listed.getD i false with
   |true=>rfl
   |false=>have:=jg (n:=ops.size) hs hi h;omega
  refine⟨?_,hfin _ a w hall0 hI⟩;cases hrd:Region.ready .any ops listed with
  |nil=>rfl
  |cons i l=>
   obtain⟨h1,o,h2,_⟩:=mem_ready.1 (show i∈Region.ready .any ops listed by rw[hrd];simp)
   have hisz:i<ops.size:=(Array.getElem?_eq_some_iff.1 h2).1;have:=hall0 i hisz;have hlt:i<listed.size:=by omega
   simp only[Array.getD_eq_getD_getElem?,Array.getElem?_eq_getElem hlt,Option.getD_some]at this h1;rw[this]at h1;simp at h1
 |succ fuel ih=>
  intro listed a w hs hc hI;refine⟨fun hnil=>hfin _ a w (hall listed hs hnil) hI,fun i hi=>?_⟩
  obtain⟨h1,o,h2,h3⟩:=mem_ready.1 hi;have hisz:i<ops.size:=(Array.getElem?_eq_some_iff.1 h2).1;have hl:i<listed.size:=by omega
  have hLi:listed.getD i false=false:=by simpa[Array.getD_eq_getD_getElem?,hl]using h1
  refine hstep _ a w i o h2 hLi h3 hI _ fun a' w' hI'=>?_
  exact ih _ a' w' (by simpa using hs) (by have:=jg (n:=ops.size) hs hisz hLi;omega) (by rw[yX hl];exact hI')
abbrev tM:Nat:=217
abbrev tPl:Nat:=220
abbrev T2:Nat:=70
abbrev SQ:Nat:=165
abbrev fMc:Nat:=210
def Rp (o:Oper):Option (Int×Int):=
 match o.op with
 | .build t ps=>if t==tPl then match ps.toList with
   | [(0,.const (.int .i64 a)),(1,.const (.int .i64 b))]=>some (a,b)
   |_=>none
   else none
 |_=>none
def jC:List Oper->Nat->Option (Int×Int)
 | [],_=>none
 |o::l,s=>match o.dst with
  |some t=>if t==s then Rp o else jC l s
  |none=>jC l s
def FB (k:Int×Int):Value:= .agg #[.int .i64 k.1,.int .i64 k.2]
def HR (b:Nat):Value:= .func (.func fMc) #[] #[.pointer (some ⟨b,0,none⟩)]
def F7 (l:List Oper) (r0 b1 b2 s:Nat):Value:=
 match jC l s with
 |some k=>FB k
 |none=>if s=15 then HR b1 else if s=17 then HR b2 else .map (some r0)
def Ej (b1 b2:Nat):Operand->Value
 | .func g=> .func (.func g) #[] #[]
 | .tmp s=>if s=15 then HR b1 else HR b2
 |_=>undef
def kD (l:List Oper) (o:Oper):Option (Int×Int):=
 match o.op with
 | .insert _ _ (.tmp k) _=>jC l k
 |_=>none
def vv (l:List Oper) (b1 b2:Nat) (o:Oper):Option (Value×Value):=
 match o.op with
 | .insert _ _ (.tmp k) x=>match jC l k with
   |some c=>some (FB c,Ej b1 b2 x)
   |none=>none
 |_=>none
def nt (l:List Oper) (b1 b2:Nat) (L:Nat->Bool):Nat->List Oper->List (Value×Value)
 |_,[]=> []
 |i,o::m=>(match vv l b1 b2 o with
  |some p=>if L i then[p]else[]
  |none=> [])++nt l b1 b2 L (i+1) m
theorem DL {l:List Oper} {b1 b2:Nat} {L:Nat->Bool} {p:Value×Value}:∀{m:List Oper} {i:Nat},p∈nt l b1 b2 L i m->∃(j:Nat) (o:Oper),m[j]? =some o/\L (i+j)=true/\vv l b1 b2 o=some p
 | [],i,h=>by simp[nt]at h
 |o::m,i,h=>by
  simp only[nt,List.mem_append]at h;rcases h with h|h
  ·split at h
   ·rename_i q hq;split at h
    ·rename_i hL;simp only[List.mem_singleton]at h;subst h;exact⟨0,o,rfl,hL,hq⟩
    ·simp at h
   ·simp at h
  ·obtain⟨j,o',h1,h2,h3⟩:=DL h;exact⟨j+1,o',by simpa using h1,by rw[show i+(j+1)=i+1+j by omega];exact h2,h3⟩
theorem Bw {l:List Oper} {b1 b2:Nat} {L:Nat->Bool}:∀{m:List Oper} {i:Nat},(∀(j:Nat) (o:Oper),m[j]? =some o->L (i+j)=true->vv l b1 b2 o=none)->nt l b1 b2 L i m= []
 | [],i,h=>rfl
 |o::m,i,h=>by
  simp only[nt];rw[Bw fun j o' h1 h2=>h (j+1) o' (by simpa using h1) (by rw[show i+(j+1)=i+1+j by omega];exact h2)]
  split
  ·rename_i p hp;split
   ·rename_i hL;have:=h 0 o rfl hL;rw[hp]at this;simp at this
   ·rfl
  ·rfl
theorem nh {l:List Oper} {o:Oper} (h:kD l o=none) (x y:Nat):vv l x y o=none:=by
 obtain⟨dst,op,type,pos,after,guard⟩:=o;cases op<;>try rfl
 rename_i t m k v;cases k<;>try rfl
 simp only[kD]at h;simp only[vv,h]
theorem qo {l:List Oper} {b1 b2 c1 c2:Nat} {L L':Nat->Bool}:∀{m:List Oper} {i:Nat},(∀(j:Nat) (o:Oper),m[j]? =some o->(kD l o).isSome=true->L (i+j)=L' (i+j)/\(L (i+j)=true->vv l b1 b2 o=vv l c1 c2 o))->nt l b1 b2 L i m=nt l c1 c2 L' i m
 | [],i,h=>rfl
 |o::m,i,h=>by
  simp only[nt]
  rw[qo (c1:=c1) (c2:=c2) (L':=L') (i:=i+1) fun j o' h1 h2=>by
   have:=h (j+1) o' (by simpa using h1) h2
   rwa [show i+(j+1)=i+1+j by omega]at this]
  congr 1
  cases hk:kD l o with
  |none=>
   rw[nh hk,nh hk]
  |some k=>
   obtain⟨h1,h2⟩:=h 0 o rfl (by rw[hk];rfl)
   simp only[Nat.add_zero]at h1 h2;cases hL:L i with
   |true=>rw[<-h1,hL,h2 hL]
   |false=>
    rw[<-h1,hL];simp only[Bool.false_eq_true,if_false];split<;>split<;>rfl
theorem Ef {l:List Oper} {b1 b2:Nat} {L:Nat->Bool} {p:Value×Value} {q:Nat} (hq:L q=false):∀{m:List Oper} {i j:Nat} {o:Oper},m[j]? =some o->i+j=q->vv l b1 b2 o=some p->(nt l b1 b2 (ins L q) i m).Perm (nt l b1 b2 L i m++ [p])
 | [],i,j,o,h,_,_=>by simp at h
 |x::m,i,0,o,h,e,hp=>by
  simp only[List.getElem?_cons_zero,aaV]at h;subst h;simp only[Nat.add_zero]at e;subst e;simp only[nt,hp,ins,BEq.rfl,Bool.true_or,if_true,hq,Bool.false_eq_true,if_false,List.nil_append,List.singleton_append]
  have:nt l b1 b2 (fun k=>k==i||L k) (i+1) m=nt l b1 b2 L (i+1) m:=qo fun j o _ _=>⟨by
   have:((i+1+j)==i)=false:=by simp;omega
   simp[this],fun _=>rfl⟩
  show(p::nt l b1 b2 (fun k=>k==i||L k) (i+1) m).Perm _
  rw[this];exact(List.perm_append_singleton _ _).symm
 |x::m,i,j+1,o,h,e,hp=>by
  simp only[nt]
  have hi:ins L q i=L i:=by
   have:(i==q)=false:=by simp;omega
   simp[ins,this]
  rw[hi,List.append_assoc];exact List.Perm.append_left _ (Ef hq (by simpa using h) (by omega) hp)
def JQ (l:List Oper) (o:Oper):Bool:=
 match o.op with
 | .makeMap t r=>t==tM&&r.isNone&&o.dst==some 1
 | .build _ _=>(match Rp o with|some k=>decide (bY .i64 k.1)&&decide (bY .i64 k.2)|none=>false)&&(match o.dst with|some d=>Nat.blt d 35&&jC l d==Rp o|none=>false)
 | .call c=>(match c.callee with| .value (.func g)=>g==SQ|_=>false)&&(match c.args.toList with| [.const (.int .i64 n)]=>(o.dst==some 15&&n==1)||(o.dst==some 17&&n==2)|_=>false)
 | .insert t m k x=>t==tM&&o.dst==none&&(match m with| .tmp s=>s==1|_=>false)&&(match k with| .tmp s=>(jC l s).isSome|_=>false)&&(match x with| .func _=>true| .tmp s=>s==15||s==17|_=>false)
 | .move x=>o.dst==some 34&&(match x with| .tmp s=>s==1|_=>false)
 | .assign x=>o.dst==some 0&&(match x with| .tmp s=>s==34|_=>false)
 |_=>false
def afB (l:List Oper) (t:Nat) (e:Edge):Bool:=Region.binds .any e&&(match l[e.on]? with|some o=>o.dst==some t|none=>false)
def WI (l:List Oper) (o:Oper):Bool:=o.op.operands.toList.all fun x=>match x with
 | .tmp t=>o.after.toList.any (afB l t)
 |_=>true
def ltB:Nat->List Oper->Bool
 |_,[]=>true
 |i,o::l=>o.after.toList.all (fun e=> !Region.binds .any e||Nat.blt e.on i)&&ltB (i+1) l
def wO (l:List Oper):Bool:=
 l.all (fun o=>o.guard.isNone&&JQ l o&&WI l o)&&ltB 0 l&&sX (l.map fun o=>(o.dst,0))&&(jC l 1).isNone&&(jC l 15).isNone&&(jC l 17).isNone&&(jC l 34).isNone&&(jC l 0).isNone
def Im (l:List Oper):List (Int×Int):=l.filterMap (kD l)
theorem Ev:∀{l:List Oper} {i0:Nat},ltB i0 l=true->∀(i:Nat) (o:Oper),l[i]? =some o->∀e∈o.after,Region.binds .any e=true->e.on<i0+i
 | [],_,_,i,o,h,_,_,_=>by simp at h
 |x::l,i0,h,i,o,ho,e,he,hb=>by
  simp only[ltB,aaX,List.all_eq_true,Bool.or_eq_true,Bool.not_eq_true']at h;cases i with
  |zero=>
   simp only[List.getElem?_cons_zero,aaV]at ho;subst ho;rcases h.1 e (by simpa using he)with h|h
   ·rw[hb]at h;simp at h
   ·rw[Nat.blt_eq]at h;omega
  |succ i=>
   have:=Ev h.2 i o (by simpa using ho) e he hb
   omega
theorem qw {α β:Type} {f:α->Option β}:∀{l:List α},(l.filterMap f).Nodup->∀{i j:Nat} {a b:α} {x:β},l[i]? =some a->l[j]? =some b->f a=some x->f b=some x->i=j
 | [],_,i,j,a,b,x,h,_,_,_=>by simp at h
 |y::l,h,i,j,a,b,x,hi,hj,ha,hb=>by
  have key:∀{k:Nat} {c:α},l[k]? =some c->f c=some x->f y=some x->False:=fun{k c} hk hc hy=>by
   rw[List.filterMap_cons_some hy,List.nodup_cons]at h;exact h.1 (List.mem_filterMap.2 ⟨c,List.mem_of_getElem? hk,hc⟩)
  cases i with
  |zero=>
   simp only[List.getElem?_cons_zero,aaV]at hi;subst hi;cases j with
   |zero=>rfl
   |succ j=>exact(key (by simpa using hj) hb ha).elim
  |succ i=>
   cases j with
   |zero=>
    simp only[List.getElem?_cons_zero,aaV]at hj;subst hj;exact(key (by simpa using hi) ha hb).elim
   |succ j=>
    have:(l.filterMap f).Nodup:=by
     cases hy:f y with
     |none=>simpa[List.filterMap_cons,hy]using h
     |some z=>simp only[List.filterMap_cons,hy,List.nodup_cons]at h;exact h.2
    exact congrArg (· +1) (qw (i:=i) (j:=j) this (by simpa using hi) (by simpa using hj) ha hb)
structure Ay (l:List Oper) (w0:World) (L:Nat->Bool) (a:Act) (w:World) (r0 b1 b2:Nat):Prop where
 sz:a.tmps.size=35
 df:a.defers= []
 tmp:∀(i:Nat) o d,l[i]? =some o->L i=true->o.dst=some d->a.tmps.getD d undef=F7 l r0 b1 b2 d
 bel:Below w0.heap.size w0 w
 down:∀(i:Nat) o,l[i]? =some o->L i=true->∀e∈o.after,Region.binds .any e=true->L e.on=true
 map:∀(i:Nat) o,l[i]? =some o->L i=true->o.dst=some 1->w0.heap.size<=r0/\∃es cl,w.heap[r0]? =some (.map es cl)/\(es.toList.map fun e=>(e.key,e.val)).Perm (nt l b1 b2 L 0 l)
 one:∀(i:Nat) o,l[i]? =some o->L i=true->o.dst=some 15->w0.heap.size<=b1/\w.heap[b1]? =some (.cells #[.int .i64 1] T2 (0,0))
 two:∀(i:Nat) o,l[i]? =some o->L i=true->o.dst=some 17->w0.heap.size<=b2/\w.heap[b2]? =some (.cells #[.int .i64 2] T2 (0,0))
theorem Cf {x y:Int} (hx:bY .i64 x) (hy:bY .i64 y) (w:World):(Instr.build tPl #[(0,.int .i64 x),(1,.int .i64 y)]).run Tryz.prog w= .ok (FB (x,y)) w:=
 (qF (J:=Env.zero) (w:=w) (K:=fun _=>True) (C:=(YM [] [] [] bx aQ).toCtx) (t:=tPl) (parts:= [(0,.it .i64 x),(1,.it .i64 y)]) (r:= .ag [.it .i64 x,.it .i64 y]) (yG pj) (by kernel_rfl) (by simp;exact⟨hx,hy⟩)).1
theorem TE (n:Int):an Tryz.prog SQ [.it .i64 n] [] (fun v r=>v= .fn fMc [.lp 0 0]/\r= [.blk T2 (.it .i64 n)]) (fun _ _=>False):=
 bj aq aD (inl:=bx) (ann:=aQ) (G:=(V.fn fMc [V.lp 0 0]=V.fn fMc [V.lp 0 0]/\ [aK.blk T2 (V.it .i64 n)]= [aK.blk T2 (V.it .i64 n)])) ⟨rfl,rfl⟩ (by kernel_rfl)
theorem G3 {n:Int} (hn:bY .i64 n) (w:World):CallsIn (FF Tryz.prog none) 0 Tryz.prog SQ #[.int .i64 n] w fun e w'=>∃b,e= .returned (HR b)/\Below w.heap.size w w'/\w.heap.size<=b/\w'.heap[b]? =some (.cells #[.int .i64 n] T2 (0,0)):=by
 have hE:bq Env.zero (fun _ _=>False) [] (known []) w (fun _=>False) w:=
  ⟨fun i hi=>hi,Nat.le_refl _,rfl,rfl,rfl,fun i hi=>by simp[known,ay]at hi,fun i b hi=>by simp[known,ay]at hi,fun i j b hi=>by simp[known,ay]at hi,fun i b hi=>by simp[known,ay]at hi,fun _ _ _=>rfl⟩
 have hc:=TE n Env.zero _ w (fun _=>False) w hE ⟨hn,trivial⟩
 refine hc.mono fun e w' ⟨v,ρ1,fps1,r,g1,g2,g3,g4⟩=>?_
 rcases g4 with⟨rfl,rfl,rfl⟩|⟨_,hF⟩
 ·have hk:known [aK.blk T2 (V.it .i64 n)] 0:=by simp[known,ay]
  obtain⟨_,_,h1,h2⟩:=g1.holds 0 hk;refine⟨ρ1.num 0,by simp only[den,bB,HR];rfl,⟨g1.os,g1.tape,g1.output,g1.old,fun b hb=>g1.same b hb (fun h=>h)⟩,?_,?_⟩
  ·rcases Nat.lt_or_ge (ρ1.num 0) w.heap.size with h|h
   ·exact(g1.inF 0 _ hk h1 h).elim
   ·exact h
  ·rw[h2];simp[cells,den,Value.cells]
 ·exact hF.elim
theorem oR {l:List Oper} (hB:wO l=true) {i:Nat} {o:Oper} (h:l[i]? =some o):o.guard=none/\JQ l o=true/\WI l o=true:=by
 unfold wO at hB;simp only[aaX,List.all_eq_true]at hB;have:=hB.1.1.1.1.1.1.1 o (List.mem_of_getElem? h);exact⟨by simpa using this.1.1,this.1.2,this.2⟩
theorem Ri {l:List Oper} (hB:wO l=true) {i j:Nat} {o o':Oper} {t:Nat} (h:l[i]? =some o) (h':l[j]? =some o') (hd:o.dst=some t) (hd':o'.dst=some t):i=j:=by
 unfold wO at hB;simp only[aaX]at hB;exact pn (t:=t) hB.1.1.1.1.1.2 (by rw[List.getElem?_map,h,Option.map_some,hd]) (by rw[List.getElem?_map,h',Option.map_some,hd'])
theorem Cq {l:List Oper} (hB:wO l=true):jC l 1=none/\jC l 15=none/\jC l 17=none/\jC l 34=none/\jC l 0=none:=by
 unfold wO at hB;simp only[aaX,Option.isNone_iff_eq_none]at hB;obtain⟨⟨⟨⟨⟨_,h1⟩,h2⟩,h3⟩,h4⟩,h5⟩:=hB;exact⟨h1,h2,h3,h4,h5⟩
theorem uL {l:List Oper} {o:Oper} (h:JQ l o=true) {d:Nat} (hd:o.dst=some d):d<35/\((∃k,jC l d=some k)\/d=1\/d=15\/d=17\/(d=34/\Operand.tmp 1∈o.op.operands)\/(d=0/\Operand.tmp 34∈o.op.operands)):=by
 obtain⟨dst,op,type,pos,after,guard⟩:=o;simp only at hd;subst hd;cases op<;>simp only[JQ,Bool.false_eq_true]at h
 case move x=>
  simp only[aaX,aaZ,aaV]at h;obtain⟨rfl,h⟩:=h;cases x<;>simp at h
  subst h;exact⟨by omega,.inr (.inr (.inr (.inr (.inl ⟨rfl,by simp[Op.operands]⟩))))⟩
 case assign x=>
  simp only[aaX,aaZ,aaV]at h;obtain⟨rfl,h⟩:=h;cases x<;>simp at h
  subst h;exact⟨by omega,.inr (.inr (.inr (.inr (.inr ⟨rfl,by simp[Op.operands]⟩))))⟩
 case makeMap t r=>
  simp only[aaX,aaZ,aaV]at h;obtain⟨_,rfl⟩:=h;exact⟨by omega,.inr (.inl rfl)⟩
 case insert t m k x=>simp at h
 case build t ps=>
  simp only[aaX,aaZ]at h;obtain⟨h1,h2,h3⟩:=h;refine⟨by rw[Nat.blt_eq]at h2;exact h2,.inl ?_⟩
  rw[h3];split at h1
  ·rename_i k hk;exact⟨k,hk⟩
  ·simp at h1
 case call c=>
  simp only[aaX]at h;obtain⟨_,h⟩:=h;split at h
  ·simp only[Bool.or_eq_true,aaX,aaZ,aaV]at h;rcases h with⟨rfl,_⟩|⟨rfl,_⟩
   ·exact⟨by omega,.inr (.inr (.inl rfl))⟩
   ·exact⟨by omega,.inr (.inr (.inr (.inl rfl)))⟩
  ·simp at h
theorem vD {l:List Oper} {o:Oper} (h:JQ l o=true) {k:Int×Int} (hk:kD l o=some k):∃s x,o.op= .insert tM (.tmp 1) (.tmp s) x/\o.dst=none/\jC l s=some k/\((∃g,x= .func g)\/x= .tmp 15\/x= .tmp 17):=by
 obtain⟨dst,op,type,pos,after,guard⟩:=o;cases op<;>simp only[kD,reduceCtorEq]at hk
 rename_i t m kk x;simp only[JQ,aaX,aaZ]at h;obtain⟨⟨⟨⟨rfl,rfl⟩,hm⟩,hs⟩,hx⟩:=h;cases m<;>simp at hm
 subst hm;cases kk<;>simp only[reduceCtorEq]at hk
 rename_i s;refine⟨s,x,rfl,rfl,hk,?_⟩;cases x<;>simp at hx
 ·rcases hx with rfl|rfl
  ·exact .inr (.inl rfl)
  ·exact .inr (.inr rfl)
 ·exact .inl ⟨_,rfl⟩
theorem yi {l:List Oper} {o:Oper} {k:Int×Int} (hk:kD l o=some k) (b1 b2:Nat) {t s:Nat} {m x:Operand} (ho:o.op= .insert t m (.tmp s) x):vv l b1 b2 o=some (FB k,Ej b1 b2 x):=by
 unfold kD at hk;unfold vv;rw[ho]at hk⊢;simp only at hk⊢;rw[hk]
theorem TF {a b:Int×Int} (h:FB a=FB b):a=b:=by
 simp only[FB,Value.agg.injEq,Array.mk.injEq,List.cons.injEq,Value.int.injEq,true_and,and_true]at h;exact Prod.ext h.1 h.2
theorem Yo (a:Int×Int):FB a=j5 [a.1,a.2]:=rfl
section
variable {l:List Oper} {w0:World} {L:Nat->Bool} {a:Act} {w:World} {r0 b1 b2:Nat} {i:Nat} {o:Oper}
theorem OS (hB:wO l=true) {j:Nat} {o':Oper} (h:l[j]? =some o') {t:Nat} (ht:Operand.tmp t∈o'.op.operands):∃e∈o'.after,Region.binds .any e=true/\∃o1,l[e.on]? =some o1/\o1.dst=some t:=by
 have:=(oR hB h).2.2;unfold WI at this;rw[List.all_eq_true]at this;have:=this _ (by simpa using ht)
 simp only[List.any_eq_true]at this;obtain⟨e,he,h2⟩:=this;simp only[afB,aaX]at h2;refine⟨e,by simpa using he,h2.1,?_⟩
 have h3:=h2.2;split at h3
 ·rename_i o1 ho1;exact⟨o1,ho1,by simpa using h3⟩
 ·simp at h3
theorem Ay.dep (I:Ay l w0 L a w r0 b1 b2) (hB:wO l=true) {j:Nat} {o':Oper} (h:l[j]? =some o') (hj:L j=true) {t:Nat} (ht:Operand.tmp t∈o'.op.operands):∃k o1,l[k]? =some o1/\o1.dst=some t/\L k=true:=by
 obtain⟨e,he,hb,o1,h1,h2⟩:=OS hB h ht;exact⟨e.on,o1,h1,h2,I.down j o' h hj e he hb⟩
theorem Ay.root (I:Ay l w0 L a w r0 b1 b2) (hB:wO l=true) {j:Nat} {o':Oper} (h:l[j]? =some o') (hj:L j=true) {d:Nat} (hd:o'.dst=some d) (hd':d=1\/d=34\/d=0):∃k o1,l[k]? =some o1/\o1.dst=some 1/\L k=true:=by
 have step34:∀{j:Nat} {o':Oper},l[j]? =some o'->L j=true->o'.dst=some 34->∃k o1,l[k]? =some o1/\o1.dst=some 1/\L k=true:=fun{j o'} h hj hd=>by
  rcases(uL (oR hB h).2.1 hd).2 with⟨k,hk⟩|hk|hk|hk|⟨_,hk⟩|⟨hk,_⟩
  ·rw[(Cq hB).2.2.2.1]at hk;simp at hk
  ·omega
  ·omega
  ·omega
  ·exact I.dep hB h hj hk
  ·omega
 rcases hd' with rfl|rfl|rfl
 ·exact⟨j,o',h,hd,hj⟩
 ·exact step34 h hj hd
 ·rcases(uL (oR hB h).2.1 hd).2 with⟨k,hk⟩|hk|hk|hk|⟨hk,_⟩|⟨_,hk⟩
  ·rw[(Cq hB).2.2.2.2]at hk;simp at hk
  ·omega
  ·omega
  ·omega
  ·omega
  ·obtain⟨k,o1,h1,h2,h3⟩:=I.dep hB h hj hk;exact step34 h1 h3 h2
theorem xO {k:Int×Int} {s:Nat} (h:jC l s=some k):F7 l r0 b1 b2 s=FB k:=by unfold F7;rw[h]
theorem pT {s:Nat} (h:jC l s=none) (h1:s≠15) (h2:s≠17):F7 l r0 b1 b2 s= .map (some r0):=by unfold F7;rw[h];simp[h1,h2]
theorem yu (h:jC l 15=none):F7 l r0 b1 b2 15=HR b1:=by unfold F7;rw[h];rfl
theorem x9 (h:jC l 17=none):F7 l r0 b1 b2 17=HR b2:=by unfold F7;rw[h];rfl
theorem Ay.put (I:Ay l w0 L a w r0 b1 b2) (hB:wO l=true) (ho:l[i]? =some o) (hLi:L i=false) (hdep:∀e∈o.after,Region.binds .any e=true->L e.on=true) {d:Nat} (hd:o.dst=some d) {v:Value} {w':World} {c0 c1 c2:Nat}
  (hv:v=F7 l c0 c1 c2 d) (hs:∀(j:Nat) o' d',l[j]? =some o'->L j=true->o'.dst=some d'->F7 l r0 b1 b2 d'=F7 l c0 c1 c2 d') (hb:Below w0.heap.size w0 w')
  (hm:∀(j:Nat) o',l[j]? =some o'->ins L i j=true->o'.dst=some 1->w0.heap.size<=c0/\∃es cl,w'.heap[c0]? =some (.map es cl)/\(es.toList.map fun e=>(e.key,e.val)).Perm (nt l c1 c2 (ins L i) 0 l))
  (h1:∀(j:Nat) o',l[j]? =some o'->ins L i j=true->o'.dst=some 15->w0.heap.size<=c1/\w'.heap[c1]? =some (.cells #[.int .i64 1] T2 (0,0)))
  (h2:∀(j:Nat) o',l[j]? =some o'->ins L i j=true->o'.dst=some 17->w0.heap.size<=c2/\w'.heap[c2]? =some (.cells #[.int .i64 2] T2 (0,0))):Ay l w0 (ins L i) (a.put (some d) v) w' c0 c1 c2:=by
 have hd35:=(uL (oR hB ho).2.1 hd).1;refine⟨by rw[b8];exact I.sz,by simpa[Act.put]using I.df,fun j o' d' hj hL hd'=>?_,hb,fun j o' hj hL e he hbi=>?_,hm,h1,h2⟩
 ·have hp:∀s,(a.put (some d) v).tmps.getD s undef=if d=s then v else a.tmps.getD s undef:=fun s=>ca a d s v (by rw[I.sz];exact hd35)
  rw[hp];by_cases e:d=d'
  ·subst e;rw[aa4 rfl];exact hv
  ·rw[aa3 e]
   have hji:j≠i:=fun h=>by
    subst h;rw[ho]at hj;simp only[aaV]at hj;subst hj;rw[hd]at hd';simp only[aaV]at hd';exact e hd'
   have hLj:L j=true:=by simpa[ins,hji]using hL
   rw[I.tmp j o' d' hj hLj hd'];exact hs j o' d' hj hLj hd'
 ·by_cases hji:j=i
  ·subst hji;rw[ho]at hj;simp only[aaV]at hj;subst hj;simp[ins,hdep e he hbi]
  ·have hLj:L j=true:=by simpa[ins,hji]using hL
   simp[ins,I.down j o' hj hLj e he hbi]
theorem pg (ho:l[i]? =some o) (hn:kD l o=none) {c1 c2:Nat} (hc:∀(j:Nat) o',l[j]? =some o'->L j=true->vv l b1 b2 o'=vv l c1 c2 o'):nt l b1 b2 L 0 l=nt l c1 c2 (ins L i) 0 l:=
 qo fun j o' hj hk=>by
  rw[Nat.zero_add]
  have hji:j≠i:=fun h=>by
   subst h;rw[ho]at hj;simp only[aaV]at hj;subst hj;rw[hn]at hk;simp at hk
  exact⟨by simp[ins,hji],fun hL=>hc j o' hj hL⟩
end
theorem Oa {ops:Array Oper} {l:List Oper} (hops:ops.toList=l) (hB:wO l=true) (hk:(Im l).Nodup) {w0:World} {Q:Exit->Act->World->Prop} (L:Nat->Bool) (a:Act) (w:World) (i:Nat) (o:Oper) (ho:ops[i]? =some o) (hLi:L i=false)
  (hdep:∀e∈o.after,Region.binds .any e=true->L e.on=true) (hI:∃r0 b1 b2,Ay l w0 L a w r0 b1 b2) (K:Act->World->Prop) (hK:∀a' w',(∃r0 b1 b2,Ay l w0 (ins L i) a' w' r0 b1 b2)->K a' w'):wpOpIn (FF Tryz.prog none) 0 Tryz.prog ops Q i K a w:=by
 obtain⟨r0,b1,b2,I⟩:=hI;have hol:l[i]? =some o:=by rw[<-hops];simpa using ho
 have hg:=(oR hB hol).1;have hop:=(oR hB hol).2.1;obtain⟨n1,n15,n17,n34,n0⟩:=Cq hB;have hsz:=I.bel.size;unfold wpOpIn;simp only[ho];rw[aa4 (by simp[Region.wanted,hg])]
 have hev:∀t,Operand.tmp t∈o.op.operands->∃k o1,l[k]? =some o1/\o1.dst=some t/\L k=true/\a.eval (.tmp t)=F7 l r0 b1 b2 t:=fun t ht=>by
  obtain⟨e,he,hb,o1,h1,h2⟩:=OS hB hol ht;exact⟨e.on,o1,h1,h2,hdep e he hb,I.tmp _ _ _ h1 (hdep e he hb) h2⟩
 have notI:∀{j:Nat} {o':Oper} {t:Nat},l[j]? =some o'->L j=true->o'.dst=some t->o.dst=some t->False:=fun{j o' t} h1 h2 h3 h4=>by
  have:=Ri hB h1 hol h3 h4;rw[this,hLi]at h2;simp at h2
 have oldI:∀{j:Nat} {o':Oper} {t:Nat},l[j]? =some o'->ins L i j=true->o'.dst=some t->o.dst≠some t->L j=true:=fun{j o' t} h1 h2 h3 h4=>by
  have:j≠i:=fun e=>by
   subst e;rw[hol]at h1;simp only[aaV]at h1;subst h1;exact h4 h3
  simpa[ins,this]using h2
 obtain⟨dst,op,type,pos,after,guard⟩:=o;simp only at hg;subst hg
 have about:∀(op:Op),(∀c,op≠ .call c)->∀f,(⟨dst,op,type,pos,after,none⟩:Oper).about Tryz.prog w a.eval=some f->(Tryz.prog.funcs[f]?).isSome=true:=fun op hc f hf=>by
  unfold Oper.about at hf;split at hf
  ·rename_i c hc';exact absurd hc' (hc c)
  ·simp at hf
 cases op<;>simp only[JQ,Bool.false_eq_true]at hop
 case move x=>
  simp only[aaX,aaZ]at hop;obtain⟨rfl,hx⟩:=hop;cases x<;>simp at hx
  subst hx;obtain⟨k,o1,g1,g2,g3,g4⟩:=hev 1 (by simp[Op.operands])
  have hn:kD l ⟨some 34,.move (.tmp 1),type,pos,after,none⟩=none:=rfl;refine eT (ro:=none) (by simp) (about _ (by simp)) ?_
  rw[show(execOp a.eval ⟨some 34,.move (.tmp 1),type,pos,after,none⟩).run Tryz.prog w= .ok (.value (.map (some r0))) w by simp[execOp,g4,pT n1]]
  refine hK _ _ ⟨r0,b1,b2,I.put hB hol hLi hdep rfl (pT n34 (by omega) (by omega)).symm (fun _ _ _ _ _ _=>rfl) I.bel (fun j o' h1 h2 h3=>?_) (fun j o' h1 h2 h3=>I.one j o' h1 (oldI h1 h2 h3 (by simp)) h3) (fun j o' h1 h2 h3=>I.two j o' h1 (oldI h1 h2 h3 (by simp)) h3)⟩
  rw[<-pg hol hn fun _ _ _ _=>rfl]
  exact I.map j o' h1 (oldI h1 h2 h3 (by simp)) h3
 case assign x=>
  simp only[aaX,aaZ]at hop;obtain⟨rfl,hx⟩:=hop;cases x<;>simp at hx
  subst hx;obtain⟨k,o1,g1,g2,g3,g4⟩:=hev 34 (by simp[Op.operands])
  have hn:kD l ⟨some 0,.assign (.tmp 34),type,pos,after,none⟩=none:=rfl;refine eT (ro:=none) (by simp) (about _ (by simp)) ?_
  rw[show(execOp a.eval ⟨some 0,.assign (.tmp 34),type,pos,after,none⟩).run Tryz.prog w= .ok (.value (.map (some r0))) w by simp[execOp,g4,pT n34]]
  refine hK _ _ ⟨r0,b1,b2,I.put hB hol hLi hdep rfl (pT n0 (by omega) (by omega)).symm (fun _ _ _ _ _ _=>rfl) I.bel (fun j o' h1 h2 h3=>?_) (fun j o' h1 h2 h3=>I.one j o' h1 (oldI h1 h2 h3 (by simp)) h3) (fun j o' h1 h2 h3=>I.two j o' h1 (oldI h1 h2 h3 (by simp)) h3)⟩
  rw[<-pg hol hn fun _ _ _ _=>rfl]
  exact I.map j o' h1 (oldI h1 h2 h3 (by simp)) h3
 case build t ps=>
  simp only[aaX]at hop;obtain⟨h1,h2⟩:=hop;split at h1
  case h_2=>simp at h1
  rename_i c hc;split at h2
  case h_2=>simp at h2
  rename_i d;simp only[aaX,aaY,aaZ]at h1 h2;have hkd:jC l d=some c:=h2.2.trans hc;unfold Rp at hc;simp only at hc;split at hc
  case isFalse=>simp at hc
  rename_i htp;have htp:=aaZ.1 htp;split at hc<;>simp only[aaV,reduceCtorEq]at hc
  rename_i x y hps;subst hc;have hps':ps= #[(0,.const (.int .i64 x)),(1,.const (.int .i64 y))]:=by rw[<-hps]
  subst hps';have hn:kD l ⟨some d,.build t #[(0,.const (.int .i64 x)),(1,.const (.int .i64 y))],type,pos,after,none⟩=none:=rfl;have hdn:d≠1/\d≠15/\d≠17:=⟨fun e=>by subst e;rw[n1]at hkd;simp at hkd,fun e=>by subst e;rw[n15]at hkd;simp at hkd,fun e=>by subst e;rw[n17]at hkd;simp at hkd⟩
  refine eT (ro:=none) (by simp) (about _ (by simp)) ?_
  have hr:=Cf h1.1 h1.2 w
  rw[show(execOp a.eval ⟨some d,.build t #[(0,.const (.int .i64 x)),(1,.const (.int .i64 y))],type,pos,after,none⟩).run Tryz.prog w= .ok (.value (FB (x,y))) w by
   subst htp;simp only[execOp,Sem.run_bind];rw[show(#[(0,Operand.const (.int .i64 x)),(1,.const (.int .i64 y))].map fun(i,z)=>(i,a.eval z))= #[(0,Value.int .i64 x),(1,.int .i64 y)] by apply Array.ext';simp[Act.eval],hr]
   rfl]
  refine hK _ _ ⟨r0,b1,b2,I.put hB hol hLi hdep rfl (xO hkd).symm (fun _ _ _ _ _ _=>rfl) I.bel (fun j o' h1 h2 h3=>?_) (fun j o' h1 h2 h3=>I.one j o' h1 (oldI h1 h2 h3 (by simp[hdn.2.1])) h3) (fun j o' h1 h2 h3=>I.two j o' h1 (oldI h1 h2 h3 (by simp[hdn.2.2])) h3)⟩
  rw[<-pg hol hn fun _ _ _ _=>rfl]
  exact I.map j o' h1 (oldI h1 h2 h3 (by simp[hdn.1])) h3
 case makeMap t r=>
  simp only[aaX,aaZ,Option.isNone_iff_eq_none]at hop;obtain⟨⟨rfl,rfl⟩,rfl⟩:=hop;have hn:kD l ⟨some 1,.makeMap tM none,type,pos,after,none⟩=none:=rfl
  have hroot:∀{j:Nat} {o':Oper} {d:Nat},l[j]? =some o'->L j=true->o'.dst=some d->(d=1\/d=34\/d=0)->False:=fun{j o' d} h1 h2 h3 h4=>by
   obtain⟨k,o1,g1,g2,g3⟩:=I.root hB h1 h2 h3 h4;exact notI g1 g3 g2 rfl
  have hno:∀(j:Nat) o',l[j]? =some o'->L j=true->kD l o'=none:=fun j o' h1 h2=>by
   cases hc:kD l o' with
   |none=>rfl
   |some c=>
    exfalso
    obtain⟨s,x,e1,_⟩:=vD (oR hB h1).2.1 hc;obtain⟨k,o1,g1,g2,g3⟩:=I.dep hB h1 h2 (t:=1) (by rw[e1];simp[Op.operands])
    exact notI g1 g3 g2 rfl
  refine eT (ro:=none) (by simp) (about _ (by simp)) ?_
  rw[show(execOp a.eval ⟨some 1,.makeMap tM none,type,pos,after,none⟩).run Tryz.prog w= .ok (.value (.map (some w.heap.size))) (w.alloc (.map #[] 0)) by
   simp[execOp,show(Instr.makeMap tM none).run Tryz.prog w= .ok (.map (some w.heap.size)) (w.alloc (.map #[] 0))from rfl]]
  have hal:=MapKept.heap_alloc w (.map #[] 0);refine hK _ _ ⟨w.heap.size,b1,b2,I.put hB hol hLi hdep rfl (pT n1 (by omega) (by omega)).symm (fun j o' d' h1 h2 h3=>?_) (I.bel.alloc hsz _) (fun j o' h1 h2 h3=>?_) (fun j o' h1 h2 h3=>?_) (fun j o' h1 h2 h3=>?_)⟩
  ·rcases(uL (oR hB h1).2.1 h3).2 with⟨k,hk'⟩|e|e|e|⟨e,_⟩|⟨e,_⟩
   ·rw[xO hk',xO hk']
   ·exact(hroot h1 h2 h3 (.inl e)).elim
   ·rw[e,yu n15,yu n15]
   ·rw[e,x9 n17,x9 n17]
   ·exact(hroot h1 h2 h3 (.inr (.inl e))).elim
   ·exact(hroot h1 h2 h3 (.inr (.inr e))).elim
  ·refine⟨hsz, #[],0,hal.1,?_⟩
   rw[Bw fun j o' hj hL=>nh (by
    rw[Nat.zero_add]at hL;by_cases e:j=i
    ·subst e;rw[hol]at hj;simp only[aaV]at hj;subst hj;exact hn
    ·exact hno j o' hj (by simpa[ins,e]using hL)) _ _]
   exact List.Perm.refl _
  ·obtain⟨g1,g2⟩:=I.one j o' h1 (oldI h1 h2 h3 (by simp)) h3
   exact⟨g1,by rw[hal.2 _ (Array.getElem?_eq_some_iff.1 g2).1];exact g2⟩
  ·obtain⟨g1,g2⟩:=I.two j o' h1 (oldI h1 h2 h3 (by simp)) h3
   exact⟨g1,by rw[hal.2 _ (Array.getElem?_eq_some_iff.1 g2).1];exact g2⟩
 case call c=>
  obtain⟨callee,args,argTypes⟩:=c;simp only[aaX]at hop;obtain⟨h1,h2⟩:=hop;split at h1
  case h_2=>simp at h1
  rename_i g;have hgf:=aaZ.1 h1;subst hgf;split at h2
  case h_2=>simp at h2
  rename_i n hargs;have hargs':args= #[.const (.int .i64 n)]:=by rw[<-hargs]
  subst hargs';simp only[Bool.or_eq_true,aaX,aaZ]at h2;have hn:kD l ⟨dst,.call ⟨.value (.func SQ), #[.const (.int .i64 n)],argTypes⟩,type,pos,after,none⟩=none:=rfl;have hfd:(Tryz.prog.funcs[SQ]?).isSome=true:=by kernel_rfl
  have hnr:bY .i64 n:=by rcases h2 with⟨_,rfl⟩|⟨_,rfl⟩<;>simp[bY]
  have hrun:(execOp a.eval ⟨dst,.call ⟨.value (.func SQ), #[.const (.int .i64 n)],argTypes⟩,type,pos,after,none⟩).run Tryz.prog w= .ok (.enter SQ #[.int .i64 n]) w:=by
   have hcb:iP Tryz.prog SQ=true:=by kernel_rfl
   obtain⟨fn,f1,f2,f3⟩:=qG hcb;simp only[execOp,resolve,Act.eval,Deferred.ofValue,Sem.run_bind,Sem.run_pure,Result.andThen_ok,invoke,callFunc,run_program,f1,f2,f3,Bool.false_eq_true,if_false];simp[Act.eval]
  refine eT (ro:=none) (by simp) (fun f hf=>by
   have:f=SQ:=by
    simp only[Oper.about,resolve,Act.eval,Deferred.ofValue,Sem.run_bind,Sem.run_pure,Result.andThen_ok,Target.leads,aaV]at hf;exact hf.symm
   rw[this];exact hfd) ?_
  rw[hrun];refine⟨fun h=>by simp[FF]at h,(G3 hnr w).mono fun e w' ⟨b,he,hb,hbs,hbc⟩=>?_⟩
  subst he;have hbel:Below w0.heap.size w0 w':=⟨hb.os.trans I.bel.os,hb.tape.trans I.bel.tape,hb.output.trans I.bel.output,Nat.le_trans I.bel.size hb.size,fun c hc=>by rw[hb.block c (by omega)];exact I.bel.block c hc⟩
  have old:∀c x,w.heap[c]? =some x->w'.heap[c]? =some x:=fun c x h=>by rw[hb.block c (Array.getElem?_eq_some_iff.1 h).1];exact h
  have slotOf:∀(s:Nat),dst=some s->∀(j:Nat) o',l[j]? =some o'->L j=true->∀t m k,o'.op= .insert t m k (.tmp s)->False:=fun s hs j o' h1 h2 t m k h3=>by
   obtain⟨k,o1,g1,g2,g3⟩:=I.dep hB h1 h2 (t:=s) (by rw[h3];simp[Op.operands])
   exact notI g1 g3 g2 hs
  have cIns_ne:∀(c1 c2:Nat),(dst=some 15/\c2=b2\/dst=some 17/\c1=b1)->∀(j:Nat) o',l[j]? =some o'->L j=true->vv l b1 b2 o'=vv l c1 c2 o':=fun c1 c2 hc j o' h1 h2=>by
   cases hk':kD l o' with
   |none=>rw[nh hk',nh hk']
   |some q=>
    obtain⟨s,x,e1,_,_,e4⟩:=vD (oR hB h1).2.1 hk';rw[yi hk' _ _ e1,yi hk' _ _ e1];rcases e4 with⟨g,rfl⟩|rfl|rfl
    ·rfl
    ·rcases hc with⟨hc,_⟩|⟨_,rfl⟩
     ·exact(slotOf 15 hc j o' h1 h2 _ _ _ e1).elim
     ·rfl
    ·rcases hc with⟨_,rfl⟩|⟨hc,_⟩
     ·rfl
     ·exact(slotOf 17 hc j o' h1 h2 _ _ _ e1).elim
  rcases h2 with⟨rfl,rfl⟩|⟨rfl,rfl⟩
  ·refine hK _ _ ⟨r0,b,b2,I.put hB hol hLi hdep rfl (yu n15).symm (fun j o' d' h1 h2 h3=>?_) hbel (fun j o' h1 h2 h3=>?_) (fun j o' h1 h2 h3=>⟨Nat.le_trans hsz hbs,hbc⟩) (fun j o' h1 h2 h3=>?_)⟩
   ·by_cases e:d'=15
    ·subst e;exact(notI h1 h2 h3 rfl).elim
    ·unfold F7;simp[e]
   ·obtain⟨g1,es,cl,g2,g3⟩:=I.map j o' h1 (oldI h1 h2 h3 (by simp)) h3
    exact⟨g1,es,cl,old _ _ g2,by rw[<-pg hol hn (cIns_ne b b2 (.inl ⟨rfl,rfl⟩))];exact g3⟩
   ·obtain⟨g1,g2⟩:=I.two j o' h1 (oldI h1 h2 h3 (by simp)) h3
    exact⟨g1,old _ _ g2⟩
  ·refine hK _ _ ⟨r0,b1,b,I.put hB hol hLi hdep rfl (x9 n17).symm (fun j o' d' h1 h2 h3=>?_) hbel (fun j o' h1 h2 h3=>?_) (fun j o' h1 h2 h3=>?_) (fun j o' h1 h2 h3=>⟨Nat.le_trans hsz hbs,hbc⟩)⟩
   ·by_cases e:d'=17
    ·subst e;exact(notI h1 h2 h3 rfl).elim
    ·unfold F7;simp[e]
   ·obtain⟨g1,es,cl,g2,g3⟩:=I.map j o' h1 (oldI h1 h2 h3 (by simp)) h3
    exact⟨g1,es,cl,old _ _ g2,by rw[<-pg hol hn (cIns_ne b1 b (.inr ⟨rfl,rfl⟩))];exact g3⟩
   ·obtain⟨g1,g2⟩:=I.one j o' h1 (oldI h1 h2 h3 (by simp)) h3
    exact⟨g1,old _ _ g2⟩
 case insert t m k x=>
  have hck:∃c,kD l ⟨dst,.insert t m k x,type,pos,after,none⟩=some c:=by
   simp only[aaX]at hop;obtain⟨⟨_,hs⟩,_⟩:=hop;cases k<;>simp at hs
   exact Option.isSome_iff_exists.1 hs
  obtain⟨c,hck⟩:=hck;obtain⟨s,x',e1,e2,e3,e4⟩:=vD (o:=⟨dst,.insert t m k x,type,pos,after,none⟩) hop hck;simp only[Op.insert.injEq]at e1;obtain⟨rfl,rfl,rfl,rfl⟩:=e1;simp only at e2;subst e2;obtain⟨k1,o1,g1,g2,g3,g4⟩:=hev 1 (by simp[Op.operands])
  obtain⟨k2,o2,q1,q2,q3,q4⟩:=hev s (by simp[Op.operands])
  rw[pT n1 (by omega) (by omega)]at g4
  rw[xO e3]at q4
  have hx:a.eval x=Ej b1 b2 x:=by
   rcases e4 with⟨g,rfl⟩|rfl|rfl
   ·rfl
   ·obtain⟨_,_,_,_,_,h⟩:=hev 15 (by simp[Op.operands])
    rw[h,yu n15];rfl
   ·obtain⟨_,_,_,_,_,h⟩:=hev 17 (by simp[Op.operands])
    rw[h,x9 n17];rfl
  obtain⟨m1,es,cl,m2,m3⟩:=I.map k1 o1 g1 g3 g2
  have hmem:∀e∈es.toList,∃(j:Nat) (o':Oper) (c':Int×Int),l[j]? =some o'/\L j=true/\kD l o'=some c'/\e.key=FB c':=fun e he=>by
   have:=m3.mem_iff.1 (List.mem_map.2 ⟨e,he,rfl⟩);obtain⟨j,o',h1,h2,h3⟩:=DL this;rw[Nat.zero_add]at h2;cases hc:kD l o' with
   |none=>rw[nh hc]at h3;simp at h3
   |some c'=>
    obtain⟨s',x',f1,_⟩:=vD (oR hB h1).2.1 hc;rw[yi hc _ _ f1]at h3;simp only[aaV,aaW]at h3;exact⟨j,o',c',h1,h2,hc,h3.1.symm⟩
  have hwide:td Tryz.prog tPl 2=true:=by kernel_rfl
  have hum:Tryz.prog.underlying tM=some (.map tPl 176):=by kernel_rfl
  obtain⟨r,f1,f2⟩:=pJ (x:= [c.1,c.2]) hwide rfl w es.toList fun e he=>by
   obtain⟨_,_,c',_,_,_,h⟩:=hmem e he;exact⟨[c'.1,c'.2],rfl,h⟩
  have hr:r=none:=by
   rcases f2 with⟨h,_⟩|⟨j,e,rfl,h1,h2⟩
   ·exact h
   ·exfalso
    obtain⟨j',o',c',h3,h4,h5,h6⟩:=hmem e (List.mem_of_getElem? h1);have:c'=c:=TF (h6.symm.trans h2);subst this;have:=qw hk h3 hol h5 hck;rw[this,hLi]at h4;simp at h4
  subst hr;have hck2:=tt (P:=Tryz.prog) (a:= [c.1,c.2]) hwide rfl false w;have hset:=MapKept.heap_set (w:=w) (r:=r0) (o':= .map (es.push {key:=FB c,val:=Ej b1 b2 x,born:=cl}) (cl+1)) m2
  have hrun:(execOp a.eval ⟨none,.insert tM (.tmp 1) (.tmp s) x,type,pos,after,none⟩).run Tryz.prog w= .ok .skip {w with heap:=w.heap.setIfInBounds r0 (.map (es.push {key:=FB c,val:=Ej b1 b2 x,born:=cl}) (cl+1))}:=by
   have:(Instr.mapUpdate tM (.map (some r0)) (FB c) (Ej b1 b2 x)).run Tryz.prog w= .ok () {w with heap:=w.heap.setIfInBounds r0 (.map (es.push {key:=FB c,val:=Ej b1 b2 x,born:=cl}) (cl+1))}:=by
    rw[Yo];simp only[Instr.mapUpdate,Sem.run_bind,bG w hum,Result.andThen_ok,MapKept.run_getObj_map m2,hck2,f1,MapKept.run_setObj_map _ m2]
   simp[execOp,g4,q4,hx,this]
  refine eT (ro:=none) (by simp) (about _ (by simp)) ?_
  rw[hrun];have hci:=yi hck b1 b2 (rfl:(⟨none,.insert tM (.tmp 1) (.tmp s) x,type,pos,after,none⟩:Oper).op=_);have hp:=Ef (l:=l) (b1:=b1) (b2:=b2) hLi (m:=l) (i:=0) hol (by omega) hci
  have old:∀b cs t,w.heap[b]? =some (Go.Obj.cells cs t (0,0))->(w.heap.setIfInBounds r0 (Go.Obj.map (es.push {key:=FB c,val:=Ej b1 b2 x,born:=cl}) (cl+1)))[b]? =some (Go.Obj.cells cs t (0,0)):=fun b cs t h=>by
   rw[hset.2 b fun e=>by rw[e,m2]at h;simp at h]
   exact h
  refine hK _ _ ⟨r0,b1,b2,I.sz,I.df,fun j o' d' h1 h2 h3=>I.tmp j o' d' h1 (oldI h1 h2 h3 (by simp)) h3,⟨I.bel.os,I.bel.tape,I.bel.output,by simpa using hsz,fun b hb=>?_⟩,fun j o' h1 h2 e he hbi=>?_,fun j o' h1 h2 h3=>⟨m1,_,_,hset.1,?_⟩,fun j o' h1 h2 h3=>?_,fun j o' h1 h2 h3=>?_⟩
  ·show(w.heap.setIfInBounds r0 _)[b]? =_
   rw[hset.2 b (by omega)]
   exact I.bel.block b hb
  ·by_cases hji:j=i
   ·subst hji;rw[hol]at h1;simp only[aaV]at h1;subst h1;simp[ins,hdep e he hbi]
   ·have hLj:L j=true:=by simpa[ins,hji]using h2
    simp[ins,I.down j o' h1 hLj e he hbi]
  ·simp only[Array.toList_push,List.map_append,List.map_cons,List.map_nil];exact(List.Perm.append_right _ m3).trans hp.symm
  ·obtain⟨u1,u2⟩:=I.one j o' h1 (oldI h1 h2 h3 (by simp)) h3
   exact⟨u1,old _ _ _ u2⟩
  ·obtain⟨u1,u2⟩:=I.two j o' h1 (oldI h1 h2 h3 (by simp)) h3
   exact⟨u1,old _ _ _ u2⟩
def Se (n:Nat):Code->Option (Array Oper)
 | .region i ops _=>if i==n then some ops else none
 | .seq a b=>(Se n a).orElse fun _=>Se n b
 |_=>none
abbrev fOd:Nat:=133
noncomputable abbrev MZ:Func:=Tryz.f133
noncomputable def od0:Array Oper:=(MZ.body.bind (Se 0)).getD #[]
noncomputable def Dw:Array Oper:=(MZ.body.bind (Se 1)).getD #[]
theorem Uu:MZ.body=some (.seq (.region 0 od0 false) (.seq (.region 1 Dw true) .ret)):=by kernel_rfl
theorem RB:od0.size=1/\∃o,od0[0]? =some o/\o.guard=none/\o.dst=some 0/\o.op= .assign (.const (.map none)):=⟨by kernel_rfl,_,rfl,rfl,rfl,rfl⟩
theorem CL:wO Dw.toList=true:=by kernel_rfl
theorem Lt:(Im Dw.toList).Nodup:=aa1 (by kernel_rfl)
theorem Rv (b1 b2:Nat):nt Dw.toList b1 b2 (fun _=>true) 0 Dw.toList=(([[1,1],[2,1],[2,2],[2,3],[2,4],[2,5],[2,6],[3,1],[3,2],[3,3],[3,4],[3,5],[4,1],[4,2],[4,3],[4,4],[4,5],[4,6],[5,1],[5,2],[5,3],[5,4],[5,5],[5,6],[5,7],[8,1],[8,2],[8,3],[9,1],[10,1]]:List (List Int)).map j5).zip
  (match Iq 0 with| (.mq _ vs)::_=>bB (((Env.zero.bT 0 0).bT 1 b1).bT 2 b2) vs|_=> []):=by kernel_rfl
theorem RO:an Tryz.prog fOd [] [] (w8 [0,1,2] odX Iq) (fun _ _=>False):=by
 intro J fps w0 F0 w hH hargs;refine callsIn_of_wp_marks (fn:=MZ) (by kernel_rfl) Uu (by show(Tryz.prog.funcs[fOd]?).isSome=true;kernel_rfl) ?_
 refine wpIn_mono (P:=Tryz.prog) (Q:=gW J [] w0 F0 (finish (Vd [] [] bx aQ).toCtx (fun _ _ _ _=>False) MZ (w8 [0,1,2] odX Iq) (fun _ _=>False))) ?_ fun e a w hp=>xt (C:=(Vd [] [] bx aQ).toCtx) (A9 (by simp)) (fun _ _ _ _ _ _ _ _ h=>h.elim) hp
 refine wpIn_seq (wpIn_region ?_);obtain⟨z1,o,z2,z3,z4,z5⟩:=RB;rw[z1];refine cQ (P:=Tryz.prog) z2 z3 (v:= .map none) (w':=w) (by simp[execOp,z5,Act.eval]) (by intro c;rw[z5];simp) ?_
 rw[z4];show Code.wpIn _ _ _ _ _ _ _
 refine wpIn_seq (wpIn_region_any (by kernel_rfl) ?_)
 generalize hA:Act.put _ _ _=A
 have hsz:A.tmps.size=35:=by subst hA;rw[b8];simp[bB]
 have hdf:A.defers= []:=by subst hA;rfl
 refine Th (fun L a w'=>∃r0 b1 b2,Ay Dw.toList {w with drawn:=w.drawn+1} L a w' r0 b1 b2) (fun i o h e he hb=>?_) (Oa rfl CL Lt) (fun L a w' hall hI=>?_) _ _ _ _ (by simp) ?_ ⟨0,0,0,?_⟩
 ·have h1:=CL;unfold wO at h1;simp only[aaX]at h1;have:=Ev h1.1.1.1.1.1.1.2 i o (by simpa using h) e he hb
  omega
 ·obtain⟨r0,b1,b2,I⟩:=hI
  have hat:∀(i:Nat) (d:Nat),(∃o,Dw.toList[i]? =some o/\o.dst=some d)->∃o,Dw.toList[i]? =some o/\L i=true/\o.dst=some d:=fun i d ⟨o,h1,h2⟩=>⟨o,h1,hall i (by
   have:=(List.getElem?_eq_some_iff.1 h1).1;simpa using this),h2⟩
  obtain⟨o1,p1,p2,p3⟩:=hat 0 1 ⟨_,rfl,rfl⟩;obtain⟨o2,q1,q2,q3⟩:=hat 26 15 ⟨_,rfl,rfl⟩;obtain⟨o3,s1,s2,s3⟩:=hat 29 17 ⟨_,rfl,rfl⟩;obtain⟨o4,t1,t2,t3⟩:=hat 64 0 ⟨_,rfl,rfl⟩;obtain⟨m1,es,cl,m2,m3⟩:=I.map 0 o1 p1 p2 p3;obtain⟨u1,u2⟩:=I.one 26 o2 q1 q2 q3;obtain⟨v1,v2⟩:=I.two 29 o3 s1 s2 s3;have ht:=I.tmp 64 o4 0 t1 t2 t3;rw[pT (Cq CL).2.2.2.2 (by omega) (by omega)]at ht
  have hL:nt Dw.toList b1 b2 L 0 Dw.toList=nt Dw.toList b1 b2 (fun _=>true) 0 Dw.toList:=qo fun j o h _=>⟨by
   rw[Nat.zero_add];exact hall j (by have:=(List.getElem?_eq_some_iff.1 h).1;simpa using this),fun _=>rfl⟩
  rw[hL,Rv]at m3;refine wpIn_ret ?_;have hne1:r0≠b1:=fun e=>by rw[e,u2]at m2;simp at m2
  have hne2:r0≠b2:=fun e=>by rw[e,v2]at m2;simp at m2
  have hne3:b1≠b2:=fun e=>by rw[e,v2]at u2;simp at u2
  have hbel:Below w.heap.size w w':=⟨I.bel.os,I.bel.tape,I.bel.output,I.bel.size,I.bel.block⟩;have hnk:∀i,¬known ([]:List aK) i:=fun i h=>by simp[known,ay]at h
  have hkn:∀i,known (Iq 0) i↔i<3:=fun i=>by
   unfold known Iq;rcases i with _|_|_|i<;>simp[ay]
  have hgrow:n9 (known []) J (((J.bT 0 r0).bT 1 b1).bT 2 b2) 0 (Iq 0) w0 F0 w w':=by
   refine⟨hbel,fun j hj=>?_,fun k b=>b=(((J.bT 0 r0).bT 1 b1).bT 2 b2).num k,fun k hk=>?_,fun k l b hk hl hne h1 h2=>?_⟩
   ·have:¬j<3:=fun h=>hj ⟨by omega,by show j<0+3;omega⟩
    have e0:j≠0:=by omega
    have e1:j≠1:=by omega
    have e2:j≠2:=by omega
    simp[Env.bT,e0,e1,e2]
   ·have hk3:k<3:=hk;rw[Nat.zero_add];rcases k with _|_|_|k
    ·refine⟨⟨rfl,?_,?_,⟨rfl,aa1 (by kernel_rfl)⟩,es,cl,?_,?_⟩,fun b hb=>?_⟩
     ·simp[fM,ok,fresh,Iq]
     ·simp[ti]
     ·simpa[Env.bT]using m2
     ·exact m3
     ·have:b=r0:=by simpa[Env.bT]using hb
      subst this;exact⟨m1,(Array.getElem?_eq_some_iff.1 m2).1⟩
    ·refine⟨⟨by simp[ok,bY],rfl,rfl,?_⟩,fun b hb=>?_⟩
     ·simpa[Env.bT,cells,den,Value.cells]using u2
     ·have:b=b1:=by simpa[Env.bT]using hb
      subst this;exact⟨u1,(Array.getElem?_eq_some_iff.1 u2).1⟩
    ·refine⟨⟨by simp[ok,bY],rfl,rfl,?_⟩,fun b hb=>?_⟩
     ·simpa[Env.bT,cells,den,Value.cells]using v2
     ·have:b=b2:=by simpa[Env.bT]using hb
      subst this;exact⟨v1,(Array.getElem?_eq_some_iff.1 v2).1⟩
    ·omega
   ·have hk3:k<3:=hk;have hl3:l<3:=hl;rcases k with _|_|_|k<;>rcases l with _|_|_|l<;>first|omega| (simp[Env.bT]at h1 h2;subst h1;first|exact hne1 h2|exact hne1 h2.symm|exact hne2 h2|exact hne2 h2.symm|exact hne3 h2|exact hne3 h2.symm)
  obtain⟨fps',hr,hag⟩:=hH.grow (res':=Iq 0) (K':=known (Iq 0)) ⟨fun i hi=>(hnk i hi).elim,fun i hi=> .inr ⟨by omega,by show i<0+3;have:=(hkn i).1 hi;omega⟩,fun k hk=>by rw[Nat.zero_add]⟩ (fun i hi=>(hnk i hi).elim)
   (fun i hi=>by
    rcases hi with hi|⟨_,hi⟩
    ·exact(hnk i hi).elim
    ·exact(hkn i).2 (by simpa[Iq]using hi)) hgrow
  refine⟨.ret,{slots:= .v (.mp 0)::List.replicate 34 .und,res:=Iq 0,defs:= []},_,fps',trivial,?_,⟨⟨by simp[I.sz],fun t=>?_⟩,hr,by rw[I.df];rfl,by simp⟩,hag,fun i hi=>(hnk i hi).elim⟩
  ·exact Eq.mp (by kernel_rfl:w8 [0,1,2] odX Iq (.mp 0) (Iq 0)=_) (fun nid=>⟨rfl,rfl⟩)
  ·cases t with
   |zero=>exact⟨by rw[ht];simp[den,Env.bT],(hkn 0).2 (by omega)⟩
   |succ t=>
    have:b9 (S.v (V.mp 0)::List.replicate 34 S.und) (t+1)= .und:=by
     rw[lh,aa2,List.getElem?_cons_succ,List.getElem?_replicate];split<;>rfl
    rw[this];trivial
 ·have:Dg (Array.replicate Dw.size false) Dw.size<=Dw.size:=by
   have:=List.length_filter_le (fun k=> !(Array.replicate Dw.size false).getD k false) (List.range Dw.size)
   simpa[Dg]using this
  exact this
 ·have hfalse:∀k,(Array.replicate Dw.size false).getD k false=false:=fun k=>by
   simp only[Array.getD_eq_getD_getElem?,Array.getElem?_replicate];split<;>rfl
  exact⟨hsz,hdf,fun i o d _ h=>by simp only[hfalse]at h;simp at h,Below.refl _ _,fun i o _ h=>by simp only[hfalse]at h;simp at h,fun i o _ h=>by simp only[hfalse]at h;simp at h,fun i o _ h=>by simp only[hfalse]at h;simp at h,fun i o _ h=>by simp only[hfalse]at h;simp at h⟩
theorem dw:cq Tryz.prog fOd (A0 odX Iq):=vA (π:= [0,1,2]) (by decide) (fun _=>rfl) RO
end Go.Proofs.YtlblcfaclmpekaaGreat
