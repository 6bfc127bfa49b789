import Derived.Test.YtlblcfaclmpekaaGreatMa11
set_option linter.unusedSimpArgs false
set_option linter.unusedVariables false
set_option maxRecDepth 100000
namespace Go.Proofs.YtlblcfaclmpekaaGreat
open Go.Sx
abbrev abc(L:List Sx.Obj)(k:Key):=aj L k.oid.toNat free
theorem KE (L:List Sx.Obj) (k:Key):
 aba (!decide (aB L k 4 false=0)) (0=aM L k/\0=aD L k/\aB L k 4 false=aN L k) ((0<=k.oid/\k.oid< ↑(ai L))/\k.oid.toNat<ai L/\(0<=k.oid/\k.oid< ↑(ai L))/\k.oid.toNat<ai L/\aba (!decide (((abc L k).slots.at 0).kind=1)|| !decide (((abc L k).slots.at 1).kind=1)||decide (((abc L k).slots.at 0).value<0)||decide (((abc L k).slots.at 1).value<((abc L k).slots.at 0).value)||decide (bQ (ai L)<=((abc L k).slots.at 1).value)) (0=aM L k/\0=aD L k/\220=aN L k) (((abc L k).slots.at 0).value=aM L k/\((abc L k).slots.at 1).value=aD L k/\0=aN L k)):=by
 delta aba abc
 rw[MH];refine⟨fun h=>?_,fun h=>?_⟩
 ·obtain⟨e1,e2,e3⟩:=Gy (show aB L k 4 false≠0 by simpa using h)
  rw[e1,e2,e3];exact⟨rfl,rfl,rfl⟩
 ·have h0:aB L k 4 false=0:=by simpa using h
  obtain⟨_,b2,b3,_⟩:=ei (gw h0).1;refine⟨⟨b2,b3⟩,by unfold ai;omega,⟨b2,b3⟩,by unfold ai;omega,fun h2=>?_,fun h2=>?_⟩
  ·obtain⟨e1,e2,e3⟩:=C0 h0 (by simpa using h2)
   rw[e1,e2,e3];exact⟨rfl,rfl,rfl⟩
  ·obtain⟨e1,e2,e3⟩:=vI h0 (by simpa using h2)
   rw[e1,e2,e3];exact⟨rfl,rfl,rfl⟩
theorem rU:cz Tryz.prog 139 S6:=
 eQ (aA jC D1) (fun _=>rfl) fun a hq hok=>by
  obtain⟨L,k,_⟩:=a;exact bc (inl:=bx) (ann:=aQ) (ae pK ar) (KE L k) (by kernel_rfl)
theorem Jl (L:List Sx.Obj) (f l kind:Int) (hq:D8 L f l):
 (∃g,uH L f l g/\f=f/\l=l/\kind=kind/\f=g/\L=L)/\(∀(g:Int),uH L f l g->aba (decide (g<=l)) ((0<=g/\g< ↑(ai L))/\g.toNat<ai L/\aba (!decide ((aj L g.toNat free).kind=0)) (abd (g+1)/\((∃g',uH L f l g'/\(l+1-g').toNat<(l+1-g).toNat/\f=f/\l=l/\kind=kind/\g+1=g'/\L=L)\/∃g',sP L f l g'/\(l+1-g').toNat<(l+1-g).toNat/\False)) (aba (decide (4294967295<=(aj L g.toNat free).count)) (dO L g/\abd (g+1)/\((∃g',uH L f l g'/\(l+1-g').toNat<(l+1-g).toNat/\False)\/∃g',sP L f l g'/\(l+1-g').toNat<(l+1-g).toNat/\f=f/\l=l/\kind=kind/\g+1=g'/\L=L/\b6 L g.toNat (Obj.mk 3 (aj L g.toNat free).count free.calls free.slots free.bytes)=bN L f g')) (abd ((aj L g.toNat free).count+1)/\dO L g/\lH L f l=true/\g=br L f l/\b6 L g.toNat (Obj.mk kind ((aj L g.toNat free).count+1) free.calls free.slots free.bytes)=cH L f l kind))) (lH L f l=false/\-1=br L f l))/\∀(g:Int),sP L f l g->aba (decide (g<=l)) ((0<=g/\g< ↑(ai (bN L f g)))/\g.toNat<ai (bN L f g)/\aba (!decide ((aj (bN L f g) g.toNat free).kind=0)) (abd (g+1)/\∃g',sP L f l g'/\(l+1-g').toNat<(l+1-g).toNat/\f=f/\l=l/\kind=kind/\g+1=g'/\L=L/\bN L f g=bN L f g') (aba (decide (4294967295<=(aj (bN L f g) g.toNat free).count)) (dO (bN L f g) g/\abd (g+1)/\∃g',sP L f l g'/\(l+1-g').toNat<(l+1-g).toNat/\f=f/\l=l/\kind=kind/\g+1=g'/\L=L/\b6 (bN L f g) g.toNat (Obj.mk 3 (aj (bN L f g) g.toNat free).count free.calls free.slots free.bytes)=bN L f g') (abd ((aj (bN L f g) g.toNat free).count+1)/\dO (bN L f g) g/\lH L f l=true/\g=br L f l/\b6 (bN L f g) g.toNat (Obj.mk kind ((aj (bN L f g) g.toNat free).count+1) free.calls free.slots free.bytes)=cH L f l kind))) (lH L f l=true/\-1=br L f l/\bN L f g=cH L f l kind):=by
 delta aba abd
 obtain⟨hL,h0,hl,hfl⟩:=hq;have hlen:=gY hL;have hll:(ai L:Int)=(L.length:Int):=rfl;have hrq:∀(M:List Sx.Obj) (g:Int),M.length=L.length->0<=g->g<=l->dO M g:=fun M g hM h1 h2=>⟨h1,by unfold ai;omega,by unfold ai;omega⟩
 have hin:∀g:Int,0<=g->g<=l->aF IntKind.i64 (g+1):=fun g h1 h2=>by simp only[aF,cc];omega
 have hcnt:∀j:Nat,j<L.length->0<=(aj L j free).count/\(aj L j free).count<=4294967295:=fun j hj=>⟨(kf (dt hL j hj)).1,(kf (dt hL j hj)).2.1⟩
 have hci:∀j:Nat,j<L.length->aF IntKind.i64 ((aj L j free).count+1):=fun j hj=>by have:=hcnt j hj;simp only[aF,cc];omega
 refine⟨⟨f,⟨by omega,hfl,uj,JH⟩,(by(repeat' apply And.intro)<;>rfl)⟩,fun g hg=>⟨fun hgl=>?_,fun hgl=>?_⟩,fun g hg=>⟨fun hgl=>?_,fun hgl=>?_⟩⟩
 ·obtain⟨g0,g1,g2,g3⟩:=hg;have hgl:=aaZ hgl;have hgn:g.toNat<L.length:=by omega
  refine⟨⟨by omega,by omega⟩,hgn,fun hk=>?_,fun hk=>⟨fun hc=>?_,fun hc=>?_⟩⟩
  ·obtain⟨e1,e2⟩:=yy (o:=aj L g.toNat free) (by simpa using hk)
   exact⟨hin g (by omega) hgl,.inl ⟨g+1,⟨by omega,by omega,jP g2 e2,by rw[IL (by omega) e1];exact g3⟩,by omega,(by(repeat' apply And.intro)<;>rfl)⟩⟩
  ·obtain⟨e1,e2⟩:=CD (o:=aj L g.toNat free) (by simpa using hk) (aaZ hc)
   have hs:=yi (L:=L) (f:=f) (g:=g) (by omega) (by omega) g0 e1
   rw[zI g3]at hs;exact⟨hrq L g rfl (by omega) hgl,hin g (by omega) hgl,.inr ⟨g+1,⟨by omega,by omega,jP g2 e2,Ep (by omega) (by omega) g0 e1⟩,by omega,rfl,rfl,rfl,rfl,rfl,hs⟩⟩
  ·obtain⟨e1,e2⟩:=Cg (o:=aj L g.toNat free) (by simpa using hk) (aaY hc)
   obtain⟨m1,m2,m3⟩:=yD kind h0 g0 hgl (by omega) g2 e2
   rw[zI g3]at m3;exact⟨hci _ hgn,hrq L g rfl (by omega) hgl,m2,m1.symm,m3.symm⟩
 ·obtain⟨g0,g1,g2,g3⟩:=hg;have hgl:=aaY hgl;have:g=l+1:=by omega
  subst this;obtain⟨m1,m2,m3⟩:=Du kind g2;exact⟨by rw[m3];exact g3,m1.symm⟩
 ·obtain⟨g0,g1,g2,g3⟩:=hg;have hgl:=aaZ hgl;have hgn:g.toNat<L.length:=by omega
  have hgl2:(ai (bN L f g):Int)=(L.length:Int):=by unfold ai;rw[kR]
  have hga:=DD (L:=L) (f:=f) (g:=g) (by omega)
  rw[hga];refine⟨⟨by omega,by omega⟩,by omega,fun hk=>?_,fun hk=>⟨fun hc=>?_,fun hc=>?_⟩⟩
  ·obtain⟨e1,e2⟩:=yy (o:=aj L g.toNat free) (by simpa using hk)
   exact⟨hin g (by omega) hgl,g+1,⟨by omega,by omega,jP g2 e2,by rw[IL (by omega) e1];exact g3⟩,by omega,rfl,rfl,rfl,rfl,rfl,(zM (by omega) e1).symm⟩
  ·obtain⟨e1,e2⟩:=CD (o:=aj L g.toNat free) (by simpa using hk) (aaZ hc)
   exact⟨hrq _ g kR (by omega) hgl,hin g (by omega) hgl,g+1,⟨by omega,by omega,jP g2 e2,Ep (by omega) (by omega) g0 e1⟩,by omega,rfl,rfl,rfl,rfl,rfl,yi (by omega) (by omega) g0 e1⟩
  ·obtain⟨e1,e2⟩:=Cg (o:=aj L g.toNat free) (by simpa using hk) (aaY hc)
   obtain⟨m1,m2,m3⟩:=yD kind h0 g0 hgl (by omega) g2 e2
   exact⟨hci _ hgn,hrq _ g kR (by omega) hgl,m2,m1.symm,m3.symm⟩
 ·obtain⟨g0,g1,g2,g3⟩:=hg;have hgl:=aaY hgl;have:g=l+1:=by omega
  subst this;obtain⟨m1,m2,m3⟩:=Du kind g2;exact⟨by rw[m3];exact g3,m1.symm,m2.symm⟩
theorem Kl (L:List Sx.Obj) (f l kind:Int) (hq:D8 L f l):an Tryz.prog 140 [.sa 0,.it .i64 f,.it .i64 l,.it .i64 kind] [.ro (.arr none 163 (.ob L))] (yA (lH L f l) (cH L f l kind) [.it .i64 (br L f l)]) (fun _ _=>False):=
 bm (inl:=bx) (ann:=(iJ [(140,2,Zd [0,1,2,3] (fun g=> [(10,.it .i64 g)]) 0 tO 163 (fun g=> .ob (bN L f g)) (uH L f l) (sP L f l) (yG l 1))])) (ae jG ar) aE (Jl L f l kind hq) (by kernel_rfl)
theorem Bl:lh Tryz.prog 140 My:=
 iP (m:=fun x=>i3B.cn x 0) (fP Yu (fun _=>rfl)) (fun _=>rfl) (fun _ _=>rfl) fun L x hq=>Kl L x.1 x.2.1 x.2.2.1 hq
abbrev abe(L:List Sx.Obj)(k:Key):=br L (aM L k) (aD L k)
theorem PI (L:List Sx.Obj) (k:Key) (kind:Int) (hL:aq L):
 aba (decide (aN L k=0)&& !decide (kind=1)&& !decide (kind=2)) (gE L k kind=false/\void=dh L k kind/\2=cA L k kind) (aba (!decide (aN L k=0)) (gE L k kind=false/\void=dh L k kind/\aN L k=cA L k kind) (true=true/\D8 L (aM L k) (aD L k)/\(lH L (aM L k) (aD L k)=false->aba (decide (br L (aM L k) (aD L k)<0)) (gE L k kind=false/\void=dh L k kind/\221=cA L k kind) (abd (1+kind)/\(0<=br L (aM L k) (aD L k)/\br L (aM L k) (aD L k)< ↑(ai L))/\(abe L k).toNat<ai L/\gE L k kind=false/\Key.mk (1+kind) (abe L k) (aj L (abe L k).toNat free).count void.call void.rights void.value=dh L k kind/\0=cA L k kind))/\(lH L (aM L k) (aD L k)=true->aba (decide (br L (aM L k) (aD L k)<0)) (gE L k kind=true/\(void=dh L k kind/\221=cA L k kind)/\cH L (aM L k) (aD L k) kind=fx L k kind) (abd (1+kind)/\(0<=br L (aM L k) (aD L k)/\br L (aM L k) (aD L k)< ↑(ai (cH L (aM L k) (aD L k) kind)))/\(abe L k).toNat<ai (cH L (aM L k) (aD L k) kind)/\gE L k kind=true/\(Key.mk (1+kind) (abe L k) (aj (cH L (aM L k) (aD L k) kind) (abe L k).toNat free).count void.call void.rights void.value=dh L k kind/\0=cA L k kind)/\cH L (aM L k) (aD L k) kind=fx L k kind)))):=by
 delta aba abe abd
 refine⟨fun h=>?_,fun h=>⟨fun h2=>?_,fun h2=>?_⟩⟩
 ·simp only[aaV,Bool.not_eq_true',aaW,decide_eq_false_iff_not]at h;exact UB h.1.1 h.1.2 h.2
 ·exact Rs (by simpa using h2)
 ·have h2:aN L k=0:=by simpa using h2
  have hk:kind=1\/kind=2:=by
   simp only[h2,decide_true,Bool.true_and,Bool.and_eq_false_iff,Bool.not_eq_false',aaW]at h;exact h
  obtain⟨_,a0,a1,a2,_⟩:=mP h2;obtain⟨x1,x2⟩:=Ca h2;have hlen:=gY hL;rw[x1,x2];have hin:aF IntKind.i64 (1+kind):=by simp only[aF,cc];omega
  have hm:=wa (L:=L) (l:=aI L k) a0;refine⟨rfl,⟨hL,a0,a2,by omega⟩,fun hc=>⟨fun hi=>?_,fun hi=>?_⟩,fun hc=>⟨fun hi=>?_,fun hi=>?_⟩⟩
  ·have hi:=aaZ hi;obtain⟨m1,m2,m3,m4⟩:=zo h2 hk (by omega)
   exact⟨m1.trans hc,m2,m3⟩
  ·have hi:=aaY hi;rw[Dd (by omega)]at hc
   simp at hc
  ·have hi:=aaZ hi;obtain⟨m1,m2,m3,m4⟩:=zo h2 hk (by omega)
   exact⟨m1.trans hc,⟨m2,m3⟩,m4⟩
  ·have hi:=aaY hi;obtain⟨m1,m2,m3,m4⟩:=HK h2 hk (by omega)
   rw[show ai (cH L (ay L k) (aI L k) kind)=L.length from uF];exact⟨hin,⟨by omega,by omega⟩,by omega,m1,⟨m2,m3⟩,m4⟩
theorem MZ (L:List Sx.Obj) (k:Key) (kind:Int) (hL:aq L):an Tryz.prog 118 [.sa 0,.key k,.it .i64 kind] [.ro (.arr none 163 (.ob L))] (yA (gE L k kind) (fx L k kind) [.key (dh L k kind),.it .i64 (cA L k kind)]) (fun _ _=>False):=
 bm (inl:=bx) (ann:=aQ) (ae rU ar) (aC Bl aE) (PI L k kind hL) (by kernel_rfl)
theorem OU:lh Tryz.prog 118 Uy:=
 iP (m:=fun x=>TW.cn x 0) (fP CC (fun _=>rfl)) (fun _=>rfl) (fun _ _=>rfl) fun L x hq=>MZ L x.1 x.2.1 hq
theorem Sh (L:List Sx.Obj) (k v:Key) (hL:aq L):
 aba (!decide (aN L k=0)) (jU L k v=false/\aN L k=cE L k v) (aba (!aU L v|| !decide (v.kind=2)&& !decide (v.kind=3)) (jU L k v=false/\5=cE L k v) (aba (decide (v.oid<aM L k)||decide (aD L k<v.oid)||decide (v.oid=k.oid)) (jU L k v=false/\4=cE L k v) ((0<=v.oid/\v.oid< ↑(ai L))/\v.oid.toNat<ai L/\dO L v.oid/\jU L k v=true/\0=cE L k v/\b6 L v.oid.toNat (Obj.mk free.kind (aj L v.oid.toNat free).count free.calls free.slots free.bytes)=gA L k v))):=by
 delta aba
 refine⟨fun h=>?_,fun h=>⟨fun h2=>?_,fun h2=>⟨fun h3=>?_,fun h3=>?_⟩⟩⟩
 ·have h:aN L k≠0:=by simpa using h
  have e:cE L k v=aN L k:=by unfold cE;rw[aa1 h]
  exact⟨by unfold jU;rw[e];simpa using h,e.symm⟩
 ·have h:aN L k=0:=by simpa using h
  have e:cE L k v=5:=by unfold cE;rw[aa2 h,zp,h2];rfl
  exact⟨by unfold jU;rw[e];rfl,e.symm⟩
 ·have h:aN L k=0:=by simpa using h
  obtain⟨x1,x2⟩:=Ca h;rw[x1,x2]at h3
  have e:cE L k v=4:=by
   unfold cE;rw[aa2 h,zp,h2,aa2 (show(!false)=true from rfl),aa1];simp only[Bool.or_eq_true,aaW]at h3;omega
  exact⟨by unfold jU;rw[e];rfl,e.symm⟩
 ·have h:aN L k=0:=by simpa using h
  obtain⟨x1,x2⟩:=Ca h;rw[x1,x2]at h3;have ht:je L v=true:=by rw[zp,h2];rfl
  obtain⟨_,b2,b3,_⟩:=ei (Fe ht)
  have e:cE L k v=0:=by
   unfold cE;rw[aa2 h,ht,aa2 rfl,aa2];simp only[Bool.or_eq_false_iff,decide_eq_false_iff_not]at h3;omega
  have hlen:=gY hL;exact⟨⟨b2,b3⟩,by unfold ai;omega,⟨b2,b3,by unfold ai;omega⟩,by unfold jU;rw[e];rfl,e.symm,by unfold gA;rw[aa2 e];rfl⟩
theorem TG (L:List Sx.Obj) (k v:Key) (hL:aq L):an Tryz.prog 119 [.sa 0,.key k,.key v] [.ro (.arr none 163 (.ob L))] (yA (jU L k v) (gA L k v) [.it .i64 (cE L k v)]) (fun _ _=>False):=
 bm (inl:=bx) (ann:=aQ) (ae rU (ae mf (ae jG ar))) aE (Sh L k v hL) (by kernel_rfl)
theorem SI:lh Tryz.prog 119 XX:=
 iP (m:=fun x=>NY.cn x 0) (fP wj (fun _=>rfl)) (fun _=>rfl) (fun _ _=>rfl) fun L x hq=>TG L x.1 x.2.1 hq
abbrev abf(L:List Sx.Obj)(k:Key)(g:Int):=dT L (ay L k) g k.oid
theorem Pm (L:List Sx.Obj) (k:Key) (hL:aq L):
 aba (!decide (aN L k=0)) (kX L k=false/\0=fN L k/\aN L k=aN L k) ((∃g,vT L k g/\aM L k=aM L k/\aD L k=aD L k/\0=eW L (ay L k) g k.oid/\aM L k=g/\L=L/\k=k)/\(∀(g:Int),vT L k g->aba (decide (g<=aD L k)) ((0<=g/\g< ↑(ai L))/\g.toNat<ai L/\((!decide ((aj L g.toNat free).kind=1))=true->0<=g/\g< ↑(ai L))/\((!decide ((aj L g.toNat free).kind=1))=true->g.toNat<ai L)/\aba ((decide ((aj L g.toNat free).kind=1)||decide ((aj L g.toNat free).kind=2))&& !decide (g=k.oid)) ((0<=g/\g< ↑(ai L))/\g.toNat<ai L/\dO L g/\abd (eW L (ay L k) g k.oid+1)/\abd (g+1)/\((∃g',vT L k g'/\(aI L k+1-g').toNat<(aI L k+1-g).toNat/\False)\/∃g',sS L k g'/\(aI L k+1-g').toNat<(aI L k+1-g).toNat/\aM L k=aM L k/\aD L k=aD L k/\eW L (ay L k) g k.oid+1=eW L (ay L k) g' k.oid/\g+1=g'/\L=L/\k=k/\b6 L g.toNat (Obj.mk free.kind (aj L g.toNat free).count free.calls free.slots free.bytes)=dT L (ay L k) g' k.oid)) (abd (g+1)/\((∃g',vT L k g'/\(aI L k+1-g').toNat<(aI L k+1-g).toNat/\aM L k=aM L k/\aD L k=aD L k/\eW L (ay L k) g k.oid=eW L (ay L k) g' k.oid/\g+1=g'/\L=L/\k=k)\/∃g',sS L k g'/\(aI L k+1-g').toNat<(aI L k+1-g).toNat/\False))) (kX L k=false/\eW L (ay L k) g k.oid=fN L k/\0=aN L k))/\∀(g:Int),sS L k g->aba (decide (g<=aD L k)) ((0<=g/\g< ↑(ai (abf L k g)))/\g.toNat<ai (abf L k g)/\((!decide ((aj (abf L k g) g.toNat free).kind=1))=true->0<=g/\g< ↑(ai (abf L k g)))/\((!decide ((aj (abf L k g) g.toNat free).kind=1))=true->g.toNat<ai (abf L k g))/\aba ((decide ((aj (abf L k g) g.toNat free).kind=1)||decide ((aj (abf L k g) g.toNat free).kind=2))&& !decide (g=k.oid)) ((0<=g/\g< ↑(ai (abf L k g)))/\g.toNat<ai (abf L k g)/\dO (abf L k g) g/\abd (eW L (ay L k) g k.oid+1)/\abd (g+1)/\∃g',sS L k g'/\(aI L k+1-g').toNat<(aI L k+1-g).toNat/\aM L k=aM L k/\aD L k=aD L k/\eW L (ay L k) g k.oid+1=eW L (ay L k) g' k.oid/\g+1=g'/\L=L/\k=k/\b6 (abf L k g) g.toNat (Obj.mk free.kind (aj (abf L k g) g.toNat free).count free.calls free.slots free.bytes)=dT L (ay L k) g' k.oid) (abd (g+1)/\∃g',sS L k g'/\(aI L k+1-g').toNat<(aI L k+1-g).toNat/\aM L k=aM L k/\aD L k=aD L k/\eW L (ay L k) g k.oid=eW L (ay L k) g' k.oid/\g+1=g'/\L=L/\k=k/\dT L (ay L k) g k.oid=dT L (ay L k) g' k.oid)) (kX L k=true/\(eW L (ay L k) g k.oid=fN L k/\0=aN L k)/\dT L (ay L k) g k.oid=ib L k)):=by
 delta aba abf abd
 refine⟨fun h=>?_,fun h=>?_⟩
 ·have h:aN L k≠0:=by simpa using h
  exact⟨by unfold kX;simp[h],by unfold fN;rw[aa1 h],rfl⟩
 have h:aN L k=0:=by simpa using h
 obtain⟨_,a0,a1,a2,_⟩:=mP h;obtain⟨x1,x2⟩:=Ca h;have hlen:=gY hL;have hll:(ai L:Int)=(L.length:Int):=rfl;rw[x1,x2];have hit:∀g:Int,(((decide ((aj L g.toNat free).kind=1)||decide ((aj L g.toNat free).kind=2))&& !decide (g=k.oid)))=j5 L g k.oid:=fun g=>rfl
 have hin:∀g:Int,ay L k<=g->g<=aI L k->aF IntKind.i64 (g+1):=fun g h1 h2=>by simp only[aF,cc];omega
 have hnn:∀g:Int,aF IntKind.i64 (eW L (ay L k) g k.oid+1):=fun g=>by
  have:=um (L:=L) (f:=ay L k) (g:=g) (oid:=k.oid);have:=QN (L:=L) (f:=ay L k) (g:=g) (oid:=k.oid);simp only[aF,cc];omega
 refine⟨⟨ay L k,⟨by omega,by omega,u7⟩,rfl,rfl,u7.symm,rfl,rfl,rfl⟩,fun g hg=>⟨fun hgl=>?_,fun hgl=>?_⟩,fun g hg=>⟨fun hgl=>?_,fun hgl=>?_⟩⟩
 ·obtain⟨g0,g1,g2⟩:=hg;have hgl:=aaZ hgl;have hr1:0<=g/\g<(ai L:Int):=⟨by omega,by omega⟩
  have hr2:g.toNat<ai L:=by omega
  rw[hit g];refine⟨hr1,hr2,fun _=>hr1,fun _=>hr2,fun hh=>?_,fun hh=>?_⟩
  ·have hs:=zS (L:=L) (f:=ay L k) (oid:=k.oid) (by omega:0<=g) (by omega) g0 hh
   have hs2:=Dv (L:=L) (f:=ay L k) (oid:=k.oid) (by omega:0<=g) (by omega) g0 hh
   rw[yH g2]at hs2;exact⟨hr1,hr2,⟨by omega,by omega,by omega⟩,hnn g,hin g g0 hgl,.inr ⟨g+1,⟨by omega,by omega,by omega⟩,by omega,rfl,rfl,hs.symm,rfl,rfl,rfl,hs2⟩⟩
  ·have hs:=uL (L:=L) (f:=ay L k) (oid:=k.oid) (by omega:0<=g) g0 hh
   exact⟨hin g g0 hgl,.inl ⟨g+1,⟨by omega,by omega,by omega⟩,by omega,rfl,rfl,hs.symm,rfl,rfl,rfl⟩⟩
 ·obtain⟨g0,g1,g2⟩:=hg;have hgl:=aaY hgl;have:g=aI L k+1:=by omega
  subst this;exact⟨by unfold kX;simp[h,g2],by unfold fN;rw[aa2 h],h.symm⟩
 ·obtain⟨g0,g1,g2⟩:=hg;have hgl:=aaZ hgl;have hgz:(ai (dT L (ay L k) g k.oid))=L.length:=Dw;have hr1:0<=g/\g<((L.length:Nat):Int):=⟨by omega,by omega⟩
  have hr2:g.toNat<L.length:=by omega
  rw[Pn (by omega),hit g,hgz]
  refine⟨hr1,hr2,fun _=>hr1,fun _=>hr2,fun hh=>?_,fun hh=>?_⟩
  ·have hs:=zS (L:=L) (f:=ay L k) (oid:=k.oid) (by omega:0<=g) (by omega) g0 hh
   have hs2:=Dv (L:=L) (f:=ay L k) (oid:=k.oid) (by omega:0<=g) (by omega) g0 hh
   have:=um (L:=L) (f:=ay L k) (g:=g) (oid:=k.oid);exact⟨hr1,hr2,⟨by omega,by omega,by omega⟩,hnn g,hin g g0 hgl,g+1,⟨by omega,by omega,by omega⟩,by omega,rfl,rfl,hs.symm,rfl,rfl,rfl,hs2⟩
  ·have hs:=uL (L:=L) (f:=ay L k) (oid:=k.oid) (by omega:0<=g) g0 hh
   have hs2:=zX (L:=L) (f:=ay L k) (oid:=k.oid) (by omega:0<=g) g0 hh
   exact⟨hin g g0 hgl,g+1,⟨by omega,by omega,by omega⟩,by omega,rfl,rfl,hs.symm,rfl,rfl,rfl,hs2.symm⟩
 ·obtain⟨g0,g1,g2⟩:=hg;have hgl:=aaY hgl;have:g=aI L k+1:=by omega
  subst this;exact⟨by unfold kX;simp[h,g2],⟨by unfold fN;rw[aa2 h],h.symm⟩,by unfold ib;rw[aa2 h]⟩
theorem NI (L:List Sx.Obj) (k:Key) (hL:aq L):an Tryz.prog 122 [.sa 0,.key k] [.ro (.arr none 163 (.ob L))] (yA (kX L k) (ib L k) [.it .i64 (fN L k),.it .i64 (aN L k)]) (fun _ _=>False):=
 bm (inl:=bx) (ann:=(iJ [(122,6,Zd [0,3,7,8] (fun g=> [(10,.it .i64 (eW L (ay L k) g k.oid)),(11,.it .i64 g)]) 0 tO 163 (fun g=> .ob (dT L (ay L k) g k.oid)) (vT L k) (sS L k) (yG (aI L k) 1))])) (ae rU (ae jG ar)) aE (Pm L k hL) (by kernel_rfl)
theorem PK:lh Tryz.prog 122 Uf:=
 iP (m:=fun x=>kB.cn x 0) (fP D1 (fun _=>rfl)) (fun _=>rfl) (fun _ _=>rfl) fun L x hq=>NI L x.1 hq
theorem Qo (L:List Sx.Obj) (k v:Key):
 ((!decide (aN L k=0))=true->false=jF L k v/\aN L k=aN L k)/\((!decide (aN L k=0))=false->(aU L v&&(decide (v.kind=2)||decide (v.kind=3))&&decide (aM L
   k<=v.oid)&&decide (v.oid<=aD L k))=jF L k v/\0=aN L k):=by
 refine⟨fun h=>?_,fun h=>?_⟩
 ·have h:aN L k≠0:=by simpa using h
  exact⟨by unfold jF;simp[h],rfl⟩
 ·have h:aN L k=0:=by simpa using h
  obtain⟨x1,x2⟩:=Ca h;rw[x1,x2];exact⟨by unfold jF je;simp[h],h.symm⟩
theorem ND:cz Tryz.prog 121 RV:=
 eQ (aA jC wj) (fun _=>rfl) fun a hq hok=>by
  obtain⟨L,k,v,_⟩:=a;exact bc (inl:=bx) (ann:=aQ) (ae rU (ae mf ar)) (Qo L k v) (by kernel_rfl)
abbrev abh(L:List Sx.Obj)(k:Key):=aj (cH L (aM L k) (aD L k) 1) (br L (aM L k) (aD L k)).toNat free
abbrev abi(L:List Sx.Obj)(k:Key):=aj L (br L (aM L k) (aD L k)).toNat free
abbrev abj(L:List Sx.Obj)(k:Key):=cH L (aM L k) (aD L k) 1
abbrev abk(L:List Sx.Obj)(k:Key)(n:Int):=b6 (abj L k) (br L (aM L k) (aD L k)).toNat (Obj.mk (abh L k).kind (abh L k).count (abh L k).calls (((abh L k).slots.put 0 (abg (aD L k-n+1))).put 1 (abg (aD L k))) (abh L k).bytes)
abbrev abl(L:List Sx.Obj)(k:Key)(n:Int):=b6 L (br L (aM L k) (aD L k)).toNat (Obj.mk (abi L k).kind (abi L k).count (abi L k).calls (((abi L k).slots.put 0 (abg (aD L k-n+1))).put 1 (abg (aD L k))) (abi L k).bytes)
abbrev abm(L:List Sx.Obj)(k:Key)(n:Int):=k9 L k n=false/\void=ck L k n/\221=b8 L k n
abbrev abn(L:List Sx.Obj)(k:Key):=aj (abj L k) k.oid.toNat free
abbrev abo(L:List Sx.Obj)(k:Key):=br L (aM L k) (aD L k)
theorem Jh (L:List Sx.Obj) (k:Key) (n:Int) (hL:aq L):
 ((!decide (n<1)&&decide (aN L k=0))=true->abd (aD L k-aM L k))/\aba (decide (aN L k=0)&&(decide (n<1)||decide (aD L k-aM L k<n))) (k9 L k n=false/\void=ck L k n/\4=b8 L k n) (aba (!decide (aN L k=0)) (k9 L k n=false/\void=ck L k n/\aN L k=b8 L k n) (true=true/\D8 L (aM L k) (aD L k)/\(lH L (aM L k) (aD L k)=false->((!decide (br L (aM L k) (aD L k)<0))=true->abd (aD L k-n))/\aba (decide (br L (aM L k) (aD L k)<0)||decide (aD L k-n<br L (aM L k) (aD L k))) (abm L k n) (abd (aD L k-n)/\abd (aD L k-n+1)/\(∃g,pT L k n g/\n=n/\aM L k=aM L k/\aD L k=aD L k/\br L (aM L k) (aD L k)=br L (aM L k) (aD L k)/\aD L k-n+1=g/\L=L/\k=k/\void=void)/\∀(g:Int),pT L k n g->aba (decide (g<=aD L k)) ((0<=g/\g< ↑(ai L))/\g.toNat<ai L/\((!decide ((aj L g.toNat free).kind=1))=true->0<=g/\g< ↑(ai L))/\((!decide ((aj L g.toNat free).kind=1))=true->g.toNat<ai L)/\aba (decide ((aj L g.toNat free).kind=1)||decide ((aj L g.toNat free).kind=2)) (abm L k n) (abd (g+1)/\∃g',pT L k n g'/\(aI L k+1-g').toNat<(aI L k+1-g).toNat/\n=n/\aM L k=aM L k/\aD L k=aD L k/\br L (aM L k) (aD L k)=br L (aM L k) (aD L k)/\g+1=g'/\L=L/\k=k/\void=void)) ((0<=br L (aM L k) (aD L k)/\br L (aM L k) (aD L k)< ↑(ai L))/\(abo L k).toNat<ai L/\(0<=k.oid/\k.oid< ↑(ai L))/\k.oid.toNat<ai L/\abd (aD L k-n)/\abd (aD L k-n+1)/\abd (aD L k-n)/\dO L (abo L k)/\dO (abl L k n) k.oid/\k9 L k n=true/\(Key.mk 4 (abo L k) (abi L k).count void.call void.rights void.value=ck L k n/\0=b8 L k n)/\b6 (abl L k n) k.oid.toNat (Obj.mk (aj L k.oid.toNat free).kind (aj L k.oid.toNat free).count (aj L k.oid.toNat free).calls ((aj L k.oid.toNat free).slots.put 1 (abg (aD L k- n))) (aj L k.oid.toNat free).bytes)=bE L k n)))/\(lH L (aM L k) (aD L k)=true->((!decide (br L (aM L k) (aD L k)<0))=true->abd (aD L k-n))/\aba (decide (br L (aM L k) (aD L k)<0)||decide (aD L k-n<br L (aM L k) (aD L k))) (abm L k n) (abd (aD L k-n)/\abd (aD L k-n+1)/\(∃g,pT L k n g/\n=n/\aM L k=aM L k/\aD L k=aD L k/\br L (aM L k) (aD L k)=br L (aM L k) (aD L k)/\aD L k-n+1=g/\L=L/\k=k/\void=void/\cH L (aM L k) (aD L k) 1=cH L (aM L k) (aD L k) 1)/\∀(g:Int),pT L k n g->aba (decide (g<=aD L k)) ((0<=g/\g< ↑(ai (abj L k)))/\g.toNat<ai (abj L k)/\((!decide ((aj (abj L k) g.toNat free).kind=1))=true->0<=g/\g< ↑(ai (abj L k)))/\((!decide ((aj (abj L k) g.toNat free).kind=1))=true->g.toNat<ai (abj L k))/\aba (decide ((aj (abj L k) g.toNat free).kind=1)||decide ((aj (abj L k) g.toNat free).kind=2)) (abm L k n) (abd (g+1)/\∃g',pT L k n g'/\(aI L k+1-g').toNat<(aI L k+1-g).toNat/\n=n/\aM L k=aM L k/\aD L k=aD L k/\br L (aM L k) (aD L k)=br L (aM L k) (aD L k)/\g+1=g'/\L=L/\k=k/\void=void/\cH L (aM L k) (aD L k) 1=cH L (aM L k) (aD L k) 1)) ((0<=br L (aM L k) (aD L k)/\br L (aM L k) (aD L k)< ↑(ai (abj L k)))/\(abo L k).toNat<ai (abj L k)/\(0<=k.oid/\k.oid< ↑(ai (abj L k)))/\k.oid.toNat<ai (abj L k)/\abd (aD L k-n)/\abd (aD L k-n+1)/\abd (aD L k- n)/\dO (abj L k) (abo L k)/\dO (abk L k n) k.oid/\k9 L k n=true/\(Key.mk 4 (abo L k) (abh L k).count void.call void.rights void.value=ck L k n/\0=b8 L k n)/\b6 (abk L k n) k.oid.toNat (Obj.mk (abn L k).kind (abn L k).count (abn L k).calls ((abn L k).slots.put 1 (abg (aD L k-n))) (abn L k).bytes)=bE L k n))))):=by
 delta aba abg abo abn abm abl abk abj abi abh abd
 by_cases hE:aN L k≠0
 ·rw[show decide (aN L k=0)=false by simpa using hE]
  refine⟨fun h=>by simp at h,fun h=>by simp at h,fun _=>⟨fun _=>E0 (zb hE) hE,fun h=>by simp at h⟩⟩
 replace hE:aN L k=0:=Decidable.not_not.1 hE
 obtain⟨_,a0,a1,a2,a3,a4⟩:=mP hE;obtain⟨x1,x2⟩:=Ca hE;have hlen:=gY hL;rw[x1,x2,show decide (aN L k=0)=true by simpa using hE]
 have hr:∀x:Int,-1000<=x->x<=1000->aF IntKind.i64 x:=fun x h1 h2=>by simp only[aF,cc];omega
 have hI:br L (ay L k) (aI L k)=gu L k:=rfl;have hM:cH L (ay L k) (aI L k) 1=dW L k:=rfl;have hlM:ai (dW L k)=L.length:=uF;have hlM2:(dW L k).length=L.length:=uF;have hll:ai L=L.length:=rfl;rw[hI,hM];refine⟨fun _=>hr _ (by omega) (by omega),fun h=>E0 (B4 hE (by simp only[Bool.true_and,Bool.or_eq_true,aaW]at h;omega)) (by omega),fun h=>⟨fun h=>by simp at h,fun _=>?_⟩⟩
 have hn:1<=n/\n<=aI L k-ay L k:=by simp only[Bool.true_and,Bool.or_eq_false_iff,decide_eq_false_iff_not]at h;omega
 obtain⟨hn1,hn2⟩:=hn;have h0:=Hf hE hn1 hn2;have hm:=wa (L:=L) (l:=aI L k) a0;rw[hI]at hm;refine⟨rfl,⟨hL,a0,a2,by omega⟩,fun hc=>⟨fun _=>hr _ (by omega) (by omega),fun hi=>?_,fun hi=>?_⟩,fun hc=>⟨fun _=>hr _ (by omega) (by omega),fun hi=>?_,fun hi=>?_⟩⟩
 ·exact E0 (va h0 (by simp only[Bool.or_eq_true,aaW]at hi;omega)) (by omega)
 ·simp only[Bool.or_eq_false_iff,decide_eq_false_iff_not]at hi;rw[Dd (by rw[hI];omega)]at hc
  simp at hc
 ·exact E0 (va h0 (by simp only[Bool.or_eq_true,aaW]at hi;omega)) (by omega)
 simp only[Bool.or_eq_false_iff,decide_eq_false_iff_not]at hi;have hbz:∀o:Sx.Obj,(decide (o.kind=1)||decide (o.kind=2))=mY o:=fun o=>rfl
 refine⟨hr _ (by omega) (by omega),hr _ (by omega) (by omega),⟨aI L k-n+1,⟨by omega,by omega,Ju⟩,rfl,rfl,rfl,rfl,rfl,rfl,rfl,rfl,rfl⟩,fun g hg=>⟨fun hgl=>?_,fun hgl=>?_⟩⟩
 ·obtain⟨g0,g1,g2⟩:=hg;have hgl:=aaZ hgl;rw[hbz];have hr1:0<=g/\g<(ai (dW L k):Int):=⟨by omega,by omega⟩
  have hr2:g.toNat<ai (dW L k):=by omega
  refine⟨hr1,hr2,fun _=>hr1,fun _=>hr2,fun hb=>?_,fun hb=>?_⟩
  ·exact E0 (D4 h0 (EI (by omega) (by omega) g0 (by omega) hb)) (by omega)
  ·exact⟨hr _ (by omega) (by omega),g+1,⟨by omega,by omega,by rw[Hv (by omega) hb];exact g2⟩,by omega,rfl,rfl,rfl,rfl,rfl,rfl,rfl,rfl,rfl⟩
 ·obtain⟨g0,g1,g2⟩:=hg;have hgl:=aaY hgl;have:g=aI L k+1:=by omega
  subst this;have e:=Iv h0 (by omega) (by omega) g2
  have hp:∀(M:List Sx.Obj) (x:Int),M.length=L.length->0<=x->x<(L.length:Int)->dO M x:=fun M x hM h1 h2=>⟨h1,by unfold ai;omega,by unfold ai;omega⟩
  exact⟨⟨by omega,by omega⟩,by omega,⟨by omega,by omega⟩,by omega,hr _ (by omega) (by omega),hr _ (by omega) (by omega),hr _ (by omega) (by omega),hp _ _ hlM2 (by omega) (by omega),hp _ _ (by rw[iy];exact hlM2) a3 a4,by unfold k9;rw[e];rfl,⟨by unfold ck;rw[aa2 e];rfl,e.symm⟩,by unfold bE;rw[aa2 e];rfl⟩
theorem Km (L:List Sx.Obj) (k:Key) (n:Int) (hL:aq L):an Tryz.prog 120 [.sa 0,.key k,.it .i64 n] [.ro (.arr none 163 (.ob L))] (yA (k9 L k n) (bE L k n) [.key (ck L k n),.it .i64 (b8 L k n)]) (fun _ _=>False):=
 bm (inl:=bx) (ann:=(iJ [(120,10,Ws [0,2,4,7,9,10,12,13] (fun g=> [(14,.it .i64 g)]) (pT L k n) (yG (aI L k) 1))])) (ae rU (ae jG ar)) (aC Bl aE) (Jh L k n hL) (by kernel_rfl)
theorem JA:lh Tryz.prog 120 Mp:=
 iP (m:=fun x=>TW.cn x 0) (fP CC (fun _=>rfl)) (fun _=>rfl) (fun _ _=>rfl) fun L x hq=>Km L x.1 x.2.1 hq
theorem Sg (kind oid count:Int):
 (decide (kind=2)=true->Key.mk 3 oid count void.call void.rights void.value=dq kind oid count)/\(decide (kind=2)=false->Key.mk 2 oid count void.call void.rights void.value=dq kind
  oid count):=by
 unfold dq;exact⟨fun h=>by rw[aa2 (aaZ h)];rfl,fun h=>by rw[aa1 (aaY h)];rfl⟩
theorem sW:cz Tryz.prog 231 Wc:=
 L8 (gq .i64) (gq .i64) (gq .i64) (fun _ _ _=>rfl) fun i j k _ _ _=>bc (inl:=bx) (ann:=aQ) ar (Sg i j k) (by kernel_rfl)
theorem Ks (k v:Key):
 abb (abb (aba (!decide (0<ak [])) (false=jF [] k v/\1=aN [] k) (abb (aba (!(aU [] k&&decide (k.kind=4))) (false=jF [] k v/\190=aN [] k) (abb (aba (!(decide ((abp [] k 0).kind=1)&&decide ((abp [] k 1).kind=1)&&decide (0<=(abp [] k 0).value)&&decide ((abp [] k 0).value<=(abp [] k 1).value)&&decide ((abp [] k 1).value<ak []))) (false=jF [] k v/\220=aN [] k) (abb ((aU [] v&&(decide (v.kind=2)||decide (v.kind=3))&&decide ((abp [] k 0).value<=cy v)&&decide (cy v<=(abp [] k 1).value))=jF [] k v/\0=aN [] k)))))))):=by
 delta aba abp abb
 exact⟨rfl,rfl,fun h=>Cd (Il h) (by omega),fun h=>absurd h (by decide)⟩
theorem Mm (L:List Sx.Obj) (k v:Key):
 abb (abb (aba (!decide (0<ak L)) (false=jF L k v/\1=aN L k) (abb (aba (!(aU L k&&decide (k.kind=4))) (false=jF L k v/\190=aN L k) (abb (aba (!(decide ((abp L k 0).kind=1)&&decide ((abp L k 1).kind=1)&&decide (0<=(abp L k 0).value)&&decide ((abp L k 0).value<=(abp L k 1).value)&&decide ((abp L k 1).value<ak L))) (false=jF L k v/\220=aN L k) (abb ((aU L v&&(decide (v.kind=2)||decide (v.kind=3))&&decide ((abp L k 0).value<=cy v)&&decide (cy v<=(abp L k 1).value))=jF L k v/\0=aN L k)))))))):=by
 delta aba abp abb
 refine⟨rfl,rfl,fun h=>Cd (Il h) (by omega),fun h=>⟨rfl,fun h2=>Cd (bk2 h h2) (by omega),fun h2=>⟨rfl,fun h3=>Cd (Zv h h2 h3) (by omega),fun h3=>⟨rfl,?_,(Rw h h2 h3).1.symm⟩⟩⟩⟩
 obtain⟨e,e1,e2⟩:=Rw h h2 h3;rw[e1,e2];unfold jF je;rw[e];cases hi:aU L v with
 |false=>simp
 |true=>
  cases hk:(decide (v.kind=2)||decide (v.kind=3))with
  |false=>simp
  |true=>
   have hn:cy v=v.oid:=Xm hi;rw[hn];simp
theorem QG:cz Tryz.prog 224 Rh:=
 eQ (aA tk wj) (fun _=>rfl) fun a hq hok=>by
  obtain⟨S,k,v,_⟩:=a;cases S with
  |none=>exact aY (inl:=(fun f=>f==214||f==213||f==215)) (ann:=aQ) (ae bC (ae bR (ae dJ ar))) aE (eg iC) (Ks k v) (by kernel_rfl)
  |some L=>exact aY (inl:=(fun f=>f==214||f==213||f==215)) (ann:=aQ) (ae bC (ae bR (ae dJ ar))) aE (eg iC) (Mm L k v) (by kernel_rfl)
theorem Oe (k v:Key):
 abb (abb (aba (!decide (0<ak [])) (1=cE [] k v) (abb (aba (!(aU [] k&&decide (k.kind=4))) (190=cE [] k v) (abb (aba (!(decide ((abp [] k 0).kind=1)&&decide ((abp [] k 1).kind=1)&&decide (0<=(abp [] k 0).value)&&decide ((abp [] k 0).value<=(abp [] k 1).value)&&decide ((abp [] k 1).value<ak []))) (220=cE [] k v) (abb (abb (aba (!(aU [] v&&(decide (v.kind=2)||decide (v.kind=3)))) (5=cE [] k v) (abb (abb (aba (!(decide ((abp [] k 0).value<=v.oid)&&decide (v.oid<=(abp [] k 1).value)&& !decide (v.oid=k.oid))) (4=cE [] k v) (abb (abb (0=cE [] k v))))))))))))))):=by
 delta aba abp abb
 exact⟨rfl,rfl,fun h=>(tw (rJ (Il h) (by omega)) (by omega)).1,fun h=>absurd h (by decide)⟩
theorem Mc (k v:Key):
 abb (abb (aba (!decide (0<ak [])) (1=cE [] k v) (abb (aba (!(aU [] k&&decide (k.kind=4))) (190=cE [] k v) (abb (aba (!(decide ((abp [] k 0).kind=1)&&decide ((abp [] k 1).kind=1)&&decide (0<=(abp [] k 0).value)&&decide ((abp [] k 0).value<=(abp [] k 1).value)&&decide ((abp [] k 1).value<ak []))) (220=cE [] k v) (abb (abb (aba (!(aU [] v&&(decide (v.kind=2)||decide (v.kind=3)))) (5=cE [] k v) (abb (abb (aba (!(decide ((abp [] k 0).value<=v.oid)&&decide (v.oid<=(abp [] k 1).value)&& !decide (v.oid=k.oid))) (4=cE [] k v) (abb (abb False)))))))))))))):=by
 delta aba abp abb
 exact⟨rfl,rfl,fun h=>(tw (rJ (Il h) (by omega)) (by omega)).1,fun h=>absurd h (by decide)⟩
theorem Rk (L:List Sx.Obj) (k v:Key) (hL:aq L):
 abb (abb (aba (!decide (0<ak L)) (1=cE L k v/\L=gA L k v) (abb (aba (!(aU L k&&decide (k.kind=4))) (190=cE L k v/\L=gA L k v) (abb (aba (!(decide ((abp L k 0).kind=1)&&decide ((abp L k 1).kind=1)&&decide (0<=(abp L k 0).value)&&decide ((abp L k 0).value<=(abp L k 1).value)&&decide ((abp L k 1).value<ak L))) (220=cE L k v/\L=gA L k v) (abb (abb (aba (!(aU L v&&(decide (v.kind=2)||decide (v.kind=3)))) (5=cE L k v/\L=gA L k v) (abb (abb (aba (!(decide ((abp L k 0).value<=v.oid)&&decide (v.oid<=(abp L k 1).value)&& !decide (v.oid=k.oid))) (4=cE L k v/\L=gA L k v) (abb (abb (0=cE L k v/\cK L v.oid (Obj.mk free.kind (aL L v.oid).count free.calls free.slots free.bytes)=gA L k v))))))))))))))):=by
 delta aba abp abb
 refine⟨rfl,rfl,fun h=>tw (rJ (Il h) (by omega)) (by omega),fun h=>⟨rfl,fun h2=>tw (rJ (bk2 h h2) (by omega)) (by omega),fun h2=>⟨rfl,fun h3=>tw (rJ (Zv h h2 h3) (by omega)) (by omega),fun h3=>⟨rfl,rfl,fun h4=>?_,fun h4=>⟨rfl,rfl,fun h5=>?_,fun h5=>⟨rfl,rfl,?_⟩⟩⟩⟩⟩⟩
 ·obtain⟨e,e1,e2⟩:=Rw h h2 h3;have ht:je L v=false:=by have h4':(!je L v)=true:=h4;simpa using h4'
  exact tw (by unfold cE;rw[aa2 e,ht];rfl) (by omega)
 ·obtain⟨e,e1,e2⟩:=Rw h h2 h3;have ht:je L v=true:=by have h4':(!je L v)=false:=h4;simpa using h4'
  rw[e1,e2]at h5
  exact tw (by
   unfold cE;rw[aa2 e,ht,aa2 rfl,aa1];intro hh;simp only[Bool.not_eq_true',Bool.and_eq_false_iff,Bool.not_eq_false',decide_eq_false_iff_not,aaW]at h5;omega) (by omega)
 ·obtain⟨e,e1,e2⟩:=Rw h h2 h3;have ht:je L v=true:=by have h4':(!je L v)=false:=h4;simpa using h4'
  rw[e1,e2]at h5
  have hE:cE L k v=0:=by
   unfold cE;rw[aa2 e,ht,aa2 rfl,aa2];simp only[Bool.not_eq_false',aaV,Bool.not_eq_true',aaW,decide_eq_false_iff_not]at h5;omega
  obtain⟨_,b2,b3,_⟩:=ei (Fe ht);rw[fG b2 b3];refine⟨hE.symm,?_⟩;unfold gA;rw[aa2 hE];exact(my b2 b3 (xW (dt hL v.oid.toNat (by omega)))).1
theorem TV (L:List Sx.Obj) (k v:Key) (hL:aq L):an Tryz.prog 167 [.lp 0 0,.key k,.key v] [.store tS eS L] (CA (.it .i64 (cE L k v)) (gA L k v)) (fun _ _=>False):=
 aY (inl:=(fun f=>f==214||f==213||f==215||f==216||f==217)) (ann:=aQ) (ae bC (ae bR (ae fY ar))) (aC dB aE) (eg iC) (Rk L k v hL) (by kernel_rfl)
theorem S9:lh Tryz.prog 167 X7:=
 od (m:=fun x=>NY.cn x 0) (fP wj (fun _=>rfl)) (fun _=>rfl) (fun _ _=>rfl) (fun x=>aY (inl:=(fun f=>f==214||f==213||f==215||f==216||f==217)) (ann:=aQ) (ae bC (ae bR (ae fY ar))) (aC dB aE) (eg iC) (Oe x.1 x.2.1) (by kernel_rfl)) (fun x=>aY (inl:=(fun f=>f==214||f==213||f==215||f==216||f==217)) (ann:=aQ) (ae bC (ae bR (ae fY ar))) (aC dB aE) (eg iC) (Mc x.1 x.2.1) (by kernel_rfl)) fun L x hL _ _=>TV L x.1 x.2.1 hL
theorem Kc (k:Key):
 abb (abb (aba (!decide (0<ak [])) (0=fN [] k/\1=aN [] k) (abb (aba (!(aU [] k&&decide (k.kind=4))) (0=fN [] k/\190=aN [] k) (abb (aba (!(decide ((abp [] k 0).kind=1)&&decide ((abp [] k 1).kind=1)&&decide (0<=(abp [] k 0).value)&&decide ((abp [] k 0).value<=(abp [] k 1).value)&&decide ((abp [] k 1).value<ak []))) (0=fN [] k/\220=aN [] k) (abb (abb (∀(r0:Loop),False))))))))):=by
 delta aba abp abb
 exact⟨rfl,rfl,fun h=>(yR (Il h) (by omega)).1,fun h=>absurd h (by decide)⟩
theorem Ku (k:Key):
 abb (abb (aba (!decide (0<ak [])) (0=fN [] k/\1=aN [] k) (abb (aba (!(aU [] k&&decide (k.kind=4))) (0=fN [] k/\190=aN [] k) (abb (aba (!(decide ((abp [] k 0).kind=1)&&decide ((abp [] k 1).kind=1)&&decide (0<=(abp [] k 0).value)&&decide ((abp [] k 0).value<=(abp [] k 1).value)&&decide ((abp [] k 1).value<ak []))) (0=fN [] k/\220=aN [] k) (abb (abb (∀(r0:Loop),False))))))))):=by
 delta aba abp abb
 exact⟨rfl,rfl,fun h=>(yR (Il h) (by omega)).1,fun h=>absurd h (by decide)⟩
theorem NJ (L:List Sx.Obj) (k:Key) (hL:aq L):
 abb (abb (aba (!decide (0<ak L)) ((0=fN L k/\1=aN L k)/\L=ib L k) (abb (aba (!(aU L k&&decide (k.kind=4))) ((0=fN L k/\190=aN L k)/\L=ib L k) (abb (aba (!(decide ((abp L k 0).kind=1)&&decide ((abp L k 1).kind=1)&&decide (0<=(abp L k 0).value)&&decide ((abp L k 0).value<=(abp L k 1).value)&&decide ((abp L k 1).value<ak L))) ((0=fN L k/\220=aN L k)/\L=ib L k) (abb (abb (∀(r0 :Loop),(∃g,sF L k g/\(abp L k 0).value=g/\L=dT L (ay L k) g k.oid/\k=k/\0=eW L (ay L k) g k.oid/\k=k/\aa L k=aa L k/\k.oid=k.oid/\(abp L k 0).value=(abp L k 0).value/\(abp L k 1).value=(abp L k 1).value/\aa L k=aa L k/\abp L k 0=abp L k 0/\abp L k 1=abp L k 1/\aa L k=aa L k/\k.oid=k.oid/\(abp L k 0).value=(abp L k 0).value/\(abp L k 1).value=(abp L k 1).value/\aa L k=aa L k/\k.oid=k.oid/\(abp L k 0).value=(abp L k 0).value/\(abp L k 1).value=(abp L k 1).value/\r0=r0)/\∀(g:Int),sF L k g->aba (decide (g<=(abp L k 1).value)) (r0=r0/\r0=r0/\aba (decide ((aL (dT L (ay L k) g k.oid) g).kind=1)||decide ((aL (dT L (ay L k) g k.oid) g).kind=2)) (abb (aba (decide ((abp L k 0).value<=g)&&decide (g<=(abp L k 1).value)&& !decide (g=k.oid)) (abb (abb (abd (eW L (ay L k) g k.oid+1)/\r0=r0/\abd (g+1)/\∃g',sF L k g'/\(aI L k+1-g').toNat<(aI L k+1- g).toNat/\g+1=g'/\cK (dT L (ay L k) g k.oid) g (Obj.mk free.kind (aL (dT L (ay L k) g k.oid) g).count free.calls free.slots free.bytes)=dT L (ay L k) g' k.oid/\k=k/\eW L (ay L k) g k.oid+1=eW L (ay L k) g' k.oid/\k=k/\aa L k=aa L k/\k.oid=k.oid/\(abp L k 0).value=(abp L k 0).value/\(abp L k 1).value=(abp L k 1).value/\aa L k=aa L k/\abp L k 0=abp L k 0/\abp L k 1=abp L k 1/\aa L k=aa L k/\k.oid=k.oid/\(abp L k 0).value=(abp L k 0).value/\(abp L k 1).value=(abp L k 1).value/\aa L k=aa L k/\k.oid=k.oid/\(abp L k 0).value=(abp L k 0).value/\(abp L k 1).value=(abp L k 1).value/\r0=r0))) (r0=r0/\abd (g+1)/\∃g',sF L k g'/\(aI L k+1-g').toNat<(aI L k+1-g).toNat/\g+1=g'/\dT L (ay L k) g k.oid=dT L (ay L k) g' k.oid/\k=k/\eW L (ay L k) g k.oid=eW L (ay L k) g' k.oid/\k=k/\aa L k=aa L k/\k.oid=k.oid/\(abp L k 0).value=(abp L k 0).value/\(abp L k 1).value=(abp L k 1).value/\aa L k=aa L k/\abp L k 0=abp L k 0/\abp L k 1=abp L k 1/\aa L k=aa L k/\k.oid=k.oid/\(abp L k 0).value=(abp L k 0).value/\(abp L k 1).value=(abp L k 1).value/\aa L k=aa L k/\k.oid=k.oid/\(abp L k 0).value=(abp L k 0).value/\(abp L k 1).value=(abp L k 1).value/\r0=r0))) (r0=r0/\abd (g+1)/\∃g',sF L k g'/\(aI L k+1-g').toNat<(aI L k+1-g).toNat/\g+1=g'/\dT L (ay L k) g k.oid=dT L (ay L k) g' k.oid/\k=k/\eW L (ay L k) g k.oid=eW L (ay L k) g' k.oid/\k=k/\aa L k=aa L k/\k.oid=k.oid/\(abp L k 0).value=(abp L k 0).value/\(abp L k 1).value=(abp L k 1).value/\aa L k=aa L k/\abp L k 0=abp L k 0/\abp L k 1=abp L k 1/\aa L k=aa L k/\k.oid=k.oid/\(abp L k 0).value=(abp L k 0).value/\(abp L k 1).value=(abp L k 1).value/\aa L k=aa L k/\k.oid=k.oid/\(abp L k 0).value=(abp L k 0).value/\(abp L k 1).value=(abp L k 1).value/\r0=r0)) ((eW L (ay L k) g k.oid=fN L k/\0=aN L k)/\dT L (ay L k) g k.oid=ib L k)))))))))):=by
 delta aba abp abd abb
 refine⟨rfl,rfl,fun h=>yR (Il h) (by omega),fun h=>⟨rfl,fun h2=>yR (bk2 h h2) (by omega),fun h2=>⟨rfl,fun h3=>yR (Zv h h2 h3) (by omega),fun h3=>⟨rfl,rfl,fun r0=>?_⟩⟩⟩⟩
 obtain⟨e,e1,e2⟩:=Rw h h2 h3;obtain⟨_,a0,a1,a2,_⟩:=mP e;rw[e1,e2];have hlen:=gY hL;have hin:∀g:Int,ay L k<=g->g<=aI L k->aF IntKind.i64 (g+1):=fun g h1 h2=>by simp only[aF,cc];omega
 have hnn:∀g:Int,aF IntKind.i64 (eW L (ay L k) g k.oid+1):=fun g=>by
  have:=um (L:=L) (f:=ay L k) (g:=g) (oid:=k.oid);have:=QN (L:=L) (f:=ay L k) (g:=g) (oid:=k.oid);simp only[aF,cc];omega
 refine⟨⟨ay L k,⟨by omega,by omega⟩,rfl,Px,rfl,u7.symm,(by(repeat' apply And.intro)<;>rfl)⟩,fun g hg=>⟨fun hgl=>?_,fun hgl=>?_⟩⟩
 ·obtain⟨g0,g1⟩:=hg;have hgl:=aaZ hgl;have hgz:(dT L (ay L k) g k.oid).length=L.length:=Dw;have hgt:aL (dT L (ay L k) g k.oid) g=aj L g.toNat free:=by rw[fG (by omega) (by omega),Pn (by omega)]
  rw[hgt];refine⟨rfl,rfl,fun hk=>⟨rfl,fun hb=>?_,fun hb=>?_⟩,fun hk=>?_⟩
  ·have hne:¬g=k.oid:=by
    simp only[aaV,Bool.not_eq_true',decide_eq_false_iff_not]at hb;exact hb.2
   have hh:j5 L g k.oid=true:=by unfold j5 mY;rw[hk];simp[hne]
   have hs:=zS (L:=L) (f:=ay L k) (oid:=k.oid) (by omega:0<=g) (by omega) g0 hh
   have hs2:=Dv (L:=L) (f:=ay L k) (oid:=k.oid) (by omega:0<=g) (by omega) g0 hh
   have hp:=(my (L:=dT L (ay L k) g k.oid) (i:=g) (by omega) (by omega) (hgz▸xW (dt hL g.toNat (by omega)))).1
   exact⟨rfl,rfl,hnn g,rfl,hin g g0 hgl,g+1,⟨by omega,by omega⟩,by omega,rfl,hp.trans hs2,rfl,hs.symm,(by(repeat' apply And.intro)<;>rfl)⟩
  ·have hh:j5 L g k.oid=false:=by
    have e3:decide (ay L k<=g)=true:=by simp;omega
    have e4:decide (g<=aI L k)=true:=by simp;omega
    rw[e3,e4]at hb;unfold j5;rw[Bool.and_eq_false_iff];right
    simpa using hb
   have hs:=uL (L:=L) (f:=ay L k) (oid:=k.oid) (by omega:0<=g) g0 hh
   have hs2:=zX (L:=L) (f:=ay L k) (oid:=k.oid) (by omega:0<=g) g0 hh
   exact⟨rfl,hin g g0 hgl,g+1,⟨by omega,by omega⟩,by omega,rfl,hs2.symm,rfl,hs.symm,(by(repeat' apply And.intro)<;>rfl)⟩
  ·have hh:j5 L g k.oid=false:=by unfold j5 mY;rw[hk];rfl
   have hs:=uL (L:=L) (f:=ay L k) (oid:=k.oid) (by omega:0<=g) g0 hh
   have hs2:=zX (L:=L) (f:=ay L k) (oid:=k.oid) (by omega:0<=g) g0 hh
   exact⟨rfl,hin g g0 hgl,g+1,⟨by omega,by omega⟩,by omega,rfl,hs2.symm,rfl,hs.symm,(by(repeat' apply And.intro)<;>rfl)⟩
 ·obtain⟨g0,g1⟩:=hg;have hgl:=aaY hgl;have:g=aI L k+1:=by omega
  subst this;exact⟨⟨by unfold fN;rw[aa2 e],e.symm⟩,by unfold ib;rw[aa2 e]⟩
theorem K7 (L:List Sx.Obj) (k:Key) (hL:aq L):an Tryz.prog 225 [.lp 0 0,.key k] [.store tS eS L] (CA (.tp [.it .i64 (fN L k),.it .i64 (aN L k)]) (ib L k)) (fun _ _=>False):=
 aY (inl:=(fun f=>f==214||f==213||f==216||f==217||f==219||f==1000000+232)) (ann:=(iJ [(5000+232,1,lpT [0,1] (fun(g:Int)=> [(3,.it .i64 g)]) (fun g=> [(0,.store tS eS (dT L (ay L k) g k.oid)),(2,.blk 3 (.it .i64 (eW L (ay L k) g k.oid)))]) (sF L k) (fun g=>qf (tA (yG (aI L k) 1) g)))])) (ae bC (ae bR (ae fY ar))) (aC dB aE) (eg iC) (NJ L k hL) (by kernel_rfl)
theorem KT:lh Tryz.prog 225 RO:=
 od (m:=fun x=>kB.cn x 0) (fP D1 (fun _=>rfl)) (fun _=>rfl) (fun _ _=>rfl) (fun x=>aY (inl:=(fun f=>f==214||f==213||f==216||f==217||f==219||f==1000000+232)) (ann:=aQ) (ae bC (ae bR (ae fY ar))) (aC dB aE) (eg iC) (Kc x.1) (by kernel_rfl)) (fun x=>aY (inl:=(fun f=>f==214||f==213||f==216||f==217||f==219||f==1000000+232)) (ann:=aQ) (ae bC (ae bR (ae fY ar))) (aC dB aE) (eg iC) (Ku x.1) (by kernel_rfl)) fun L x hL _ _=>K7 L x.1 hL
theorem JB (k:Key) (kind:Int):
 abb (abb (aba (!decide (0<ak [])) (void=dh [] k kind/\1=cA [] k kind) (abb (aba (!(aU [] k&&decide (k.kind=4))) (void=dh [] k kind/\190=cA [] k kind) (abb (aba (!(decide ((abp [] k 0).kind=1)&&decide ((abp [] k 1).kind=1)&&decide (0<=(abp [] k 0).value)&&decide ((abp [] k 0).value<=(abp [] k 1).value)&&decide ((abp [] k 1).value<ak []))) (void=dh [] k kind/\220=cA [] k kind) (abb (aba (!(decide (kind=1)||decide (kind=2))) (void=dh [] k kind/\2=cA [] k kind) (abb (abb (abb (∀(r0:Loop),False)))))))))))):=by
 delta aba abp abb
 exact⟨rfl,rfl,fun h=>(wh (rX (Il h) (by omega)) (by omega)).1,fun h=>absurd h (by decide)⟩
theorem JR (k:Key) (kind:Int):
 abb (abb (aba (!decide (0<ak [])) (void=dh [] k kind/\1=cA [] k kind) (abb (aba (!(aU [] k&&decide (k.kind=4))) (void=dh [] k kind/\190=cA [] k kind) (abb (aba (!(decide ((abp [] k 0).kind=1)&&decide ((abp [] k 1).kind=1)&&decide (0<=(abp [] k 0).value)&&decide ((abp [] k 0).value<=(abp [] k 1).value)&&decide ((abp [] k 1).value<ak []))) (void=dh [] k kind/\220=cA [] k kind) (abb (aba (!(decide (kind=1)||decide (kind=2))) (void=dh [] k kind/\2=cA [] k kind) (abb (abb (abb (∀(r0:Loop),False)))))))))))):=by
 delta aba abp abb
 exact⟨rfl,rfl,fun h=>(wh (rX (Il h) (by omega)) (by omega)).1,fun h=>absurd h (by decide)⟩
theorem OG (L:List Sx.Obj) (k:Key) (kind:Int) (hL:aq L):
 abb (abb (aba (!decide (0<ak L)) ((void=dh L k kind/\1=cA L k kind)/\L=fx L k kind) (abb (aba (!(aU L k&&decide (k.kind=4))) ((void=dh L k kind/\190=cA L k kind)/\L=fx L k kind) (abb (aba (!(decide ((abp L k 0).kind=1)&&decide ((abp L k 1).kind=1)&&decide (0<=(abp L k 0).value)&&decide ((abp L k 0).value<=(abp L k 1).value)&&decide ((abp L k 1).value<ak L))) ((void=dh L k kind/\220=cA L k kind)/\L=fx L k kind) (abb (aba (!(decide (kind=1)||decide (kind=2))) ((void=dh L k kind/\2=cA L k kind)/\L=fx L k kind) (abb (abb (abb (∀(r0:Loop),(∃g,jE L k g/\(abp L k 0).value=g/\L=bN L (ay L k) g/\k=k/\void=void/\k=k/\aa L k=aa L k/\k.oid=k.oid/\(abp L k 0).value=(abp L k 0).value/\(abp L k 1).value=(abp L k 1).value/\aa L k=aa L k/\abp L k 0=abp L k 0/\abp L k 1=abp L k 1/\aa L k=aa L k/\k.oid=k.oid/\(abp L k 0).value=(abp L k 0).value/\(abp L k 1).value=(abp L k 1).value/\aa L k=aa L k/\k.oid=k.oid/\(abp L k 0).value=(abp L k 0).value/\(abp L k 1).value=(abp L k 1).value/\kind=kind/\void=void/\false=false/\aa L k=aa L k/\k.oid=k.oid/\(abp L k 0).value=(abp L k 0).value/\(abp L k 1).value=(abp L k 1).value/\r0=r0)/\∀(g:Int),jE L k g->aba (decide (g<=(abp L k 1).value)) (r0=r0/\r0=r0/\aba (!decide ((aL (bN L (ay L k) g) g).kind=0)) (r0=r0/\abd (g+1)/\∃g',jE L k g'/\(aI L k+1-g').toNat<(aI L k+1-g).toNat/\g+1=g'/\bN L (ay L k) g=bN L (ay L k) g'/\k=k/\void=void/\k=k/\aa L k=aa L k/\k.oid=k.oid/\(abp L k 0).value=(abp L k 0).value/\(abp L k 1).value=(abp L k 1).value/\aa L k=aa L k/\abp L k 0=abp L k 0/\abp L k 1=abp L k 1/\aa L k=aa L k/\k.oid=k.oid/\(abp L k 0).value=(abp L k 0).value/\(abp L k 1).value=(abp L k 1).value/\aa L k=aa L k/\k.oid=k.oid/\(abp L k 0).value=(abp L k 0).value/\(abp L k 1).value=(abp L k 1).value/\kind=kind/\void=void/\false=false/\aa L k=aa L k/\k.oid=k.oid/\(abp L k 0).value=(abp L k 0).value/\(abp L k 1).value=(abp L k 1).value/\r0=r0) (aba (decide ((aL (bN L (ay L k) g) g).count=4294967295)) (abb (r0=r0/\abd (g+1)/\∃g',jE L k g'/\(aI L k+1-g').toNat<(aI L k+1-g).toNat/\g+1=g'/\cK (bN L (ay L k) g) g (Obj.mk 3 (aL (bN L (ay L k) g) g).count free.calls free.slots free.bytes)=bN L (ay L k) g'/\k=k/\void=void/\k=k/\aa L k=aa L k/\k.oid=k.oid/\(abp L k 0).value=(abp L k 0).value/\(abp L k 1).value=(abp L k 1).value/\aa L k=aa L k/\abp L k 0=abp L k 0/\abp L k 1=abp L k 1/\aa L k=aa L k/\k.oid=k.oid/\(abp L k 0).value=(abp L k 0).value/\(abp L k 1).value=(abp L k 1).value/\aa L k=aa L k/\k.oid=k.oid/\(abp L k 0).value=(abp L k 0).value/\(abp L k 1).value=(abp L k 1).value/\kind=kind/\void=void/\false=false/\aa L k=aa L k/\k.oid=k.oid/\(abp L k 0).value=(abp L k 0).value/\(abp L k 1).value=(abp L k 1).value/\r0=r0)) (abd ((aL (bN L (ay L k) g) g).count+1)/\abb (abd ((aL (bN L (ay L k) g) g).count+1)/\r0=r0/\abb ((dq kind g ((aL (bN L (ay L k) g) g).count+1)=dh L k kind/\0=cA L k kind)/\cK (bN L (ay L k) g) g (Obj.mk kind ((aL (bN L (ay L k) g) g).count+1) free.calls free.slots free.bytes)=fx L k kind))))) (abb ((void=dh L k kind/\221=cA L k kind)/\bN L (ay L k) g=fx L k kind)))))))))))))):=by
 delta aba abp abd abb
 refine⟨rfl,rfl,fun h=>wh (rX (Il h) (by omega)) (by omega),fun h=>⟨rfl,fun h2=>wh (rX (bk2 h h2) (by omega)) (by omega),fun h2=>⟨rfl,fun h3=>wh (rX (Zv h h2 h3) (by omega)) (by omega),fun h3=>⟨rfl,fun h4=>wh (MD (Rw h h2 h3).1 h4) (by omega),fun h4=>⟨rfl,rfl,rfl,fun r0=>?_⟩⟩⟩⟩⟩
 obtain⟨e,e1,e2⟩:=Rw h h2 h3;obtain⟨_,a0,a1,a2,_⟩:=mP e;rw[e1,e2]
 have hk:kind=1\/kind=2:=by
  simp only[Bool.not_eq_false',Bool.or_eq_true,aaW]at h4;exact h4
 have hlen:=gY hL;have hin:∀g:Int,ay L k<=g->g<=aI L k->aF IntKind.i64 (g+1):=fun g h1 h2=>by simp only[aF,cc];omega
 have hcnt:∀j:Nat,j<L.length->0<=(aj L j free).count/\(aj L j free).count<=4294967295:=fun j hj=>⟨(kf (dt hL j hj)).1,(kf (dt hL j hj)).2.1⟩
 have hci:∀j:Nat,j<L.length->aF IntKind.i64 ((aj L j free).count+1):=fun j hj=>by have:=hcnt j hj;simp only[aF,cc];omega
 refine⟨⟨ay L k,⟨by omega,by omega,uj⟩,rfl,Ei,(by(repeat' apply And.intro)<;>rfl)⟩,fun g hg=>⟨fun hgl=>?_,fun hgl=>?_⟩⟩
 ·obtain⟨g0,g1,g2⟩:=hg;have hgl:=aaZ hgl;have hgn:g.toNat<L.length:=by omega
  have hgz:(bN L (ay L k) g).length=L.length:=kR;have hgt:aL (bN L (ay L k) g) g=aj L g.toNat free:=by rw[fG (by omega) (by omega),DD (by omega)]
  rw[hgt];refine⟨rfl,rfl,fun hk0=>?_,fun hk0=>⟨fun hc=>?_,fun hc=>?_⟩⟩
  ·obtain⟨f1,f2⟩:=yy (o:=aj L g.toNat free) (by simpa using hk0)
   exact⟨rfl,hin g g0 hgl,g+1,⟨by omega,by omega,jP g2 f2⟩,by omega,rfl,(zM (by omega) f1).symm,(by(repeat' apply And.intro)<;>rfl)⟩
  ·obtain⟨f1,f2⟩:=CD (o:=aj L g.toNat free) (by simpa using hk0) (by have:=aaZ hc;omega)
   have hp:=(my (L:=bN L (ay L k) g) (i:=g) (by omega) (by omega) (hgz▸Cy (dt hL g.toNat hgn))).1
   exact⟨rfl,rfl,hin g g0 hgl,g+1,⟨by omega,by omega,jP g2 f2⟩,by omega,rfl,hp.trans (yi (by omega) (by omega) g0 f1),(by(repeat' apply And.intro)<;>rfl)⟩
  ·have hc:=aaY hc;have:=hcnt _ hgn;obtain⟨f1,f2⟩:=Cg (o:=aj L g.toNat free) (by simpa using hk0) (by omega)
   obtain⟨m1,m2,m3⟩:=yD kind a0 g0 hgl (by omega) g2 f2
   obtain⟨n1,n2,n3,n4⟩:=HK (kind:=kind) e hk (by rw[m1];omega)
   have hp:=(my (L:=bN L (ay L k) g) (i:=g) (by omega) (by omega) (hgz▸CE (dt hL g.toNat hgn) f2 hk)).1
   refine⟨hci _ hgn,rfl,hci _ hgn,rfl,rfl,⟨?_,n3⟩,hp.trans (m3.symm.trans n4)⟩;have hK:dh L k kind=dq kind (br L (ay L k) (aI L k)) ((aj L (br L (ay L k) (aI L k)).toNat free).count+1):=by unfold dh;rw[aa2 n3.symm]
   rw[hK,m1]
 ·obtain⟨g0,g1,g2⟩:=hg;have hgl:=aaY hgl;have:g=aI L k+1:=by omega
  subst this;obtain⟨m1,m2,m3⟩:=Du kind g2;obtain⟨n1,n2,n3,n4⟩:=zo (kind:=kind) e hk m1;exact⟨rfl,⟨n2,n3⟩,m2.symm.trans n4⟩
theorem Nh (L:List Sx.Obj) (k:Key) (kind:Int) (hL:aq L):an Tryz.prog 211 [.lp 0 0,.key k,.it .i64 kind] [.store tS eS L] (CA (.tp [.key (dh L k kind),.it .i64 (cA L k kind)]) (fx L k kind)) (fun _ _=>False):=
 aY (inl:=(fun f=>f==214||f==213||f==218||f==219||f==1000000+232)) (ann:=(iJ [(3000+232,1,lpR [0,1] (fun g=> [(3,.it .i64 g)]) 0 (fun g=> .store tS eS (bN L (ay L k) g)) (jE L k) (yG (aI L k) 1))])) (ae bC (ae bR (ae fY (ae sW ar)))) (aC dB aE) (eg iC) (OG L k kind hL) (by kernel_rfl)
theorem FH:lh Tryz.prog 211 Ub:=
 od (m:=fun x=>TW.cn x 0) (fP CC (fun _=>rfl)) (fun _=>rfl) (fun _ _=>rfl) (fun x=>aY (inl:=(fun f=>f==214||f==213||f==218||f==219||f==1000000+232)) (ann:=aQ) (ae bC (ae bR (ae fY (ae sW ar)))) (aC dB aE) (eg iC) (JB x.1 x.2.1) (by kernel_rfl)) (fun x=>aY (inl:=(fun f=>f==214||f==213||f==218||f==219||f==1000000+232)) (ann:=aQ) (ae bC (ae bR (ae fY (ae sW ar)))) (aC dB aE) (eg iC) (JR x.1 x.2.1) (by kernel_rfl)) fun L x hL _ _=>Nh L x.1 x.2.1 hL
theorem VE {P:Program} {f:Nat} {g g':Ct} (h:cz P f g) (ha:∀res nid args q x new,g' res nid args=some (q,x,new)->∃x0,g res nid args=some (q,x0,new)/\(∀J,den J x=den J x0)/\∀K,ok K x0->ok K x):cz P f g':=by
 intro J fps res K w0 F0 w nid args q x new hH hargs hg hq hfr;obtain⟨x0,h1,h2,h3⟩:=ha res nid args q x new hg;obtain⟨c1,c2⟩:=h J fps res K w0 F0 w nid args q x0 new hH hargs h1 hq hfr;refine⟨c1.mono fun e w' ⟨v,he,hv⟩=>⟨v,he,?_⟩,c2⟩
 obtain⟨ρ',hgr,hv,hx⟩:=hv;exact⟨ρ',hgr,by rw[h2];exact hv,h3 _ hx⟩
theorem u4:cz Tryz.prog 42 HR:=by
 refine VE qw fun res nid args q x new h=>?_
 unfold HR at h;split at h
 ·rename_i a;split at h
  ·rename_i o L hr;split at h
   ·simp only[aaT,aaU]at h;obtain⟨rfl,rfl,rfl⟩:=h
    have hL:L= []:=by
     rcases uM hr with⟨_,rfl,_⟩|⟨k,h,_⟩
     ·rfl
     ·simp at h
    subst hL;exact⟨.bo (bu []),by unfold Gd XK;simp only[hr],fun J=>by simp[den,sq],fun _ _=>trivial⟩
   ·simp only[aaT,aaU]at h;obtain⟨rfl,rfl,rfl⟩:=h;exact⟨.bo (bu L),by unfold Gd XK;simp only[hr],fun J=>rfl,fun _ h=>h⟩
  ·simp at h
 ·simp at h
theorem Qu:
 Value.pointer none=Value.pointer none:=by
 rfl
theorem PY:an Tryz.prog 33 [ke] [] (oW ke) (fun _ _=>False):=bc (inl:=bx) (ann:=aQ) (ae u4 ar) Qu (by kernel_rfl)
theorem P4 (L:List Sx.Obj) (hL:L.length<=1000):
 aba (bu L) (bu L=true) ((∃g,qv L g/\Value.pointer none=Value.pointer none/\bQ (ai L)=bQ (ai L)/\0=g/\L=L/\[]=mw L g)/\∀(g:Int),qv L g->aba (decide (g<bQ (ai L))) ((0<=g/\g< ↑(ai L))/\g.toNat<ai L/\g.toNat<ai L/\s5 (ai (mw L g)) 8/\aF IntKind.i64 (g+1)/\∃g',qv L g'/\(bQ (ai L)-g').toNat<(bQ (ai L)-g).toNat/\Value.pointer none=Value.pointer none/\bQ (ai L)=bQ (ai L)/\g+1=g'/\L=L/\jm (mw L g) (aj L g.toNat free)=mw L g') (bu L=false/\mw L g=L)):=by
 delta aba
 refine⟨fun h=>h,fun h=>⟨⟨0,⟨by omega,by omega⟩,rfl,rfl,rfl,rfl,rfl⟩,fun g hg=>⟨fun hlt=>?_,fun hge=>?_⟩⟩⟩
 ·obtain⟨g0,g1⟩:=hg;have hlt:g<bQ (ai L):=aaZ hlt;have hn:=kD L;have hle:=rj L;rw[hn]at hlt⊢;have ht:=M7 (L:=L) (g:=g);exact⟨⟨g0,by omega⟩,by omega,by omega,H8 (by omega),by simp only[aF,cc];omega,g+1,⟨by omega,by omega⟩,by omega,rfl,rfl,rfl,rfl,Mz g0 hlt⟩
 ·obtain⟨g0,g1⟩:=hg;have hge:¬g<bQ (ai L):=aaY hge;rw[kD]at hge;exact⟨h,Ls (by omega)⟩
theorem Mq {L:List Sx.Obj} (hb:bu L=true) {v:V} {r:List aK} (h:ER L v r):ya ke v []:=by
 unfold ER at h;split at h
 ·split at h
  ·exact fun J K=>tU.refl _ _ _
  ·exact h.elim
 ·split at h
  ·split at h
   ·rw[hb]at h;simp at h
   ·exact h.elim
  ·exact h.elim
 ·exact h.elim
theorem Jk {L:List Sx.Obj} (hb:bu L=false) {v:V} {r:List aK} (h:ER L v r):∃j r',1<=j/\(r'=r\/uI r j=some r')/\az r' j= .store tS eS L/\∀(κ:Nat->Option Nat) (i:Nat),κ j=some i->lu κ v (.lp i 0):=by
 unfold ER at h;split at h
 ·split at h
  ·rw[hb]at h;simp at h
  ·exact h.elim
 ·split at h
  ·rename_i j off _ t e M hst;split at h
   ·rename_i hc;simp only[aaV,aaX,Nat.ble_eq]at hc;obtain⟨⟨⟨rfl,rfl⟩,rfl⟩,hj⟩:=hc;obtain⟨_,rfl⟩:=h;have ht:∀(κ:Nat->Option Nat) (i:Nat),κ j=some i->lu κ (.lp j 0) (.lp i 0):=fun κ i hi ρ2 ρ3 N N' hv hN hk=>⟨by simp only[den,(hv j i hi).1],hN j i hi hk⟩
    rcases FI hst with h1|⟨r',h1,h2⟩
    ·exact⟨j,r,hj,.inl rfl,h1,ht⟩
    ·exact⟨j,r',hj,.inr h1,h2,ht⟩
   ·exact h.elim
  ·exact h.elim
 ·exact h.elim
theorem UF {L M:List Sx.Obj} (hb:j7 L M=true) {v:V} {r:List aK} (h:MN L M v r):ya YB v []:=by
 unfold MN at h;split at h
 ·split at h
  ·exact fun J K=>tU.refl _ _ _
  ·exact h.elim
 ·split at h
  ·split at h
   ·split at h
    ·split at h
     ·split at h
      ·rw[hb]at h;simp at h
      ·exact h.elim
     ·exact h.elim
    ·exact h.elim
   ·exact h.elim
  ·exact h.elim
 ·exact h.elim
theorem Ng {L M:List Sx.Obj} (hb:j7 L M=false) {v:V} {r:List aK} (h:MN L M v r):∃j,2<=j/\az r j= .arr (some tI) 1 (.it .i64 (dQ L M))/\∀(κ:Nat->Option Nat) (i:Nat),κ j=some i->lu κ v (.sa i):=by
 unfold MN at h;split at h
 ·split at h
  ·rw[hb]at h;simp at h
  ·exact h.elim
 ·split at h
  ·rename_i hj;split at h
   ·split at h
    ·split at h
     ·split at h
      ·rename_i hc;simp only[aaV,aaX,Nat.ble_eq]at hc;obtain⟨⟨rfl,rfl⟩,hj2⟩:=hc;obtain⟨_,rfl⟩:=h;exact⟨_,hj2,hj,fun κ i hi ρ2 ρ3 N N' hv hN hk=>⟨by simp only[den,(hv _ i hi).2.1,(hv _ i hi).2.2.2.1,(hv _ i hi).2.2.2.2.1],hN _ i hi hk⟩⟩
      ·exact h.elim
     ·exact h.elim
    ·exact h.elim
   ·exact h.elim
  ·exact h.elim
 ·exact h.elim
theorem Fz (L:List Sx.Obj) (hL:L.length<=1000):an Tryz.prog 33 [.lp 0 0] [.ro (.blk tS (.ag [.sa 1])),.ro (.obs eS 2 L),.gen 1] (ER L) (fun _ _=>False):=bc (inl:=bx) (ann:=(iJ [(33,5,lpB [0,2,3,14,15] (fun g=> [(16,.it .i64 g)]) 3 tS eS (mw L) (qv L) (bQ (ai L)))])) (ae u4 ar) (P4 L hL) (by kernel_rfl)
theorem xY:lh Tryz.prog 33 N1:=by
 intro args res K KP h;unfold N1 at h;split at h
 ·split at h
  ·split at h
   ·exact an.pure rfl rfl (PY.mono (fun _ _ h=>dK h) fun _ _ h=>h) h
   ·exact h.elim
  ·rename_i k off;split at h
   ·rename_i hoff;have hoff:=aaX.1 hoff;subst hoff;split at h
    ·rename_i t e L hr;split at h
     ·rename_i hc;simp only[aaV,aaX]at hc;obtain⟨rfl,rfl⟩:=hc;obtain⟨hL,h1,h2⟩:=h;have hk:=eU hr (by simp)
      have hlt:=aO hk;have hres:fD (lS 0 (dV [(k,false)])) res [(k,false)]= [.ro (.store tS eS L)]:=by simp[fD,hr,gL]
      cases hb:bu L with
      |true=>
       refine an.XQ (pl:= [(k,false)]) (x:=ke) (args0:= [.lp 0 0]) (by simp[fm,cQ.2 hk]) (by simpa[ju,dV,pF]using hlt) (by simp) (by simp[eX,ga,lS,idxOf,dV]) rfl ?_ (h1 hb)
       rw[hres];exact(an.fE (k:=0) rfl (Fz L hL)).mono (fun v r hv=>Mq hb hv) fun _ _ h=>h
      |false=>
       refine an.Zr (pl:= [(k,false)]) (new:= .store tS eS L) (F:=fun j=> .lp j 0) (args0:= [.lp 0 0]) (by simp[fm,cQ.2 hk]) (by simpa[ju,dV,pF]using hlt) (by simp) (by simp[eX,ga,lS,idxOf,dV]) rfl (by simp) (fun κ=>rfl) ?_ (h2 hb)
       rw[hres];refine an.fE (k:=0) rfl (an.shut (Fz L hL) fun v r hv=>?_)
       obtain⟨j,r',hj,h1,h2,h3⟩:=Jk hb hv;rcases h1 with rfl|h1
       ·exact .inl ⟨j,hj,h2,h3⟩
       ·exact .inr ⟨j,r',h1,j,hj,h2,h3⟩
     ·exact h.elim
    ·exact h.elim
   ·exact h.elim
  ·exact h.elim
 ·exact h.elim
theorem RZ (L:List Sx.Obj):
 Value.slice none 0 0=Value.slice none 0 0:=by
 rfl
theorem T0 (L:List Sx.Obj):an Tryz.prog 43 [ke,.lp 0 0] [.ro (.store tS eS L)] (oW YB) (fun _ _=>False):=bc (inl:=bx) (ann:=aQ) (ae u4 ar) (RZ L) (by kernel_rfl)
theorem Uo (L M:List Sx.Obj) (hL:L.length<=1000):
 aba (bu L||bu M|| !decide (bQ (ai L)=bQ (ai M))) (j7 L M=true) (true=true/\true=true/\∀(r0:Loop),(∃g,qv L g/\bQ (ai L)=bQ (ai L)/\0=g/\L=L/\M=M/\r0=r0/\[]=iY L M g)/\∀(g:Int),qv L g->aba (decide (g<bQ (ai L))) ((0<=g/\g< ↑(ai L))/\g.toNat<ai L/\g.toNat<ai L/\(0<=g/\g< ↑(ai M))/\g.toNat<ai M/\g.toNat<ai M/\aba (!CW (aj L g.toNat free) (aj M g.toNat free)) (r0=r0/\r0=r0/\s5 (ai (iY L M g)) 8/\r0=r0/\abd (g+1)/\∃g',qv L g'/\(bQ (ai L)-g').toNat<(bQ (ai L)-g).toNat/\bQ (ai L)=bQ (ai L)/\g+1=g'/\L=L/\M=M/\r0=r0/\jm (iY L M g) g=iY L M g') (abd (g+1)/\∃g',qv L g'/\(bQ (ai L)-g').toNat<(bQ (ai L)-g).toNat/\bQ (ai L)=bQ (ai L)/\g+1=g'/\L=L/\M=M/\r0=r0/\iY L M g=iY L M g')) (j7 L M=false/\iY L M g=dQ L M)):=by
 delta aba abd
 refine⟨fun h=>h,fun h=>⟨rfl,rfl,fun r0=>?_⟩⟩
 have hlm:L.length=M.length:=by
  have h2:((bu L||bu M)|| !decide (bQ (ai L)=bQ (ai M)))=false:=h
  rw[Bool.or_eq_false_iff]at h2;have h3:=h2.2;rw[kD,kD]at h3;have h4:(L.length:Int)=(M.length:Int):=by simpa using h3
  omega
 have hn:=kD L;have hle:=rj L;have hle2:=rj M;refine⟨⟨0,⟨by omega,by omega⟩,rfl,rfl,rfl,rfl,rfl,rfl⟩,fun g hg=>⟨fun hlt=>?_,fun hge=>?_⟩⟩
 obtain⟨g0,g1⟩:=hg;have hlt:g<bQ (ai L):=aaZ hlt;rw[hn]at hlt⊢;have ht:=OZ (L:=L) (M:=M) (g:=g);have hr:aF IntKind.i64 (g+1):=by simp only[aF,cc];omega
 exact⟨⟨g0,by omega⟩,by omega,by omega,⟨g0,by omega⟩,by omega,by omega,fun h=>⟨rfl,rfl,H8 (by omega),rfl,hr,g+1,⟨by omega,by omega⟩,by omega,rfl,rfl,rfl,rfl,rfl,Mg g0 h⟩,fun h=>⟨hr,g+1,⟨by omega,by omega⟩,by omega,rfl,rfl,rfl,rfl,rfl,UT g0 h⟩⟩
 obtain⟨g0,g1⟩:=hg;have hge:¬g<bQ (ai L):=aaY hge;rw[hn]at hge;exact⟨h,by unfold dQ;rw[show g=(ai L:Int) by omega]⟩
theorem H2 (L M:List Sx.Obj) (hL:L.length<=1000):an Tryz.prog 43 [.lp 0 0,.lp 1 0] [.ro (.blk tS (.ag [.sa 2])),.ro (.blk tS (.ag [.sa 4])),.ro (.obs eS 3 L),.gen 2,.ro (.obs eS 5 M),.gen 4] (MN L M) (fun _ _=>False):=bc (inl:=(fun f=>f==43||f==66)) (ann:=(iJ [(6000+103,1,lpV [0,1,2,6] (fun g=> [(7,.it .i64 g)]) 6 103 tI 1 (fun g=> .it .i64 (iY L M g)) (qv L) (bQ (ai L)))])) (ae u4 ar) (Uo L M hL) (by kernel_rfl)
theorem G1:lh Tryz.prog 43 U9:=by
 intro args res K KP h;unfold U9 at h;split at h
 ·rename_i a b;split at h
  ·rename_i j off;split at h
   ·rename_i hoff;have hoff:=aaX.1 hoff;subst hoff;split at h
    ·rename_i t e M hr;split at h
     ·rename_i hc;simp only[aaV,aaX]at hc;obtain⟨rfl,rfl⟩:=hc;have hj:=eU hr (by simp)
      have hjl:=aO hj;split at h
      ·split at h
       ·have hres:fD (lS 0 (dV [(j,false)])) res [(j,false)]= [.ro (.store tS eS M)]:=by simp[fD,hr,gL]
        refine an.XQ (pl:= [(j,false)]) (x:=YB) (args0:= [ke,.lp 0 0]) (by simp[fm,cQ.2 hj]) (by simpa[ju,dV,pF]using hjl) (by simp) (by simp[eX,ga,lS,idxOf,dV,ke]) rfl ?_ h
        rw[hres];exact(T0 M).mono (fun _ _ h=>dK h) fun _ _ h=>h
       ·exact h.elim
      ·rename_i k off';split at h
       ·rename_i hoff;simp only[aaV,aaX,Bool.not_eq_true',beq_eq_false_iff_ne]at hoff;obtain⟨rfl,hkj⟩:=hoff;split at h
        ·rename_i t' e' L hrk;split at h
         ·rename_i hc;simp only[aaV,aaX]at hc;obtain⟨rfl,rfl⟩:=hc;obtain⟨hL,h1,h2⟩:=h;have hk:=eU hrk (by simp)
          have hkl:=aO hk;have hres:fD (lS 0 (dV [(k,false),(j,false)])) res [(k,false),(j,false)]= [.ro (.store tS eS L),.ro (.store tS eS M)]:=by simp[fD,hr,hrk,gL]
          have hargs:eX (lS 0 (dV [(k,false),(j,false)])) [.lp k 0,.lp j 0]=some [.lp 0 0,.lp 1 0]:=by
           simp[eX,ga,lS,idxOf,dV,hkj]
          have hka:fm res [(k,false),(j,false)]=true:=by simp[fm,cQ.2 hk,cQ.2 hj]
          have hoe:ju 0 res.length (dV [(k,false),(j,false)])=true:=by simpa[ju,dV,pF]using⟨⟨hkl,Ne.symm hkj⟩,hjl⟩
          cases hb:j7 L M with
          |true=>
           refine an.XQ (x:=YB) hka hoe (by simp) hargs rfl ?_ (h1 hb)
           rw[hres];exact(an.fE (k:=0) rfl (an.fE (k:=1) rfl (H2 L M hL))).mono (fun v r hv=>UF hb hv) fun _ _ h=>h
          |false=>
           refine an.Zr (new:= .arr (some tI) 1 (.it .i64 (dQ L M))) (F:=fun j=> .sa j) hka hoe (by simp) hargs rfl (by simp) (fun κ=>rfl) ?_ (h2 hb)
           rw[hres];exact(an.fE (k:=0) rfl (an.fE (k:=1) rfl (H2 L M hL))).mono (fun v r hv=>Ng hb hv) fun _ _ h=>h
         ·exact h.elim
        ·exact h.elim
       ·exact h.elim
      ·exact h.elim
     ·exact h.elim
    ·exact h.elim
   ·exact h.elim
  ·exact h.elim
 ·exact h.elim
abbrev abq(k:Key):=!(decide ((abp [] k 0).kind=1)&&decide ((abp [] k 1).kind=1)&&decide (0<=(abp [] k 0).value)&&decide ((abp [] k 0).value<=(abp [] k 1).value)&&decide ((abp [] k 1).value<ak []))
theorem Gx (k:Key) (n:Int):
 abb (abb (aba (!decide (0<ak [])) (void=ck [] k n/\1=b8 [] k n) (abb (aba (!(aU [] k&&decide (k.kind=4))) (void=ck [] k n/\190=b8 [] k n) (abb (aba (abq k) (void=ck [] k n/\220=b8 [] k n) ((decide (1<=n)=true->aF IntKind.i64 ((abp [] k 1).value-(abp [] k 0).value))/\abb (aba (!(decide (1<=n)&&decide (n<=(abp [] k 1).value-(abp [] k 0).value))) (void=ck [] k n/\4=b8 [] k n) (abb (abb (abb (aba (!decide (0<ak [])) (void=ck [] k n/\1=b8 [] k n) (abb (aba (!(aU [] k&&decide (k.kind=4))) (void=ck [] k n/\190=b8 [] k n) (abb (aba (abq k) (void=ck [] k n/\220=b8 [] k n) (abb (abb (abb (∀(r0:Loop),False)))))))))))))))))))):=by
 delta aba abp abq abb
 exact⟨rfl,rfl,fun h=>(p7 (vo (Il h) (by omega)) (by omega)).1,fun h=>absurd h (by decide)⟩
theorem Gm (k:Key) (n:Int):
 abb (abb (aba (!decide (0<ak [])) (void=ck [] k n/\1=b8 [] k n) (abb (aba (!(aU [] k&&decide (k.kind=4))) (void=ck [] k n/\190=b8 [] k n) (abb (aba (!(decide ((abp [] k 0).kind=1)&&decide ((abp [] k 1).kind=1)&&decide (0<=(abp [] k 0).value)&&decide ((abp [] k 0).value<=(abp [] k 1).value)&&decide ((abp [] k 1).value<ak []))) (void=ck [] k n/\220=b8 [] k n) ((decide (1<=n)=true->aF IntKind.i64 ((abp [] k 1).value-(abp [] k 0).value))/\abb (aba (!(decide (1<=n)&&decide (n<=(abp [] k 1).value-(abp [] k 0).value))) (void=ck [] k n/\4=b8 [] k n) (abb False))))))))):=by
 delta aba abp abb
 exact⟨rfl,rfl,fun h=>(p7 (vo (Il h) (by omega)) (by omega)).1,fun h=>absurd h (by decide)⟩
abbrev abr(L:List Sx.Obj)(k:Key)(g:Int):=(fg L k g).count+1
abbrev abt(L:List Sx.Obj)(k:Key):=!(decide ((abp L k 0).kind=1)&&decide ((abp L k 1).kind=1)&&decide (0<=(abp L k 0).value)&&decide ((abp L k 0).value<=(abp L k 1).value)&&decide ((abp L k 1).value<ak L))
abbrev abu(g:Int):=(aL [] g).count+1
abbrev abv(g:Int)(L:List Sx.Obj)(k:Key)(n:Int)(g_2:Int):=(Key.mk 4 g (abr L k g) (dq 1 g (abr L k g)).call (dq 1 g (abr L k g)).rights (dq 1 g (abr L k g)).value=ck L k n/\0=b8 L k n)/\m5 L (bE L k n) g_2=bE L k n
abbrev abw(L:List Sx.Obj)(k:Key)(n:Int):=void=ck L k n/\221=b8 L k n
abbrev abx(L:List Sx.Obj)(k:Key)(n:Int):=(abp L k 1).value-n
theorem JO (L:List Sx.Obj) (k:Key) (n:Int) (hL:aq L):
 abb (abb (aba (!decide (0<ak L)) ((void=ck L k n/\1=b8 L k n)/\L=bE L k n) (abb (aba (!(aU L k&&decide (k.kind=4))) ((void=ck L k n/\190=b8 L k n)/\L=bE L k n) (abb (aba (abt L k) ((void=ck L k n/\220=b8 L k n)/\L=bE L k n) ((decide (1<=n)=true->abd ((abp L k 1).value-(abp L k 0).value))/\abb (aba (!(decide (1<=n)&&decide (n<=(abp L k 1).value-(abp L k 0).value))) ((void=ck L k n/\4=b8 L k n)/\L=bE L k n) (abb ((ai L).le 1000/\aba (bu L) (abb (abb (aba (!decide (0<ak [])) ((void=ck L k n/\1=b8 L k n)/\L=bE L k n) (abb (aba (!(aU [] k&&decide (k.kind=4))) ((void=ck L k n/\190=b8 L k n)/\L=bE L k n) (abb (aba (!(decide ((abp [] k 0).kind=1)&&decide ((abp [] k 1).kind=1)&&decide (0<=(abp [] k 0).value)&&decide ((abp [] k 0).value<=(abp [] k 1).value)&&decide ((abp [] k 1).value<ak []))) ((void=ck L k n/\220=b8 L k n)/\L=bE L k n) (abb (abb (abb (∀(r0:Loop),(∃g,jE L k g/\False)/\∀(g:Int),jE L k g->aba (decide (g<=(abp [] k 1).value)) (r0=r0/\r0=r0/\aba (!decide ((aL [] g).kind=0)) (r0=r0/\abd (g+1)/\∃g',jE L k g'/\(aI L k+1-g').toNat<(aI L k+1 -g).toNat/\g+1=g'/\L=L/\k=k/\n=n/\void=void/\k=k/\aa L k=aa L k/\k.oid=k.oid/\(abp L k 0).value=(abp L k 0).value/\(abp L k 1).value=(abp L k 1).value/\aa L k=aa L k/\abp L k 0=abp L k 0/\abp L k 1=abp L k 1/\aa L k=aa L k/\k.oid=k.oid/\(abp L k 0).value=(abp L k 0).value/\(abp L k 1).value=(abp L k 1).value/\bN L (ay L k) g=bN L (ay L k) g'/\aa [] k=aa [] k/\Value.pointer none=Value.pointer none/\k.oid=k.oid/\(abp [] k 0).value=(abp [] k 0).value/\(abp [] k 1).value=(abp [] k 1).value/\aa [] k=aa [] k/\abp [] k 0=abp [] k 0/\abp [] k 1=abp [] k 1/\aa [] k=aa [] k/\Value.pointer none=Value.pointer none/\k.oid=k.oid/\(abp [] k 0).value=(abp [] k 0).value/\(abp [] k 1).value=(abp [] k 1).value/\aa [] k=aa [] k/\Value.pointer none=Value.pointer none/\k.oid=k.oid/\(abp [] k 0).value=(abp [] k 0).value/\(abp [] k 1).value=(abp [] k 1).value/\void=void/\false=false/\aa [] k=aa [] k/\Value.pointer none=Value.pointer none/\k.oid=k.oid/\(abp [] k 0).value=(abp [] k 0).value/\(abp [] k 1).value=(abp [] k 1).value/\r0=r0) (aba (decide ((aL [] g).count=4294967295)) (abb (r0=r0/\abd (g+1)/\∃g',jE L k g'/\(aI L k+1-g').toNat<(aI L k+1-g).toNat/\g+1=g'/\L=L/\k=k/\n=n/\void=void/\k=k/\aa L k=aa L k/\k.oid=k.oid/\(abp L k 0).value=(abp L k 0).value/\(abp L k 1).value=(abp L k 1).value/\aa L k=aa L k/\abp L k 0=abp L k 0/\abp L k 1=abp L k 1/\aa L k=aa L k/\k.oid=k.oid/\(abp L k 0).value=(abp L k 0).value/\(abp L k 1).value=(abp L k 1).value/\bN L (ay L k) g=bN L (ay L k) g'/\aa [] k=aa [] k/\Value.pointer none=Value.pointer none/\k.oid=k.oid/\(abp [] k 0).value=(abp [] k 0).value/\(abp [] k 1).value=(abp [] k 1).value/\aa [] k=aa [] k/\abp [] k 0=abp [] k 0/\abp [] k 1=abp [] k 1/\aa [] k=aa [] k/\Value.pointer none=Value.pointer none/\k.oid=k.oid/\(abp [] k 0).value=(abp [] k 0).value/\(abp [] k 1).value=(abp [] k 1).value/\aa [] k=aa [] k/\Value.pointer none=Value.pointer none/\k.oid=k.oid/\(abp [] k 0).value=(abp [] k 0).value/\(abp [] k 1).value=(abp [] k 1).value/\void=void/\false=false/\aa [] k=aa [] k/\Value.pointer none=Value.pointer none/\k.oid=k.oid/\(abp [] k 0).value=(abp [] k 0).value/\(abp [] k 1).value=(abp [] k 1).value/\r0=r0)) (abd (abu g)/\abb (abd (abu g)/\r0=r0/\abd ((abp [] k 1).value-n)/\abb (aba (!decide ((dq 1 g (abu g)).oid<=(abp [] k 1).value-n)) ((abw L k n)/\L=bE L k n) (abb (abb (∀(r0:Loop),(∃g_1,qp L k n g_1/\(abp [] k 0).value=g_1/\L=L/\k=k/\n=n/\void=void/\k=k/\aa L k=aa L k/\k.oid=k.oid/\(abp L k 0).value=(abp L k 0).value/\(abp L k 1).value=(abp L k 1).value/\aa L k=aa L k/\abp L k 0=abp L k 0/\abp L k 1=abp L k 1/\aa L k=aa L k/\k.oid=k.oid/\(abp L k 0).value=(abp L k 0).value/\(abp L k 1).value=(abp L k 1).value/\bN L (ay L k) g=bN L (ay L k) g/\aa [] k=aa [] k/\Value.pointer none=Value.pointer none/\k.oid=k.oid/\(abp [] k 0).value=(abp [] k 0).value/\(abp [] k 1).value=(abp [] k 1).value/\aa [] k=aa [] k/\abp [] k 0=abp [] k 0/\abp [] k 1=abp [] k 1/\aa [] k=aa [] k/\Value.pointer none=Value.pointer none/\k.oid=k.oid/\(abp [] k 0).value=(abp [] k 0).value/\(abp [] k 1).value=(abp [] k 1).value/\aa [] k=aa [] k/\Value.pointer none=Value.pointer none/\k.oid=k.oid/\(abp [] k 0).value=(abp [] k 0).value/\(abp [] k 1).value=(abp [] k 1).value/\dq 1 g (abu g)=dq 1 g (abu g)/\abb (aa [] k=aa [] k/\Value.pointer none=Value.pointer none/\k.oid=k.oid/\(abp [] k 0).value=(abp [] k 0).value/\(abp [] k 1).value=(abp [] k 1).value/\aL [] g=aL [] g/\aL [] g=aL [] g/\dq 1 g (abu g)=dq 1 g (abu g)/\aa [] k=aa [] k/\Value.pointer none=Value.pointer none/\k.oid=k.oid/\(abp [] k 0).value=(abp [] k 0).value/\(abp [] k 1).value=(abp [] k 1).value/\r0=r0))/\∀(g_1:Int),qp L k n g_1->aba (decide (g_1<=(abp [] k 1).value)) (r0=r0/\r0=r0/\abd ((abp [] k 1).value-n)/\abb (aba (!(decide (g_1<=(abp [] k 1).value-n)||decide ((aL [] g_1).kind=0)||decide ((aL [] g_1).kind=3))) (r0=r0/\(abw L k n)/\L=bE L k n) (r0=r0/\abd (g_1+1)/\∃g',qp L k n g'/\(aI L k+1-g').toNat<(aI L k+1- g_1).toNat/\g_1+1=g'/\L=L/\k=k/\n=n/\void=void/\k=k/\aa L k=aa L k/\k.oid=k.oid/\(abp L k 0).value=(abp L k 0).value/\(abp L k 1).value=(abp L k 1).value/\aa L k=aa L k/\abp L k 0=abp L k 0/\abp L k 1=abp L k 1/\aa L k=aa L k/\k.oid=k.oid/\(abp L k 0).value=(abp L k 0).value/\(abp L k 1).value=(abp L k 1).value/\bN L (ay L k) g=bN L (ay L k) g/\aa [] k=aa [] k/\Value.pointer none=Value.pointer none/\k.oid=k.oid/\(abp [] k 0).value=(abp [] k 0).value/\(abp [] k 1).value=(abp [] k 1).value/\aa [] k=aa [] k/\abp [] k 0=abp [] k 0/\abp [] k 1=abp [] k 1/\aa [] k=aa [] k/\Value.pointer none=Value.pointer none/\k.oid=k.oid/\(abp [] k 0).value=(abp [] k 0).value/\(abp [] k 1).value=(abp [] k 1).value/\aa [] k=aa [] k/\Value.pointer none=Value.pointer none/\k.oid=k.oid/\(abp [] k 0).value=(abp [] k 0).value/\(abp [] k 1).value=(abp [] k 1).value/\dq 1 g (abu g)=dq 1 g (abu g)/\abb (aa [] k=aa [] k/\Value.pointer none=Value.pointer none/\k.oid=k.oid/\(abp [] k 0).value=(abp [] k 0).value/\(abp [] k 1).value=(abp [] k 1).value/\aL [] g=aL [] g/\aL [] g=aL [] g/\dq 1 g (abu g)=dq 1 g (abu g)/\aa [] k=aa [] k/\Value.pointer none=Value.pointer none/\k.oid=k.oid/\(abp [] k 0).value=(abp [] k 0).value/\(abp [] k 1).value=(abp [] k 1).value/\r0=r0)))) (abb (abb (abd ((abp [] k 1).value-n)/\abd ((abp [] k 1).value-n+1)/\abb (abb (abb (abb (abb (abd ((abp [] k 1).value-n)/\abb (abb (abb False)))))))))))))))))) (abb ((abw L k n)/\L=bE L k n))))))))))))) (abb (abb (aba (!decide (0<ak L)) ((void=ck L k n/\1=b8 L k n)/\L=bE L k n) (abb (aba (!(aU L k&&decide (k.kind=4))) ((void=ck L k n/\190=b8 L k n)/\L=bE L k n) (abb (aba (abt L k) ((void=ck L k n/\220=b8 L k n)/\L=bE L k n) (abb (abb (abb (∀(r0:Loop),(∃g,jE L k g/\(abp L k 0).value=g/\L=L/\k=k/\n=n/\void=void/\k=k/\aa L k=aa L k/\k.oid=k.oid/\(abp L k 0).value=(abp L k 0).value/\(abp L k 1).value=(abp L k 1).value/\aa L k=aa L k/\abp L k 0=abp L k 0/\abp L k 1=abp L k 1/\aa L k=aa L k/\k.oid=k.oid/\(abp L k 0).value=(abp L k 0).value/\(abp L k 1).value=(abp L k 1).value/\L=bN L (ay L k) g/\k=k/\aa L k=aa L k/\k.oid=k.oid/\(abp L k 0).value=(abp L k 0).value/\(abp L k 1).value=(abp L k 1).value/\aa L k=aa L k/\abp L k 0=abp L k 0/\abp L k 1=abp L k 1/\aa L k=aa L k/\k.oid=k.oid/\(abp L k 0).value=(abp L k 0).value/\(abp L k 1).value=(abp L k 1).value/\aa L k=aa L k/\k.oid=k.oid/\(abp L k 0).value=(abp L k 0).value/\(abp L k 1).value=(abp L k 1).value/\void=void/\false=false/\aa L k=aa L k/\k.oid=k.oid/\(abp L k 0).value=(abp L k 0).value/\(abp L k 1).value=(abp L k 1).value/\r0=r0)/\∀(g:Int),jE L k g->aba (decide (g<=(abp L k 1).value)) (r0=r0/\r0=r0/\aba (!decide ((fg L k g).kind=0)) (r0=r0/\abd (g+1)/\∃g',jE L k g'/\(aI L k+1-g').toNat<(aI L k+1-g).toNat/\g+1=g'/\L=L/\k=k/\n=n/\void=void/\k=k/\aa L k=aa L k/\k.oid=k.oid/\(abp L k 0).value=(abp L k 0).value/\(abp L k 1).value=(abp L k 1).value/\aa L k=aa L k/\abp L k 0=abp L k 0/\abp L k 1=abp L k 1/\aa L k=aa L k/\k.oid=k.oid/\(abp L k 0).value=(abp L k 0).value/\(abp L k 1).value=(abp L k 1).value/\bN L (ay L k) g=bN L (ay L k) g'/\k=k/\aa L k=aa L k/\k.oid=k.oid/\(abp L k 0).value=(abp L k 0).value/\(abp L k 1).value=(abp L k 1).value/\aa L k=aa L k/\abp L k 0=abp L k 0/\abp L k 1=abp L k 1/\aa L k=aa L k/\k.oid=k.oid/\(abp L k 0).value=(abp L k 0).value/\(abp L k 1).value=(abp L k 1).value/\aa L k=aa L k/\k.oid=k.oid/\(abp L k 0).value=(abp L k 0).value/\(abp L k 1).value=(abp L k 1).value/\void=void/\false=false/\aa L k=aa L k/\k.oid=k.oid/\(abp L k 0).value=(abp L k 0).value/\(abp L k 1).value=(abp L k 1).value/\r0=r0) (aba (decide ((fg L k g).count=4294967295)) (abb (r0=r0/\abd (g+1)/\∃g',jE L k g'/\(aI L k+1-g').toNat<(aI L k+1-g).toNat/\g+1=g'/\L=L/\k=k/\n=n/\void=void/\k=k/\aa L k=aa L k/\k.oid=k.oid/\(abp L k 0).value=(abp L k 0).value/\(abp L k 1).value=(abp L k 1).value/\aa L k=aa L k/\abp L k 0=abp L k 0/\abp L k 1=abp L k 1/\aa L k=aa L k/\k.oid=k.oid/\(abp L k 0).value=(abp L k 0).value/\(abp L k 1).value=(abp L k 1).value/\cK (bN L (ay L k) g) g (Obj.mk 3 (fg L k g).count free.calls free.slots free.bytes)=bN L (ay L k) g'/\k=k/\aa L k=aa L k/\k.oid=k.oid/\(abp L k 0).value=(abp L k 0).value/\(abp L k 1).value=(abp L k 1).value/\aa L k=aa L k/\abp L k 0=abp L k 0/\abp L k 1=abp L k 1/\aa L k=aa L k/\k.oid=k.oid/\(abp L k 0).value=(abp L k 0).value/\(abp L k 1).value=(abp L k 1).value/\aa L k=aa L k/\k.oid=k.oid/\(abp L k 0).value=(abp L k 0).value/\(abp L k 1).value=(abp L k 1).value/\void=void/\false=false/\aa L k=aa L k/\k.oid=k.oid/\(abp L k 0).value=(abp L k 0).value/\(abp L k 1).value=(abp L k 1).value/\r0=r0)) (abd (abr L k g)/\abb (abd (abr L k g)/\r0=r0/\abd (abx L k n)/\abb (aba (!decide (g<=(abp L k 1).value-n)) ((abw L k n)/\L=bE L k n) (abb (abb (∀(r0:Loop),(∃g_1,qp L k n g_1/\(abp L k 0).value=g_1/\L=L/\k=k/\n=n/\void=void/\k=k/\aa L k=aa L k/\k.oid=k.oid/\(abp L k 0).value=(abp L k 0).value/\(abp L k 1).value=(abp L k 1).value/\aa L k=aa L k/\abp L k 0=abp L k 0/\abp L k 1=abp L k 1/\aa L k=aa L k/\k.oid=k.oid/\(abp L k 0).value=(abp L k 0).value/\(abp L k 1).value=(abp L k 1).value/\qP L k g=qP L k g/\k=k/\aa L k=aa L k/\k.oid=k.oid/\(abp L k 0).value=(abp L k 0).value/\(abp L k 1).value=(abp L k 1).value/\aa L k=aa L k/\abp L k 0=abp L k 0/\abp L k 1=abp L k 1/\aa L k=aa L k/\k.oid=k.oid/\(abp L k 0).value=(abp L k 0).value/\(abp L k 1).value=(abp L k 1).value/\aa L k=aa L k/\k.oid=k.oid/\(abp L k 0).value=(abp L k 0).value/\(abp L k 1).value=(abp L k 1).value/\dq 1 g (abr L k g)=dq 1 g (abr L k g)/\abb (aa L k=aa L k/\k.oid=k.oid/\(abp L k 0).value=(abp L k 0).value/\(abp L k 1).value=(abp L k 1).value/\fg L k g=fg L k g/\fg L k g=fg L k g/\dq 1 g (abr L k g)=dq 1 g (abr L k g)/\aa L k=aa L k/\k.oid=k.oid/\(abp L k 0).value=(abp L k 0).value/\(abp L k 1).value=(abp L k 1).value/\r0=r0))/\∀(g_1:Int),qp L k n g_1->aba (decide (g_1<=(abp L k 1).value)) (r0=r0/\r0=r0/\abd (abx L k n)/\abb (aba (!(decide (g_1<=(abp L k 1).value-n)||decide ((aL (qP L k g) g_1).kind=0)||decide ((aL (qP L k g) g_1).kind=3))) (r0=r0/\(abw L k n)/\L=bE L k n) (r0=r0/\abd (g_1+1)/\∃g',qp L k n g'/\(aI L k+1-g').toNat<(aI L k+1-g_1).toNat/\g_1+1=g'/\L=L/\k=k/\n=n/\void=void/\k=k/\aa L k=aa L k/\k.oid=k.oid/\(abp L k 0).value=(abp L k 0).value/\(abp L k 1).value=(abp L k 1).value/\aa L k=aa L k/\abp L k 0=abp L k 0/\abp L k 1=abp L k 1/\aa L k=aa L k/\k.oid=k.oid/\(abp L k 0).value=(abp L k 0).value/\(abp L k 1).value=(abp L k 1).value/\qP L k g=qP L k g/\k=k/\aa L k=aa L k/\k.oid=k.oid/\(abp L k 0).value=(abp L k 0).value/\(abp L k 1).value=(abp L k 1).value/\aa L k=aa L k/\abp L k 0=abp L k 0/\abp L k 1=abp L k 1/\aa L k=aa L k/\k.oid=k.oid/\(abp L k 0).value=(abp L k 0).value/\(abp L k 1).value=(abp L k 1).value/\aa L k=aa L k/\k.oid=k.oid/\(abp L k 0).value=(abp L k 0).value/\(abp L k 1).value=(abp L k 1).value/\dq 1 g (abr L k g)=dq 1 g (abr L k g)/\abb (aa L k=aa L k/\k.oid=k.oid/\(abp L k 0).value=(abp L k 0).value/\(abp L k 1).value=(abp L k 1).value/\fg L k g=fg L k g/\fg L k g=fg L k g/\dq 1 g (abr L k g)=dq 1 g (abr L k g)/\aa L k=aa L k/\k.oid=k.oid/\(abp L k 0).value=(abp L k 0).value/\(abp L k 1).value=(abp L k 1).value/\r0=r0)))) (abb (abb (abd (abx L k n)/\abd ((abp L k 1).value-n+1)/\abb (abb (abb (abb (abb (abd (abx L k n)/\abb (abb (abb ((ai L).le 1000/\aba (j7 L (mW L k n g)) ((∃g_2,sH L (bE L k n) g_2/\Value.slice none 0 0=Value.slice none 0 0/\0=g_2/\L=m5 L (bE L k n) g_2/\k=k/\n=n/\void=void/\k=k/\aa L k=aa L k/\k.oid=k.oid/\(abp L k 0).value=(abp L k 0).value/\(abp L k 1).value=(abp L k 1).value/\aa L k=aa L k/\abp L k 0=abp L k 0/\abp L k 1=abp L k 1/\aa L k=aa L k/\k.oid=k.oid/\(abp L k 0).value=(abp L k 0).value/\(abp L k 1).value=(abp L k 1).value/\mW L k n g=mW L k n g/\k=k/\aa L k=aa L k/\k.oid=k.oid/\(abp L k 0).value=(abp L k 0).value/\(abp L k 1).value=(abp L k 1).value/\aa L k=aa L k/\abp L k 0=abp L k 0/\abp L k 1=abp L k 1/\aa L k=aa L k/\k.oid=k.oid/\(abp L k 0).value=(abp L k 0).value/\(abp L k 1).value=(abp L k 1).value/\aa L k=aa L k/\k.oid=k.oid/\(abp L k 0).value=(abp L k 0).value/\(abp L k 1).value=(abp L k 1).value/\dq 1 g (abr L k g)=dq 1 g (abr L k g)/\abb (aa L k=aa L k/\k.oid=k.oid/\(abp L k 0).value=(abp L k 0).value/\(abp L k 1).value=(abp L k 1).value/\fg L k g=fg L k g/\fg L k g=fg L k g/\dq 1 g (abr L k g)=dq 1 g (abr L k g)/\aa L k=aa L k/\k.oid=k.oid/\(abp L k 0).value=(abp L k 0).value/\(abp L k 1).value=(abp L k 1).value/\Dx L k n g=Dx L k n g/\o9 ((abp L k 1).value-n+1)=o9 ((abp L k 1).value-n+1)/\o9 (abp L k 1).value=o9 (abp L k 1).value/\C8 L k n g=C8 L k n g/\o9 (abx L k n)=o9 (abx L k n)))/\∀(g_2:Int),sH L (bE L k n) g_2->aba (decide (g_2<0)) False (abv g L k n g_2)) ((∃g_2,sH L (bE L k n) g_2/\bQ (ai (dQ L (mW L k n g)))=bQ (ai (dQ L (mW L k n g)))/\0=g_2/\L=m5 L (bE L k n) g_2/\k=k/\n=n/\void=void/\k=k/\aa L k=aa L k/\k.oid=k.oid/\(abp L k 0).value=(abp L k 0).value/\(abp L k 1).value=(abp L k 1).value/\aa L k=aa L k/\abp L k 0=abp L k 0/\abp L k 1=abp L k 1/\aa L k=aa L k/\k.oid=k.oid/\(abp L k 0).value=(abp L k 0).value/\(abp L k 1).value=(abp L k 1).value/\mW L k n g=mW L k n g/\k=k/\aa L k=aa L k/\k.oid=k.oid/\(abp L k 0).value=(abp L k 0).value/\(abp L k 1).value=(abp L k 1).value/\aa L k=aa L k/\abp L k 0=abp L k 0/\abp L k 1=abp L k 1/\aa L k=aa L k/\k.oid=k.oid/\(abp L k 0).value=(abp L k 0).value/\(abp L k 1).value=(abp L k 1).value/\aa L k=aa L k/\k.oid=k.oid/\(abp L k 0).value=(abp L k 0).value/\(abp L k 1).value=(abp L k 1).value/\dq 1 g (abr L k g)=dq 1 g (abr L k g)/\abb (aa L k=aa L k/\k.oid=k.oid/\(abp L k 0).value=(abp L k 0).value/\(abp L k 1).value=(abp L k 1).value/\fg L k g=fg L k g/\fg L k g=fg L k g/\dq 1 g (abr L k g)=dq 1 g (abr L k g)/\aa L k=aa L k/\k.oid=k.oid/\(abp L k 0).value=(abp L k 0).value/\(abp L k 1).value=(abp L k 1).value/\Dx L k n g=Dx L k n g/\o9 ((abp L k 1).value-n+1)=o9 ((abp L k 1).value-n+1)/\o9 (abp L k 1).value=o9 (abp L k 1).value/\C8 L k n g=C8 L k n g/\o9 (abx L k n)=o9 (abx L k n)/\dQ L (mW L k n g)=dQ L (mW L k n g)))/\∀(g_2:Int),sH L (bE L k n) g_2->aba (decide (g_2<bQ (ai (dQ L (mW L k n g))))) ((0<=g_2/\g_2< ↑(ai (dQ L (mW L k n g))))/\g_2.toNat<ai (dQ L (mW L k n g))/\abb (abd (g_2+1)/\∃g',sH L (bE L k n) g'/\(bQ (ai (dQ L (bE L k n)))-g').toNat<(bQ (ai (dQ L (bE L k n)))-g_2).toNat/\bQ (ai (dQ L (mW L k n g)))=bQ (ai (dQ L (mW L k n g)))/\g_2+1=g'/\cK (m5 L (bE L k n) g_2) (aj (dQ L (mW L k n g)) g_2.toNat 0) (aL (mW L k n g) (aj (dQ L (mW L k n g)) g_2.toNat 0))=m5 L (bE L k n) g'/\k=k/\n=n/\void=void/\k=k/\aa L k=aa L k/\k.oid=k.oid/\(abp L k 0).value=(abp L k 0).value/\(abp L k 1).value=(abp L k 1).value/\aa L k=aa L k/\abp L k 0=abp L k 0/\abp L k 1=abp L k 1/\aa L k=aa L k/\k.oid=k.oid/\(abp L k 0).value=(abp L k 0).value/\(abp L k 1).value=(abp L k 1).value/\mW L k n g=mW L k n g/\k=k/\aa L k=aa L k/\k.oid=k.oid/\(abp L k 0).value=(abp L k 0).value/\(abp L k 1).value=(abp L k 1).value/\aa L k=aa L k/\abp L k 0=abp L k 0/\abp L k 1=abp L k 1/\aa L k=aa L k/\k.oid=k.oid/\(abp L k 0).value=(abp L k 0).value/\(abp L k 1).value=(abp L k 1).value/\aa L k=aa L k/\k.oid=k.oid/\(abp L k 0).value=(abp L k 0).value/\(abp L k 1).value=(abp L k 1).value/\dq 1 g (abr L k g)=dq 1 g (abr L k g)/\abb (aa L k=aa L k/\k.oid=k.oid/\(abp L k 0).value=(abp L k 0).value/\(abp L k 1).value=(abp L k 1).value/\fg L k g=fg L k g/\fg L k g=fg L k g/\dq 1 g (abr L k g)=dq 1 g (abr L k g)/\aa L k=aa L k/\k.oid=k.oid/\(abp L k 0).value=(abp L k 0).value/\(abp L k 1).value=(abp L k 1).value/\Dx L k n g=Dx L k n g/\o9 ((abp L k 1).value-n+1)=o9 ((abp L k 1).value-n+1)/\o9 (abp L k 1).value=o9 (abp L k 1).value/\C8 L k n g=C8 L k n g/\o9 (abx L k n)=o9 (abx L k n)/\dQ L (mW L k n g)=dQ L (mW L k n g)))) (abv g L k n g_2))))))))))))))))))))) (abb ((abw L k n)/\L=bE L k n))))))))))))))))))))))):=by
 delta aba abp abx abw abv abu abt abr abd abb
 refine⟨rfl,rfl,fun h=>p7 (vo (Il h) (by omega)) (by omega),fun h=>⟨rfl,fun h2=>p7 (vo (bk2 h h2) (by omega)) (by omega),fun h2=>⟨rfl,fun h3=>p7 (vo (Zv h h2 h3) (by omega)) (by omega),fun h3=>?_⟩⟩⟩
 obtain⟨e,e1,e2⟩:=Rw h h2 h3;obtain⟨_,a0,a1,a2,a3,a4⟩:=mP e;have hkd:=B9 (nO h2).1 (nO h2).2;have hlen:=gY hL;have hll:ai L=L.length:=rfl;have h3':=h3;rw[e1,e2]at h3';rw[e1,e2];have hr:∀x:Int,-1000<=x->x<=1000->aF IntKind.i64 x:=fun x h1 h2=>by simp only[aF,cc];omega
 refine⟨fun _=>hr _ (by omega) (by omega),rfl,fun h4=>p7 (B4 e (by simp only[Bool.not_eq_true',Bool.and_eq_false_iff,decide_eq_false_iff_not]at h4;omega)) (by omega),fun h4=>⟨rfl,(show L.length<=1000 by omega),fun hn=>?_,fun _=>⟨rfl,rfl,fun h'=>?_,fun _=>⟨rfl,fun h'=>?_,fun _=>⟨rfl,fun h'=>?_,fun _=>⟨rfl,rfl,rfl,fun r0=>?_⟩⟩⟩⟩⟩⟩
 ·exfalso
  have:=aaZ hn;omega
 ·rw[h]at h';exact absurd h' (by decide)
 ·rw[h2]at h';exact absurd h' (by decide)
 ·rw[h3']at h';exact absurd h' (by decide)
 simp only[Bool.not_eq_false',aaV,aaW]at h4;obtain⟨hn1,hn2⟩:=h4;have h0:=Hf e hn1 hn2;have hcnt:∀j:Nat,j<L.length->0<=(aj L j free).count/\(aj L j free).count<=4294967295:=fun j hj=>⟨(kf (dt hL j hj)).1,(kf (dt hL j hj)).2.1⟩
 have hci:∀j:Nat,j<L.length->aF IntKind.i64 ((aj L j free).count+1):=fun j hj=>by have:=hcnt j hj;simp only[aF,cc];omega
 refine⟨⟨ay L k,⟨by omega,by omega,uj⟩,rfl,?_⟩,fun g hg=>⟨fun hgl=>?_,fun hgl=>?_⟩⟩
 ·have hx:L=bN L (ay L k) (ay L k):=Ei;(repeat' apply And.intro)<;>first|with_reducible rfl|exact hx
 ·obtain⟨g0,g1,g2⟩:=hg;have hgl:=aaZ hgl;have hgn:g.toNat<L.length:=by omega
  have hgz:(bN L (ay L k) g).length=L.length:=kR;have hO:fg L k g=aj L g.toNat free:=by unfold fg;rw[fG (by omega) (by omega),DD (by omega)]
  refine⟨rfl,rfl,fun hk0=>?_,fun hk0=>⟨fun hc=>?_,fun hc=>?_⟩⟩
  ·obtain⟨f1,f2⟩:=yy (o:=aj L g.toNat free) (by rw[<-hO];simpa using hk0)
   have hx:bN L (ay L k) g=bN L (ay L k) (g+1):=(zM (by omega) f1).symm
   refine⟨rfl,hr _ (by omega) (by omega),g+1,⟨by omega,by omega,jP g2 f2⟩,by omega,rfl,?_⟩
   (repeat' apply And.intro)<;>first|with_reducible rfl|exact hx
  ·rw[hO]at hk0 hc;obtain⟨f1,f2⟩:=CD (o:=aj L g.toNat free) (by simpa using hk0) (by have:=aaZ hc;omega)
   have hp:=(my (L:=bN L (ay L k) g) (i:=g) (by omega) (by omega) (hgz▸Cy (dt hL g.toNat hgn))).1
   have hx:cK (bN L (ay L k) g) g (Obj.mk 3 (fg L k g).count free.calls free.slots free.bytes)=bN L (ay L k) (g+1):=by rw[hO];exact hp.trans (yi (by omega) (by omega) g0 f1)
   refine⟨rfl,rfl,hr _ (by omega) (by omega),g+1,⟨by omega,by omega,jP g2 f2⟩,by omega,rfl,?_⟩
   (repeat' apply And.intro)<;>first|with_reducible rfl|exact hx
  ·rw[hO]at hk0 hc;have hc:=aaY hc;have:=hcnt _ hgn;obtain⟨f1,f2⟩:=Cg (o:=aj L g.toNat free) (by simpa using hk0) (by omega)
   obtain⟨i1,i2,i3,i4,i5,i6,i7,i8⟩:=Vb hL e hkd g0 hgl g2 f2;have hcg:aF IntKind.i64 ((fg L k g).count+1):=by rw[hO];exact hci _ hgn
   refine⟨hcg,rfl,hcg,rfl,hr _ (by omega) (by omega),rfl,fun hc2=>p7 (va h0 (.inr (by rw[i1];simp only[Bool.not_eq_true',decide_eq_false_iff_not]at hc2;omega))) (by omega),fun hc2=>⟨rfl,rfl,fun r1=>⟨⟨ay L k,⟨by omega,by omega,Hs (by omega)⟩,rfl,?_⟩,fun j hj=>⟨fun hjl=>?_,fun hjl=>?_⟩⟩⟩⟩
   ·(repeat' apply And.intro)<;>first|with_reducible rfl|exact hx
   ·obtain⟨j0,j1,j2⟩:=hj;have hjl:=aaZ hjl;have hgj:aL (qP L k g) j=aj (dW L k) j.toNat free:=by rw[i3];exact fG (by omega) (by omega)
    rw[hgj];have hkk:=kf (dt i5 j.toNat (by omega))
    refine⟨rfl,rfl,hr _ (by omega) (by omega),rfl,fun hb=>⟨rfl,?_⟩,fun hb=>⟨rfl,hr _ (by omega) (by omega),j+1,⟨by omega,by omega,?_⟩,by omega,rfl,?_⟩⟩
    ·simp only[Bool.not_eq_true',Bool.or_eq_false_iff,decide_eq_false_iff_not]at hb;have hbz:mY (aj (dW L k) j.toNat free)=true:=by unfold mY;simp only[Bool.or_eq_true,aaW];omega
     exact p7 (D4 h0 (EI (by omega) (by omega) (by omega) (by omega) hbz)) (by omega)
    ·simp only[Bool.not_eq_false',Bool.or_eq_true,aaW]at hb;by_cases hjn:j<=aI L k-n
     ·exact Hs (by omega)
     ·have hbz:mY (aj (dW L k) j.toNat free)=false:=by unfold mY;simp only[Bool.or_eq_false_iff,decide_eq_false_iff_not];omega
      rw[Hv (by omega) hbz];exact j2
    ·(repeat' apply And.intro)<;>first|with_reducible rfl|exact hx
   ·obtain⟨j0,j1,j2⟩:=hj;have hjl:=aaY hjl;have:j=aI L k+1:=by omega
    subst this;simp only[Bool.not_eq_false',aaW]at hc2;have hE:=Iv h0 (by rw[i1];omega) (by rw[i1];omega) j2
    obtain⟨l1,l2,l3,l4⟩:=SY hL e hkd e2 g0 hgl g2 f2 hE;rw[l1];have hul:(dQ L (bE L k n)).length<=L.length:=Rj;have hu:bQ (ai (dQ L (bE L k n)))=((dQ L (bE L k n)).length:Int):=rfl
    refine⟨rfl,rfl,hr _ (by omega) (by omega),hr _ (by omega) (by omega),rfl,rfl,rfl,rfl,rfl,hr _ (by omega) (by omega),rfl,rfl,rfl,(show L.length<=1000 by omega),fun hno=>?_,fun _=>⟨⟨0,⟨by omega,by omega⟩,rfl,rfl,?_⟩,fun t ht=>⟨fun htl=>?_,fun htl=>⟨⟨l4,hE.symm⟩,Uw l3 l2 ?_⟩⟩⟩⟩
    ·rw[Ni l3 (by omega)]at hno;exact absurd hno (by decide)
    ·have hx:L=m5 L (bE L k n) 0:=rfl;(repeat' apply And.intro)<;>first|with_reducible rfl|exact hx
    ·obtain⟨t0,t1⟩:=ht;have htl:=aaZ htl;rw[hu]at htl;have hx:cK (m5 L (bE L k n) t) (aj (dQ L (bE L k n)) t.toNat 0) (aL (bE L k n) (aj (dQ L (bE L k n)) t.toNat 0))=m5 L (bE L k n) (t+1):=Pe t0;refine⟨⟨t0,htl⟩,(show t.toNat<(dQ L (bE L k n)).length by omega),rfl,hr _ (by omega) (by omega),t+1,⟨by omega,by omega⟩,by rw[hu];omega,rfl,rfl,?_⟩
     (repeat' apply And.intro)<;>first|with_reducible rfl|exact hx
    ·have htl:=aaY htl;rw[hu]at htl;obtain⟨t0,t1⟩:=ht;omega
 ·obtain⟨g0,g1,g2⟩:=hg;have hgl:=aaY hgl;have:g=aI L k+1:=by omega
  subst this;obtain⟨m1,m2,m3⟩:=Du 1 g2;exact⟨rfl,p7 (va h0 (.inl (by unfold gu;rw[m1];omega))) (by omega)⟩
theorem Kr (L:List Sx.Obj) (k:Key) (n:Int) (hL:aq L):an Tryz.prog 169 [.lp 0 0,.key k,.it .i64 n] [.store tS eS L] (CA (.tp [.key (ck L k n),.it .i64 (b8 L k n)]) (bE L k n)) (fun _ _=>False):=
 aY (inl:=(fun f=>f==214||f==213||f==218||f==219||f==220||f==221||f==222||f==223||f==1000000+232)) (ann:=(iJ [(3000+232,1,lpR [0,1] (fun g=> [(3,.it .i64 g)]) 11 (fun g=> .store tS eS (bN L (ay L k) g)) (jE L k) (yG (aI L k) 1)),(9000+232,1,Ws [0,1] (fun g=> [(3,.it .i64 g)]) (qp L k n) (yG (aI L k) 1)),(169,16,lpR [0,6,7,9,10,90,91] (fun g=> [(92,.it .i64 g)]) 0 (fun g=> .store tS eS (m5 L (bE L k n) g)) (sH L (bE L k n)) (bQ (ai (dQ L (bE L k n)))))])) (ae bC (ae bR (ae fY (ae sW ar)))) (aC dB (aC xY (aC G1 aE))) (eg iC) (JO L k n hL) (by kernel_rfl)
theorem J7:lh Tryz.prog 169 N0:=
 od (m:=fun x=>TW.cn x 0) (fP CC (fun _=>rfl)) (fun _=>rfl) (fun _ _=>rfl) (fun x=>aY (inl:=(fun f=>f==214||f==213||f==218||f==219||f==220||f==221||f==222||f==223||f==1000000+232)) (ann:=aQ) (ae bC (ae bR (ae fY (ae sW ar)))) (aC dB (aC xY (aC G1 aE))) (eg iC) (Gx x.1 x.2.1) (by kernel_rfl)) (fun x=>aY (inl:=(fun f=>f==214||f==213||f==218||f==219||f==220||f==221||f==222||f==223||f==1000000+232)) (ann:=aQ) (ae bC (ae bR (ae fY (ae sW ar)))) (aC dB (aC xY (aC G1 aE))) (eg iC) (Gm x.1 x.2.1) (by kernel_rfl)) fun L x hL _ _=>Kr L x.1 x.2.1 hL
end Go.Proofs.YtlblcfaclmpekaaGreat
