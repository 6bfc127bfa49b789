import Derived.Test.YtlblcfaclmpekaaGreatMa3
set_option linter.unusedSimpArgs false
set_option linter.unusedVariables false
set_option maxRecDepth 100000
namespace Go.Proofs.YtlblcfaclmpekaaGreat
open Go.Sx
abbrev abc(L:List Sx.Obj)(k:Key):=aj L k.oid.toNat free
theorem KE (L:List Sx.Obj) (k:Key):
 aba (!decide (aB L k 4 false=0)) (0=aM L k/\0=aD L k/\aB L k 4 false=aN L k) ((0<=k.oid/\k.oid< ↑(ai L))/\k.oid.toNat<ai L/\(0<=k.oid/\k.oid< ↑(ai L))/\k.oid.toNat<ai L/\aba (!decide (((abc L k).slots.at 0).kind=1)|| !decide (((abc L k).slots.at 1).kind=1)||decide (((abc L k).slots.at 0).value<0)||decide (((abc L k).slots.at 1).value<((abc L k).slots.at 0).value)||decide (bQ (ai L)<=((abc L k).slots.at 1).value)) (0=aM L k/\0=aD L k/\220=aN L k) (((abc L k).slots.at 0).value=aM L k/\((abc L k).slots.at 1).value=aD L k/\0=aN L k)):=by
 delta aba abc
 rw[MH];refine⟨fun h=>?_,fun h=>?_⟩
 ·obtain⟨e1,e2,e3⟩:=Gy (show aB L k 4 false≠0 by simpa using h)
  rw[e1,e2,e3];exact⟨rfl,rfl,rfl⟩
 ·have h0:aB L k 4 false=0:=by simpa using h
  obtain⟨_,b2,b3,_⟩:=ei (gw h0).1;refine⟨⟨b2,b3⟩,by unfold ai;omega,⟨b2,b3⟩,by unfold ai;omega,fun h2=>?_,fun h2=>?_⟩
  ·obtain⟨e1,e2,e3⟩:=C0 h0 (by simpa using h2)
   rw[e1,e2,e3];exact⟨rfl,rfl,rfl⟩
  ·obtain⟨e1,e2,e3⟩:=vI h0 (by simpa using h2)
   rw[e1,e2,e3];exact⟨rfl,rfl,rfl⟩
theorem rU:cz Tryz.prog 139 S6:=
 eQ (aA jC D1) (fun _=>rfl) fun a hq hok=>by
  obtain⟨L,k,_⟩:=a;exact bc (inl:=bx) (ann:=aQ) (ae pK ar) (KE L k) (by kernel_rfl)
theorem Jl (L:List Sx.Obj) (f l kind:Int) (hq:D8 L f l):
 (∃g,uH L f l g/\f=f/\l=l/\kind=kind/\f=g/\L=L)/\(∀(g:Int),uH L f l g->aba (decide (g<=l)) ((0<=g/\g< ↑(ai L))/\g.toNat<ai L/\aba (!decide ((aj L g.toNat free).kind=0)) (abd (g+1)/\((∃g',uH L f l g'/\(l+1-g').toNat<(l+1-g).toNat/\f=f/\l=l/\kind=kind/\g+1=g'/\L=L)\/∃g',sP L f l g'/\(l+1-g').toNat<(l+1-g).toNat/\False)) (aba (decide (4294967295<=(aj L g.toNat free).count)) (dO L g/\abd (g+1)/\((∃g',uH L f l g'/\(l+1-g').toNat<(l+1-g).toNat/\False)\/∃g',sP L f l g'/\(l+1-g').toNat<(l+1-g).toNat/\f=f/\l=l/\kind=kind/\g+1=g'/\L=L/\b6 L g.toNat (Obj.mk 3 (aj L g.toNat free).count free.calls free.slots free.bytes)=bN L f g')) (abd ((aj L g.toNat free).count+1)/\dO L g/\lH L f l=true/\g=br L f l/\b6 L g.toNat (Obj.mk kind ((aj L g.toNat free).count+1) free.calls free.slots free.bytes)=cH L f l kind))) (lH L f l=false/\-1=br L f l))/\∀(g:Int),sP L f l g->aba (decide (g<=l)) ((0<=g/\g< ↑(ai (bN L f g)))/\g.toNat<ai (bN L f g)/\aba (!decide ((aj (bN L f g) g.toNat free).kind=0)) (abd (g+1)/\∃g',sP L f l g'/\(l+1-g').toNat<(l+1-g).toNat/\f=f/\l=l/\kind=kind/\g+1=g'/\L=L/\bN L f g=bN L f g') (aba (decide (4294967295<=(aj (bN L f g) g.toNat free).count)) (dO (bN L f g) g/\abd (g+1)/\∃g',sP L f l g'/\(l+1-g').toNat<(l+1-g).toNat/\f=f/\l=l/\kind=kind/\g+1=g'/\L=L/\b6 (bN L f g) g.toNat (Obj.mk 3 (aj (bN L f g) g.toNat free).count free.calls free.slots free.bytes)=bN L f g') (abd ((aj (bN L f g) g.toNat free).count+1)/\dO (bN L f g) g/\lH L f l=true/\g=br L f l/\b6 (bN L f g) g.toNat (Obj.mk kind ((aj (bN L f g) g.toNat free).count+1) free.calls free.slots free.bytes)=cH L f l kind))) (lH L f l=true/\-1=br L f l/\bN L f g=cH L f l kind):=by
 delta aba abd
 obtain⟨hL,h0,hl,hfl⟩:=hq;have hlen:=gY hL;have hll:(ai L:Int)=(L.length:Int):=rfl;have hrq:∀(M:List Sx.Obj) (g:Int),M.length=L.length->0<=g->g<=l->dO M g:=fun M g hM h1 h2=>⟨h1,by unfold ai;omega,by unfold ai;omega⟩
 have hin:∀g:Int,0<=g->g<=l->aF IntKind.i64 (g+1):=fun g h1 h2=>by simp only[aF,cc];omega
 have hcnt:∀j:Nat,j<L.length->0<=(aj L j free).count/\(aj L j free).count<=4294967295:=fun j hj=>⟨(kf (dt hL j hj)).1,(kf (dt hL j hj)).2.1⟩
 have hci:∀j:Nat,j<L.length->aF IntKind.i64 ((aj L j free).count+1):=fun j hj=>by have:=hcnt j hj;simp only[aF,cc];omega
 refine⟨⟨f,⟨by omega,hfl,uj,JH⟩,(by(repeat' apply And.intro)<;>rfl)⟩,fun g hg=>⟨fun hgl=>?_,fun hgl=>?_⟩,fun g hg=>⟨fun hgl=>?_,fun hgl=>?_⟩⟩
 ·obtain⟨g0,g1,g2,g3⟩:=hg;have hgl:=aaZ hgl;have hgn:g.toNat<L.length:=by omega
  refine⟨⟨by omega,by omega⟩,hgn,fun hk=>?_,fun hk=>⟨fun hc=>?_,fun hc=>?_⟩⟩
  ·obtain⟨e1,e2⟩:=yy (o:=aj L g.toNat free) (by simpa using hk)
   exact⟨hin g (by omega) hgl,.inl ⟨g+1,⟨by omega,by omega,jP g2 e2,by rw[IL (by omega) e1];exact g3⟩,by omega,(by(repeat' apply And.intro)<;>rfl)⟩⟩
  ·obtain⟨e1,e2⟩:=CD (o:=aj L g.toNat free) (by simpa using hk) (aaZ hc)
   have hs:=yi (L:=L) (f:=f) (g:=g) (by omega) (by omega) g0 e1
   rw[zI g3]at hs;exact⟨hrq L g rfl (by omega) hgl,hin g (by omega) hgl,.inr ⟨g+1,⟨by omega,by omega,jP g2 e2,Ep (by omega) (by omega) g0 e1⟩,by omega,rfl,rfl,rfl,rfl,rfl,hs⟩⟩
  ·obtain⟨e1,e2⟩:=Cg (o:=aj L g.toNat free) (by simpa using hk) (aaY hc)
   obtain⟨m1,m2,m3⟩:=yD kind h0 g0 hgl (by omega) g2 e2
   rw[zI g3]at m3;exact⟨hci _ hgn,hrq L g rfl (by omega) hgl,m2,m1.symm,m3.symm⟩
 ·obtain⟨g0,g1,g2,g3⟩:=hg;have hgl:=aaY hgl;have:g=l+1:=by omega
  subst this;obtain⟨m1,m2,m3⟩:=Du kind g2;exact⟨by rw[m3];exact g3,m1.symm⟩
 ·obtain⟨g0,g1,g2,g3⟩:=hg;have hgl:=aaZ hgl;have hgn:g.toNat<L.length:=by omega
  have hgl2:(ai (bN L f g):Int)=(L.length:Int):=by unfold ai;rw[kR]
  have hga:=DD (L:=L) (f:=f) (g:=g) (by omega)
  rw[hga];refine⟨⟨by omega,by omega⟩,by omega,fun hk=>?_,fun hk=>⟨fun hc=>?_,fun hc=>?_⟩⟩
  ·obtain⟨e1,e2⟩:=yy (o:=aj L g.toNat free) (by simpa using hk)
   exact⟨hin g (by omega) hgl,g+1,⟨by omega,by omega,jP g2 e2,by rw[IL (by omega) e1];exact g3⟩,by omega,rfl,rfl,rfl,rfl,rfl,(zM (by omega) e1).symm⟩
  ·obtain⟨e1,e2⟩:=CD (o:=aj L g.toNat free) (by simpa using hk) (aaZ hc)
   exact⟨hrq _ g kR (by omega) hgl,hin g (by omega) hgl,g+1,⟨by omega,by omega,jP g2 e2,Ep (by omega) (by omega) g0 e1⟩,by omega,rfl,rfl,rfl,rfl,rfl,yi (by omega) (by omega) g0 e1⟩
  ·obtain⟨e1,e2⟩:=Cg (o:=aj L g.toNat free) (by simpa using hk) (aaY hc)
   obtain⟨m1,m2,m3⟩:=yD kind h0 g0 hgl (by omega) g2 e2
   exact⟨hci _ hgn,hrq _ g kR (by omega) hgl,m2,m1.symm,m3.symm⟩
 ·obtain⟨g0,g1,g2,g3⟩:=hg;have hgl:=aaY hgl;have:g=l+1:=by omega
  subst this;obtain⟨m1,m2,m3⟩:=Du kind g2;exact⟨by rw[m3];exact g3,m1.symm,m2.symm⟩
theorem Kl (L:List Sx.Obj) (f l kind:Int) (hq:D8 L f l):an Tryz.prog 140 [.sa 0,.it .i64 f,.it .i64 l,.it .i64 kind] [.ro (.arr none 163 (.ob L))] (yA (lH L f l) (cH L f l kind) [.it .i64 (br L f l)]) (fun _ _=>False):=
 bm (inl:=bx) (ann:=(iJ [(140,2,Zd [0,1,2,3] (fun g=> [(10,.it .i64 g)]) 0 tO 163 (fun g=> .ob (bN L f g)) (uH L f l) (sP L f l) (yG l 1))])) (ae jG ar) aE (Jl L f l kind hq) (by kernel_rfl)
theorem Bl:lh Tryz.prog 140 My:=
 iP (m:=fun x=>i3B.cn x 0) (fP Yu (fun _=>rfl)) (fun _=>rfl) (fun _ _=>rfl) fun L x hq=>Kl L x.1 x.2.1 x.2.2.1 hq
abbrev abe(L:List Sx.Obj)(k:Key):=br L (aM L k) (aD L k)
theorem PI (L:List Sx.Obj) (k:Key) (kind:Int) (hL:aq L):
 aba (decide (aN L k=0)&& !decide (kind=1)&& !decide (kind=2)) (gE L k kind=false/\void=dh L k kind/\2=cA L k kind) (aba (!decide (aN L k=0)) (gE L k kind=false/\void=dh L k kind/\aN L k=cA L k kind) (true=true/\D8 L (aM L k) (aD L k)/\(lH L (aM L k) (aD L k)=false->aba (decide (br L (aM L k) (aD L k)<0)) (gE L k kind=false/\void=dh L k kind/\221=cA L k kind) (abd (1+kind)/\(0<=br L (aM L k) (aD L k)/\br L (aM L k) (aD L k)< ↑(ai L))/\(abe L k).toNat<ai L/\gE L k kind=false/\Key.mk (1+kind) (abe L k) (aj L (abe L k).toNat free).count void.call void.rights void.value=dh L k kind/\0=cA L k kind))/\(lH L (aM L k) (aD L k)=true->aba (decide (br L (aM L k) (aD L k)<0)) (gE L k kind=true/\(void=dh L k kind/\221=cA L k kind)/\cH L (aM L k) (aD L k) kind=fx L k kind) (abd (1+kind)/\(0<=br L (aM L k) (aD L k)/\br L (aM L k) (aD L k)< ↑(ai (cH L (aM L k) (aD L k) kind)))/\(abe L k).toNat<ai (cH L (aM L k) (aD L k) kind)/\gE L k kind=true/\(Key.mk (1+kind) (abe L k) (aj (cH L (aM L k) (aD L k) kind) (abe L k).toNat free).count void.call void.rights void.value=dh L k kind/\0=cA L k kind)/\cH L (aM L k) (aD L k) kind=fx L k kind)))):=by
 delta aba abe abd
 refine⟨fun h=>?_,fun h=>⟨fun h2=>?_,fun h2=>?_⟩⟩
 ·simp only[aaV,Bool.not_eq_true',aaW,decide_eq_false_iff_not]at h;exact UB h.1.1 h.1.2 h.2
 ·exact Rs (by simpa using h2)
 ·have h2:aN L k=0:=by simpa using h2
  have hk:kind=1\/kind=2:=by
   simp only[h2,decide_true,Bool.true_and,Bool.and_eq_false_iff,Bool.not_eq_false',aaW]at h;exact h
  obtain⟨_,a0,a1,a2,_⟩:=mP h2;obtain⟨x1,x2⟩:=Ca h2;have hlen:=gY hL;rw[x1,x2];have hin:aF IntKind.i64 (1+kind):=by simp only[aF,cc];omega
  have hm:=wa (L:=L) (l:=aI L k) a0;refine⟨rfl,⟨hL,a0,a2,by omega⟩,fun hc=>⟨fun hi=>?_,fun hi=>?_⟩,fun hc=>⟨fun hi=>?_,fun hi=>?_⟩⟩
  ·have hi:=aaZ hi;obtain⟨m1,m2,m3,m4⟩:=zo h2 hk (by omega)
   exact⟨m1.trans hc,m2,m3⟩
  ·have hi:=aaY hi;rw[Dd (by omega)]at hc
   simp at hc
  ·have hi:=aaZ hi;obtain⟨m1,m2,m3,m4⟩:=zo h2 hk (by omega)
   exact⟨m1.trans hc,⟨m2,m3⟩,m4⟩
  ·have hi:=aaY hi;obtain⟨m1,m2,m3,m4⟩:=HK h2 hk (by omega)
   rw[show ai (cH L (ay L k) (aI L k) kind)=L.length from uF];exact⟨hin,⟨by omega,by omega⟩,by omega,m1,⟨m2,m3⟩,m4⟩
theorem MZ (L:List Sx.Obj) (k:Key) (kind:Int) (hL:aq L):an Tryz.prog 118 [.sa 0,.key k,.it .i64 kind] [.ro (.arr none 163 (.ob L))] (yA (gE L k kind) (fx L k kind) [.key (dh L k kind),.it .i64 (cA L k kind)]) (fun _ _=>False):=
 bm (inl:=bx) (ann:=aQ) (ae rU ar) (aC Bl aE) (PI L k kind hL) (by kernel_rfl)
theorem OU:lh Tryz.prog 118 Uy:=
 iP (m:=fun x=>TW.cn x 0) (fP CC (fun _=>rfl)) (fun _=>rfl) (fun _ _=>rfl) fun L x hq=>MZ L x.1 x.2.1 hq
theorem Sh (L:List Sx.Obj) (k v:Key) (hL:aq L):
 aba (!decide (aN L k=0)) (jU L k v=false/\aN L k=cE L k v) (aba (!aU L v|| !decide (v.kind=2)&& !decide (v.kind=3)) (jU L k v=false/\5=cE L k v) (aba (decide (v.oid<aM L k)||decide (aD L k<v.oid)||decide (v.oid=k.oid)) (jU L k v=false/\4=cE L k v) ((0<=v.oid/\v.oid< ↑(ai L))/\v.oid.toNat<ai L/\dO L v.oid/\jU L k v=true/\0=cE L k v/\b6 L v.oid.toNat (Obj.mk free.kind (aj L v.oid.toNat free).count free.calls free.slots free.bytes)=gA L k v))):=by
 delta aba
 refine⟨fun h=>?_,fun h=>⟨fun h2=>?_,fun h2=>⟨fun h3=>?_,fun h3=>?_⟩⟩⟩
 ·have h:aN L k≠0:=by simpa using h
  have e:cE L k v=aN L k:=by unfold cE;rw[aa1 h]
  exact⟨by unfold jU;rw[e];simpa using h,e.symm⟩
 ·have h:aN L k=0:=by simpa using h
  have e:cE L k v=5:=by unfold cE;rw[aa2 h,zp,h2];rfl
  exact⟨by unfold jU;rw[e];rfl,e.symm⟩
 ·have h:aN L k=0:=by simpa using h
  obtain⟨x1,x2⟩:=Ca h;rw[x1,x2]at h3
  have e:cE L k v=4:=by
   unfold cE;rw[aa2 h,zp,h2,aa2 (show(!false)=true from rfl),aa1];simp only[Bool.or_eq_true,aaW]at h3;omega
  exact⟨by unfold jU;rw[e];rfl,e.symm⟩
 ·have h:aN L k=0:=by simpa using h
  obtain⟨x1,x2⟩:=Ca h;rw[x1,x2]at h3;have ht:je L v=true:=by rw[zp,h2];rfl
  obtain⟨_,b2,b3,_⟩:=ei (Fe ht)
  have e:cE L k v=0:=by
   unfold cE;rw[aa2 h,ht,aa2 rfl,aa2];simp only[Bool.or_eq_false_iff,decide_eq_false_iff_not]at h3;omega
  have hlen:=gY hL;exact⟨⟨b2,b3⟩,by unfold ai;omega,⟨b2,b3,by unfold ai;omega⟩,by unfold jU;rw[e];rfl,e.symm,by unfold gA;rw[aa2 e];rfl⟩
theorem TG (L:List Sx.Obj) (k v:Key) (hL:aq L):an Tryz.prog 119 [.sa 0,.key k,.key v] [.ro (.arr none 163 (.ob L))] (yA (jU L k v) (gA L k v) [.it .i64 (cE L k v)]) (fun _ _=>False):=
 bm (inl:=bx) (ann:=aQ) (ae rU (ae mf (ae jG ar))) aE (Sh L k v hL) (by kernel_rfl)
theorem SI:lh Tryz.prog 119 XX:=
 iP (m:=fun x=>NY.cn x 0) (fP wj (fun _=>rfl)) (fun _=>rfl) (fun _ _=>rfl) fun L x hq=>TG L x.1 x.2.1 hq
abbrev abf(L:List Sx.Obj)(k:Key)(g:Int):=dT L (ay L k) g k.oid
theorem Pm (L:List Sx.Obj) (k:Key) (hL:aq L):
 aba (!decide (aN L k=0)) (kX L k=false/\0=fN L k/\aN L k=aN L k) ((∃g,vT L k g/\aM L k=aM L k/\aD L k=aD L k/\0=eW L (ay L k) g k.oid/\aM L k=g/\L=L/\k=k)/\(∀(g:Int),vT L k g->aba (decide (g<=aD L k)) ((0<=g/\g< ↑(ai L))/\g.toNat<ai L/\((!decide ((aj L g.toNat free).kind=1))=true->0<=g/\g< ↑(ai L))/\((!decide ((aj L g.toNat free).kind=1))=true->g.toNat<ai L)/\aba ((decide ((aj L g.toNat free).kind=1)||decide ((aj L g.toNat free).kind=2))&& !decide (g=k.oid)) ((0<=g/\g< ↑(ai L))/\g.toNat<ai L/\dO L g/\abd (eW L (ay L k) g k.oid+1)/\abd (g+1)/\((∃g',vT L k g'/\(aI L k+1-g').toNat<(aI L k+1-g).toNat/\False)\/∃g',sS L k g'/\(aI L k+1-g').toNat<(aI L k+1-g).toNat/\aM L k=aM L k/\aD L k=aD L k/\eW L (ay L k) g k.oid+1=eW L (ay L k) g' k.oid/\g+1=g'/\L=L/\k=k/\b6 L g.toNat (Obj.mk free.kind (aj L g.toNat free).count free.calls free.slots free.bytes)=dT L (ay L k) g' k.oid)) (abd (g+1)/\((∃g',vT L k g'/\(aI L k+1-g').toNat<(aI L k+1-g).toNat/\aM L k=aM L k/\aD L k=aD L k/\eW L (ay L k) g k.oid=eW L (ay L k) g' k.oid/\g+1=g'/\L=L/\k=k)\/∃g',sS L k g'/\(aI L k+1-g').toNat<(aI L k+1-g).toNat/\False))) (kX L k=false/\eW L (ay L k) g k.oid=fN L k/\0=aN L k))/\∀(g:Int),sS L k g->aba (decide (g<=aD L k)) ((0<=g/\g< ↑(ai (abf L k g)))/\g.toNat<ai (abf L k g)/\((!decide ((aj (abf L k g) g.toNat free).kind=1))=true->0<=g/\g< ↑(ai (abf L k g)))/\((!decide ((aj (abf L k g) g.toNat free).kind=1))=true->g.toNat<ai (abf L k g))/\aba ((decide ((aj (abf L k g) g.toNat free).kind=1)||decide ((aj (abf L k g) g.toNat free).kind=2))&& !decide (g=k.oid)) ((0<=g/\g< ↑(ai (abf L k g)))/\g.toNat<ai (abf L k g)/\dO (abf L k g) g/\abd (eW L (ay L k) g k.oid+1)/\abd (g+1)/\∃g',sS L k g'/\(aI L k+1-g').toNat<(aI L k+1-g).toNat/\aM L k=aM L k/\aD L k=aD L k/\eW L (ay L k) g k.oid+1=eW L (ay L k) g' k.oid/\g+1=g'/\L=L/\k=k/\b6 (abf L k g) g.toNat (Obj.mk free.kind (aj (abf L k g) g.toNat free).count free.calls free.slots free.bytes)=dT L (ay L k) g' k.oid) (abd (g+1)/\∃g',sS L k g'/\(aI L k+1-g').toNat<(aI L k+1-g).toNat/\aM L k=aM L k/\aD L k=aD L k/\eW L (ay L k) g k.oid=eW L (ay L k) g' k.oid/\g+1=g'/\L=L/\k=k/\dT L (ay L k) g k.oid=dT L (ay L k) g' k.oid)) (kX L k=true/\(eW L (ay L k) g k.oid=fN L k/\0=aN L k)/\dT L (ay L k) g k.oid=ib L k)):=by
 delta aba abf abd
 refine⟨fun h=>?_,fun h=>?_⟩
 ·have h:aN L k≠0:=by simpa using h
  exact⟨by unfold kX;simp[h],by unfold fN;rw[aa1 h],rfl⟩
 have h:aN L k=0:=by simpa using h
 obtain⟨_,a0,a1,a2,_⟩:=mP h;obtain⟨x1,x2⟩:=Ca h;have hlen:=gY hL;have hll:(ai L:Int)=(L.length:Int):=rfl;rw[x1,x2];have hit:∀g:Int,(((decide ((aj L g.toNat free).kind=1)||decide ((aj L g.toNat free).kind=2))&& !decide (g=k.oid)))=j5 L g k.oid:=fun g=>rfl
 have hin:∀g:Int,ay L k<=g->g<=aI L k->aF IntKind.i64 (g+1):=fun g h1 h2=>by simp only[aF,cc];omega
 have hnn:∀g:Int,aF IntKind.i64 (eW L (ay L k) g k.oid+1):=fun g=>by
  have:=um (L:=L) (f:=ay L k) (g:=g) (oid:=k.oid);have:=QN (L:=L) (f:=ay L k) (g:=g) (oid:=k.oid);simp only[aF,cc];omega
 refine⟨⟨ay L k,⟨by omega,by omega,u7⟩,rfl,rfl,u7.symm,rfl,rfl,rfl⟩,fun g hg=>⟨fun hgl=>?_,fun hgl=>?_⟩,fun g hg=>⟨fun hgl=>?_,fun hgl=>?_⟩⟩
 ·obtain⟨g0,g1,g2⟩:=hg;have hgl:=aaZ hgl;have hr1:0<=g/\g<(ai L:Int):=⟨by omega,by omega⟩
  have hr2:g.toNat<ai L:=by omega
  rw[hit g];refine⟨hr1,hr2,fun _=>hr1,fun _=>hr2,fun hh=>?_,fun hh=>?_⟩
  ·have hs:=zS (L:=L) (f:=ay L k) (oid:=k.oid) (by omega:0<=g) (by omega) g0 hh
   have hs2:=Dv (L:=L) (f:=ay L k) (oid:=k.oid) (by omega:0<=g) (by omega) g0 hh
   rw[yH g2]at hs2;exact⟨hr1,hr2,⟨by omega,by omega,by omega⟩,hnn g,hin g g0 hgl,.inr ⟨g+1,⟨by omega,by omega,by omega⟩,by omega,rfl,rfl,hs.symm,rfl,rfl,rfl,hs2⟩⟩
  ·have hs:=uL (L:=L) (f:=ay L k) (oid:=k.oid) (by omega:0<=g) g0 hh
   exact⟨hin g g0 hgl,.inl ⟨g+1,⟨by omega,by omega,by omega⟩,by omega,rfl,rfl,hs.symm,rfl,rfl,rfl⟩⟩
 ·obtain⟨g0,g1,g2⟩:=hg;have hgl:=aaY hgl;have:g=aI L k+1:=by omega
  subst this;exact⟨by unfold kX;simp[h,g2],by unfold fN;rw[aa2 h],h.symm⟩
 ·obtain⟨g0,g1,g2⟩:=hg;have hgl:=aaZ hgl;have hgz:(ai (dT L (ay L k) g k.oid))=L.length:=Dw;have hr1:0<=g/\g<((L.length:Nat):Int):=⟨by omega,by omega⟩
  have hr2:g.toNat<L.length:=by omega
  rw[Pn (by omega),hit g,hgz]
  refine⟨hr1,hr2,fun _=>hr1,fun _=>hr2,fun hh=>?_,fun hh=>?_⟩
  ·have hs:=zS (L:=L) (f:=ay L k) (oid:=k.oid) (by omega:0<=g) (by omega) g0 hh
   have hs2:=Dv (L:=L) (f:=ay L k) (oid:=k.oid) (by omega:0<=g) (by omega) g0 hh
   have:=um (L:=L) (f:=ay L k) (g:=g) (oid:=k.oid);exact⟨hr1,hr2,⟨by omega,by omega,by omega⟩,hnn g,hin g g0 hgl,g+1,⟨by omega,by omega,by omega⟩,by omega,rfl,rfl,hs.symm,rfl,rfl,rfl,hs2⟩
  ·have hs:=uL (L:=L) (f:=ay L k) (oid:=k.oid) (by omega:0<=g) g0 hh
   have hs2:=zX (L:=L) (f:=ay L k) (oid:=k.oid) (by omega:0<=g) g0 hh
   exact⟨hin g g0 hgl,g+1,⟨by omega,by omega,by omega⟩,by omega,rfl,rfl,hs.symm,rfl,rfl,rfl,hs2.symm⟩
 ·obtain⟨g0,g1,g2⟩:=hg;have hgl:=aaY hgl;have:g=aI L k+1:=by omega
  subst this;exact⟨by unfold kX;simp[h,g2],⟨by unfold fN;rw[aa2 h],h.symm⟩,by unfold ib;rw[aa2 h]⟩
theorem NI (L:List Sx.Obj) (k:Key) (hL:aq L):an Tryz.prog 122 [.sa 0,.key k] [.ro (.arr none 163 (.ob L))] (yA (kX L k) (ib L k) [.it .i64 (fN L k),.it .i64 (aN L k)]) (fun _ _=>False):=
 bm (inl:=bx) (ann:=(iJ [(122,6,Zd [0,3,7,8] (fun g=> [(10,.it .i64 (eW L (ay L k) g k.oid)),(11,.it .i64 g)]) 0 tO 163 (fun g=> .ob (dT L (ay L k) g k.oid)) (vT L k) (sS L k) (yG (aI L k) 1))])) (ae rU (ae jG ar)) aE (Pm L k hL) (by kernel_rfl)
theorem PK:lh Tryz.prog 122 Uf:=
 iP (m:=fun x=>kB.cn x 0) (fP D1 (fun _=>rfl)) (fun _=>rfl) (fun _ _=>rfl) fun L x hq=>NI L x.1 hq
theorem Qo (L:List Sx.Obj) (k v:Key):
 ((!decide (aN L k=0))=true->false=jF L k v/\aN L k=aN L k)/\((!decide (aN L k=0))=false->(aU L v&&(decide (v.kind=2)||decide (v.kind=3))&&decide (aM L
   k<=v.oid)&&decide (v.oid<=aD L k))=jF L k v/\0=aN L k):=by
 refine⟨fun h=>?_,fun h=>?_⟩
 ·have h:aN L k≠0:=by simpa using h
  exact⟨by unfold jF;simp[h],rfl⟩
 ·have h:aN L k=0:=by simpa using h
  obtain⟨x1,x2⟩:=Ca h;rw[x1,x2];exact⟨by unfold jF je;simp[h],h.symm⟩
theorem ND:cz Tryz.prog 121 RV:=
 eQ (aA jC wj) (fun _=>rfl) fun a hq hok=>by
  obtain⟨L,k,v,_⟩:=a;exact bc (inl:=bx) (ann:=aQ) (ae rU (ae mf ar)) (Qo L k v) (by kernel_rfl)
abbrev abh(L:List Sx.Obj)(k:Key):=aj (cH L (aM L k) (aD L k) 1) (br L (aM L k) (aD L k)).toNat free
abbrev abi(L:List Sx.Obj)(k:Key):=aj L (br L (aM L k) (aD L k)).toNat free
abbrev abj(L:List Sx.Obj)(k:Key):=cH L (aM L k) (aD L k) 1
abbrev abk(L:List Sx.Obj)(k:Key)(n:Int):=b6 (abj L k) (br L (aM L k) (aD L k)).toNat (Obj.mk (abh L k).kind (abh L k).count (abh L k).calls (((abh L k).slots.put 0 (abg (aD L k-n+1))).put 1 (abg (aD L k))) (abh L k).bytes)
abbrev abl(L:List Sx.Obj)(k:Key)(n:Int):=b6 L (br L (aM L k) (aD L k)).toNat (Obj.mk (abi L k).kind (abi L k).count (abi L k).calls (((abi L k).slots.put 0 (abg (aD L k-n+1))).put 1 (abg (aD L k))) (abi L k).bytes)
abbrev abm(L:List Sx.Obj)(k:Key)(n:Int):=k9 L k n=false/\void=ck L k n/\221=b8 L k n
abbrev abn(L:List Sx.Obj)(k:Key):=aj (abj L k) k.oid.toNat free
abbrev abo(L:List Sx.Obj)(k:Key):=br L (aM L k) (aD L k)
theorem Jh (L:List Sx.Obj) (k:Key) (n:Int) (hL:aq L):
 ((!decide (n<1)&&decide (aN L k=0))=true->abd (aD L k-aM L k))/\aba (decide (aN L k=0)&&(decide (n<1)||decide (aD L k-aM L k<n))) (k9 L k n=false/\void=ck L k n/\4=b8 L k n) (aba (!decide (aN L k=0)) (k9 L k n=false/\void=ck L k n/\aN L k=b8 L k n) (true=true/\D8 L (aM L k) (aD L k)/\(lH L (aM L k) (aD L k)=false->((!decide (br L (aM L k) (aD L k)<0))=true->abd (aD L k-n))/\aba (decide (br L (aM L k) (aD L k)<0)||decide (aD L k-n<br L (aM L k) (aD L k))) (abm L k n) (abd (aD L k-n)/\abd (aD L k-n+1)/\(∃g,pT L k n g/\n=n/\aM L k=aM L k/\aD L k=aD L k/\br L (aM L k) (aD L k)=br L (aM L k) (aD L k)/\aD L k-n+1=g/\L=L/\k=k/\void=void)/\∀(g:Int),pT L k n g->aba (decide (g<=aD L k)) ((0<=g/\g< ↑(ai L))/\g.toNat<ai L/\((!decide ((aj L g.toNat free).kind=1))=true->0<=g/\g< ↑(ai L))/\((!decide ((aj L g.toNat free).kind=1))=true->g.toNat<ai L)/\aba (decide ((aj L g.toNat free).kind=1)||decide ((aj L g.toNat free).kind=2)) (abm L k n) (abd (g+1)/\∃g',pT L k n g'/\(aI L k+1-g').toNat<(aI L k+1-g).toNat/\n=n/\aM L k=aM L k/\aD L k=aD L k/\br L (aM L k) (aD L k)=br L (aM L k) (aD L k)/\g+1=g'/\L=L/\k=k/\void=void)) ((0<=br L (aM L k) (aD L k)/\br L (aM L k) (aD L k)< ↑(ai L))/\(abo L k).toNat<ai L/\(0<=k.oid/\k.oid< ↑(ai L))/\k.oid.toNat<ai L/\abd (aD L k-n)/\abd (aD L k-n+1)/\abd (aD L k-n)/\dO L (abo L k)/\dO (abl L k n) k.oid/\k9 L k n=true/\(Key.mk 4 (abo L k) (abi L k).count void.call void.rights void.value=ck L k n/\0=b8 L k n)/\b6 (abl L k n) k.oid.toNat (Obj.mk (aj L k.oid.toNat free).kind (aj L k.oid.toNat free).count (aj L k.oid.toNat free).calls ((aj L k.oid.toNat free).slots.put 1 (abg (aD L k- n))) (aj L k.oid.toNat free).bytes)=bE L k n)))/\(lH L (aM L k) (aD L k)=true->((!decide (br L (aM L k) (aD L k)<0))=true->abd (aD L k-n))/\aba (decide (br L (aM L k) (aD L k)<0)||decide (aD L k-n<br L (aM L k) (aD L k))) (abm L k n) (abd (aD L k-n)/\abd (aD L k-n+1)/\(∃g,pT L k n g/\n=n/\aM L k=aM L k/\aD L k=aD L k/\br L (aM L k) (aD L k)=br L (aM L k) (aD L k)/\aD L k-n+1=g/\L=L/\k=k/\void=void/\cH L (aM L k) (aD L k) 1=cH L (aM L k) (aD L k) 1)/\∀(g:Int),pT L k n g->aba (decide (g<=aD L k)) ((0<=g/\g< ↑(ai (abj L k)))/\g.toNat<ai (abj L k)/\((!decide ((aj (abj L k) g.toNat free).kind=1))=true->0<=g/\g< ↑(ai (abj L k)))/\((!decide ((aj (abj L k) g.toNat free).kind=1))=true->g.toNat<ai (abj L k))/\aba (decide ((aj (abj L k) g.toNat free).kind=1)||decide ((aj (abj L k) g.toNat free).kind=2)) (abm L k n) (abd (g+1)/\∃g',pT L k n g'/\(aI L k+1-g').toNat<(aI L k+1-g).toNat/\n=n/\aM L k=aM L k/\aD L k=aD L k/\br L (aM L k) (aD L k)=br L (aM L k) (aD L k)/\g+1=g'/\L=L/\k=k/\void=void/\cH L (aM L k) (aD L k) 1=cH L (aM L k) (aD L k) 1)) ((0<=br L (aM L k) (aD L k)/\br L (aM L k) (aD L k)< ↑(ai (abj L k)))/\(abo L k).toNat<ai (abj L k)/\(0<=k.oid/\k.oid< ↑(ai (abj L k)))/\k.oid.toNat<ai (abj L k)/\abd (aD L k-n)/\abd (aD L k-n+1)/\abd (aD L k- n)/\dO (abj L k) (abo L k)/\dO (abk L k n) k.oid/\k9 L k n=true/\(Key.mk 4 (abo L k) (abh L k).count void.call void.rights void.value=ck L k n/\0=b8 L k n)/\b6 (abk L k n) k.oid.toNat (Obj.mk (abn L k).kind (abn L k).count (abn L k).calls ((abn L k).slots.put 1 (abg (aD L k-n))) (abn L k).bytes)=bE L k n))))):=by
 delta aba abg abo abn abm abl abk abj abi abh abd
 by_cases hE:aN L k≠0
 ·rw[show decide (aN L k=0)=false by simpa using hE]
  refine⟨fun h=>by simp at h,fun h=>by simp at h,fun _=>⟨fun _=>E0 (zb hE) hE,fun h=>by simp at h⟩⟩
 replace hE:aN L k=0:=Decidable.not_not.1 hE
 obtain⟨_,a0,a1,a2,a3,a4⟩:=mP hE;obtain⟨x1,x2⟩:=Ca hE;have hlen:=gY hL;rw[x1,x2,show decide (aN L k=0)=true by simpa using hE]
 have hr:∀x:Int,-1000<=x->x<=1000->aF IntKind.i64 x:=fun x h1 h2=>by simp only[aF,cc];omega
 have hI:br L (ay L k) (aI L k)=gu L k:=rfl;have hM:cH L (ay L k) (aI L k) 1=dW L k:=rfl;have hlM:ai (dW L k)=L.length:=uF;have hlM2:(dW L k).length=L.length:=uF;have hll:ai L=L.length:=rfl;rw[hI,hM];refine⟨fun _=>hr _ (by omega) (by omega),fun h=>E0 (B4 hE (by simp only[Bool.true_and,Bool.or_eq_true,aaW]at h;omega)) (by omega),fun h=>⟨fun h=>by simp at h,fun _=>?_⟩⟩
 have hn:1<=n/\n<=aI L k-ay L k:=by simp only[Bool.true_and,Bool.or_eq_false_iff,decide_eq_false_iff_not]at h;omega
 obtain⟨hn1,hn2⟩:=hn;have h0:=Hf hE hn1 hn2;have hm:=wa (L:=L) (l:=aI L k) a0;rw[hI]at hm;refine⟨rfl,⟨hL,a0,a2,by omega⟩,fun hc=>⟨fun _=>hr _ (by omega) (by omega),fun hi=>?_,fun hi=>?_⟩,fun hc=>⟨fun _=>hr _ (by omega) (by omega),fun hi=>?_,fun hi=>?_⟩⟩
 ·exact E0 (va h0 (by simp only[Bool.or_eq_true,aaW]at hi;omega)) (by omega)
 ·simp only[Bool.or_eq_false_iff,decide_eq_false_iff_not]at hi;rw[Dd (by rw[hI];omega)]at hc
  simp at hc
 ·exact E0 (va h0 (by simp only[Bool.or_eq_true,aaW]at hi;omega)) (by omega)
 simp only[Bool.or_eq_false_iff,decide_eq_false_iff_not]at hi;have hbz:∀o:Sx.Obj,(decide (o.kind=1)||decide (o.kind=2))=mY o:=fun o=>rfl
 refine⟨hr _ (by omega) (by omega),hr _ (by omega) (by omega),⟨aI L k-n+1,⟨by omega,by omega,Ju⟩,rfl,rfl,rfl,rfl,rfl,rfl,rfl,rfl,rfl⟩,fun g hg=>⟨fun hgl=>?_,fun hgl=>?_⟩⟩
 ·obtain⟨g0,g1,g2⟩:=hg;have hgl:=aaZ hgl;rw[hbz];have hr1:0<=g/\g<(ai (dW L k):Int):=⟨by omega,by omega⟩
  have hr2:g.toNat<ai (dW L k):=by omega
  refine⟨hr1,hr2,fun _=>hr1,fun _=>hr2,fun hb=>?_,fun hb=>?_⟩
  ·exact E0 (D4 h0 (EI (by omega) (by omega) g0 (by omega) hb)) (by omega)
  ·exact⟨hr _ (by omega) (by omega),g+1,⟨by omega,by omega,by rw[Hv (by omega) hb];exact g2⟩,by omega,rfl,rfl,rfl,rfl,rfl,rfl,rfl,rfl,rfl⟩
 ·obtain⟨g0,g1,g2⟩:=hg;have hgl:=aaY hgl;have:g=aI L k+1:=by omega
  subst this;have e:=Iv h0 (by omega) (by omega) g2
  have hp:∀(M:List Sx.Obj) (x:Int),M.length=L.length->0<=x->x<(L.length:Int)->dO M x:=fun M x hM h1 h2=>⟨h1,by unfold ai;omega,by unfold ai;omega⟩
  exact⟨⟨by omega,by omega⟩,by omega,⟨by omega,by omega⟩,by omega,hr _ (by omega) (by omega),hr _ (by omega) (by omega),hr _ (by omega) (by omega),hp _ _ hlM2 (by omega) (by omega),hp _ _ (by rw[iy];exact hlM2) a3 a4,by unfold k9;rw[e];rfl,⟨by unfold ck;rw[aa2 e];rfl,e.symm⟩,by unfold bE;rw[aa2 e];rfl⟩
theorem Km (L:List Sx.Obj) (k:Key) (n:Int) (hL:aq L):an Tryz.prog 120 [.sa 0,.key k,.it .i64 n] [.ro (.arr none 163 (.ob L))] (yA (k9 L k n) (bE L k n) [.key (ck L k n),.it .i64 (b8 L k n)]) (fun _ _=>False):=
 bm (inl:=bx) (ann:=(iJ [(120,10,Ws [0,2,4,7,9,10,12,13] (fun g=> [(14,.it .i64 g)]) (pT L k n) (yG (aI L k) 1))])) (ae rU (ae jG ar)) (aC Bl aE) (Jh L k n hL) (by kernel_rfl)
theorem JA:lh Tryz.prog 120 Mp:=
 iP (m:=fun x=>TW.cn x 0) (fP CC (fun _=>rfl)) (fun _=>rfl) (fun _ _=>rfl) fun L x hq=>Km L x.1 x.2.1 hq
theorem Sg (kind oid count:Int):
 (decide (kind=2)=true->Key.mk 3 oid count void.call void.rights void.value=dq kind oid count)/\(decide (kind=2)=false->Key.mk 2 oid count void.call void.rights void.value=dq kind
  oid count):=by
 unfold dq;exact⟨fun h=>by rw[aa2 (aaZ h)];rfl,fun h=>by rw[aa1 (aaY h)];rfl⟩
theorem sW:cz Tryz.prog 231 Wc:=
 L8 (gq .i64) (gq .i64) (gq .i64) (fun _ _ _=>rfl) fun i j k _ _ _=>bc (inl:=bx) (ann:=aQ) ar (Sg i j k) (by kernel_rfl)
theorem Ks (k v:Key):
 abb (abb (aba (!decide (0<ak [])) (false=jF [] k v/\1=aN [] k) (abb (aba (!(aU [] k&&decide (k.kind=4))) (false=jF [] k v/\190=aN [] k) (abb (aba (!(decide ((abp [] k 0).kind=1)&&decide ((abp [] k 1).kind=1)&&decide (0<=(abp [] k 0).value)&&decide ((abp [] k 0).value<=(abp [] k 1).value)&&decide ((abp [] k 1).value<ak []))) (false=jF [] k v/\220=aN [] k) (abb ((aU [] v&&(decide (v.kind=2)||decide (v.kind=3))&&decide ((abp [] k 0).value<=cy v)&&decide (cy v<=(abp [] k 1).value))=jF [] k v/\0=aN [] k)))))))):=by
 delta aba abp abb
 exact⟨rfl,rfl,fun h=>Cd (Il h) (by omega),fun h=>absurd h (by decide)⟩
theorem Mm (L:List Sx.Obj) (k v:Key):
 abb (abb (aba (!decide (0<ak L)) (false=jF L k v/\1=aN L k) (abb (aba (!(aU L k&&decide (k.kind=4))) (false=jF L k v/\190=aN L k) (abb (aba (!(decide ((abp L k 0).kind=1)&&decide ((abp L k 1).kind=1)&&decide (0<=(abp L k 0).value)&&decide ((abp L k 0).value<=(abp L k 1).value)&&decide ((abp L k 1).value<ak L))) (false=jF L k v/\220=aN L k) (abb ((aU L v&&(decide (v.kind=2)||decide (v.kind=3))&&decide ((abp L k 0).value<=cy v)&&decide (cy v<=(abp L k 1).value))=jF L k v/\0=aN L k)))))))):=by
 delta aba abp abb
 refine⟨rfl,rfl,fun h=>Cd (Il h) (by omega),fun h=>⟨rfl,fun h2=>Cd (bk2 h h2) (by omega),fun h2=>⟨rfl,fun h3=>Cd (Zv h h2 h3) (by omega),fun h3=>⟨rfl,?_,(Rw h h2 h3).1.symm⟩⟩⟩⟩
 obtain⟨e,e1,e2⟩:=Rw h h2 h3;rw[e1,e2];unfold jF je;rw[e];cases hi:aU L v with
 |false=>simp
 |true=>
  cases hk:(decide (v.kind=2)||decide (v.kind=3))with
  |false=>simp
  |true=>
   have hn:cy v=v.oid:=Xm hi;rw[hn];simp
theorem QG:cz Tryz.prog 224 Rh:=
 eQ (aA tk wj) (fun _=>rfl) fun a hq hok=>by
  obtain⟨S,k,v,_⟩:=a;cases S with
  |none=>exact aY (inl:=(fun f=>f==214||f==213||f==215)) (ann:=aQ) (ae bC (ae bR (ae dJ ar))) aE (eg iC) (Ks k v) (by kernel_rfl)
  |some L=>exact aY (inl:=(fun f=>f==214||f==213||f==215)) (ann:=aQ) (ae bC (ae bR (ae dJ ar))) aE (eg iC) (Mm L k v) (by kernel_rfl)
theorem Oe (k v:Key):
 abb (abb (aba (!decide (0<ak [])) (1=cE [] k v) (abb (aba (!(aU [] k&&decide (k.kind=4))) (190=cE [] k v) (abb (aba (!(decide ((abp [] k 0).kind=1)&&decide ((abp [] k 1).kind=1)&&decide (0<=(abp [] k 0).value)&&decide ((abp [] k 0).value<=(abp [] k 1).value)&&decide ((abp [] k 1).value<ak []))) (220=cE [] k v) (abb (abb (aba (!(aU [] v&&(decide (v.kind=2)||decide (v.kind=3)))) (5=cE [] k v) (abb (abb (aba (!(decide ((abp [] k 0).value<=v.oid)&&decide (v.oid<=(abp [] k 1).value)&& !decide (v.oid=k.oid))) (4=cE [] k v) (abb (abb (0=cE [] k v))))))))))))))):=by
 delta aba abp abb
 exact⟨rfl,rfl,fun h=>(tw (rJ (Il h) (by omega)) (by omega)).1,fun h=>absurd h (by decide)⟩
theorem Mc (k v:Key):
 abb (abb (aba (!decide (0<ak [])) (1=cE [] k v) (abb (aba (!(aU [] k&&decide (k.kind=4))) (190=cE [] k v) (abb (aba (!(decide ((abp [] k 0).kind=1)&&decide ((abp [] k 1).kind=1)&&decide (0<=(abp [] k 0).value)&&decide ((abp [] k 0).value<=(abp [] k 1).value)&&decide ((abp [] k 1).value<ak []))) (220=cE [] k v) (abb (abb (aba (!(aU [] v&&(decide (v.kind=2)||decide (v.kind=3)))) (5=cE [] k v) (abb (abb (aba (!(decide ((abp [] k 0).value<=v.oid)&&decide (v.oid<=(abp [] k 1).value)&& !decide (v.oid=k.oid))) (4=cE [] k v) (abb (abb False)))))))))))))):=by
 delta aba abp abb
 exact⟨rfl,rfl,fun h=>(tw (rJ (Il h) (by omega)) (by omega)).1,fun h=>absurd h (by decide)⟩
theorem Rk (L:List Sx.Obj) (k v:Key) (hL:aq L):
 abb (abb (aba (!decide (0<ak L)) (1=cE L k v/\L=gA L k v) (abb (aba (!(aU L k&&decide (k.kind=4))) (190=cE L k v/\L=gA L k v) (abb (aba (!(decide ((abp L k 0).kind=1)&&decide ((abp L k 1).kind=1)&&decide (0<=(abp L k 0).value)&&decide ((abp L k 0).value<=(abp L k 1).value)&&decide ((abp L k 1).value<ak L))) (220=cE L k v/\L=gA L k v) (abb (abb (aba (!(aU L v&&(decide (v.kind=2)||decide (v.kind=3)))) (5=cE L k v/\L=gA L k v) (abb (abb (aba (!(decide ((abp L k 0).value<=v.oid)&&decide (v.oid<=(abp L k 1).value)&& !decide (v.oid=k.oid))) (4=cE L k v/\L=gA L k v) (abb (abb (0=cE L k v/\cK L v.oid (Obj.mk free.kind (aL L v.oid).count free.calls free.slots free.bytes)=gA L k v))))))))))))))):=by
 delta aba abp abb
 refine⟨rfl,rfl,fun h=>tw (rJ (Il h) (by omega)) (by omega),fun h=>⟨rfl,fun h2=>tw (rJ (bk2 h h2) (by omega)) (by omega),fun h2=>⟨rfl,fun h3=>tw (rJ (Zv h h2 h3) (by omega)) (by omega),fun h3=>⟨rfl,rfl,fun h4=>?_,fun h4=>⟨rfl,rfl,fun h5=>?_,fun h5=>⟨rfl,rfl,?_⟩⟩⟩⟩⟩⟩
 ·obtain⟨e,e1,e2⟩:=Rw h h2 h3;have ht:je L v=false:=by have h4':(!je L v)=true:=h4;simpa using h4'
  exact tw (by unfold cE;rw[aa2 e,ht];rfl) (by omega)
 ·obtain⟨e,e1,e2⟩:=Rw h h2 h3;have ht:je L v=true:=by have h4':(!je L v)=false:=h4;simpa using h4'
  rw[e1,e2]at h5
  exact tw (by
   unfold cE;rw[aa2 e,ht,aa2 rfl,aa1];intro hh;simp only[Bool.not_eq_true',Bool.and_eq_false_iff,Bool.not_eq_false',decide_eq_false_iff_not,aaW]at h5;omega) (by omega)
 ·obtain⟨e,e1,e2⟩:=Rw h h2 h3;have ht:je L v=true:=by have h4':(!je L v)=false:=h4;simpa using h4'
  rw[e1,e2]at h5
  have hE:cE L k v=0:=by
   unfold cE;rw[aa2 e,ht,aa2 rfl,aa2];simp only[Bool.not_eq_false',aaV,Bool.not_eq_true',aaW,decide_eq_false_iff_not]at h5;omega
  obtain⟨_,b2,b3,_⟩:=ei (Fe ht);rw[fG b2 b3];refine⟨hE.symm,?_⟩;unfold gA;rw[aa2 hE];exact(my b2 b3 (xW (dt hL v.oid.toNat (by omega)))).1
theorem TV (L:List Sx.Obj) (k v:Key) (hL:aq L):an Tryz.prog 167 [.lp 0 0,.key k,.key v] [.store tS eS L] (CA (.it .i64 (cE L k v)) (gA L k v)) (fun _ _=>False):=
 aY (inl:=(fun f=>f==214||f==213||f==215||f==216||f==217)) (ann:=aQ) (ae bC (ae bR (ae fY ar))) (aC dB aE) (eg iC) (Rk L k v hL) (by kernel_rfl)
theorem S9:lh Tryz.prog 167 X7:=
 od (m:=fun x=>NY.cn x 0) (fP wj (fun _=>rfl)) (fun _=>rfl) (fun _ _=>rfl) (fun x=>aY (inl:=(fun f=>f==214||f==213||f==215||f==216||f==217)) (ann:=aQ) (ae bC (ae bR (ae fY ar))) (aC dB aE) (eg iC) (Oe x.1 x.2.1) (by kernel_rfl)) (fun x=>aY (inl:=(fun f=>f==214||f==213||f==215||f==216||f==217)) (ann:=aQ) (ae bC (ae bR (ae fY ar))) (aC dB aE) (eg iC) (Mc x.1 x.2.1) (by kernel_rfl)) fun L x hL _ _=>TV L x.1 x.2.1 hL
theorem Kc (k:Key):
 abb (abb (aba (!decide (0<ak [])) (0=fN [] k/\1=aN [] k) (abb (aba (!(aU [] k&&decide (k.kind=4))) (0=fN [] k/\190=aN [] k) (abb (aba (!(decide ((abp [] k 0).kind=1)&&decide ((abp [] k 1).kind=1)&&decide (0<=(abp [] k 0).value)&&decide ((abp [] k 0).value<=(abp [] k 1).value)&&decide ((abp [] k 1).value<ak []))) (0=fN [] k/\220=aN [] k) (abb (abb (∀(r0:Loop),False))))))))):=by
 delta aba abp abb
 exact⟨rfl,rfl,fun h=>(yR (Il h) (by omega)).1,fun h=>absurd h (by decide)⟩
theorem Ku (k:Key):
 abb (abb (aba (!decide (0<ak [])) (0=fN [] k/\1=aN [] k) (abb (aba (!(aU [] k&&decide (k.kind=4))) (0=fN [] k/\190=aN [] k) (abb (aba (!(decide ((abp [] k 0).kind=1)&&decide ((abp [] k 1).kind=1)&&decide (0<=(abp [] k 0).value)&&decide ((abp [] k 0).value<=(abp [] k 1).value)&&decide ((abp [] k 1).value<ak []))) (0=fN [] k/\220=aN [] k) (abb (abb (∀(r0:Loop),False))))))))):=by
 delta aba abp abb
 exact⟨rfl,rfl,fun h=>(yR (Il h) (by omega)).1,fun h=>absurd h (by decide)⟩
theorem NJ (L:List Sx.Obj) (k:Key) (hL:aq L):
 abb (abb (aba (!decide (0<ak L)) ((0=fN L k/\1=aN L k)/\L=ib L k) (abb (aba (!(aU L k&&decide (k.kind=4))) ((0=fN L k/\190=aN L k)/\L=ib L k) (abb (aba (!(decide ((abp L k 0).kind=1)&&decide ((abp L k 1).kind=1)&&decide (0<=(abp L k 0).value)&&decide ((abp L k 0).value<=(abp L k 1).value)&&decide ((abp L k 1).value<ak L))) ((0=fN L k/\220=aN L k)/\L=ib L k) (abb (abb (∀(r0 :Loop),(∃g,sF L k g/\(abp L k 0).value=g/\L=dT L (ay L k) g k.oid/\k=k/\0=eW L (ay L k) g k.oid/\k=k/\aa L k=aa L k/\k.oid=k.oid/\(abp L k 0).value=(abp L k 0).value/\(abp L k 1).value=(abp L k 1).value/\aa L k=aa L k/\abp L k 0=abp L k 0/\abp L k 1=abp L k 1/\aa L k=aa L k/\k.oid=k.oid/\(abp L k 0).value=(abp L k 0).value/\(abp L k 1).value=(abp L k 1).value/\aa L k=aa L k/\k.oid=k.oid/\(abp L k 0).value=(abp L k 0).value/\(abp L k 1).value=(abp L k 1).value/\r0=r0)/\∀(g:Int),sF L k g->aba (decide (g<=(abp L k 1).value)) (r0=r0/\r0=r0/\aba (decide ((aL (dT L (ay L k) g k.oid) g).kind=1)||decide ((aL (dT L (ay L k) g k.oid) g).kind=2)) (abb (aba (decide ((abp L k 0).value<=g)&&decide (g<=(abp L k 1).value)&& !decide (g=k.oid)) (abb (abb (abd (eW L (ay L k) g k.oid+1)/\r0=r0/\abd (g+1)/\∃g',sF L k g'/\(aI L k+1-g').toNat<(aI L k+1- g).toNat/\g+1=g'/\cK (dT L (ay L k) g k.oid) g (Obj.mk free.kind (aL (dT L (ay L k) g k.oid) g).count free.calls free.slots free.bytes)=dT L (ay L k) g' k.oid/\k=k/\eW L (ay L k) g k.oid+1=eW L (ay L k) g' k.oid/\k=k/\aa L k=aa L k/\k.oid=k.oid/\(abp L k 0).value=(abp L k 0).value/\(abp L k 1).value=(abp L k 1).value/\aa L k=aa L k/\abp L k 0=abp L k 0/\abp L k 1=abp L k 1/\aa L k=aa L k/\k.oid=k.oid/\(abp L k 0).value=(abp L k 0).value/\(abp L k 1).value=(abp L k 1).value/\aa L k=aa L k/\k.oid=k.oid/\(abp L k 0).value=(abp L k 0).value/\(abp L k 1).value=(abp L k 1).value/\r0=r0))) (r0=r0/\abd (g+1)/\∃g',sF L k g'/\(aI L k+1-g').toNat<(aI L k+1-g).toNat/\g+1=g'/\dT L (ay L k) g k.oid=dT L (ay L k) g' k.oid/\k=k/\eW L (ay L k) g k.oid=eW L (ay L k) g' k.oid/\k=k/\aa L k=aa L k/\k.oid=k.oid/\(abp L k 0).value=(abp L k 0).value/\(abp L k 1).value=(abp L k 1).value/\aa L k=aa L k/\abp L k 0=abp L k 0/\abp L k 1=abp L k 1/\aa L k=aa L k/\k.oid=k.oid/\(abp L k 0).value=(abp L k 0).value/\(abp L k 1).value=(abp L k 1).value/\aa L k=aa L k/\k.oid=k.oid/\(abp L k 0).value=(abp L k 0).value/\(abp L k 1).value=(abp L k 1).value/\r0=r0))) (r0=r0/\abd (g+1)/\∃g',sF L k g'/\(aI L k+1-g').toNat<(aI L k+1-g).toNat/\g+1=g'/\dT L (ay L k) g k.oid=dT L (ay L k) g' k.oid/\k=k/\eW L (ay L k) g k.oid=eW L (ay L k) g' k.oid/\k=k/\aa L k=aa L k/\k.oid=k.oid/\(abp L k 0).value=(abp L k 0).value/\(abp L k 1).value=(abp L k 1).value/\aa L k=aa L k/\abp L k 0=abp L k 0/\abp L k 1=abp L k 1/\aa L k=aa L k/\k.oid=k.oid/\(abp L k 0).value=(abp L k 0).value/\(abp L k 1).value=(abp L k 1).value/\aa L k=aa L k/\k.oid=k.oid/\(abp L k 0).value=(abp L k 0).value/\(abp L k 1).value=(abp L k 1).value/\r0=r0)) ((eW L (ay L k) g k.oid=fN L k/\0=aN L k)/\dT L (ay L k) g k.oid=ib L k)))))))))):=by
 delta aba abp abd abb
 refine⟨rfl,rfl,fun h=>yR (Il h) (by omega),fun h=>⟨rfl,fun h2=>yR (bk2 h h2) (by omega),fun h2=>⟨rfl,fun h3=>yR (Zv h h2 h3) (by omega),fun h3=>⟨rfl,rfl,fun r0=>?_⟩⟩⟩⟩
 obtain⟨e,e1,e2⟩:=Rw h h2 h3;obtain⟨_,a0,a1,a2,_⟩:=mP e;rw[e1,e2];have hlen:=gY hL;have hin:∀g:Int,ay L k<=g->g<=aI L k->aF IntKind.i64 (g+1):=fun g h1 h2=>by simp only[aF,cc];omega
 have hnn:∀g:Int,aF IntKind.i64 (eW L (ay L k) g k.oid+1):=fun g=>by
  have:=um (L:=L) (f:=ay L k) (g:=g) (oid:=k.oid);have:=QN (L:=L) (f:=ay L k) (g:=g) (oid:=k.oid);simp only[aF,cc];omega
 refine⟨⟨ay L k,⟨by omega,by omega⟩,rfl,Px,rfl,u7.symm,(by(repeat' apply And.intro)<;>rfl)⟩,fun g hg=>⟨fun hgl=>?_,fun hgl=>?_⟩⟩
 ·obtain⟨g0,g1⟩:=hg;have hgl:=aaZ hgl;have hgz:(dT L (ay L k) g k.oid).length=L.length:=Dw;have hgt:aL (dT L (ay L k) g k.oid) g=aj L g.toNat free:=by rw[fG (by omega) (by omega),Pn (by omega)]
  rw[hgt];refine⟨rfl,rfl,fun hk=>⟨rfl,fun hb=>?_,fun hb=>?_⟩,fun hk=>?_⟩
  ·have hne:¬g=k.oid:=by
    simp only[aaV,Bool.not_eq_true',decide_eq_false_iff_not]at hb;exact hb.2
   have hh:j5 L g k.oid=true:=by unfold j5 mY;rw[hk];simp[hne]
   have hs:=zS (L:=L) (f:=ay L k) (oid:=k.oid) (by omega:0<=g) (by omega) g0 hh
   have hs2:=Dv (L:=L) (f:=ay L k) (oid:=k.oid) (by omega:0<=g) (by omega) g0 hh
   have hp:=(my (L:=dT L (ay L k) g k.oid) (i:=g) (by omega) (by omega) (hgz▸xW (dt hL g.toNat (by omega)))).1
   exact⟨rfl,rfl,hnn g,rfl,hin g g0 hgl,g+1,⟨by omega,by omega⟩,by omega,rfl,hp.trans hs2,rfl,hs.symm,(by(repeat' apply And.intro)<;>rfl)⟩
  ·have hh:j5 L g k.oid=false:=by
    have e3:decide (ay L k<=g)=true:=by simp;omega
    have e4:decide (g<=aI L k)=true:=by simp;omega
    rw[e3,e4]at hb;unfold j5;rw[Bool.and_eq_false_iff];right
    simpa using hb
   have hs:=uL (L:=L) (f:=ay L k) (oid:=k.oid) (by omega:0<=g) g0 hh
   have hs2:=zX (L:=L) (f:=ay L k) (oid:=k.oid) (by omega:0<=g) g0 hh
   exact⟨rfl,hin g g0 hgl,g+1,⟨by omega,by omega⟩,by omega,rfl,hs2.symm,rfl,hs.symm,(by(repeat' apply And.intro)<;>rfl)⟩
  ·have hh:j5 L g k.oid=false:=by unfold j5 mY;rw[hk];rfl
   have hs:=uL (L:=L) (f:=ay L k) (oid:=k.oid) (by omega:0<=g) g0 hh
   have hs2:=zX (L:=L) (f:=ay L k) (oid:=k.oid) (by omega:0<=g) g0 hh
   exact⟨rfl,hin g g0 hgl,g+1,⟨by omega,by omega⟩,by omega,rfl,hs2.symm,rfl,hs.symm,(by(repeat' apply And.intro)<;>rfl)⟩
 ·obtain⟨g0,g1⟩:=hg;have hgl:=aaY hgl;have:g=aI L k+1:=by omega
  subst this;exact⟨⟨by unfold fN;rw[aa2 e],e.symm⟩,by unfold ib;rw[aa2 e]⟩
theorem K7 (L:List Sx.Obj) (k:Key) (hL:aq L):an Tryz.prog 225 [.lp 0 0,.key k] [.store tS eS L] (CA (.tp [.it .i64 (fN L k),.it .i64 (aN L k)]) (ib L k)) (fun _ _=>False):=
 aY (inl:=(fun f=>f==214||f==213||f==216||f==217||f==219||f==1000000+232)) (ann:=(iJ [(5000+232,1,lpT [0,1] (fun(g:Int)=> [(3,.it .i64 g)]) (fun g=> [(0,.store tS eS (dT L (ay L k) g k.oid)),(2,.blk 3 (.it .i64 (eW L (ay L k) g k.oid)))]) (sF L k) (fun g=>qf (tA (yG (aI L k) 1) g)))])) (ae bC (ae bR (ae fY ar))) (aC dB aE) (eg iC) (NJ L k hL) (by kernel_rfl)
theorem KT:lh Tryz.prog 225 RO:=
 od (m:=fun x=>kB.cn x 0) (fP D1 (fun _=>rfl)) (fun _=>rfl) (fun _ _=>rfl) (fun x=>aY (inl:=(fun f=>f==214||f==213||f==216||f==217||f==219||f==1000000+232)) (ann:=aQ) (ae bC (ae bR (ae fY ar))) (aC dB aE) (eg iC) (Kc x.1) (by kernel_rfl)) (fun x=>aY (inl:=(fun f=>f==214||f==213||f==216||f==217||f==219||f==1000000+232)) (ann:=aQ) (ae bC (ae bR (ae fY ar))) (aC dB aE) (eg iC) (Ku x.1) (by kernel_rfl)) fun L x hL _ _=>K7 L x.1 hL
theorem JB (k:Key) (kind:Int):
 abb (abb (aba (!decide (0<ak [])) (void=dh [] k kind/\1=cA [] k kind) (abb (aba (!(aU [] k&&decide (k.kind=4))) (void=dh [] k kind/\190=cA [] k kind) (abb (aba (!(decide ((abp [] k 0).kind=1)&&decide ((abp [] k 1).kind=1)&&decide (0<=(abp [] k 0).value)&&decide ((abp [] k 0).value<=(abp [] k 1).value)&&decide ((abp [] k 1).value<ak []))) (void=dh [] k kind/\220=cA [] k kind) (abb (aba (!(decide (kind=1)||decide (kind=2))) (void=dh [] k kind/\2=cA [] k kind) (abb (abb (abb (∀(r0:Loop),False)))))))))))):=by
 delta aba abp abb
 exact⟨rfl,rfl,fun h=>(wh (rX (Il h) (by omega)) (by omega)).1,fun h=>absurd h (by decide)⟩
theorem JR (k:Key) (kind:Int):
 abb (abb (aba (!decide (0<ak [])) (void=dh [] k kind/\1=cA [] k kind) (abb (aba (!(aU [] k&&decide (k.kind=4))) (void=dh [] k kind/\190=cA [] k kind) (abb (aba (!(decide ((abp [] k 0).kind=1)&&decide ((abp [] k 1).kind=1)&&decide (0<=(abp [] k 0).value)&&decide ((abp [] k 0).value<=(abp [] k 1).value)&&decide ((abp [] k 1).value<ak []))) (void=dh [] k kind/\220=cA [] k kind) (abb (aba (!(decide (kind=1)||decide (kind=2))) (void=dh [] k kind/\2=cA [] k kind) (abb (abb (abb (∀(r0:Loop),False)))))))))))):=by
 delta aba abp abb
 exact⟨rfl,rfl,fun h=>(wh (rX (Il h) (by omega)) (by omega)).1,fun h=>absurd h (by decide)⟩
theorem OG (L:List Sx.Obj) (k:Key) (kind:Int) (hL:aq L):
 abb (abb (aba (!decide (0<ak L)) ((void=dh L k kind/\1=cA L k kind)/\L=fx L k kind) (abb (aba (!(aU L k&&decide (k.kind=4))) ((void=dh L k kind/\190=cA L k kind)/\L=fx L k kind) (abb (aba (!(decide ((abp L k 0).kind=1)&&decide ((abp L k 1).kind=1)&&decide (0<=(abp L k 0).value)&&decide ((abp L k 0).value<=(abp L k 1).value)&&decide ((abp L k 1).value<ak L))) ((void=dh L k kind/\220=cA L k kind)/\L=fx L k kind) (abb (aba (!(decide (kind=1)||decide (kind=2))) ((void=dh L k kind/\2=cA L k kind)/\L=fx L k kind) (abb (abb (abb (∀(r0:Loop),(∃g,jE L k g/\(abp L k 0).value=g/\L=bN L (ay L k) g/\k=k/\void=void/\k=k/\aa L k=aa L k/\k.oid=k.oid/\(abp L k 0).value=(abp L k 0).value/\(abp L k 1).value=(abp L k 1).value/\aa L k=aa L k/\abp L k 0=abp L k 0/\abp L k 1=abp L k 1/\aa L k=aa L k/\k.oid=k.oid/\(abp L k 0).value=(abp L k 0).value/\(abp L k 1).value=(abp L k 1).value/\aa L k=aa L k/\k.oid=k.oid/\(abp L k 0).value=(abp L k 0).value/\(abp L k 1).value=(abp L k 1).value/\kind=kind/\void=void/\false=false/\aa L k=aa L k/\k.oid=k.oid/\(abp L k 0).value=(abp L k 0).value/\(abp L k 1).value=(abp L k 1).value/\r0=r0)/\∀(g:Int),jE L k g->aba (decide (g<=(abp L k 1).value)) (r0=r0/\r0=r0/\aba (!decide ((aL (bN L (ay L k) g) g).kind=0)) (r0=r0/\abd (g+1)/\∃g',jE L k g'/\(aI L k+1-g').toNat<(aI L k+1-g).toNat/\g+1=g'/\bN L (ay L k) g=bN L (ay L k) g'/\k=k/\void=void/\k=k/\aa L k=aa L k/\k.oid=k.oid/\(abp L k 0).value=(abp L k 0).value/\(abp L k 1).value=(abp L k 1).value/\aa L k=aa L k/\abp L k 0=abp L k 0/\abp L k 1=abp L k 1/\aa L k=aa L k/\k.oid=k.oid/\(abp L k 0).value=(abp L k 0).value/\(abp L k 1).value=(abp L k 1).value/\aa L k=aa L k/\k.oid=k.oid/\(abp L k 0).value=(abp L k 0).value/\(abp L k 1).value=(abp L k 1).value/\kind=kind/\void=void/\false=false/\aa L k=aa L k/\k.oid=k.oid/\(abp L k 0).value=(abp L k 0).value/\(abp L k 1).value=(abp L k 1).value/\r0=r0) (aba (decide ((aL (bN L (ay L k) g) g).count=4294967295)) (abb (r0=r0/\abd (g+1)/\∃g',jE L k g'/\(aI L k+1-g').toNat<(aI L k+1-g).toNat/\g+1=g'/\cK (bN L (ay L k) g) g (Obj.mk 3 (aL (bN L (ay L k) g) g).count free.calls free.slots free.bytes)=bN L (ay L k) g'/\k=k/\void=void/\k=k/\aa L k=aa L k/\k.oid=k.oid/\(abp L k 0).value=(abp L k 0).value/\(abp L k 1).value=(abp L k 1).value/\aa L k=aa L k/\abp L k 0=abp L k 0/\abp L k 1=abp L k 1/\aa L k=aa L k/\k.oid=k.oid/\(abp L k 0).value=(abp L k 0).value/\(abp L k 1).value=(abp L k 1).value/\aa L k=aa L k/\k.oid=k.oid/\(abp L k 0).value=(abp L k 0).value/\(abp L k 1).value=(abp L k 1).value/\kind=kind/\void=void/\false=false/\aa L k=aa L k/\k.oid=k.oid/\(abp L k 0).value=(abp L k 0).value/\(abp L k 1).value=(abp L k 1).value/\r0=r0)) (abd ((aL (bN L (ay L k) g) g).count+1)/\abb (abd ((aL (bN L (ay L k) g) g).count+1)/\r0=r0/\abb ((dq kind g ((aL (bN L (ay L k) g) g).count+1)=dh L k kind/\0=cA L k kind)/\cK (bN L (ay L k) g) g (Obj.mk kind ((aL (bN L (ay L k) g) g).count+1) free.calls free.slots free.bytes)=fx L k kind))))) (abb ((void=dh L k kind/\221=cA L k kind)/\bN L (ay L k) g=fx L k kind)))))))))))))):=by
 delta aba abp abd abb
 refine⟨rfl,rfl,fun h=>wh (rX (Il h) (by omega)) (by omega),fun h=>⟨rfl,fun h2=>wh (rX (bk2 h h2) (by omega)) (by omega),fun h2=>⟨rfl,fun h3=>wh (rX (Zv h h2 h3) (by omega)) (by omega),fun h3=>⟨rfl,fun h4=>wh (MD (Rw h h2 h3).1 h4) (by omega),fun h4=>⟨rfl,rfl,rfl,fun r0=>?_⟩⟩⟩⟩⟩
 obtain⟨e,e1,e2⟩:=Rw h h2 h3;obtain⟨_,a0,a1,a2,_⟩:=mP e;rw[e1,e2]
 have hk:kind=1\/kind=2:=by
  simp only[Bool.not_eq_false',Bool.or_eq_true,aaW]at h4;exact h4
 have hlen:=gY hL;have hin:∀g:Int,ay L k<=g->g<=aI L k->aF IntKind.i64 (g+1):=fun g h1 h2=>by simp only[aF,cc];omega
 have hcnt:∀j:Nat,j<L.length->0<=(aj L j free).count/\(aj L j free).count<=4294967295:=fun j hj=>⟨(kf (dt hL j hj)).1,(kf (dt hL j hj)).2.1⟩
 have hci:∀j:Nat,j<L.length->aF IntKind.i64 ((aj L j free).count+1):=fun j hj=>by have:=hcnt j hj;simp only[aF,cc];omega
 refine⟨⟨ay L k,⟨by omega,by omega,uj⟩,rfl,Ei,(by(repeat' apply And.intro)<;>rfl)⟩,fun g hg=>⟨fun hgl=>?_,fun hgl=>?_⟩⟩
 ·obtain⟨g0,g1,g2⟩:=hg;have hgl:=aaZ hgl;have hgn:g.toNat<L.length:=by omega
  have hgz:(bN L (ay L k) g).length=L.length:=kR;have hgt:aL (bN L (ay L k) g) g=aj L g.toNat free:=by rw[fG (by omega) (by omega),DD (by omega)]
  rw[hgt];refine⟨rfl,rfl,fun hk0=>?_,fun hk0=>⟨fun hc=>?_,fun hc=>?_⟩⟩
  ·obtain⟨f1,f2⟩:=yy (o:=aj L g.toNat free) (by simpa using hk0)
   exact⟨rfl,hin g g0 hgl,g+1,⟨by omega,by omega,jP g2 f2⟩,by omega,rfl,(zM (by omega) f1).symm,(by(repeat' apply And.intro)<;>rfl)⟩
  ·obtain⟨f1,f2⟩:=CD (o:=aj L g.toNat free) (by simpa using hk0) (by have:=aaZ hc;omega)
   have hp:=(my (L:=bN L (ay L k) g) (i:=g) (by omega) (by omega) (hgz▸Cy (dt hL g.toNat hgn))).1
   exact⟨rfl,rfl,hin g g0 hgl,g+1,⟨by omega,by omega,jP g2 f2⟩,by omega,rfl,hp.trans (yi (by omega) (by omega) g0 f1),(by(repeat' apply And.intro)<;>rfl)⟩
  ·have hc:=aaY hc;have:=hcnt _ hgn;obtain⟨f1,f2⟩:=Cg (o:=aj L g.toNat free) (by simpa using hk0) (by omega)
   obtain⟨m1,m2,m3⟩:=yD kind a0 g0 hgl (by omega) g2 f2
   obtain⟨n1,n2,n3,n4⟩:=HK (kind:=kind) e hk (by rw[m1];omega)
   have hp:=(my (L:=bN L (ay L k) g) (i:=g) (by omega) (by omega) (hgz▸CE (dt hL g.toNat hgn) f2 hk)).1
   refine⟨hci _ hgn,rfl,hci _ hgn,rfl,rfl,⟨?_,n3⟩,hp.trans (m3.symm.trans n4)⟩;have hK:dh L k kind=dq kind (br L (ay L k) (aI L k)) ((aj L (br L (ay L k) (aI L k)).toNat free).count+1):=by unfold dh;rw[aa2 n3.symm]
   rw[hK,m1]
 ·obtain⟨g0,g1,g2⟩:=hg;have hgl:=aaY hgl;have:g=aI L k+1:=by omega
  subst this;obtain⟨m1,m2,m3⟩:=Du kind g2;obtain⟨n1,n2,n3,n4⟩:=zo (kind:=kind) e hk m1;exact⟨rfl,⟨n2,n3⟩,m2.symm.trans n4⟩
theorem Nh (L:List Sx.Obj) (k:Key) (kind:Int) (hL:aq L):an Tryz.prog 211 [.lp 0 0,.key k,.it .i64 kind] [.store tS eS L] (CA (.tp [.key (dh L k kind),.it .i64 (cA L k kind)]) (fx L k kind)) (fun _ _=>False):=
 aY (inl:=(fun f=>f==214||f==213||f==218||f==219||f==1000000+232)) (ann:=(iJ [(3000+232,1,lpR [0,1] (fun g=> [(3,.it .i64 g)]) 0 (fun g=> .store tS eS (bN L (ay L k) g)) (jE L k) (yG (aI L k) 1))])) (ae bC (ae bR (ae fY (ae sW ar)))) (aC dB aE) (eg iC) (OG L k kind hL) (by kernel_rfl)
theorem FH:lh Tryz.prog 211 Ub:=
 od (m:=fun x=>TW.cn x 0) (fP CC (fun _=>rfl)) (fun _=>rfl) (fun _ _=>rfl) (fun x=>aY (inl:=(fun f=>f==214||f==213||f==218||f==219||f==1000000+232)) (ann:=aQ) (ae bC (ae bR (ae fY (ae sW ar)))) (aC dB aE) (eg iC) (JB x.1 x.2.1) (by kernel_rfl)) (fun x=>aY (inl:=(fun f=>f==214||f==213||f==218||f==219||f==1000000+232)) (ann:=aQ) (ae bC (ae bR (ae fY (ae sW ar)))) (aC dB aE) (eg iC) (JR x.1 x.2.1) (by kernel_rfl)) fun L x hL _ _=>Nh L x.1 x.2.1 hL
theorem VE {P:Program} {f:Nat} {g g':Ct} (h:cz P f g) (ha:∀res nid args q x new,g' res nid args=some (q,x,new)->∃x0,g res nid args=some (q,x0,new)/\(∀J,den J x=den J x0)/\∀K,ok K x0->ok K x):cz P f g':=by
 intro J fps res K w0 F0 w nid args q x new hH hargs hg hq hfr;obtain⟨x0,h1,h2,h3⟩:=ha res nid args q x new hg;obtain⟨c1,c2⟩:=h J fps res K w0 F0 w nid args q x0 new hH hargs h1 hq hfr;refine⟨c1.mono fun e w' ⟨v,he,hv⟩=>⟨v,he,?_⟩,c2⟩
 obtain⟨ρ',hgr,hv,hx⟩:=hv;exact⟨ρ',hgr,by rw[h2];exact hv,h3 _ hx⟩
theorem u4:cz Tryz.prog 42 HR:=by
 refine VE qw fun res nid args q x new h=>?_
 unfold HR at h;split at h
 ·rename_i a;split at h
  ·rename_i o L hr;split at h
   ·simp only[aaT,aaU]at h;obtain⟨rfl,rfl,rfl⟩:=h
    have hL:L= []:=by
     rcases uM hr with⟨_,rfl,_⟩|⟨k,h,_⟩
     ·rfl
     ·simp at h
    subst hL;exact⟨.bo (bu []),by unfold Gd XK;simp only[hr],fun J=>by simp[den,sq],fun _ _=>trivial⟩
   ·simp only[aaT,aaU]at h;obtain⟨rfl,rfl,rfl⟩:=h;exact⟨.bo (bu L),by unfold Gd XK;simp only[hr],fun J=>rfl,fun _ h=>h⟩
  ·simp at h
 ·simp at h
theorem Qu:
 Value.pointer none=Value.pointer none:=by
 rfl
theorem PY:an Tryz.prog 33 [ke] [] (oW ke) (fun _ _=>False):=bc (inl:=bx) (ann:=aQ) (ae u4 ar) Qu (by kernel_rfl)
theorem P4 (L:List Sx.Obj) (hL:L.length<=1000):
 aba (bu L) (bu L=true) ((∃g,qv L g/\Value.pointer none=Value.pointer none/\bQ (ai L)=bQ (ai L)/\0=g/\L=L/\[]=mw L g)/\∀(g:Int),qv L g->aba (decide (g<bQ (ai L))) ((0<=g/\g< ↑(ai L))/\g.toNat<ai L/\g.toNat<ai L/\s5 (ai (mw L g)) 8/\aF IntKind.i64 (g+1)/\∃g',qv L g'/\(bQ (ai L)-g').toNat<(bQ (ai L)-g).toNat/\Value.pointer none=Value.pointer none/\bQ (ai L)=bQ (ai L)/\g+1=g'/\L=L/\jm (mw L g) (aj L g.toNat free)=mw L g') (bu L=false/\mw L g=L)):=by
 delta aba
 refine⟨fun h=>h,fun h=>⟨⟨0,⟨by omega,by omega⟩,rfl,rfl,rfl,rfl,rfl⟩,fun g hg=>⟨fun hlt=>?_,fun hge=>?_⟩⟩⟩
 ·obtain⟨g0,g1⟩:=hg;have hlt:g<bQ (ai L):=aaZ hlt;have hn:=kD L;have hle:=rj L;rw[hn]at hlt⊢;have ht:=M7 (L:=L) (g:=g);exact⟨⟨g0,by omega⟩,by omega,by omega,H8 (by omega),by simp only[aF,cc];omega,g+1,⟨by omega,by omega⟩,by omega,rfl,rfl,rfl,rfl,Mz g0 hlt⟩
 ·obtain⟨g0,g1⟩:=hg;have hge:¬g<bQ (ai L):=aaY hge;rw[kD]at hge;exact⟨h,Ls (by omega)⟩
theorem Mq {L:List Sx.Obj} (hb:bu L=true) {v:V} {r:List aK} (h:ER L v r):ya ke v []:=by
 unfold ER at h;split at h
 ·split at h
  ·exact fun J K=>tU.refl _ _ _
  ·exact h.elim
 ·split at h
  ·split at h
   ·rw[hb]at h;simp at h
   ·exact h.elim
  ·exact h.elim
 ·exact h.elim
theorem Jk {L:List Sx.Obj} (hb:bu L=false) {v:V} {r:List aK} (h:ER L v r):∃j r',1<=j/\(r'=r\/uI r j=some r')/\az r' j= .store tS eS L/\∀(κ:Nat->Option Nat) (i:Nat),κ j=some i->lu κ v (.lp i 0):=by
 unfold ER at h;split at h
 ·split at h
  ·rw[hb]at h;simp at h
  ·exact h.elim
 ·split at h
  ·rename_i j off _ t e M hst;split at h
   ·rename_i hc;simp only[aaV,aaX,Nat.ble_eq]at hc;obtain⟨⟨⟨rfl,rfl⟩,rfl⟩,hj⟩:=hc;obtain⟨_,rfl⟩:=h;have ht:∀(κ:Nat->Option Nat) (i:Nat),κ j=some i->lu κ (.lp j 0) (.lp i 0):=fun κ i hi ρ2 ρ3 N N' hv hN hk=>⟨by simp only[den,(hv j i hi).1],hN j i hi hk⟩
    rcases FI hst with h1|⟨r',h1,h2⟩
    ·exact⟨j,r,hj,.inl rfl,h1,ht⟩
    ·exact⟨j,r',hj,.inr h1,h2,ht⟩
   ·exact h.elim
  ·exact h.elim
 ·exact h.elim
theorem UF {L M:List Sx.Obj} (hb:j7 L M=true) {v:V} {r:List aK} (h:MN L M v r):ya YB v []:=by
 unfold MN at h;split at h
 ·split at h
  ·exact fun J K=>tU.refl _ _ _
  ·exact h.elim
 ·split at h
  ·split at h
   ·split at h
    ·split at h
     ·split at h
      ·rw[hb]at h;simp at h
      ·exact h.elim
     ·exact h.elim
    ·exact h.elim
   ·exact h.elim
  ·exact h.elim
 ·exact h.elim
theorem Ng {L M:List Sx.Obj} (hb:j7 L M=false) {v:V} {r:List aK} (h:MN L M v r):∃j,2<=j/\az r j= .arr (some tI) 1 (.it .i64 (dQ L M))/\∀(κ:Nat->Option Nat) (i:Nat),κ j=some i->lu κ v (.sa i):=by
 unfold MN at h;split at h
 ·split at h
  ·rw[hb]at h;simp at h
  ·exact h.elim
 ·split at h
  ·rename_i hj;split at h
   ·split at h
    ·split at h
     ·split at h
      ·rename_i hc;simp only[aaV,aaX,Nat.ble_eq]at hc;obtain⟨⟨rfl,rfl⟩,hj2⟩:=hc;obtain⟨_,rfl⟩:=h;exact⟨_,hj2,hj,fun κ i hi ρ2 ρ3 N N' hv hN hk=>⟨by simp only[den,(hv _ i hi).2.1,(hv _ i hi).2.2.2.1,(hv _ i hi).2.2.2.2.1],hN _ i hi hk⟩⟩
      ·exact h.elim
     ·exact h.elim
    ·exact h.elim
   ·exact h.elim
  ·exact h.elim
 ·exact h.elim
theorem Fz (L:List Sx.Obj) (hL:L.length<=1000):an Tryz.prog 33 [.lp 0 0] [.ro (.blk tS (.ag [.sa 1])),.ro (.obs eS 2 L),.gen 1] (ER L) (fun _ _=>False):=bc (inl:=bx) (ann:=(iJ [(33,5,lpB [0,2,3,14,15] (fun g=> [(16,.it .i64 g)]) 3 tS eS (mw L) (qv L) (bQ (ai L)))])) (ae u4 ar) (P4 L hL) (by kernel_rfl)
theorem xY:lh Tryz.prog 33 N1:=by
 intro args res K KP h;unfold N1 at h;split at h
 ·split at h
  ·split at h
   ·exact an.pure rfl rfl (PY.mono (fun _ _ h=>dK h) fun _ _ h=>h) h
   ·exact h.elim
  ·rename_i k off;split at h
   ·rename_i hoff;have hoff:=aaX.1 hoff;subst hoff;split at h
    ·rename_i t e L hr;split at h
     ·rename_i hc;simp only[aaV,aaX]at hc;obtain⟨rfl,rfl⟩:=hc;obtain⟨hL,h1,h2⟩:=h;have hk:=eU hr (by simp)
      have hlt:=aO hk;have hres:fD (lS 0 (dV [(k,false)])) res [(k,false)]= [.ro (.store tS eS L)]:=by simp[fD,hr,gL]
      cases hb:bu L with
      |true=>
       refine an.XQ (pl:= [(k,false)]) (x:=ke) (args0:= [.lp 0 0]) (by simp[fm,cQ.2 hk]) (by simpa[ju,dV,pF]using hlt) (by simp) (by simp[eX,ga,lS,idxOf,dV]) rfl ?_ (h1 hb)
       rw[hres];exact(an.fE (k:=0) rfl (Fz L hL)).mono (fun v r hv=>Mq hb hv) fun _ _ h=>h
      |false=>
       refine an.Zr (pl:= [(k,false)]) (new:= .store tS eS L) (F:=fun j=> .lp j 0) (args0:= [.lp 0 0]) (by simp[fm,cQ.2 hk]) (by simpa[ju,dV,pF]using hlt) (by simp) (by simp[eX,ga,lS,idxOf,dV]) rfl (by simp) (fun κ=>rfl) ?_ (h2 hb)
       rw[hres];refine an.fE (k:=0) rfl (an.shut (Fz L hL) fun v r hv=>?_)
       obtain⟨j,r',hj,h1,h2,h3⟩:=Jk hb hv;rcases h1 with rfl|h1
       ·exact .inl ⟨j,hj,h2,h3⟩
       ·exact .inr ⟨j,r',h1,j,hj,h2,h3⟩
     ·exact h.elim
    ·exact h.elim
   ·exact h.elim
  ·exact h.elim
 ·exact h.elim
theorem RZ (L:List Sx.Obj):
 Value.slice none 0 0=Value.slice none 0 0:=by
 rfl
theorem T0 (L:List Sx.Obj):an Tryz.prog 43 [ke,.lp 0 0] [.ro (.store tS eS L)] (oW YB) (fun _ _=>False):=bc (inl:=bx) (ann:=aQ) (ae u4 ar) (RZ L) (by kernel_rfl)
theorem Uo (L M:List Sx.Obj) (hL:L.length<=1000):
 aba (bu L||bu M|| !decide (bQ (ai L)=bQ (ai M))) (j7 L M=true) (true=true/\true=true/\∀(r0:Loop),(∃g,qv L g/\bQ (ai L)=bQ (ai L)/\0=g/\L=L/\M=M/\r0=r0/\[]=iY L M g)/\∀(g:Int),qv L g->aba (decide (g<bQ (ai L))) ((0<=g/\g< ↑(ai L))/\g.toNat<ai L/\g.toNat<ai L/\(0<=g/\g< ↑(ai M))/\g.toNat<ai M/\g.toNat<ai M/\aba (!CW (aj L g.toNat free) (aj M g.toNat free)) (r0=r0/\r0=r0/\s5 (ai (iY L M g)) 8/\r0=r0/\abd (g+1)/\∃g',qv L g'/\(bQ (ai L)-g').toNat<(bQ (ai L)-g).toNat/\bQ (ai L)=bQ (ai L)/\g+1=g'/\L=L/\M=M/\r0=r0/\jm (iY L M g) g=iY L M g') (abd (g+1)/\∃g',qv L g'/\(bQ (ai L)-g').toNat<(bQ (ai L)-g).toNat/\bQ (ai L)=bQ (ai L)/\g+1=g'/\L=L/\M=M/\r0=r0/\iY L M g=iY L M g')) (j7 L M=false/\iY L M g=dQ L M)):=by
 delta aba abd
 refine⟨fun h=>h,fun h=>⟨rfl,rfl,fun r0=>?_⟩⟩
 have hlm:L.length=M.length:=by
  have h2:((bu L||bu M)|| !decide (bQ (ai L)=bQ (ai M)))=false:=h
  rw[Bool.or_eq_false_iff]at h2;have h3:=h2.2;rw[kD,kD]at h3;have h4:(L.length:Int)=(M.length:Int):=by simpa using h3
  omega
 have hn:=kD L;have hle:=rj L;have hle2:=rj M;refine⟨⟨0,⟨by omega,by omega⟩,rfl,rfl,rfl,rfl,rfl,rfl⟩,fun g hg=>⟨fun hlt=>?_,fun hge=>?_⟩⟩
 obtain⟨g0,g1⟩:=hg;have hlt:g<bQ (ai L):=aaZ hlt;rw[hn]at hlt⊢;have ht:=OZ (L:=L) (M:=M) (g:=g);have hr:aF IntKind.i64 (g+1):=by simp only[aF,cc];omega
 exact⟨⟨g0,by omega⟩,by omega,by omega,⟨g0,by omega⟩,by omega,by omega,fun h=>⟨rfl,rfl,H8 (by omega),rfl,hr,g+1,⟨by omega,by omega⟩,by omega,rfl,rfl,rfl,rfl,rfl,Mg g0 h⟩,fun h=>⟨hr,g+1,⟨by omega,by omega⟩,by omega,rfl,rfl,rfl,rfl,rfl,UT g0 h⟩⟩
 obtain⟨g0,g1⟩:=hg;have hge:¬g<bQ (ai L):=aaY hge;rw[hn]at hge;exact⟨h,by unfold dQ;rw[show g=(ai L:Int) by omega]⟩
theorem H2 (L M:List Sx.Obj) (hL:L.length<=1000):an Tryz.prog 43 [.lp 0 0,.lp 1 0] [.ro (.blk tS (.ag [.sa 2])),.ro (.blk tS (.ag [.sa 4])),.ro (.obs eS 3 L),.gen 2,.ro (.obs eS 5 M),.gen 4] (MN L M) (fun _ _=>False):=bc (inl:=(fun f=>f==43||f==66)) (ann:=(iJ [(6000+103,1,lpV [0,1,2,6] (fun g=> [(7,.it .i64 g)]) 6 103 tI 1 (fun g=> .it .i64 (iY L M g)) (qv L) (bQ (ai L)))])) (ae u4 ar) (Uo L M hL) (by kernel_rfl)
theorem G1:lh Tryz.prog 43 U9:=by
 intro args res K KP h;unfold U9 at h;split at h
 ·rename_i a b;split at h
  ·rename_i j off;split at h
   ·rename_i hoff;have hoff:=aaX.1 hoff;subst hoff;split at h
    ·rename_i t e M hr;split at h
     ·rename_i hc;simp only[aaV,aaX]at hc;obtain⟨rfl,rfl⟩:=hc;have hj:=eU hr (by simp)
      have hjl:=aO hj;split at h
      ·split at h
       ·have hres:fD (lS 0 (dV [(j,false)])) res [(j,false)]= [.ro (.store tS eS M)]:=by simp[fD,hr,gL]
        refine an.XQ (pl:= [(j,false)]) (x:=YB) (args0:= [ke,.lp 0 0]) (by simp[fm,cQ.2 hj]) (by simpa[ju,dV,pF]using hjl) (by simp) (by simp[eX,ga,lS,idxOf,dV,ke]) rfl ?_ h
        rw[hres];exact(T0 M).mono (fun _ _ h=>dK h) fun _ _ h=>h
       ·exact h.elim
      ·rename_i k off';split at h
       ·rename_i hoff;simp only[aaV,aaX,Bool.not_eq_true',beq_eq_false_iff_ne]at hoff;obtain⟨rfl,hkj⟩:=hoff;split at h
        ·rename_i t' e' L hrk;split at h
         ·rename_i hc;simp only[aaV,aaX]at hc;obtain⟨rfl,rfl⟩:=hc;obtain⟨hL,h1,h2⟩:=h;have hk:=eU hrk (by simp)
          have hkl:=aO hk;have hres:fD (lS 0 (dV [(k,false),(j,false)])) res [(k,false),(j,false)]= [.ro (.store tS eS L),.ro (.store tS eS M)]:=by simp[fD,hr,hrk,gL]
          have hargs:eX (lS 0 (dV [(k,false),(j,false)])) [.lp k 0,.lp j 0]=some [.lp 0 0,.lp 1 0]:=by
           simp[eX,ga,lS,idxOf,dV,hkj]
          have hka:fm res [(k,false),(j,false)]=true:=by simp[fm,cQ.2 hk,cQ.2 hj]
          have hoe:ju 0 res.length (dV [(k,false),(j,false)])=true:=by simpa[ju,dV,pF]using⟨⟨hkl,Ne.symm hkj⟩,hjl⟩
          cases hb:j7 L M with
          |true=>
           refine an.XQ (x:=YB) hka hoe (by simp) hargs rfl ?_ (h1 hb)
           rw[hres];exact(an.fE (k:=0) rfl (an.fE (k:=1) rfl (H2 L M hL))).mono (fun v r hv=>UF hb hv) fun _ _ h=>h
          |false=>
           refine an.Zr (new:= .arr (some tI) 1 (.it .i64 (dQ L M))) (F:=fun j=> .sa j) hka hoe (by simp) hargs rfl (by simp) (fun κ=>rfl) ?_ (h2 hb)
           rw[hres];exact(an.fE (k:=0) rfl (an.fE (k:=1) rfl (H2 L M hL))).mono (fun v r hv=>Ng hb hv) fun _ _ h=>h
         ·exact h.elim
        ·exact h.elim
       ·exact h.elim
      ·exact h.elim
     ·exact h.elim
    ·exact h.elim
   ·exact h.elim
  ·exact h.elim
 ·exact h.elim
abbrev abq(k:Key):=!(decide ((abp [] k 0).kind=1)&&decide ((abp [] k 1).kind=1)&&decide (0<=(abp [] k 0).value)&&decide ((abp [] k 0).value<=(abp [] k 1).value)&&decide ((abp [] k 1).value<ak []))
theorem Gx (k:Key) (n:Int):
 abb (abb (aba (!decide (0<ak [])) (void=ck [] k n/\1=b8 [] k n) (abb (aba (!(aU [] k&&decide (k.kind=4))) (void=ck [] k n/\190=b8 [] k n) (abb (aba (abq k) (void=ck [] k n/\220=b8 [] k n) ((decide (1<=n)=true->aF IntKind.i64 ((abp [] k 1).value-(abp [] k 0).value))/\abb (aba (!(decide (1<=n)&&decide (n<=(abp [] k 1).value-(abp [] k 0).value))) (void=ck [] k n/\4=b8 [] k n) (abb (abb (abb (aba (!decide (0<ak [])) (void=ck [] k n/\1=b8 [] k n) (abb (aba (!(aU [] k&&decide (k.kind=4))) (void=ck [] k n/\190=b8 [] k n) (abb (aba (abq k) (void=ck [] k n/\220=b8 [] k n) (abb (abb (abb (∀(r0:Loop),False)))))))))))))))))))):=by
 delta aba abp abq abb
 exact⟨rfl,rfl,fun h=>(p7 (vo (Il h) (by omega)) (by omega)).1,fun h=>absurd h (by decide)⟩
theorem Gm (k:Key) (n:Int):
 abb (abb (aba (!decide (0<ak [])) (void=ck [] k n/\1=b8 [] k n) (abb (aba (!(aU [] k&&decide (k.kind=4))) (void=ck [] k n/\190=b8 [] k n) (abb (aba (!(decide ((abp [] k 0).kind=1)&&decide ((abp [] k 1).kind=1)&&decide (0<=(abp [] k 0).value)&&decide ((abp [] k 0).value<=(abp [] k 1).value)&&decide ((abp [] k 1).value<ak []))) (void=ck [] k n/\220=b8 [] k n) ((decide (1<=n)=true->aF IntKind.i64 ((abp [] k 1).value-(abp [] k 0).value))/\abb (aba (!(decide (1<=n)&&decide (n<=(abp [] k 1).value-(abp [] k 0).value))) (void=ck [] k n/\4=b8 [] k n) (abb False))))))))):=by
 delta aba abp abb
 exact⟨rfl,rfl,fun h=>(p7 (vo (Il h) (by omega)) (by omega)).1,fun h=>absurd h (by decide)⟩
abbrev abr(L:List Sx.Obj)(k:Key)(g:Int):=(fg L k g).count+1
abbrev abt(L:List Sx.Obj)(k:Key):=!(decide ((abp L k 0).kind=1)&&decide ((abp L k 1).kind=1)&&decide (0<=(abp L k 0).value)&&decide ((abp L k 0).value<=(abp L k 1).value)&&decide ((abp L k 1).value<ak L))
abbrev abu(g:Int):=(aL [] g).count+1
abbrev abv(g:Int)(L:List Sx.Obj)(k:Key)(n:Int)(g_2:Int):=(Key.mk 4 g (abr L k g) (dq 1 g (abr L k g)).call (dq 1 g (abr L k g)).rights (dq 1 g (abr L k g)).value=ck L k n/\0=b8 L k n)/\m5 L (bE L k n) g_2=bE L k n
abbrev abw(L:List Sx.Obj)(k:Key)(n:Int):=void=ck L k n/\221=b8 L k n
abbrev abx(L:List Sx.Obj)(k:Key)(n:Int):=(abp L k 1).value-n
theorem JO (L:List Sx.Obj) (k:Key) (n:Int) (hL:aq L):
 abb (abb (aba (!decide (0<ak L)) ((void=ck L k n/\1=b8 L k n)/\L=bE L k n) (abb (aba (!(aU L k&&decide (k.kind=4))) ((void=ck L k n/\190=b8 L k n)/\L=bE L k n) (abb (aba (abt L k) ((void=ck L k n/\220=b8 L k n)/\L=bE L k n) ((decide (1<=n)=true->abd ((abp L k 1).value-(abp L k 0).value))/\abb (aba (!(decide (1<=n)&&decide (n<=(abp L k 1).value-(abp L k 0).value))) ((void=ck L k n/\4=b8 L k n)/\L=bE L k n) (abb ((ai L).le 1000/\aba (bu L) (abb (abb (aba (!decide (0<ak [])) ((void=ck L k n/\1=b8 L k n)/\L=bE L k n) (abb (aba (!(aU [] k&&decide (k.kind=4))) ((void=ck L k n/\190=b8 L k n)/\L=bE L k n) (abb (aba (!(decide ((abp [] k 0).kind=1)&&decide ((abp [] k 1).kind=1)&&decide (0<=(abp [] k 0).value)&&decide ((abp [] k 0).value<=(abp [] k 1).value)&&decide ((abp [] k 1).value<ak []))) ((void=ck L k n/\220=b8 L k n)/\L=bE L k n) (abb (abb (abb (∀(r0:Loop),(∃g,jE L k g/\False)/\∀(g:Int),jE L k g->aba (decide (g<=(abp [] k 1).value)) (r0=r0/\r0=r0/\aba (!decide ((aL [] g).kind=0)) (r0=r0/\abd (g+1)/\∃g',jE L k g'/\(aI L k+1-g').toNat<(aI L k+1 -g).toNat/\g+1=g'/\L=L/\k=k/\n=n/\void=void/\k=k/\aa L k=aa L k/\k.oid=k.oid/\(abp L k 0).value=(abp L k 0).value/\(abp L k 1).value=(abp L k 1).value/\aa L k=aa L k/\abp L k 0=abp L k 0/\abp L k 1=abp L k 1/\aa L k=aa L k/\k.oid=k.oid/\(abp L k 0).value=(abp L k 0).value/\(abp L k 1).value=(abp L k 1).value/\bN L (ay L k) g=bN L (ay L k) g'/\aa [] k=aa [] k/\Value.pointer none=Value.pointer none/\k.oid=k.oid/\(abp [] k 0).value=(abp [] k 0).value/\(abp [] k 1).value=(abp [] k 1).value/\aa [] k=aa [] k/\abp [] k 0=abp [] k 0/\abp [] k 1=abp [] k 1/\aa [] k=aa [] k/\Value.pointer none=Value.pointer none/\k.oid=k.oid/\(abp [] k 0).value=(abp [] k 0).value/\(abp [] k 1).value=(abp [] k 1).value/\aa [] k=aa [] k/\Value.pointer none=Value.pointer none/\k.oid=k.oid/\(abp [] k 0).value=(abp [] k 0).value/\(abp [] k 1).value=(abp [] k 1).value/\void=void/\false=false/\aa [] k=aa [] k/\Value.pointer none=Value.pointer none/\k.oid=k.oid/\(abp [] k 0).value=(abp [] k 0).value/\(abp [] k 1).value=(abp [] k 1).value/\r0=r0) (aba (decide ((aL [] g).count=4294967295)) (abb (r0=r0/\abd (g+1)/\∃g',jE L k g'/\(aI L k+1-g').toNat<(aI L k+1-g).toNat/\g+1=g'/\L=L/\k=k/\n=n/\void=void/\k=k/\aa L k=aa L k/\k.oid=k.oid/\(abp L k 0).value=(abp L k 0).value/\(abp L k 1).value=(abp L k 1).value/\aa L k=aa L k/\abp L k 0=abp L k 0/\abp L k 1=abp L k 1/\aa L k=aa L k/\k.oid=k.oid/\(abp L k 0).value=(abp L k 0).value/\(abp L k 1).value=(abp L k 1).value/\bN L (ay L k) g=bN L (ay L k) g'/\aa [] k=aa [] k/\Value.pointer none=Value.pointer none/\k.oid=k.oid/\(abp [] k 0).value=(abp [] k 0).value/\(abp [] k 1).value=(abp [] k 1).value/\aa [] k=aa [] k/\abp [] k 0=abp [] k 0/\abp [] k 1=abp [] k 1/\aa [] k=aa [] k/\Value.pointer none=Value.pointer none/\k.oid=k.oid/\(abp [] k 0).value=(abp [] k 0).value/\(abp [] k 1).value=(abp [] k 1).value/\aa [] k=aa [] k/\Value.pointer none=Value.pointer none/\k.oid=k.oid/\(abp [] k 0).value=(abp [] k 0).value/\(abp [] k 1).value=(abp [] k 1).value/\void=void/\false=false/\aa [] k=aa [] k/\Value.pointer none=Value.pointer none/\k.oid=k.oid/\(abp [] k 0).value=(abp [] k 0).value/\(abp [] k 1).value=(abp [] k 1).value/\r0=r0)) (abd (abu g)/\abb (abd (abu g)/\r0=r0/\abd ((abp [] k 1).value-n)/\abb (aba (!decide ((dq 1 g (abu g)).oid<=(abp [] k 1).value-n)) ((abw L k n)/\L=bE L k n) (abb (abb (∀(r0:Loop),(∃g_1,qp L k n g_1/\(abp [] k 0).value=g_1/\L=L/\k=k/\n=n/\void=void/\k=k/\aa L k=aa L k/\k.oid=k.oid/\(abp L k 0).value=(abp L k 0).value/\(abp L k 1).value=(abp L k 1).value/\aa L k=aa L k/\abp L k 0=abp L k 0/\abp L k 1=abp L k 1/\aa L k=aa L k/\k.oid=k.oid/\(abp L k 0).value=(abp L k 0).value/\(abp L k 1).value=(abp L k 1).value/\bN L (ay L k) g=bN L (ay L k) g/\aa [] k=aa [] k/\Value.pointer none=Value.pointer none/\k.oid=k.oid/\(abp [] k 0).value=(abp [] k 0).value/\(abp [] k 1).value=(abp [] k 1).value/\aa [] k=aa [] k/\abp [] k 0=abp [] k 0/\abp [] k 1=abp [] k 1/\aa [] k=aa [] k/\Value.pointer none=Value.pointer none/\k.oid=k.oid/\(abp [] k 0).value=(abp [] k 0).value/\(abp [] k 1).value=(abp [] k 1).value/\aa [] k=aa [] k/\Value.pointer none=Value.pointer none/\k.oid=k.oid/\(abp [] k 0).value=(abp [] k 0).value/\(abp [] k 1).value=(abp [] k 1).value/\dq 1 g (abu g)=dq 1 g (abu g)/\abb (aa [] k=aa [] k/\Value.pointer none=Value.pointer none/\k.oid=k.oid/\(abp [] k 0).value=(abp [] k 0).value/\(abp [] k 1).value=(abp [] k 1).value/\aL [] g=aL [] g/\aL [] g=aL [] g/\dq 1 g (abu g)=dq 1 g (abu g)/\aa [] k=aa [] k/\Value.pointer none=Value.pointer none/\k.oid=k.oid/\(abp [] k 0).value=(abp [] k 0).value/\(abp [] k 1).value=(abp [] k 1).value/\r0=r0))/\∀(g_1:Int),qp L k n g_1->aba (decide (g_1<=(abp [] k 1).value)) (r0=r0/\r0=r0/\abd ((abp [] k 1).value-n)/\abb (aba (!(decide (g_1<=(abp [] k 1).value-n)||decide ((aL [] g_1).kind=0)||decide ((aL [] g_1).kind=3))) (r0=r0/\(abw L k n)/\L=bE L k n) (r0=r0/\abd (g_1+1)/\∃g',qp L k n g'/\(aI L k+1-g').toNat<(aI L k+1- g_1).toNat/\g_1+1=g'/\L=L/\k=k/\n=n/\void=void/\k=k/\aa L k=aa L k/\k.oid=k.oid/\(abp L k 0).value=(abp L k 0).value/\(abp L k 1).value=(abp L k 1).value/\aa L k=aa L k/\abp L k 0=abp L k 0/\abp L k 1=abp L k 1/\aa L k=aa L k/\k.oid=k.oid/\(abp L k 0).value=(abp L k 0).value/\(abp L k 1).value=(abp L k 1).value/\bN L (ay L k) g=bN L (ay L k) g/\aa [] k=aa [] k/\Value.pointer none=Value.pointer none/\k.oid=k.oid/\(abp [] k 0).value=(abp [] k 0).value/\(abp [] k 1).value=(abp [] k 1).value/\aa [] k=aa [] k/\abp [] k 0=abp [] k 0/\abp [] k 1=abp [] k 1/\aa [] k=aa [] k/\Value.pointer none=Value.pointer none/\k.oid=k.oid/\(abp [] k 0).value=(abp [] k 0).value/\(abp [] k 1).value=(abp [] k 1).value/\aa [] k=aa [] k/\Value.pointer none=Value.pointer none/\k.oid=k.oid/\(abp [] k 0).value=(abp [] k 0).value/\(abp [] k 1).value=(abp [] k 1).value/\dq 1 g (abu g)=dq 1 g (abu g)/\abb (aa [] k=aa [] k/\Value.pointer none=Value.pointer none/\k.oid=k.oid/\(abp [] k 0).value=(abp [] k 0).value/\(abp [] k 1).value=(abp [] k 1).value/\aL [] g=aL [] g/\aL [] g=aL [] g/\dq 1 g (abu g)=dq 1 g (abu g)/\aa [] k=aa [] k/\Value.pointer none=Value.pointer none/\k.oid=k.oid/\(abp [] k 0).value=(abp [] k 0).value/\(abp [] k 1).value=(abp [] k 1).value/\r0=r0)))) (abb (abb (abd ((abp [] k 1).value-n)/\abd ((abp [] k 1).value-n+1)/\abb (abb (abb (abb (abb (abd ((abp [] k 1).value-n)/\abb (abb (abb False)))))))))))))))))) (abb ((abw L k n)/\L=bE L k n))))))))))))) (abb (abb (aba (!decide (0<ak L)) ((void=ck L k n/\1=b8 L k n)/\L=bE L k n) (abb (aba (!(aU L k&&decide (k.kind=4))) ((void=ck L k n/\190=b8 L k n)/\L=bE L k n) (abb (aba (abt L k) ((void=ck L k n/\220=b8 L k n)/\L=bE L k n) (abb (abb (abb (∀(r0:Loop),(∃g,jE L k g/\(abp L k 0).value=g/\L=L/\k=k/\n=n/\void=void/\k=k/\aa L k=aa L k/\k.oid=k.oid/\(abp L k 0).value=(abp L k 0).value/\(abp L k 1).value=(abp L k 1).value/\aa L k=aa L k/\abp L k 0=abp L k 0/\abp L k 1=abp L k 1/\aa L k=aa L k/\k.oid=k.oid/\(abp L k 0).value=(abp L k 0).value/\(abp L k 1).value=(abp L k 1).value/\L=bN L (ay L k) g/\k=k/\aa L k=aa L k/\k.oid=k.oid/\(abp L k 0).value=(abp L k 0).value/\(abp L k 1).value=(abp L k 1).value/\aa L k=aa L k/\abp L k 0=abp L k 0/\abp L k 1=abp L k 1/\aa L k=aa L k/\k.oid=k.oid/\(abp L k 0).value=(abp L k 0).value/\(abp L k 1).value=(abp L k 1).value/\aa L k=aa L k/\k.oid=k.oid/\(abp L k 0).value=(abp L k 0).value/\(abp L k 1).value=(abp L k 1).value/\void=void/\false=false/\aa L k=aa L k/\k.oid=k.oid/\(abp L k 0).value=(abp L k 0).value/\(abp L k 1).value=(abp L k 1).value/\r0=r0)/\∀(g:Int),jE L k g->aba (decide (g<=(abp L k 1).value)) (r0=r0/\r0=r0/\aba (!decide ((fg L k g).kind=0)) (r0=r0/\abd (g+1)/\∃g',jE L k g'/\(aI L k+1-g').toNat<(aI L k+1-g).toNat/\g+1=g'/\L=L/\k=k/\n=n/\void=void/\k=k/\aa L k=aa L k/\k.oid=k.oid/\(abp L k 0).value=(abp L k 0).value/\(abp L k 1).value=(abp L k 1).value/\aa L k=aa L k/\abp L k 0=abp L k 0/\abp L k 1=abp L k 1/\aa L k=aa L k/\k.oid=k.oid/\(abp L k 0).value=(abp L k 0).value/\(abp L k 1).value=(abp L k 1).value/\bN L (ay L k) g=bN L (ay L k) g'/\k=k/\aa L k=aa L k/\k.oid=k.oid/\(abp L k 0).value=(abp L k 0).value/\(abp L k 1).value=(abp L k 1).value/\aa L k=aa L k/\abp L k 0=abp L k 0/\abp L k 1=abp L k 1/\aa L k=aa L k/\k.oid=k.oid/\(abp L k 0).value=(abp L k 0).value/\(abp L k 1).value=(abp L k 1).value/\aa L k=aa L k/\k.oid=k.oid/\(abp L k 0).value=(abp L k 0).value/\(abp L k 1).value=(abp L k 1).value/\void=void/\false=false/\aa L k=aa L k/\k.oid=k.oid/\(abp L k 0).value=(abp L k 0).value/\(abp L k 1).value=(abp L k 1).value/\r0=r0) (aba (decide ((fg L k g).count=4294967295)) (abb (r0=r0/\abd (g+1)/\∃g',jE L k g'/\(aI L k+1-g').toNat<(aI L k+1-g).toNat/\g+1=g'/\L=L/\k=k/\n=n/\void=void/\k=k/\aa L k=aa L k/\k.oid=k.oid/\(abp L k 0).value=(abp L k 0).value/\(abp L k 1).value=(abp L k 1).value/\aa L k=aa L k/\abp L k 0=abp L k 0/\abp L k 1=abp L k 1/\aa L k=aa L k/\k.oid=k.oid/\(abp L k 0).value=(abp L k 0).value/\(abp L k 1).value=(abp L k 1).value/\cK (bN L (ay L k) g) g (Obj.mk 3 (fg L k g).count free.calls free.slots free.bytes)=bN L (ay L k) g'/\k=k/\aa L k=aa L k/\k.oid=k.oid/\(abp L k 0).value=(abp L k 0).value/\(abp L k 1).value=(abp L k 1).value/\aa L k=aa L k/\abp L k 0=abp L k 0/\abp L k 1=abp L k 1/\aa L k=aa L k/\k.oid=k.oid/\(abp L k 0).value=(abp L k 0).value/\(abp L k 1).value=(abp L k 1).value/\aa L k=aa L k/\k.oid=k.oid/\(abp L k 0).value=(abp L k 0).value/\(abp L k 1).value=(abp L k 1).value/\void=void/\false=false/\aa L k=aa L k/\k.oid=k.oid/\(abp L k 0).value=(abp L k 0).value/\(abp L k 1).value=(abp L k 1).value/\r0=r0)) (abd (abr L k g)/\abb (abd (abr L k g)/\r0=r0/\abd (abx L k n)/\abb (aba (!decide (g<=(abp L k 1).value-n)) ((abw L k n)/\L=bE L k n) (abb (abb (∀(r0:Loop),(∃g_1,qp L k n g_1/\(abp L k 0).value=g_1/\L=L/\k=k/\n=n/\void=void/\k=k/\aa L k=aa L k/\k.oid=k.oid/\(abp L k 0).value=(abp L k 0).value/\(abp L k 1).value=(abp L k 1).value/\aa L k=aa L k/\abp L k 0=abp L k 0/\abp L k 1=abp L k 1/\aa L k=aa L k/\k.oid=k.oid/\(abp L k 0).value=(abp L k 0).value/\(abp L k 1).value=(abp L k 1).value/\qP L k g=qP L k g/\k=k/\aa L k=aa L k/\k.oid=k.oid/\(abp L k 0).value=(abp L k 0).value/\(abp L k 1).value=(abp L k 1).value/\aa L k=aa L k/\abp L k 0=abp L k 0/\abp L k 1=abp L k 1/\aa L k=aa L k/\k.oid=k.oid/\(abp L k 0).value=(abp L k 0).value/\(abp L k 1).value=(abp L k 1).value/\aa L k=aa L k/\k.oid=k.oid/\(abp L k 0).value=(abp L k 0).value/\(abp L k 1).value=(abp L k 1).value/\dq 1 g (abr L k g)=dq 1 g (abr L k g)/\abb (aa L k=aa L k/\k.oid=k.oid/\(abp L k 0).value=(abp L k 0).value/\(abp L k 1).value=(abp L k 1).value/\fg L k g=fg L k g/\fg L k g=fg L k g/\dq 1 g (abr L k g)=dq 1 g (abr L k g)/\aa L k=aa L k/\k.oid=k.oid/\(abp L k 0).value=(abp L k 0).value/\(abp L k 1).value=(abp L k 1).value/\r0=r0))/\∀(g_1:Int),qp L k n g_1->aba (decide (g_1<=(abp L k 1).value)) (r0=r0/\r0=r0/\abd (abx L k n)/\abb (aba (!(decide (g_1<=(abp L k 1).value-n)||decide ((aL (qP L k g) g_1).kind=0)||decide ((aL (qP L k g) g_1).kind=3))) (r0=r0/\(abw L k n)/\L=bE L k n) (r0=r0/\abd (g_1+1)/\∃g',qp L k n g'/\(aI L k+1-g').toNat<(aI L k+1-g_1).toNat/\g_1+1=g'/\L=L/\k=k/\n=n/\void=void/\k=k/\aa L k=aa L k/\k.oid=k.oid/\(abp L k 0).value=(abp L k 0).value/\(abp L k 1).value=(abp L k 1).value/\aa L k=aa L k/\abp L k 0=abp L k 0/\abp L k 1=abp L k 1/\aa L k=aa L k/\k.oid=k.oid/\(abp L k 0).value=(abp L k 0).value/\(abp L k 1).value=(abp L k 1).value/\qP L k g=qP L k g/\k=k/\aa L k=aa L k/\k.oid=k.oid/\(abp L k 0).value=(abp L k 0).value/\(abp L k 1).value=(abp L k 1).value/\aa L k=aa L k/\abp L k 0=abp L k 0/\abp L k 1=abp L k 1/\aa L k=aa L k/\k.oid=k.oid/\(abp L k 0).value=(abp L k 0).value/\(abp L k 1).value=(abp L k 1).value/\aa L k=aa L k/\k.oid=k.oid/\(abp L k 0).value=(abp L k 0).value/\(abp L k 1).value=(abp L k 1).value/\dq 1 g (abr L k g)=dq 1 g (abr L k g)/\abb (aa L k=aa L k/\k.oid=k.oid/\(abp L k 0).value=(abp L k 0).value/\(abp L k 1).value=(abp L k 1).value/\fg L k g=fg L k g/\fg L k g=fg L k g/\dq 1 g (abr L k g)=dq 1 g (abr L k g)/\aa L k=aa L k/\k.oid=k.oid/\(abp L k 0).value=(abp L k 0).value/\(abp L k 1).value=(abp L k 1).value/\r0=r0)))) (abb (abb (abd (abx L k n)/\abd ((abp L k 1).value-n+1)/\abb (abb (abb (abb (abb (abd (abx L k n)/\abb (abb (abb ((ai L).le 1000/\aba (j7 L (mW L k n g)) ((∃g_2,sH L (bE L k n) g_2/\Value.slice none 0 0=Value.slice none 0 0/\0=g_2/\L=m5 L (bE L k n) g_2/\k=k/\n=n/\void=void/\k=k/\aa L k=aa L k/\k.oid=k.oid/\(abp L k 0).value=(abp L k 0).value/\(abp L k 1).value=(abp L k 1).value/\aa L k=aa L k/\abp L k 0=abp L k 0/\abp L k 1=abp L k 1/\aa L k=aa L k/\k.oid=k.oid/\(abp L k 0).value=(abp L k 0).value/\(abp L k 1).value=(abp L k 1).value/\mW L k n g=mW L k n g/\k=k/\aa L k=aa L k/\k.oid=k.oid/\(abp L k 0).value=(abp L k 0).value/\(abp L k 1).value=(abp L k 1).value/\aa L k=aa L k/\abp L k 0=abp L k 0/\abp L k 1=abp L k 1/\aa L k=aa L k/\k.oid=k.oid/\(abp L k 0).value=(abp L k 0).value/\(abp L k 1).value=(abp L k 1).value/\aa L k=aa L k/\k.oid=k.oid/\(abp L k 0).value=(abp L k 0).value/\(abp L k 1).value=(abp L k 1).value/\dq 1 g (abr L k g)=dq 1 g (abr L k g)/\abb (aa L k=aa L k/\k.oid=k.oid/\(abp L k 0).value=(abp L k 0).value/\(abp L k 1).value=(abp L k 1).value/\fg L k g=fg L k g/\fg L k g=fg L k g/\dq 1 g (abr L k g)=dq 1 g (abr L k g)/\aa L k=aa L k/\k.oid=k.oid/\(abp L k 0).value=(abp L k 0).value/\(abp L k 1).value=(abp L k 1).value/\Dx L k n g=Dx L k n g/\o9 ((abp L k 1).value-n+1)=o9 ((abp L k 1).value-n+1)/\o9 (abp L k 1).value=o9 (abp L k 1).value/\C8 L k n g=C8 L k n g/\o9 (abx L k n)=o9 (abx L k n)))/\∀(g_2:Int),sH L (bE L k n) g_2->aba (decide (g_2<0)) False (abv g L k n g_2)) ((∃g_2,sH L (bE L k n) g_2/\bQ (ai (dQ L (mW L k n g)))=bQ (ai (dQ L (mW L k n g)))/\0=g_2/\L=m5 L (bE L k n) g_2/\k=k/\n=n/\void=void/\k=k/\aa L k=aa L k/\k.oid=k.oid/\(abp L k 0).value=(abp L k 0).value/\(abp L k 1).value=(abp L k 1).value/\aa L k=aa L k/\abp L k 0=abp L k 0/\abp L k 1=abp L k 1/\aa L k=aa L k/\k.oid=k.oid/\(abp L k 0).value=(abp L k 0).value/\(abp L k 1).value=(abp L k 1).value/\mW L k n g=mW L k n g/\k=k/\aa L k=aa L k/\k.oid=k.oid/\(abp L k 0).value=(abp L k 0).value/\(abp L k 1).value=(abp L k 1).value/\aa L k=aa L k/\abp L k 0=abp L k 0/\abp L k 1=abp L k 1/\aa L k=aa L k/\k.oid=k.oid/\(abp L k 0).value=(abp L k 0).value/\(abp L k 1).value=(abp L k 1).value/\aa L k=aa L k/\k.oid=k.oid/\(abp L k 0).value=(abp L k 0).value/\(abp L k 1).value=(abp L k 1).value/\dq 1 g (abr L k g)=dq 1 g (abr L k g)/\abb (aa L k=aa L k/\k.oid=k.oid/\(abp L k 0).value=(abp L k 0).value/\(abp L k 1).value=(abp L k 1).value/\fg L k g=fg L k g/\fg L k g=fg L k g/\dq 1 g (abr L k g)=dq 1 g (abr L k g)/\aa L k=aa L k/\k.oid=k.oid/\(abp L k 0).value=(abp L k 0).value/\(abp L k 1).value=(abp L k 1).value/\Dx L k n g=Dx L k n g/\o9 ((abp L k 1).value-n+1)=o9 ((abp L k 1).value-n+1)/\o9 (abp L k 1).value=o9 (abp L k 1).value/\C8 L k n g=C8 L k n g/\o9 (abx L k n)=o9 (abx L k n)/\dQ L (mW L k n g)=dQ L (mW L k n g)))/\∀(g_2:Int),sH L (bE L k n) g_2->aba (decide (g_2<bQ (ai (dQ L (mW L k n g))))) ((0<=g_2/\g_2< ↑(ai (dQ L (mW L k n g))))/\g_2.toNat<ai (dQ L (mW L k n g))/\abb (abd (g_2+1)/\∃g',sH L (bE L k n) g'/\(bQ (ai (dQ L (bE L k n)))-g').toNat<(bQ (ai (dQ L (bE L k n)))-g_2).toNat/\bQ (ai (dQ L (mW L k n g)))=bQ (ai (dQ L (mW L k n g)))/\g_2+1=g'/\cK (m5 L (bE L k n) g_2) (aj (dQ L (mW L k n g)) g_2.toNat 0) (aL (mW L k n g) (aj (dQ L (mW L k n g)) g_2.toNat 0))=m5 L (bE L k n) g'/\k=k/\n=n/\void=void/\k=k/\aa L k=aa L k/\k.oid=k.oid/\(abp L k 0).value=(abp L k 0).value/\(abp L k 1).value=(abp L k 1).value/\aa L k=aa L k/\abp L k 0=abp L k 0/\abp L k 1=abp L k 1/\aa L k=aa L k/\k.oid=k.oid/\(abp L k 0).value=(abp L k 0).value/\(abp L k 1).value=(abp L k 1).value/\mW L k n g=mW L k n g/\k=k/\aa L k=aa L k/\k.oid=k.oid/\(abp L k 0).value=(abp L k 0).value/\(abp L k 1).value=(abp L k 1).value/\aa L k=aa L k/\abp L k 0=abp L k 0/\abp L k 1=abp L k 1/\aa L k=aa L k/\k.oid=k.oid/\(abp L k 0).value=(abp L k 0).value/\(abp L k 1).value=(abp L k 1).value/\aa L k=aa L k/\k.oid=k.oid/\(abp L k 0).value=(abp L k 0).value/\(abp L k 1).value=(abp L k 1).value/\dq 1 g (abr L k g)=dq 1 g (abr L k g)/\abb (aa L k=aa L k/\k.oid=k.oid/\(abp L k 0).value=(abp L k 0).value/\(abp L k 1).value=(abp L k 1).value/\fg L k g=fg L k g/\fg L k g=fg L k g/\dq 1 g (abr L k g)=dq 1 g (abr L k g)/\aa L k=aa L k/\k.oid=k.oid/\(abp L k 0).value=(abp L k 0).value/\(abp L k 1).value=(abp L k 1).value/\Dx L k n g=Dx L k n g/\o9 ((abp L k 1).value-n+1)=o9 ((abp L k 1).value-n+1)/\o9 (abp L k 1).value=o9 (abp L k 1).value/\C8 L k n g=C8 L k n g/\o9 (abx L k n)=o9 (abx L k n)/\dQ L (mW L k n g)=dQ L (mW L k n g)))) (abv g L k n g_2))))))))))))))))))))) (abb ((abw L k n)/\L=bE L k n))))))))))))))))))))))):=by
 delta aba abp abx abw abv abu abt abr abd abb
 refine⟨rfl,rfl,fun h=>p7 (vo (Il h) (by omega)) (by omega),fun h=>⟨rfl,fun h2=>p7 (vo (bk2 h h2) (by omega)) (by omega),fun h2=>⟨rfl,fun h3=>p7 (vo (Zv h h2 h3) (by omega)) (by omega),fun h3=>?_⟩⟩⟩
 obtain⟨e,e1,e2⟩:=Rw h h2 h3;obtain⟨_,a0,a1,a2,a3,a4⟩:=mP e;have hkd:=B9 (nO h2).1 (nO h2).2;have hlen:=gY hL;have hll:ai L=L.length:=rfl;have h3':=h3;rw[e1,e2]at h3';rw[e1,e2];have hr:∀x:Int,-1000<=x->x<=1000->aF IntKind.i64 x:=fun x h1 h2=>by simp only[aF,cc];omega
 refine⟨fun _=>hr _ (by omega) (by omega),rfl,fun h4=>p7 (B4 e (by simp only[Bool.not_eq_true',Bool.and_eq_false_iff,decide_eq_false_iff_not]at h4;omega)) (by omega),fun h4=>⟨rfl,(show L.length<=1000 by omega),fun hn=>?_,fun _=>⟨rfl,rfl,fun h'=>?_,fun _=>⟨rfl,fun h'=>?_,fun _=>⟨rfl,fun h'=>?_,fun _=>⟨rfl,rfl,rfl,fun r0=>?_⟩⟩⟩⟩⟩⟩
 ·exfalso
  have:=aaZ hn;omega
 ·rw[h]at h';exact absurd h' (by decide)
 ·rw[h2]at h';exact absurd h' (by decide)
 ·rw[h3']at h';exact absurd h' (by decide)
 simp only[Bool.not_eq_false',aaV,aaW]at h4;obtain⟨hn1,hn2⟩:=h4;have h0:=Hf e hn1 hn2;have hcnt:∀j:Nat,j<L.length->0<=(aj L j free).count/\(aj L j free).count<=4294967295:=fun j hj=>⟨(kf (dt hL j hj)).1,(kf (dt hL j hj)).2.1⟩
 have hci:∀j:Nat,j<L.length->aF IntKind.i64 ((aj L j free).count+1):=fun j hj=>by have:=hcnt j hj;simp only[aF,cc];omega
 refine⟨⟨ay L k,⟨by omega,by omega,uj⟩,rfl,?_⟩,fun g hg=>⟨fun hgl=>?_,fun hgl=>?_⟩⟩
 ·have hx:L=bN L (ay L k) (ay L k):=Ei;(repeat' apply And.intro)<;>first|with_reducible rfl|exact hx
 ·obtain⟨g0,g1,g2⟩:=hg;have hgl:=aaZ hgl;have hgn:g.toNat<L.length:=by omega
  have hgz:(bN L (ay L k) g).length=L.length:=kR;have hO:fg L k g=aj L g.toNat free:=by unfold fg;rw[fG (by omega) (by omega),DD (by omega)]
  refine⟨rfl,rfl,fun hk0=>?_,fun hk0=>⟨fun hc=>?_,fun hc=>?_⟩⟩
  ·obtain⟨f1,f2⟩:=yy (o:=aj L g.toNat free) (by rw[<-hO];simpa using hk0)
   have hx:bN L (ay L k) g=bN L (ay L k) (g+1):=(zM (by omega) f1).symm
   refine⟨rfl,hr _ (by omega) (by omega),g+1,⟨by omega,by omega,jP g2 f2⟩,by omega,rfl,?_⟩
   (repeat' apply And.intro)<;>first|with_reducible rfl|exact hx
  ·rw[hO]at hk0 hc;obtain⟨f1,f2⟩:=CD (o:=aj L g.toNat free) (by simpa using hk0) (by have:=aaZ hc;omega)
   have hp:=(my (L:=bN L (ay L k) g) (i:=g) (by omega) (by omega) (hgz▸Cy (dt hL g.toNat hgn))).1
   have hx:cK (bN L (ay L k) g) g (Obj.mk 3 (fg L k g).count free.calls free.slots free.bytes)=bN L (ay L k) (g+1):=by rw[hO];exact hp.trans (yi (by omega) (by omega) g0 f1)
   refine⟨rfl,rfl,hr _ (by omega) (by omega),g+1,⟨by omega,by omega,jP g2 f2⟩,by omega,rfl,?_⟩
   (repeat' apply And.intro)<;>first|with_reducible rfl|exact hx
  ·rw[hO]at hk0 hc;have hc:=aaY hc;have:=hcnt _ hgn;obtain⟨f1,f2⟩:=Cg (o:=aj L g.toNat free) (by simpa using hk0) (by omega)
   obtain⟨i1,i2,i3,i4,i5,i6,i7,i8⟩:=Vb hL e hkd g0 hgl g2 f2;have hcg:aF IntKind.i64 ((fg L k g).count+1):=by rw[hO];exact hci _ hgn
   refine⟨hcg,rfl,hcg,rfl,hr _ (by omega) (by omega),rfl,fun hc2=>p7 (va h0 (.inr (by rw[i1];simp only[Bool.not_eq_true',decide_eq_false_iff_not]at hc2;omega))) (by omega),fun hc2=>⟨rfl,rfl,fun r1=>⟨⟨ay L k,⟨by omega,by omega,Hs (by omega)⟩,rfl,?_⟩,fun j hj=>⟨fun hjl=>?_,fun hjl=>?_⟩⟩⟩⟩
   ·(repeat' apply And.intro)<;>first|with_reducible rfl|exact hx
   ·obtain⟨j0,j1,j2⟩:=hj;have hjl:=aaZ hjl;have hgj:aL (qP L k g) j=aj (dW L k) j.toNat free:=by rw[i3];exact fG (by omega) (by omega)
    rw[hgj];have hkk:=kf (dt i5 j.toNat (by omega))
    refine⟨rfl,rfl,hr _ (by omega) (by omega),rfl,fun hb=>⟨rfl,?_⟩,fun hb=>⟨rfl,hr _ (by omega) (by omega),j+1,⟨by omega,by omega,?_⟩,by omega,rfl,?_⟩⟩
    ·simp only[Bool.not_eq_true',Bool.or_eq_false_iff,decide_eq_false_iff_not]at hb;have hbz:mY (aj (dW L k) j.toNat free)=true:=by unfold mY;simp only[Bool.or_eq_true,aaW];omega
     exact p7 (D4 h0 (EI (by omega) (by omega) (by omega) (by omega) hbz)) (by omega)
    ·simp only[Bool.not_eq_false',Bool.or_eq_true,aaW]at hb;by_cases hjn:j<=aI L k-n
     ·exact Hs (by omega)
     ·have hbz:mY (aj (dW L k) j.toNat free)=false:=by unfold mY;simp only[Bool.or_eq_false_iff,decide_eq_false_iff_not];omega
      rw[Hv (by omega) hbz];exact j2
    ·(repeat' apply And.intro)<;>first|with_reducible rfl|exact hx
   ·obtain⟨j0,j1,j2⟩:=hj;have hjl:=aaY hjl;have:j=aI L k+1:=by omega
    subst this;simp only[Bool.not_eq_false',aaW]at hc2;have hE:=Iv h0 (by rw[i1];omega) (by rw[i1];omega) j2
    obtain⟨l1,l2,l3,l4⟩:=SY hL e hkd e2 g0 hgl g2 f2 hE;rw[l1];have hul:(dQ L (bE L k n)).length<=L.length:=Rj;have hu:bQ (ai (dQ L (bE L k n)))=((dQ L (bE L k n)).length:Int):=rfl
    refine⟨rfl,rfl,hr _ (by omega) (by omega),hr _ (by omega) (by omega),rfl,rfl,rfl,rfl,rfl,hr _ (by omega) (by omega),rfl,rfl,rfl,(show L.length<=1000 by omega),fun hno=>?_,fun _=>⟨⟨0,⟨by omega,by omega⟩,rfl,rfl,?_⟩,fun t ht=>⟨fun htl=>?_,fun htl=>⟨⟨l4,hE.symm⟩,Uw l3 l2 ?_⟩⟩⟩⟩
    ·rw[Ni l3 (by omega)]at hno;exact absurd hno (by decide)
    ·have hx:L=m5 L (bE L k n) 0:=rfl;(repeat' apply And.intro)<;>first|with_reducible rfl|exact hx
    ·obtain⟨t0,t1⟩:=ht;have htl:=aaZ htl;rw[hu]at htl;have hx:cK (m5 L (bE L k n) t) (aj (dQ L (bE L k n)) t.toNat 0) (aL (bE L k n) (aj (dQ L (bE L k n)) t.toNat 0))=m5 L (bE L k n) (t+1):=Pe t0;refine⟨⟨t0,htl⟩,(show t.toNat<(dQ L (bE L k n)).length by omega),rfl,hr _ (by omega) (by omega),t+1,⟨by omega,by omega⟩,by rw[hu];omega,rfl,rfl,?_⟩
     (repeat' apply And.intro)<;>first|with_reducible rfl|exact hx
    ·have htl:=aaY htl;rw[hu]at htl;obtain⟨t0,t1⟩:=ht;omega
 ·obtain⟨g0,g1,g2⟩:=hg;have hgl:=aaY hgl;have:g=aI L k+1:=by omega
  subst this;obtain⟨m1,m2,m3⟩:=Du 1 g2;exact⟨rfl,p7 (va h0 (.inl (by unfold gu;rw[m1];omega))) (by omega)⟩
theorem Kr (L:List Sx.Obj) (k:Key) (n:Int) (hL:aq L):an Tryz.prog 169 [.lp 0 0,.key k,.it .i64 n] [.store tS eS L] (CA (.tp [.key (ck L k n),.it .i64 (b8 L k n)]) (bE L k n)) (fun _ _=>False):=
 aY (inl:=(fun f=>f==214||f==213||f==218||f==219||f==220||f==221||f==222||f==223||f==1000000+232)) (ann:=(iJ [(3000+232,1,lpR [0,1] (fun g=> [(3,.it .i64 g)]) 11 (fun g=> .store tS eS (bN L (ay L k) g)) (jE L k) (yG (aI L k) 1)),(9000+232,1,Ws [0,1] (fun g=> [(3,.it .i64 g)]) (qp L k n) (yG (aI L k) 1)),(169,16,lpR [0,6,7,9,10,90,91] (fun g=> [(92,.it .i64 g)]) 0 (fun g=> .store tS eS (m5 L (bE L k n) g)) (sH L (bE L k n)) (bQ (ai (dQ L (bE L k n)))))])) (ae bC (ae bR (ae fY (ae sW ar)))) (aC dB (aC xY (aC G1 aE))) (eg iC) (JO L k n hL) (by kernel_rfl)
theorem J7:lh Tryz.prog 169 N0:=
 od (m:=fun x=>TW.cn x 0) (fP CC (fun _=>rfl)) (fun _=>rfl) (fun _ _=>rfl) (fun x=>aY (inl:=(fun f=>f==214||f==213||f==218||f==219||f==220||f==221||f==222||f==223||f==1000000+232)) (ann:=aQ) (ae bC (ae bR (ae fY (ae sW ar)))) (aC dB (aC xY (aC G1 aE))) (eg iC) (Gx x.1 x.2.1) (by kernel_rfl)) (fun x=>aY (inl:=(fun f=>f==214||f==213||f==218||f==219||f==220||f==221||f==222||f==223||f==1000000+232)) (ann:=aQ) (ae bC (ae bR (ae fY (ae sW ar)))) (aC dB (aC xY (aC G1 aE))) (eg iC) (Gm x.1 x.2.1) (by kernel_rfl)) fun L x hL _ _=>Kr L x.1 x.2.1 hL
end Go.Proofs.YtlblcfaclmpekaaGreat
namespace Go.Sx
def bd (h:Int):Int:=64*16^(h-1).toNat
def j6 (h:Int):Prop:=0<=h/\h<=9
def C4 (h g:Int):Prop:=0<=g/\(g=0\/g<=h-1)
def Dq (h g:Int):Prop:=1<=g/\(g=1\/g<=h)
def Ol:Ct:=s7 (ba iA gJ) (fun x=>some (j6 x.1)) fun x=> .it .i64 (bd x.1)
structure Wk where
 pos:Key
 adr:Int
 rts:Int
 kpr:Key
 dep:Int
 hi:Int
structure Wr where
 kd:Int
 pos:Key
 adr:Int
 kpr:Key
 dep:Int
def YK:Wr:=⟨0,void,0,void,0⟩
def fX (r m g:Int):Int:=r+(if 2<=g/\(gX m 1&& !gX r 1)=true then 1 else 0)+(if 4<=g/\(gX m 2&& !gX r 2)=true then 2 else 0)+(if 8<=g/\(gX m 4&& !gX r 4)=true then 4 else 0)
def nS (r m:Int):Int:=fX r m 8
def pc (r:Int) (p:Key):Key:=if r.tmod 4=0 then p else dn p 1
def qK (w:Wk) (h:Key):Bool:=decide (h.kind=1)&&decide (1<=h.value)&&decide (h.value<=8)&&(decide (w.dep=0)||decide (h.value<w.hi))
def wv (r:Int) (k was:Key):Key:=if k.kind=6/\r<4 then k else was
def mC (L:List Obj) (w:Wk) (p:Key) (h k:Key):Wr×Option Wk:=
 if 8<=w.dep then(⟨3,void,0,w.kpr,0⟩,none)
 else if qK w h then
  (if w.adr.tdiv (bd h.value)<14 then(YK,some ⟨di L p (w.adr.tdiv (bd h.value)),w.adr.tmod (bd h.value),nS w.rts p.rights,wv (nS w.rts p.rights) k w.kpr,w.dep+1,h.value⟩)
   else(⟨2,void,0,wv (nS w.rts p.rights) k w.kpr,0⟩,none))
 else(⟨4,void,0,w.kpr,0⟩,none)
def QR (L:List Obj):Nat->Wk->Wr
 |0,w=>⟨3,void,0,w.kpr,0⟩
 |n+1,w=>
  if(ah L w.pos).kind=3 then(if w.adr<64 then⟨0,pc w.rts (ah L w.pos),w.adr,w.kpr,w.dep⟩else⟨2,void,0,w.kpr,0⟩)
  else if(ah L w.pos).kind=2 then match mC L w (ah L w.pos) (di L (dn (ah L w.pos) 0) 15) (di L (dn (ah L w.pos) 0) 14)with
   | (r,none)=>r
   | (_,some w')=>QR L n w'
  else⟨1,void,0,w.kpr,0⟩
def jr (L:List Obj) (n:Nat) (w:Wk):Wr:=QR L n w
def xM (k:Key) (a hi:Int):Wk:=⟨k,a,0,void,0,hi⟩
def dM (L:List Obj) (k:Key) (a:Int):Int:=if ai L=0 then 1 else if bJ L k then(if a<0 then 4 else 0)else 2
def au (L:List Obj) (k:Key) (a:Int):Wr:=if dM L k a=0 then jr L 9 (xM k a 0)else YK
def cw (r:Wr):Key:=if r.kd=0 then r.pos else void
def cx (r:Wr):Int:=if r.kd=0 then r.adr else 0
def dr (r:Wr):Key:=if r.kd=0 then r.kpr else void
def dN (r:Wr):Int:=if r.kd=0 then r.dep else 0
def fS (r:Wr):Key:=if r.kd=0 then void else r.kpr
def fR (r:Wr) (a:Int):Int:=if r.kd=0 then 0 else a
def fa (r:Wr):Int:=r.kd
def ZE (r:Wr):V:= .ag [.key (cw r),.it .i64 (cx r),.key (dr r),.it .i64 (dN r)]
def aaO (r:Wr) (a:Int):V:= .ag [.it .i64 (fa r),.key (fS r),.it .i64 (fR r a)]
def DS (L:List Obj) (k:Key) (a:Int):V:= .tp [ZE (au L k a),aaO (au L k a) a,.it .i64 (dM L k a)]
abbrev tW:Nat:=296
def wkV (s:V) (g:Wk):V:= .ag [s,.key g.pos,.it .i64 g.adr,.it .i64 g.rts,.key g.kpr,.it .i64 g.dep,.it .i64 g.hi,.cb false]
def oi (L:List Obj) (k:Key) (a hi:Int) (g:Wk):Prop:=
 (0<=g.adr/\g.adr<=a)/\(0<=g.rts/\g.rts<=7)/\(0<=g.dep/\g.dep<=8)/\(g.dep=0->g.hi=hi)/\(g.dep≠0->g.hi<=8)/\jr L (9-g.dep).toNat g=jr L 9 (xM k a hi)
def pn (g:Wk):Nat:=(9-g.dep).toNat
def aaz (j4:List Nat) (inv:Int->Prop) (m:Int):dD:=
 {γ:=Int,head:=fun U g=>match cg U.slots 11 with
   | .v x=>match x with
     | .it _ r=>match az U.res 4 with
       | .blk _ c=>match c with
         | .key k=> {U with slots:=I5 j4 [(11,.it .i64 (fX r k.rights g)),(16,.it .i64 g)] 0 U.slots}
         |_=>U
       |_=>U
     |_=>U
   |_=>U,inv:=inv,μ:=fun g=>qf (tA m g)}
def XP:Ct:=s7 (ba sA (ba kA (ba iA gJ))) (fun _=>none) fun x=>DS (DG x.1) x.2.1 x.2.2.1
def Rr:Ct:=s7 (ba AE (ba kA (ba iA gJ))) (fun x=>some (aq x.1)) fun x=>DS x.1 x.2.1 x.2.2.1
def spX (nid:Nat):V:= .mp nid
def spN (nid:Nat):List aK:= [.mp .i64 [3,2] [.fn 245 [],.fn 246 []]]
theorem B1 {g:Int} (h:1<=g):bd g*16=bd (g+1):=by
 unfold bd;have e:(g+1-1).toNat=(g-1).toNat+1:=by omega
 rw[e,Int.pow_succ];generalize (16:Int)^(g-1).toNat=x
 omega
theorem nF {h:Int} (hh:h<=1):bd h=64:=by
 unfold bd;have e:(h-1).toNat=0:=by omega
 rw[e];rfl
theorem sN {h:Int} (hh:h<=9):64<=bd h/\bd h<=274877906944:=by
 by_cases h1:h<=1
 ·rw[nF h1];omega
 have:h=2\/h=3\/h=4\/h=5\/h=6\/h=7\/h=8\/h=9:=by omega
 rcases this with rfl|rfl|rfl|rfl|rfl|rfl|rfl|rfl<;>decide
theorem Xq:∀r m:Fin 8,bk .or .i64 (r.val:Int) (m.val:Int)=nS (r.val:Int) (m.val:Int)/\0<=nS (r.val:Int) (m.val:Int)/\nS (r.val:Int) (m.val:Int)<=7:=by decide
theorem yJ {r:Int} (h0:0<=r) (h1:r<=7):∃x:Fin 8,(x.val:Int)=r:=⟨⟨r.toNat,by omega⟩,by simp;omega⟩
theorem Ys {r m:Int} (h0:0<=r) (h1:r<=7) (m0:0<=m) (m1:m<=7):bk .or .i64 r m=nS r m/\0<=nS r m/\nS r m<=7:=by
 obtain⟨x,rfl⟩:=yJ h0 h1;obtain⟨y,rfl⟩:=yJ m0 m1;exact Xq x y
theorem Qb:∀r:Fin 8,decide (bk .and .i64 (r.val:Int) 4=0)=decide ((r.val:Int)<4):=by decide
theorem aaI {r:Int} (h0:0<=r) (h1:r<=7):decide (bk .and .i64 r 4=0)=decide (r<4):=by
 obtain⟨x,rfl⟩:=yJ h0 h1;exact Qb x
theorem Tf:∀r m:Fin 8,∀g∈ [(1:Int),2,4],(0<=fX (r.val:Int) (m.val:Int) g/\fX (r.val:Int) (m.val:Int) g<=7)/\
  ((decide (((m.val:Int).tdiv g).tmod 2=1)&&decide (((fX (r.val:Int) (m.val:Int) g).tdiv g).tmod 2=0))=true->fX (r.val:Int) (m.val:Int) g+g=fX (r.val:Int) (m.val:Int) (g*2))/\
  ((decide (((m.val:Int).tdiv g).tmod 2=1)&&decide (((fX (r.val:Int) (m.val:Int) g).tdiv g).tmod 2=0))=false->fX (r.val:Int) (m.val:Int) g=fX (r.val:Int) (m.val:Int) (g*2)):=by decide
theorem Zk {r m g:Int} (h0:0<=r) (h1:r<=7) (m0:0<=m) (m1:m<=7) (hg:g=1\/g=2\/g=4):(0<=fX r m g/\fX r m g<=7)/\
  ((decide ((m.tdiv g).tmod 2=1)&&decide (((fX r m g).tdiv g).tmod 2=0))=true->fX r m g+g=fX r m (g*2))/\
  ((decide ((m.tdiv g).tmod 2=1)&&decide (((fX r m g).tdiv g).tmod 2=0))=false->fX r m g=fX r m (g*2)):=by
 obtain⟨x,rfl⟩:=yJ h0 h1;obtain⟨y,rfl⟩:=yJ m0 m1;exact Tf x y g (by rcases hg with rfl|rfl|rfl<;>simp)
theorem ZC {r m:Int}:fX r m 1=r:=by simp[fX]
theorem CX {L:List Obj} {k:Key} (h:(ah L k).kind=2\/(ah L k).kind=3):ah L k=k/\aU L k=true:=by
 unfold ah at h⊢;split at h
 ·simp[void]at h
 ·rename_i hn;rw[aa1 hn];refine⟨rfl,?_⟩;simp only[Bool.or_eq_true,Bool.not_eq_true',aaV,not_or,Bool.not_eq_true,not_and]at hn;obtain⟨⟨h1,h2⟩,h3⟩:=hn;have hk:aV k=true:=by simpa using h2
  have:aZ k=true:=by
   unfold aZ ea;rw[hk];rcases h with h|h<;>simp[h]
  have:=h3 this;simpa using this
theorem TU {L:List Obj} {k:Key} (h:aU L k=true):ah L k=k:=by
 unfold ah;have h':=ei h;rw[aa1];have hl:L≠ []:=fun e=>by have:=h'.2.1;have:=h'.2.2.1;simp[e]at *;omega
 have hs:bu L=false:=by
  unfold bu;cases L with
  |nil=>exact absurd rfl hl
  |cons x l=>simp[ai]
 rw[hs,h'.1,h];simp
theorem WA {k:Key} (h:aV k=true) (h2:k.kind=2):Key.mk 2 k.oid k.count void.call void.rights void.value=dn k 0:=by
 obtain⟨a,b,c,d,e,f⟩:=k;simp only at h2;subst h2;simp[aV,fZ,ea,gO,kG]at h;simp[dn,void];omega
theorem X9 {L:List Obj} {k:Key} (h:aU L k=true) (h2:k.kind=2):aU L (dn k 0)=true:=by
 have hk:=(ei h).1
 have hk':aV (dn k 0)=true:=by
  have hk1:=hk;simp only[aV,aaV,aaW]at hk1⊢;obtain⟨⟨⟨⟨⟨⟨⟨x1,x2⟩,x3⟩,x4⟩,x5⟩,x6⟩,x7⟩,x8⟩:=hk1;exact⟨⟨⟨⟨⟨⟨⟨x1,x2⟩,Int.le_refl 0⟩,by show 0<=fy k.kind;omega⟩,x5⟩,x6⟩,x7⟩,x8⟩
 have hn:bf (dn k 0)=bf k:=by unfold bf;rw[hk,hk'];rfl
 have hw:gz (dn k 0)=gz k:=by unfold gz;rw[hn];rfl
 have hc:∀o,cI (dn k 0) o=cI k o:=fun o=>by unfold cI;rw[hn,hw,hk,hk'];rfl
 have hd:aZ (dn k 0)=aZ k:=by unfold aZ;rw[hk,hk'];rfl
 unfold aU at h⊢;rw[hd,hc];exact h
theorem Gz {L:List Obj} {k:Key} {i:Int} (h:aU L k=true) (h2:k.kind=2) (h0:0<=i) (h1:i<16):aJ L k i=di L k i:=by
 have hl:=ei h
 have hA:aB L k 2 false=0:=by
  unfold aB;rw[aa1 (by have:=hl.2.1;have:=hl.2.2.1;unfold ai;omega),aa1 (by rw[h,h2];simp),aa1 (by simp)]
 unfold aJ bY ko;rw[hA,aa2 rfl,decide_eq_true h0,decide_eq_true h1];rfl
theorem L9 {L:List Obj} {k:Key} {i:Int} (h:aU L k=true) (h2:k.kind=2) (h0:0<=i) (h1:i<16):aJ L (Key.mk 2 k.oid k.count void.call void.rights void.value) i=di L (dn k 0) i:=by
 rw[WA (ei h).1 h2];exact Gz (X9 h h2) h2 h0 h1
theorem go_eq {L:List Obj} {g:Wk} (h0:0<=g.dep) (h8:g.dep<=8):jr L (9-g.dep).toNat g=
  if(ah L g.pos).kind=3 then(if g.adr<64 then⟨0,pc g.rts (ah L g.pos),g.adr,g.kpr,g.dep⟩else⟨2,void,0,g.kpr,0⟩)
  else if(ah L g.pos).kind=2 then match mC L g (ah L g.pos) (di L (dn (ah L g.pos) 0) 15) (di L (dn (ah L g.pos) 0) 14)with
   | (r,none)=>r
   | (_,some w')=>jr L (8-g.dep).toNat w'
  else⟨1,void,0,g.kpr,0⟩:=by
 have e:(9-g.dep).toNat=(8-g.dep).toNat+1:=by omega
 rw[e];rfl
theorem Hi {L:List Obj} {g:Wk} (h0:0<=g.dep) (h8:g.dep<=8) (h3:(ah L g.pos).kind≠3) (h2:(ah L g.pos).kind≠2):jr L (9-g.dep).toNat g=⟨1,void,0,g.kpr,0⟩:=by
 rw[go_eq h0 h8,aa1 h3,aa1 h2]
theorem N7 {L:List Obj} {g:Wk} (h0:0<=g.dep) (h8:g.dep<=8) (h3:(ah L g.pos).kind=3) (h:¬g.adr<64):jr L (9-g.dep).toNat g=⟨2,void,0,g.kpr,0⟩:=by
 rw[go_eq h0 h8,aa2 h3,aa1 h]
theorem ym {L:List Obj} {g:Wk} (h0:0<=g.dep) (h8:g.dep<=8) (h3:(ah L g.pos).kind=3) (h:g.adr<64):jr L (9-g.dep).toNat g=⟨0,pc g.rts (ah L g.pos),g.adr,g.kpr,g.dep⟩:=by
 rw[go_eq h0 h8,aa2 h3,aa2 h]
theorem Na {L:List Obj} {g:Wk} (h0:0<=g.dep) (h8:g.dep<=8) (h2:(ah L g.pos).kind=2) (h:¬g.dep<8):jr L (9-g.dep).toNat g=⟨3,void,0,g.kpr,0⟩:=by
 rw[go_eq h0 h8,aa1 (by omega),aa2 h2,mC,aa2 (by omega)]
theorem Hq {L:List Obj} {g:Wk} (h0:0<=g.dep) (h8:g.dep<=8) (h2:(ah L g.pos).kind=2) (h:g.dep<8) (hf:qK g (di L (dn (ah L g.pos) 0) 15)=false):jr L (9-g.dep).toNat g=⟨4,void,0,g.kpr,0⟩:=by
 rw[go_eq h0 h8,aa1 (by omega),aa2 h2,mC,aa1 (by omega),hf]
 rfl
theorem Ce {L:List Obj} {g:Wk} (h0:0<=g.dep) (h8:g.dep<=8) (h2:(ah L g.pos).kind=2) (h:g.dep<8) (hf:qK g (di L (dn (ah L g.pos) 0) 15)=true)
  (hs:¬g.adr.tdiv (bd (di L (dn (ah L g.pos) 0) 15).value)<14):jr L (9-g.dep).toNat g=⟨2,void,0,wv (nS g.rts (ah L g.pos).rights) (di L (dn (ah L g.pos) 0) 14) g.kpr,0⟩:=by
 rw[go_eq h0 h8,aa1 (by omega),aa2 h2,mC,aa1 (by omega),hf,aa2 rfl,aa1 hs]
def OS (L:List Obj) (g:Wk):Wk:=⟨di L (ah L g.pos) (g.adr.tdiv (bd (di L (dn (ah L g.pos) 0) 15).value)),g.adr.tmod (bd (di L (dn (ah L g.pos) 0) 15).value),nS g.rts (ah L g.pos).rights,
 wv (nS g.rts (ah L g.pos).rights) (di L (dn (ah L g.pos) 0) 14) g.kpr,g.dep+1,(di L (dn (ah L g.pos) 0) 15).value⟩
theorem T6 {L:List Obj} {g:Wk} (h0:0<=g.dep) (h8:g.dep<=8) (h2:(ah L g.pos).kind=2) (h:g.dep<8) (hf:qK g (di L (dn (ah L g.pos) 0) 15)=true)
  (hs:g.adr.tdiv (bd (di L (dn (ah L g.pos) 0) 15).value)<14):jr L (9-g.dep).toNat g=jr L (9-(g.dep+1)).toNat (OS L g):=by
 rw[go_eq h0 h8,aa1 (by omega),aa2 h2,mC,aa1 (by omega),hf,aa2 rfl,aa2 hs]
 have e:(9-(g.dep+1)).toNat=(8-g.dep).toNat:=by omega
 rw[e];rfl
theorem vG {g:Wk} {h:Key}:qK g h=true↔h.kind=1/\1<=h.value/\h.value<=8/\(g.dep=0\/h.value<g.hi):=by
 simp[qK,and_assoc]
theorem sV {a e:Int} (h0:0<=a) (he:64<=e):0<=a.tdiv e/\a.tdiv e<=a/\0<=a.tmod e/\a.tmod e<=a:=by
 rw[Int.tdiv_eq_ediv_of_nonneg h0,Int.tmod_eq_emod_of_nonneg h0];have h1:=Int.ediv_nonneg h0 (show 0<=e by omega)
 have h2:=Int.ediv_le_self e h0;have h3:=Int.emod_nonneg a (show e≠0 by omega)
 have h4:=Int.emod_add_mul_ediv a e;have h5:=Int.mul_nonneg (show 0<=e by omega) h1
 omega
theorem PT {L:List Obj} {k:Key} {a hi:Int} {g:Wk} (hI:oi L k a hi g) (h2:(ah L g.pos).kind=2) (h:g.dep<8) (hf:qK g (di L (dn (ah L g.pos) 0) 15)=true)
  (hs:g.adr.tdiv (bd (di L (dn (ah L g.pos) 0) 15).value)<14):oi L k a hi (OS L g)/\pn (OS L g)<pn g:=by
 obtain⟨⟨a1,a2⟩,⟨r1,r2⟩,⟨d1,d2⟩,e1,e2,e3⟩:=hI;have hf':=vG.1 hf;have he:=sN (show(di L (dn (ah L g.pos) 0) 15).value<=9 by omega)
 have hd:=sV a1 he.1;have hp:=pk (qi L g.pos);have ho:=Ys r1 r2 hp.1 hp.2;refine⟨⟨⟨hd.2.2.1,by have:=hd.2.2.2;simp only[OS];omega⟩,ho.2,⟨by simp only[OS];omega,by simp only[OS];omega⟩,fun h=>?_,fun _=>hf'.2.2.1,?_⟩,?_⟩
 ·simp only[OS]at h;omega
 ·rw[<-e3,T6 d1 d2 h2 h hf hs];rfl
 ·unfold pn;simp only[OS];omega
theorem WI {L:List Obj} {k:Key} {a:Int} (x y:Int):jr L 9 (xM k a x)=jr L 9 (xM k a y):=by
 show QR L (8+1) _=QR L (8+1) _
 unfold QR;simp only[xM,mC,qK];rfl
theorem Z0 {L:List Obj} {k:Key} {a:Int} (h:¬a<0) (hi:Int):oi L k a hi (xM k a hi):=
 ⟨⟨by simp only[xM];omega,by simp only[xM];omega⟩,by simp[xM],by simp[xM],fun _=>rfl,fun h=>absurd rfl h,rfl⟩
theorem Zh {L:List Obj} {k:Key} {a hi:Int} {g:Wk} (hI:oi L k a hi g) (hE:dM L k a=0):au L k a=jr L (9-g.dep).toNat g:=by
 unfold au;rw[aa2 hE,hI.2.2.2.2.2];exact WI _ _
theorem Aj {L:List Obj} {k:Key} {a e:Int} (h:dM L k a=e) (he:e≠0):void=cw (au L k a)/\0=cx (au L k a)/\void=dr (au L k a)/\0=dN (au L k a)/\0=fa (au L k a)/\void=fS (au L k a)/\0=fR (au L k a) a/\e=dM L k a:=by
 have:au L k a=YK:=by unfold au;rw[aa1 (by omega)]
 rw[this,h];exact⟨rfl,rfl,rfl,rfl,rfl,rfl,rfl,rfl⟩
theorem qF {L:List Obj} {k:Key} {a hi d:Int} {g:Wk} {p:Key} (hI:oi L k a hi g) (hE:dM L k a=0) (h:jr L (9-g.dep).toNat g=⟨d,void,0,p,0⟩) (hd:d≠0):
  void=cw (au L k a)/\0=cx (au L k a)/\void=dr (au L k a)/\0=dN (au L k a)/\d=fa (au L k a)/\p=fS (au L k a)/\a=fR (au L k a) a/\0=dM L k a:=by
 rw[Zh hI hE,h,hE];simp only[cw,cx,dr,dN,fa,fS,fR,aa1 hd];simp
theorem HD {L:List Obj} {k:Key} {a hi ad dp:Int} {g:Wk} {q p:Key} (hI:oi L k a hi g) (hE:dM L k a=0) (h:jr L (9-g.dep).toNat g=⟨0,q,ad,p,dp⟩):
  q=cw (au L k a)/\ad=cx (au L k a)/\p=dr (au L k a)/\dp=dN (au L k a)/\0=fa (au L k a)/\void=fS (au L k a)/\0=fR (au L k a) a/\0=dM L k a:=by
 rw[Zh hI hE,h,hE];exact⟨rfl,rfl,rfl,rfl,rfl,rfl,rfl,rfl⟩
theorem Bo (L:List Obj) (v:Key):(!decide (bB v=0)||aZ v&&decide (ak L<=cy v))= !bJ L v:=by
 rw[<-uO]
 have:decide (ak L<=cy v)= !decide (cy v<ak L):=by
  rw[Bool.eq_iff_iff];simp
 rw[this];cases decide (bB v=0)<;>cases aZ v<;>cases decide (cy v<ak L)<;>rfl
theorem wE1 {L:List Obj} {k:Key} {a:Int} (h:decide (ak L=0)=true):dM L k a=1:=by
 have h:=aaZ h;unfold ak at h;unfold dM;rw[aa2 (by omega)]
theorem Q0 {L:List Obj} {k:Key} {a:Int} (h:decide (ak L=0)=false):dM L k a=if bJ L k then(if a<0 then 4 else 0)else 2:=by
 have h:=aaY h;unfold ak at h;unfold dM;rw[aa1 (by omega)]
theorem Tt {L:List Obj} {k:Key} (hk:aV k=true) (hL:0<L.length):(k.kind=1->ah L k=k)/\(k.kind≠1->(ah L k).kind≠1):=by
 refine⟨fun h=>?_,fun h=>?_⟩
 ·unfold ah;rw[aa1]
  have hs:bu L=false:=by
   unfold bu ai;rw[decide_eq_false];omega
  have hn:aZ k=false:=by unfold aZ ea;rw[h,hk];rfl
  rw[hs,hk,hn];simp
 ·unfold ah;split
  ·simp[void]
  ·exact h
def cm (L:List Obj) (k:Key) (a n:Int):Int:=if dM L k a=0 then(if n<0\/64<n then 4 else 0)else dM L k a
def bW (L:List Obj) (k:Key) (a n:Int) (w:Bool):Int:=if cm L k a n=0 then(if(au L k a).kd=0 then(if 64<(au L k a).adr+n then 5 else if(w&& !decide ((au L k a).pos.rights=0))=true then 6 else 0)else(au L k a).kd)else 0
def fF (L:List Obj) (k:Key) (a n:Int) (w:Bool):Key:=if bW L k a n w=0 then void else(au L k a).kpr
def fI (L:List Obj) (k:Key) (a n:Int) (w:Bool):Int:=if bW L k a n w=0 then 0 else a
def ma (L:List Obj) (k:Key) (a n:Int) (w:Bool):Bool:=decide (cm L k a n=0)&&decide (bW L k a n w=0)
def bH (L:List Obj) (k:Key) (a n:Int) (w:Bool):Wr:=if ma L k a n w=true then au L k a else YK
def Yj (L:List Obj) (k:Key) (a n:Int) (w:Bool):V:= .ag [.it .i64 (bW L k a n w),.key (fF L k a n w),.it .i64 (fI L k a n w)]
def jW (L:List Obj) (k:Key) (a n:Int):ByteArray:=if ma L k a n false=true then ec L (cw (bH L k a n false)) (cx (bH L k a n false)) n else⟨#[]⟩
def kx (L:List Obj) (k:Key) (a:Int) (s:ByteArray):List Obj:=if ma L k a (bO s) true=true then eZ L (cw (bH L k a (bO s) true)) (cx (bH L k a (bO s) true)) s else L
def Zz (L:List Obj) (k:Key) (a n:Int) (w:Bool):V:= .tp [ZE (bH L k a n w),Yj L k a n w,.it .i64 (cm L k a n)]
def YW:Ct:=s7 (ba sA (ba kA (ba iA (ba iA (ba bA gJ))))) (fun _=>none) fun x=>Zz (DG x.1) x.2.1 x.2.2.1 x.2.2.2.1 x.2.2.2.2.1
def XG:Ct:=s7 (ba AE (ba kA (ba iA (ba iA (ba bA gJ))))) (fun x=>some (aq x.1)) fun x=>Zz x.1 x.2.1 x.2.2.1 x.2.2.2.1 x.2.2.2.2.1
def ki (L:List Obj) (k:Key) (i:Int) (s:ByteArray):Bool:=decide (cL L k i s=0)
def Z8:kq:=Az A8 (fun L x=>aq L/\aw x.2.2) (fun L x=>ki L x.1 x.2.1 x.2.2) (fun L x=>eZ L x.1 x.2.1 x.2.2) fun L x=> [.it .i64 (cL L x.1 x.2.1 x.2.2)]
def aaD:Ct:=s7 (ba sA (ba kA (ba iA (ba iA gJ)))) (fun _=>none) fun x=> .tp [.st (jW (DG x.1) x.2.1 x.2.2.1 x.2.2.2.1),Yj (DG x.1) x.2.1 x.2.2.1 x.2.2.2.1 false,.it .i64 (cm (DG x.1) x.2.1 x.2.2.1 x.2.2.2.1)]
def ZW:Ct:=s7 (ba AE (ba kA (ba iA (ba iA gJ)))) (fun x=>some (aq x.1)) fun x=> .tp [.st (jW x.1 x.2.1 x.2.2.1 x.2.2.2.1),Yj x.1 x.2.1 x.2.2.1 x.2.2.2.1 false,.it .i64 (cm x.1 x.2.1 x.2.2.1 x.2.2.2.1)]
def aan:kq:=YE A8 (fun x=>aw x.2.2) (fun L x=>aq L/\aw x.2.2) (fun L x=> .tp [Yj L x.1 x.2.1 (bO x.2.2) true,.it .i64 (cm L x.1 x.2.1 (bO x.2.2))]) fun L x=>kx L x.1 x.2.1 x.2.2
def ZL:kq:=Az A8 (fun L x=>aq L/\aw x.2.2) (fun L x=>ma L x.1 x.2.1 (bO x.2.2) true) (fun L x=>kx L x.1 x.2.1 x.2.2) fun L x=> [Yj L x.1 x.2.1 (bO x.2.2) true,.it .i64 (cm L x.1 x.2.1 (bO x.2.2))]
theorem R6 {L:List Obj} {k:Key} {r:Int} (h:aU L k=true) (h3:k.kind=3):aU L (pc r k)=true/\(pc r k).kind=3:=by
 unfold pc;split
 ·exact⟨h,h3⟩
 ·refine⟨?_,h3⟩;have hk:=(ei h).1;have hm:fy k.kind=1:=by rw[h3];rfl
  have hk':aV (dn k 1)=true:=by
   have hk1:=hk;simp only[aV,aaV,aaW]at hk1⊢;obtain⟨⟨⟨⟨⟨⟨⟨x1,x2⟩,x3⟩,x4⟩,x5⟩,x6⟩,x7⟩,x8⟩:=hk1;exact⟨⟨⟨⟨⟨⟨⟨x1,x2⟩,by show(0:Int)<=1;omega⟩,by show 1<=fy k.kind;omega⟩,x5⟩,x6⟩,x7⟩,x8⟩
  have hn:bf (dn k 1)=bf k:=by unfold bf;rw[hk,hk'];rfl
  have hw:gz (dn k 1)=gz k:=by unfold gz;rw[hn];rfl
  have hc:∀o,cI (dn k 1) o=cI k o:=fun o=>by unfold cI;rw[hn,hw,hk,hk'];rfl
  have hd:aZ (dn k 1)=aZ k:=by unfold aZ;rw[hk,hk'];rfl
  unfold aU at h⊢;rw[hd,hc];exact h
theorem HX {L:List Obj}:∀(n:Nat) (w:Wk),0<=w.adr->(jr L n w).kd=0->(aU L (jr L n w).pos=true/\(jr L n w).pos.kind=3)/\0<=(jr L n w).adr/\(jr L n w).adr<64
 |0,w,_,h=>absurd h (by show¬(3:Int)=0;omega)
 |n+1,w,ha,h=>by
  unfold jr QR at h⊢;split at h
  ·rename_i h3;split at h
   ·rename_i hlt;rw[aa2 h3,aa2 hlt];obtain⟨pe,pi⟩:=CX (.inr h3);rw[pe]at h3⊢;exact⟨R6 pi h3,ha,hlt⟩
   ·exact absurd h (by show¬(2:Int)=0;omega)
  ·rename_i h3;rw[aa1 h3];split at h
   ·rename_i h2;rw[aa2 h2];split at h
    ·rename_i r hr;unfold mC at hr;split at hr
     ·simp only[aaU,and_true]at hr;subst hr;exact absurd h (by show¬(3:Int)=0;omega)
     ·split at hr
      ·split at hr<;>simp only[aaU,and_true,reduceCtorEq,and_false]at hr
       subst hr;exact absurd h (by show¬(2:Int)=0;omega)
      ·simp only[aaU,and_true]at hr;subst hr;exact absurd h (by show¬(4:Int)=0;omega)
    ·rename_i r w' hr;refine HX n w' ?_ h;unfold mC at hr;split at hr
     ·simp at hr
     ·split at hr
      ·rename_i hf;split at hr<;>simp only[aaU,aaT,reduceCtorEq,and_false]at hr
       obtain⟨_,rfl⟩:=hr;have hf':=vG.1 hf;have he:=sN (show(di L (dn (ah L w.pos) 0) 15).value<=9 by omega)
       exact(sV ha he.1).2.2.1
      ·simp at hr
   ·exact absurd h (by show¬(1:Int)=0;omega)
theorem FW {L:List Obj} {k:Key} {a:Int} (hE:dM L k a=0) (h:(au L k a).kd=0):(aU L (au L k a).pos=true/\(au L k a).pos.kind=3)/\0<=(au L k a).adr/\(au L k a).adr<64:=by
 have ha:0<=a:=by
  unfold dM at hE;split at hE
  ·omega
  ·split at hE
   ·split at hE<;>omega
   ·omega
 unfold au at h⊢;rw[aa2 hE]at h⊢;exact HX 9 _ ha h
theorem tx {L:List Obj} {k:Key} {a n:Int} {w:Bool}:(!decide (cm L k a n=0)|| !decide (bW L k a n w=0))= !ma L k a n w:=by
 unfold ma;cases decide (cm L k a n=0)<;>cases decide (bW L k a n w=0)<;>rfl
theorem uf {L:List Obj} {k:Key} {a n:Int} {w:Bool} (h:ma L k a n w=true):cm L k a n=0/\bW L k a n w=0:=by
 unfold ma at h;simpa using h
theorem PQ {L:List Obj} {k:Key} {a n e:Int} (h:dM L k a=e) (he:e≠0):cm L k a n=e:=by unfold cm;rw[h,aa1 he]
theorem Zl {L:List Obj} {k:Key} {a n:Int} (h:dM L k a=0) (hr:(decide (n<0)||decide (64<n))=true):cm L k a n=4:=by
 unfold cm;rw[aa2 h,aa2 (by simpa using hr)]
theorem WV {L:List Obj} {k:Key} {a n:Int} (h:dM L k a=0) (hr:(decide (n<0)||decide (64<n))=false):cm L k a n=0:=by
 unfold cm;rw[aa2 h,aa1 (by simpa using hr)]
theorem yM {L:List Obj} {k:Key} {a n:Int} (h:cm L k a n=0):dM L k a=0/\0<=n/\n<=64:=by
 unfold cm at h;split at h
 ·rename_i hw;split at h
  ·omega
  ·exact⟨hw,by omega,by omega⟩
 ·rename_i hw;exact absurd h hw
theorem Xd {L:List Obj} {k:Key} {a n:Int} {w:Bool} (h:ma L k a n w=true):dM L k a=0/\(au L k a).kd=0/\0<=n/\(au L k a).adr+n<=64/\(w=true->(au L k a).pos.rights=0):=by
 unfold ma at h;rw[aaV,aaW,aaW]at h;obtain⟨hE,hF⟩:=h;obtain⟨h1,h2,h3⟩:=yM hE;unfold bW at hF;rw[aa2 hE]at hF;split at hF
 ·rename_i hk;split at hF
  ·omega
  ·split at hF
   ·omega
   ·rename_i h4 h5;exact⟨h1,hk,h2,by omega,fun hw=>by rw[hw]at h5;simpa using h5⟩
 ·rename_i hk;exact absurd hF hk
theorem qt {L:List Obj} {k:Key} {a n e:Int} {w:Bool} (h:cm L k a n=e) (he:e≠0):void=cw (bH L k a n w)/\0=cx (bH L k a n w)/\void=dr (bH L k a n w)/\0=dN (bH L k a n w)/\0=bW L k a n w/\void=fF L k a n w/\0=fI L k a n w/\e=cm L k a n:=by
 have hF:bW L k a n w=0:=by unfold bW;rw[h,aa1 he]
 have hC:ma L k a n w=false:=by unfold ma;rw[h,decide_eq_false he];rfl
 unfold bH fF fI;rw[hC,hF,h];exact⟨rfl,rfl,rfl,rfl,rfl,rfl,rfl,rfl⟩
theorem sK {L:List Obj} {k:Key} {a n d:Int} {w:Bool} (hE:cm L k a n=0) (h:bW L k a n w=d) (hd:d≠0):void=cw (bH L k a n w)/\0=cx (bH L k a n w)/\void=dr (bH L k a n w)/\0=dN (bH L k a n w)/\d=bW L k a n w/\(au L k a).kpr=fF L k a n w/\a=fI L k a n w/\0=cm L k a n:=by
 have hC:ma L k a n w=false:=by unfold ma;rw[h,decide_eq_false hd,Bool.and_false]
 unfold bH fF fI;rw[hC,h,hE,aa1 hd,aa1 hd];exact⟨rfl,rfl,rfl,rfl,rfl,rfl,rfl,rfl⟩
theorem Is {L:List Obj} {k:Key} {a n:Int} {w:Bool} (hE:cm L k a n=0) (h:bW L k a n w=0):cw (au L k a)=cw (bH L k a n w)/\cx (au L k a)=cx (bH L k a n w)/\dr (au L k a)=dr (bH L k a n w)/\dN (au L k a)=dN (bH L k a n w)/\0=bW L k a n w/\void=fF L k a n w/\0=fI L k a n w/\0=cm L k a n:=by
 have hC:ma L k a n w=true:=by unfold ma;rw[h,hE];rfl
 unfold bH fF fI;rw[hC,h,hE];exact⟨rfl,rfl,rfl,rfl,rfl,rfl,rfl,rfl⟩
theorem Ld {r:Wr} (h:r.kd=0):cw r=r.pos/\cx r=r.adr/\dr r=r.kpr:=by
 unfold cw cx dr;rw[aa2 h,aa2 h,aa2 h];exact⟨rfl,rfl,rfl⟩
theorem Y0 {r:Wr} {a:Int} (h:r.kd≠0):fa r=r.kd/\fS r=r.kpr/\fR r a=a:=by
 unfold fS fR;rw[aa1 h,aa1 h];exact⟨rfl,rfl,rfl⟩
theorem YT {L:List Obj} {k:Key} {a n:Int} {w:Bool} (hE:cm L k a n=0) (h:(au L k a).kd≠0):bW L k a n w=(au L k a).kd:=by unfold bW;rw[aa2 hE,aa1 h]
theorem aaq {L:List Obj} {k:Key} {a n:Int} {w:Bool} (hE:cm L k a n=0) (h:(au L k a).kd=0) (h5:64<(au L k a).adr+n):bW L k a n w=5:=by unfold bW;rw[aa2 hE,aa2 h,aa2 h5]
theorem ZM {L:List Obj} {k:Key} {a n:Int} {w:Bool} (hE:cm L k a n=0) (h:(au L k a).kd=0) (h5:¬64<(au L k a).adr+n) (h6:(w&& !decide ((au L k a).pos.rights=0))=true):bW L k a n w=6:=by unfold bW;rw[aa2 hE,aa2 h,aa1 h5,aa2 h6]
theorem aaf {L:List Obj} {k:Key} {a n:Int} {w:Bool} (hE:cm L k a n=0) (h:(au L k a).kd=0) (h5:¬64<(au L k a).adr+n) (h6:(w&& !decide ((au L k a).pos.rights=0))=false):bW L k a n w=0:=by unfold bW;rw[aa2 hE,aa2 h,aa1 h5,aa1 (by rw[h6];simp)]
theorem LP {L:List Obj} {k:Key} {a n:Int} {w:Bool} (h:ma L k a n w=true):(aU L (cw (bH L k a n w))=true/\(cw (bH L k a n w)).kind=3)/\aW L (cw (bH L k a n w)) w=0/\cB (cx (bH L k a n w)) n=true:=by
 obtain⟨h1,h2,h3,h4,h5⟩:=Xd h;obtain⟨⟨e1,e2⟩,e3,e4⟩:=FW h1 h2;obtain⟨f1,f2,_⟩:=Ld h2;unfold bH;rw[aa2 h,f1,f2];have hl:=ei e1
 have hA:aB L (au L k a).pos 3 false=0:=by
  unfold aB;rw[aa1 (by have:=hl.2.1;have:=hl.2.2.1;unfold ai;omega),aa1 (by rw[e1,e2];simp),aa1 (by simp)]
 refine⟨⟨e1,e2⟩,?_,nN.2 ⟨e3,h3,by omega,by omega⟩⟩
 unfold aW;rw[aa2 hA,aa1];cases w
 ·simp
 ·simp[h5 rfl]
theorem Ii {L:List Obj} {k:Key} {i:Int} {s:ByteArray} (hL:aq L):aq (eZ L k i s):=by
 unfold eZ;split
 ·rename_i h;unfold cL at h;split at h
  ·rename_i hp;obtain⟨a1,a2,_⟩:=nj hp;exact(qX hL a1 a2).2.2
  ·rename_i hp;exact absurd h hp
 ·exact hL
theorem WD {L:List Obj} {k:Key} {a:Int} {s:ByteArray} (hL:aq L):aq (kx L k a s):=by
 unfold kx;split
 ·exact Ii hL
 ·exact hL
structure Acs where
 kind:Int
 num:Int
 root:Key
 adr:Int
 bytes:ByteArray
structure Lnk where
 hgt:Int
 slot:Int
 rts:Int
 kept:Bool
theorem Wo {L:List Obj} {k:Key} {a:Int} {s:ByteArray} (h:ma L k a (bO s) true=false):kx L k a s=L:=by unfold kx;rw[h];rfl
end Go.Sx
namespace Go.Proofs.YtlblcfaclmpekaaGreat
open Go.Sx
theorem UN (h:Int) (hh:cc .i64 h) (hq:j6 h):
 abd (h-1)/\(∃g,C4 h g/\h=h/\64=bd (g+1)/\h-1=h-1/\0=g)/\∀(g:Int),C4 h g->aba (decide (g<h-1)) (abd (bd (g+1)*16)/\abd (g+1)/\∃g',C4 h g'/\(h-g').toNat<(h-g).toNat/\h=h/\bd (g+1)*16=bd (g'+1)/\h-1=h-1/\g+1=g') (bd (g+1)=bd h):=by
 delta aba abd
 obtain⟨q0,q9⟩:=hq;refine⟨by simp only[aF,cc]at *;omega,⟨0,⟨by omega,.inl rfl⟩,rfl,(nF (by omega)).symm,rfl,rfl⟩,fun g hg=>⟨fun hlt=>?_,fun hge=>?_⟩⟩
 ·obtain⟨g0,g1⟩:=hg;have hlt:=aaZ hlt;have hb:=sN (show g+1<=9 by omega)
  exact⟨by simp only[aF,cc];omega,by simp only[aF,cc];omega,g+1,⟨by omega,.inr (by omega)⟩,by omega,rfl,B1 (by omega),rfl,rfl⟩
 ·obtain⟨g0,g1⟩:=hg;have hge:=aaY hge;rcases g1 with rfl|g1
  ·rw[nF (by omega),nF (by omega)]
  ·rw[show g+1=h by omega]
theorem Ij:cz Tryz.prog 248 Ol:=
 eQ (aA dE bV) (fun _=>rfl) fun a hq hok=>by
  obtain⟨h,_⟩:=a;exact bc (inl:=bx) (ann:=(iJ [(248,3,Ws [0,2,5] (fun g=> [(3,.it .i64 (bd (yG g 1))),(6,.it .i64 g)]) (C4 h) h)])) ar (UN h hok.1 hq) (by kernel_rfl)
theorem OA (h:Int) (hh:cc .i64 h) (hq:j6 h):
 (∃g,Dq h g/\h=h/\64=bd g/\1=g)/\∀(g:Int),Dq h g->(decide (g<h)=true->aF IntKind.i64 (bd g*16)/\aF IntKind.i64 (g+1)/\∃g',Dq h g'/\(h-g').toNat<
  (h-g).toNat/\h=h/\bd g*16=bd g'/\g+1=g')/\(decide (g<h)=false->bd g=bd h):=by
 obtain⟨q0,q9⟩:=hq;refine⟨⟨1,⟨by omega,.inl rfl⟩,rfl,(nF (by omega)).symm,rfl⟩,fun g hg=>⟨fun hlt=>?_,fun hge=>?_⟩⟩
 ·obtain⟨g0,g1⟩:=hg;have hlt:=aaZ hlt;have hb:=sN (show g<=9 by omega)
  exact⟨by simp only[aF,cc];omega,by simp only[aF,cc];omega,g+1,⟨by omega,.inr (by omega)⟩,by omega,rfl,B1 (by omega),rfl⟩
 ·obtain⟨g0,g1⟩:=hg;have hge:=aaY hge;rcases g1 with rfl|g1
  ·rw[nF (by omega),nF (by omega)]
  ·rw[show g=h by omega]
theorem OC:cz Tryz.prog 229 Ol:=
 eQ (aA dE bV) (fun _=>rfl) fun a hq hok=>by
  obtain⟨h,_⟩:=a;exact bc (inl:=bx) (ann:=(iJ [(229,3,Ws [0,2] (fun g=> [(3,.it .i64 (bd g)),(4,.it .i64 g)]) (Dq h) h)])) ar (OA h hok.1 hq) (by kernel_rfl)
theorem Nq:
 ∀(nid:Nat),some (V.mp nid)=some (V.mp nid)/\some [aK.mp IntKind.i64 [3,2] [V.fn 245 [],V.fn 246 []]]=some [aK.mp IntKind.i64 [3,2] [V.fn 245 [],V.fn 246 []]]:=by
 exact fun nid=>⟨rfl,rfl⟩
theorem Fh:cz Tryz.prog 243 (A9 spX spN):=vq (π:= [0]) (by decide) (fun _=>rfl) (bm (inl:=bx) (ann:=aQ) ar aE Nq (by kernel_rfl))
abbrev acs(g:Wk)(k:Key)(a:Int):=ah [] g.pos=cw (au [] k a)/\g.adr=cx (au [] k a)/\g.kpr=dr (au [] k a)/\g.dep=dN (au [] k a)/\0=fa (au [] k a)/\void=fS (au [] k a)/\0=fR (au [] k a) a/\0=dM [] k a
abbrev acu(g:Wk):=aJ [] (abE 2 (ah [] g.pos) void.value) 15
abbrev acv(k:Key)(a:Int)(g:Wk):=aba (!decide (2=0)) (void=cw (au [] k a)/\0=cx (au [] k a)/\void=dr (au [] k a)/\0=dN (au [] k a)/\2=fa (au [] k a)/\g.kpr=fS (au [] k a)/\a=fR (au [] k a) a/\0=dM [] k a) (acs g k a)
abbrev acw(g:Wk):=bd (acu g).value
abbrev acx(g:Wk):=abE 2 (ah [] g.pos) void.value
theorem MJ (k:Key) (a:Int) (ha:cc .i64 a):
 abb (aba (decide (ak []=0)) (void=cw (au [] k a)/\0=cx (au [] k a)/\void=dr (au [] k a)/\0=dN (au [] k a)/\0=fa (au [] k a)/\void=fS (au [] k a)/\0=fR (au [] k a) a/\1=dM [] k a) (aba (!decide (bB k=0)||aZ k&&decide (ak []<=cy k)) (void=cw (au [] k a)/\0=cx (au [] k a)/\void=dr (au [] k a)/\0=dN (au [] k a)/\0=fa (au [] k a)/\void=fS (au [] k a)/\0=fR (au [] k a) a/\2=dM [] k a) (aba (decide (a<0)) (void=cw (au [] k a)/\0=cx (au [] k a)/\void=dr (au [] k a)/\0=dN (au [] k a)/\0=fa (au [] k a)/\void=fS (au [] k a)/\0=fR (au [] k a) a/\4=dM [] k a) (abb ((∃g,oi [] k a 0 g/\k=k/\void=void/\void=void/\void=void/\k=k/\Value.pointer none=Value.pointer none/\k=g.pos/\a=g.adr/\0=g.rts/\void=g.kpr/\0=g.dep/\0=g.hi/\false=false)/\∀(g:Wk),oi [] k a 0 g->abb (aba (!(decide ((ah [] g.pos).kind=3)||decide ((ah [] g.pos).kind=2))) (aba (!decide (1=0)) (void=cw (au [] k a)/\0=cx (au [] k a)/\void=dr (au [] k a)/\0=dN (au [] k a)/\1=fa (au [] k a)/\g.kpr=fS (au [] k a)/\a=fR (au [] k a) a/\0=dM [] k a) (acs g k a)) (aba (decide ((ah [] g.pos).kind=3)) (abb (abb (aba (!decide (g.adr<64)) (acv k a g) (aba (!decide (bk BinOp.and IntKind.i64 g.rts 3=0)) (Key.mk (ah [] g.pos).kind (ah [] g.pos).oid (ah [] g.pos).count (ah [] g.pos).call (bk BinOp.or IntKind.i64 (ah [] g.pos).rights 1) (ah [] g.pos).value=cw (au [] k a)/\g.adr=cx (au [] k a)/\g.kpr=dr (au [] k a)/\g.dep=dN (au [] k a)/\0=fa (au [] k a)/\void=fS (au [] k a)/\0=fR (au [] k a) a/\0=dM [] k a) (acs g k a))))) (aba (decide ((ah [] g.pos).kind=2)) (abb (abb (aba (!decide (g.dep<8)) (aba (!decide (3=0)) (void=cw (au [] k a)/\0=cx (au [] k a)/\void=dr (au [] k a)/\0=dN (au [] k a)/\3=fa (au [] k a)/\g.kpr=fS (au [] k a)/\a=fR (au [] k a) a/\0=dM [] k a) (acs g k a)) (abb (abb (aba (!(decide ((acu g).kind=1)&&decide (1<=(acu g).value)&&decide ((acu g).value<=8)&&(decide (g.dep=0)||decide ((acu g).value<g.hi)))) (aba (!decide (4=0)) (void=cw (au [] k a)/\0=cx (au [] k a)/\void=dr (au [] k a)/\0=dN (au [] k a)/\4=fa (au [] k a)/\g.kpr=fS (au [] k a)/\a=fR (au [] k a) a/\0=dM [] k a) (acs g k a)) (abb (aba (decide ((aJ [] (acx g) 14).kind=6)&&decide (bk BinOp.and IntKind.i64 (bk BinOp.or IntKind.i64 g.rts (ah [] g.pos).rights) 4=0)) (j6 (acu g).value/\(nX (acw g)/\abd (g.adr.tdiv (acw g)))/\abb (aba (!decide (g.adr.tdiv (acw g)<14)) (aba (!decide (2=0)) (void=cw (au [] k a)/\0=cx (au [] k a)/\void=dr (au [] k a)/\0=dN (au [] k a)/\2=fa (au [] k a)/\aJ [] (acx g) 14=fS (au [] k a)/\a=fR (au [] k a) a/\0=dM [] k a) (ah [] g.pos=cw (au [] k a)/\g.adr=cx (au [] k a)/\aJ [] (acx g) 14=dr (au [] k a)/\g.dep=dN (au [] k a)/\0=fa (au [] k a)/\void=fS (au [] k a)/\0=fR (au [] k a) a/\0=dM [] k a)) (abd (g.dep+1)/\(nX (acw g)/\abd (g.adr.tmod (acw g)))/\∃g',oi [] k a 0 g'/\pn g'<pn g/\k=k/\void=void/\void=void/\void=void/\k=k/\Value.pointer none=Value.pointer none/\aJ [] (ah [] g.pos) (g.adr.tdiv (acw g))=g'.pos/\g.adr.tmod (acw g)=g'.adr/\bk BinOp.or IntKind.i64 g.rts (ah [] g.pos).rights=g'.rts/\aJ [] (acx g) 14=g'.kpr/\g.dep+1=g'.dep/\(acu g).value=g'.hi/\false=false))) (j6 (acu g).value/\(nX (acw g)/\abd (g.adr.tdiv (acw g)))/\abb (aba (!decide (g.adr.tdiv (acw g)<14)) (acv k a g) (abd (g.dep+1)/\(nX (acw g)/\abd (g.adr.tmod (acw g)))/\∃g',oi [] k a 0 g'/\pn g'<pn g/\k=k/\void=void/\void=void/\void=void/\k=k/\Value.pointer none=Value.pointer none/\aJ [] (ah [] g.pos) (g.adr.tdiv (acw g))=g'.pos/\g.adr.tmod (acw g)=g'.adr/\bk BinOp.or IntKind.i64 g.rts (ah [] g.pos).rights=g'.rts/\g.kpr=g'.kpr/\g.dep+1=g'.dep/\(acu g).value=g'.hi/\false=false))))))))))) False)))))))):=by
 delta aba abE acx acw acv acu acs abd abb
 refine⟨rfl,fun h=>Aj (wE1 h) (by omega),fun h=>absurd h (by decide)⟩
theorem PL (k:Key) (a:Int) (ha:cc .i64 a):an Tryz.prog 236 [ke,.key k,.it .i64 a] [] (oW (DS [] k a)) (fun _ _=>False):=
 aY (inl:=(fun f=>f==235||f==241||f==244||f==245||f==246||f==247)) (ann:=(iJ [(241,2,YN [0,2] (fun _=> []) 0 (fun g=> .blk tW (wkV (ke) g)) (oi [] k a 0) pn)])) (ae Fh (ae bC (ae gy (ae dJ (ae iv (ae Ij (ae sQ ar))))))) aE (eg IF) (MJ k a ha) (by kernel_rfl)
abbrev acy(L:List Sx.Obj)(g:Wk)(k:Key)(a:Int):=ah L g.pos=cw (au L k a)/\g.adr=cx (au L k a)/\g.kpr=dr (au L k a)/\g.dep=dN (au L k a)/\0=fa (au L k a)/\void=fS (au L k a)/\0=fR (au L k a) a/\0=dM L k a
abbrev acz(L:List Sx.Obj)(g:Wk):=aJ L (abE 2 (ah L g.pos) void.value) 15
abbrev acA(L:List Sx.Obj)(k:Key)(a:Int)(g:Wk):=aba (!decide (2=0)) (void=cw (au L k a)/\0=cx (au L k a)/\void=dr (au L k a)/\0=dN (au L k a)/\2=fa (au L k a)/\g.kpr=fS (au L k a)/\a=fR (au L k a) a/\0=dM L k a) (acy L g k a)
abbrev acB(L:List Sx.Obj)(g:Wk):=bd (acz L g).value
theorem Tq (L:List Sx.Obj) (k:Key) (a:Int) (ha:cc .i64 a):
 abb (aba (decide (ak L=0)) (void=cw (au L k a)/\0=cx (au L k a)/\void=dr (au L k a)/\0=dN (au L k a)/\0=fa (au L k a)/\void=fS (au L k a)/\0=fR (au L k a) a/\1=dM L k a) (aba (!decide (bB k=0)||aZ k&&decide (ak L<=cy k)) (void=cw (au L k a)/\0=cx (au L k a)/\void=dr (au L k a)/\0=dN (au L k a)/\0=fa (au L k a)/\void=fS (au L k a)/\0=fR (au L k a) a/\2=dM L k a) (aba (decide (a<0)) (void=cw (au L k a)/\0=cx (au L k a)/\void=dr (au L k a)/\0=dN (au L k a)/\0=fa (au L k a)/\void=fS (au L k a)/\0=fR (au L k a) a/\4=dM L k a) (abb ((∃g,oi L k a 0 g/\L=L/\k=k/\void=void/\void=void/\void=void/\k=k/\k=g.pos/\a=g.adr/\0=g.rts/\void=g.kpr/\0=g.dep/\0=g.hi/\false=false)/\∀(g:Wk),oi L k a 0 g->abb (aba (!(decide ((ah L g.pos).kind=3)||decide ((ah L g.pos).kind=2))) (aba (!decide (1=0)) (void=cw (au L k a)/\0=cx (au L k a)/\void=dr (au L k a)/\0=dN (au L k a)/\1=fa (au L k a)/\g.kpr=fS (au L k a)/\a=fR (au L k a) a/\0=dM L k a) (acy L g k a)) (aba (decide ((ah L g.pos).kind=3)) (abb (abb (aba (!decide (g.adr<64)) (acA L k a g) (aba (!decide (bk BinOp.and IntKind.i64 g.rts 3=0)) (Key.mk (ah L g.pos).kind (ah L g.pos).oid (ah L g.pos).count (ah L g.pos).call (bk BinOp.or IntKind.i64 (ah L g.pos).rights 1) (ah L g.pos).value=cw (au L k a)/\g.adr=cx (au L k a)/\g.kpr=dr (au L k a)/\g.dep=dN (au L k a)/\0=fa (au L k a)/\void=fS (au L k a)/\0=fR (au L k a) a/\0=dM L k a) (acy L g k a))))) (aba (decide ((ah L g.pos).kind=2)) (abb (abb (aba (!decide (g.dep<8)) (aba (!decide (3=0)) (void=cw (au L k a)/\0=cx (au L k a)/\void=dr (au L k a)/\0=dN (au L k a)/\3=fa (au L k a)/\g.kpr=fS (au L k a)/\a=fR (au L k a) a/\0=dM L k a) (acy L g k a)) (abb (abb (aba (!(decide ((acz L g).kind=1)&&decide (1<=(acz L g).value)&&decide ((acz L g).value<=8)&&(decide (g.dep=0)||decide ((acz L g).value<g.hi)))) (aba (!decide (4=0)) (void=cw (au L k a)/\0=cx (au L k a)/\void=dr (au L k a)/\0=dN (au L k a)/\4=fa (au L k a)/\g.kpr=fS (au L k a)/\a=fR (au L k a) a/\0=dM L k a) (acy L g k a)) (abb (aba (decide ((aJ L (abE 2 (ah L g.pos) void.value) 14).kind=6)&&decide (bk BinOp.and IntKind.i64 (bk BinOp.or IntKind.i64 g.rts (ah L g.pos).rights) 4=0)) (j6 (acz L g).value/\(nX (acB L g)/\abd (g.adr.tdiv (acB L g)))/\abb (aba (!decide (g.adr.tdiv (acB L g)<14)) (aba (!decide (2=0)) (void=cw (au L k a)/\0=cx (au L k a)/\void=dr (au L k a)/\0=dN (au L k a)/\2=fa (au L k a)/\aJ L (abE 2 (ah L g.pos) void.value) 14=fS (au L k a)/\a=fR (au L k a) a/\0=dM L k a) (ah L g.pos=cw (au L k a)/\g.adr=cx (au L k a)/\aJ L (abE 2 (ah L g.pos) void.value) 14=dr (au L k a)/\g.dep=dN (au L k a)/\0=fa (au L k a)/\void=fS (au L k a)/\0=fR (au L k a) a/\0=dM L k a)) (abd (g.dep+1)/\(nX (acB L g)/\abd (g.adr.tmod (acB L g)))/\∃g',oi L k a 0 g'/\pn g'<pn g/\L=L/\k=k/\void=void/\void=void/\void=void/\k=k/\aJ L (ah L g.pos) (g.adr.tdiv (acB L g))=g'.pos/\g.adr.tmod (acB L g)=g'.adr/\bk BinOp.or IntKind.i64 g.rts (ah L g.pos).rights=g'.rts/\aJ L (abE 2 (ah L g.pos) void.value) 14=g'.kpr/\g.dep+1=g'.dep/\(acz L g).value=g'.hi/\false=false))) (j6 (acz L g).value/\(nX (acB L g)/\abd (g.adr.tdiv (acB L g)))/\abb (aba (!decide (g.adr.tdiv (acB L g)<14)) (acA L k a g) (abd (g.dep+1)/\(nX (acB L g)/\abd (g.adr.tmod (acB L g)))/\∃g',oi L k a 0 g'/\pn g'<pn g/\L=L/\k=k/\void=void/\void=void/\void=void/\k=k/\aJ L (ah L g.pos) (g.adr.tdiv (acB L g))=g'.pos/\g.adr.tmod (acB L g)=g'.adr/\bk BinOp.or IntKind.i64 g.rts (ah L g.pos).rights=g'.rts/\g.kpr=g'.kpr/\g.dep+1=g'.dep/\(acz L g).value=g'.hi/\false=false))))))))))) False)))))))):=by
 delta aba abE acB acA acz acy abd abb
 refine⟨rfl,fun h=>Aj (wE1 h) (by omega),fun h=>⟨fun h2=>?_,fun h2=>⟨fun h3=>?_,fun h3=>⟨rfl,?_,fun g hI=>⟨rfl,?_⟩⟩⟩⟩⟩
 ·rw[Bo,Bool.not_eq_true']at h2;exact Aj (by rw[Q0 h,h2];rfl) (by omega)
 ·rw[Bo,Bool.not_eq_false']at h2;exact Aj (by rw[Q0 h,h2,aa2 rfl,aa2 (aaZ h3)]) (by omega)
 ·refine⟨xM k a 0,Z0 (aaY h3) 0,?_⟩;repeat' apply And.intro
  all_goals rfl
 rw[Bo,Bool.not_eq_false']at h2;have hE:dM L k a=0:=by rw[Q0 h,h2,aa2 rfl,aa1 (aaY h3)]
 clear h h2 h3;obtain⟨⟨a1,a2⟩,⟨r1,r2⟩,⟨d1,d2⟩,e1,e2,e3⟩:=id hI;refine⟨fun v=>⟨fun _=>?_,fun h=>absurd h (by decide)⟩,fun v=>⟨fun v3=>⟨rfl,rfl,fun b=>⟨fun _=>?_,fun h=>absurd h (by decide)⟩,fun b=>⟨fun ro=>?_,fun ro=>?_⟩⟩,fun v3=>⟨fun v2=>?_,fun v2=>?_⟩⟩⟩
 ·simp only[Bool.not_eq_true',Bool.or_eq_false_iff,decide_eq_false_iff_not]at v;exact qF hI hE (Hi d1 d2 v.1 v.2) (by omega)
 ·have v3:=aaZ v3;exact qF hI hE (N7 d1 d2 v3 (by simpa using b)) (by omega)
 ·have v3:=aaZ v3;have hb:g.adr<64:=by simpa using b
  have hp:=jj (qi L g.pos);have hm:fy (ah L g.pos).kind=1:=by rw[v3];rfl
  rw[Tj r1 r2]at ro;have ro:g.rts.tmod 4≠0:=by simpa using ro
  refine HD hI hE ((ym d1 d2 v3 hb).trans ?_);rw[Fg hp.1 (by omega)]
  unfold pc;rw[aa1 ro];rfl
 ·have v3:=aaZ v3;have hb:g.adr<64:=by simpa using b
  rw[Tj r1 r2]at ro;have ro:g.rts.tmod 4=0:=by simpa using ro
  refine HD hI hE ((ym d1 d2 v3 hb).trans ?_);unfold pc;rw[aa2 ro]
 ·have v3:=aaY v3;have v2:=aaZ v2;obtain⟨pe,pi⟩:=CX (.inl v2);have pi':aU L (ah L g.pos)=true:=by rw[pe];exact pi
  have hp:=pk (qi L g.pos);have ho:=Ys r1 r2 hp.1 hp.2;rw[L9 (i:=15) pi' v2 (by omega) (by omega),L9 (i:=14) pi' v2 (by omega) (by omega),ho.1,aaI ho.2.1 ho.2.2]
  refine⟨rfl,rfl,fun b=>⟨fun _=>?_,fun h=>absurd h (by decide)⟩,fun b=>⟨rfl,rfl,fun f=>⟨fun _=>?_,fun h=>absurd h (by decide)⟩,fun f=>⟨rfl,?_⟩⟩⟩
  ·exact qF hI hE (Na d1 d2 v2 (by simpa using b)) (by omega)
  ·have b:g.dep<8:=by simpa using b
   exact qF hI hE (Hq d1 d2 v2 b (by unfold qK;rw[Bool.not_eq_true']at f;exact f)) (by omega)
  ·have b:g.dep<8:=by simpa using b
   have f:qK g (di L (dn (ah L g.pos) 0) 15)=true:=by unfold qK;rw[Bool.not_eq_false']at f;exact f
   have hf':=vG.1 f;have he:=sN (show(di L (dn (ah L g.pos) 0) 15).value<=9 by omega)
   have hd:=sV a1 he.1;have q1:j6 (di L (dn (ah L g.pos) 0) 15).value:=⟨by omega,by omega⟩
   have q2:nX (bd (di L (dn (ah L g.pos) 0) 15).value):=by unfold nX;omega
   unfold cc at ha;have q3:aF IntKind.i64 (g.adr.tdiv (bd (di L (dn (ah L g.pos) 0) 15).value)):=by simp only[aF,cc];omega
   have q4:aF IntKind.i64 (g.adr.tmod (bd (di L (dn (ah L g.pos) 0) 15).value)):=by simp only[aF,cc];omega
   have q5:aF IntKind.i64 (g.dep+1):=by simp only[aF,cc];omega
   have kp:∀b,(decide ((di L (dn (ah L g.pos) 0) 14).kind=6)&&decide (nS g.rts (ah L g.pos).rights<4))=b->wv (nS g.rts (ah L g.pos).rights) (di L (dn (ah L g.pos) 0) 14) g.kpr=if b then di L (dn (ah L g.pos) 0) 14 else g.kpr:=by
    intro b hb;unfold wv;cases b
    ·simp only[Bool.and_eq_false_iff,decide_eq_false_iff_not]at hb;rw[aa1 (by omega)];rfl
    ·simp only[aaV,aaW]at hb;rw[aa2 hb];rfl
   refine⟨fun c=>⟨q1,⟨q2,q3⟩,rfl,fun s=>⟨fun _=>?_,fun h=>absurd h (by decide)⟩,fun s=>⟨q5,⟨q2,q4⟩,OS L g,?_⟩⟩,fun c=>⟨q1,⟨q2,q3⟩,rfl,fun s=>⟨fun _=>?_,fun h=>absurd h (by decide)⟩,fun s=>⟨q5,⟨q2,q4⟩,OS L g,?_⟩⟩⟩
   ·exact qF hI hE ((Ce d1 d2 v2 b f (by simpa using s)).trans (by rw[kp _ c];rfl)) (by omega)
   ·have s:g.adr.tdiv (bd (di L (dn (ah L g.pos) 0) 15).value)<14:=by simpa using s
    obtain⟨n1,n2⟩:=PT hI v2 b f s;rw[Gz pi' v2 hd.1 (by omega)]
    refine⟨n1,n2,rfl,rfl,rfl,rfl,rfl,rfl,rfl,rfl,rfl,?_,rfl,rfl,rfl⟩;show _=wv _ _ _
    rw[kp _ c];rfl
   ·exact qF hI hE ((Ce d1 d2 v2 b f (by simpa using s)).trans (by rw[kp _ c];rfl)) (by omega)
   ·have s:g.adr.tdiv (bd (di L (dn (ah L g.pos) 0) 15).value)<14:=by simpa using s
    obtain⟨n1,n2⟩:=PT hI v2 b f s;rw[Gz pi' v2 hd.1 (by omega)]
    refine⟨n1,n2,rfl,rfl,rfl,rfl,rfl,rfl,rfl,rfl,rfl,?_,rfl,rfl,rfl⟩;show _=wv _ _ _
    rw[kp _ c];rfl
 ·simp only[Bool.not_eq_false',Bool.or_eq_true,aaW]at v;have v3:=aaY v3;have v2:=aaY v2;omega
theorem UA (L:List Sx.Obj) (k:Key) (a:Int) (ha:cc .i64 a):an Tryz.prog 236 [.lp 0 0,.key k,.it .i64 a] [.ro (.store tS eS L)] (oW (DS L k a)) (fun _ _=>False):=
 aY (inl:=(fun f=>f==235||f==241||f==244||f==245||f==246||f==247)) (ann:=(iJ [(241,2,YN [0,2] (fun _=> []) 0 (fun g=> .blk tW (wkV (.lp 0 0) g)) (oi L k a 0) pn)])) (ae Fh (ae bC (ae gy (ae dJ (ae iv (ae Ij (ae sQ ar))))))) aE (eg IF) (Tq L k a ha) (by kernel_rfl)
theorem Hw:cz Tryz.prog 236 XP:=
 eQ (aA tk (aA iI (aA dE bV))) (fun _=>rfl) fun a hq hok=>by
  obtain⟨S,k,i,_⟩:=a;cases S with
  |none=>exact PL k i hok.2.2.1
  |some L=>exact UA L k i hok.2.2.1
abbrev acC(L:List Sx.Obj)(g:Wk):=(aj L g.pos.oid.toNat free).slots.at 15
abbrev acD(L:List Sx.Obj)(g:Wk):=bd (acC L g).value
abbrev acE(L:List Sx.Obj)(k:Key)(a:Int):=void=cw (au L k a)/\0=cx (au L k a)/\void=dr (au L k a)/\0=dN (au L k a)/\0=fa (au L k a)/\void=fS (au L k a)/\0=fR (au L k a) a/\2=dM L k a
abbrev acF(L:List Sx.Obj)(k:Key)(a:Int)(g:Wk):=void=cw (au L k a)/\0=cx (au L k a)/\void=dr (au L k a)/\0=dN (au L k a)/\2=fa (au L k a)/\g.kpr=fS (au L k a)/\a=fR (au L k a) a/\0=dM L k a
theorem MF (L:List Sx.Obj) (k:Key) (a:Int) (ha:cc .i64 a) (hL:aq L):
 aba (decide (bQ (ai L)=0)) (void=cw (au L k a)/\0=cx (au L k a)/\void=dr (au L k a)/\0=dN (au L k a)/\0=fa (au L k a)/\void=fS (au L k a)/\0=fR (au L k a) a/\1=dM L k a) (aba (!bJ L k) (acE L k a) (aba (decide (a<0)) (void=cw (au L k a)/\0=cx (au L k a)/\void=dr (au L k a)/\0=dN (au L k a)/\0=fa (au L k a)/\void=fS (au L k a)/\0=fR (au L k a) a/\4=dM L k a) ((∃g,oi L k a 99 g/\a=a/\a=g.adr/\0=g.rts/\99=g.hi/\0=g.dep/\L=L/\k=k/\void=void/\void=void/\void=void/\k=g.pos/\void=g.kpr)/\∀(g:Wk),oi L k a 99 g->aba (decide (g.dep<20)) (aba (!aU L g.pos|| !decide (g.pos.kind=2)&& !decide (g.pos.kind=3)) (void=cw (au L k a)/\0=cx (au L k a)/\void=dr (au L k a)/\0=dN (au L k a)/\1=fa (au L k a)/\g.kpr=fS (au L k a)/\a=fR (au L k a) a/\0=dM L k a) (aba (decide (g.pos.kind=3)) (aba (decide (63<g.adr)) (acF L k a g) ((nX 4/\abd (g.rts.tmod 4))/\aba (!decide (g.rts.tmod 4=0)) (Key.mk g.pos.kind g.pos.oid g.pos.count g.pos.call 1 g.pos.value=cw (au L k a)/\g.adr=cx (au L k a)/\g.kpr=dr (au L k a)/\g.dep=dN (au L k a)/\0=fa (au L k a)/\void=fS (au L k a)/\0=fR (au L k a) a/\0=dM L k a) (g.pos=cw (au L k a)/\g.adr=cx (au L k a)/\g.kpr=dr (au L k a)/\g.dep=dN (au L k a)/\0=fa (au L k a)/\void=fS (au L k a)/\0=fR (au L k a) a/\0=dM L k a))) (aba (decide (8<=g.dep)) (void=cw (au L k a)/\0=cx (au L k a)/\void=dr (au L k a)/\0=dN (au L k a)/\3=fa (au L k a)/\g.kpr=fS (au L k a)/\a=fR (au L k a) a/\0=dM L k a) ((∃g_1,kZ g_1/\a=a/\g.adr=g.adr/\g.rts=fX g.rts g.pos.rights g_1/\g.hi=g.hi/\g.dep=g.dep/\1=g_1/\L=L/\k=k/\void=void/\void=void/\void=void/\g.pos=g.pos/\g.kpr=g.kpr/\g.kpr=g.kpr/\a=a)/\∀(g_1:Int),kZ g_1->aba (decide (g_1<=4)) ((nX g_1/\abd (g.pos.rights.tdiv g_1))/\(nX 2/\abd ((g.pos.rights.tdiv g_1).tmod 2))/\(decide ((g.pos.rights.tdiv g_1).tmod 2=1)=true->nX g_1/\abd ((fX g.rts g.pos.rights g_1).tdiv g_1))/\(decide ((g.pos.rights.tdiv g_1).tmod 2=1)=true->nX 2/\abd (((fX g.rts g.pos.rights g_1).tdiv g_1).tmod 2))/\aba (decide ((g.pos.rights.tdiv g_1).tmod 2=1)&&decide (((fX g.rts g.pos.rights g_1).tdiv g_1).tmod 2=0)) (abd (fX g.rts g.pos.rights g_1+g_1)/\abd (g_1*2)/\∃g',kZ g'/\(8-g').toNat<(8-g_1).toNat/\a=a/\g.adr=g.adr/\fX g.rts g.pos.rights g_1+g_1=fX g.rts g.pos.rights g'/\g.hi=g.hi/\g.dep=g.dep/\g_1*2=g'/\L=L/\k=k/\void=void/\void=void/\void=void/\g.pos=g.pos/\g.kpr=g.kpr/\g.kpr=g.kpr/\a=a) (abd (g_1*2)/\∃g',kZ g'/\(8-g').toNat<(8-g_1).toNat/\a=a/\g.adr=g.adr/\fX g.rts g.pos.rights g_1=fX g.rts g.pos.rights g'/\g.hi=g.hi/\g.dep=g.dep/\g_1*2=g'/\L=L/\k=k/\void=void/\void=void/\void=void/\g.pos=g.pos/\g.kpr=g.kpr/\g.kpr=g.kpr/\a=a)) ((0<=g.pos.oid/\g.pos.oid< ↑(ai L))/\g.pos.oid.toNat<ai L/\aba (!decide ((acC L g).kind=1)||decide ((acC L g).value<1)||decide (8<(acC L g).value)||decide (g.hi<=(acC L g).value)) (void=cw (au L k a)/\0=cx (au L k a)/\void=dr (au L k a)/\0=dN (au L k a)/\4=fa (au L k a)/\g.kpr=fS (au L k a)/\a=fR (au L k a) a/\0=dM L k a) (aba (decide ((ah L ((aj L g.pos.oid.toNat free).slots.at 14)).kind=6)&&decide (fX g.rts g.pos.rights g_1<4)) (j6 (acC L g).value/\(nX (acD L g)/\abd (g.adr.tdiv (acD L g)))/\aba (decide (13<g.adr.tdiv (acD L g))) (void=cw (au L k a)/\0=cx (au L k a)/\void=dr (au L k a)/\0=dN (au L k a)/\2=fa (au L k a)/\ah L ((aj L g.pos.oid.toNat free).slots.at 14)=fS (au L k a)/\a=fR (au L k a) a/\0=dM L k a) (j6 (acC L g).value/\(nX (acD L g)/\abd (g.adr.tmod (acD L g)))/\oL L g.pos (g.adr.tdiv (acD L g))/\abd (g.dep+1)/\∃g',oi L k a 99 g'/\pn g'<pn g/\a=a/\g.adr.tmod (acD L g)=g'.adr/\fX g.rts g.pos.rights g_1=g'.rts/\(acC L g).value=g'.hi/\g.dep+1=g'.dep/\L=L/\k=k/\void=void/\void=void/\void=void/\di L g.pos (g.adr.tdiv (acD L g))=g'.pos/\ah L ((aj L g.pos.oid.toNat free).slots.at 14)=g'.kpr)) (j6 (acC L g).value/\(nX (acD L g)/\abd (g.adr.tdiv (acD L g)))/\aba (decide (13<g.adr.tdiv (acD L g))) (acF L k a g) (j6 (acC L g).value/\(nX (acD L g)/\abd (g.adr.tmod (acD L g)))/\oL L g.pos (g.adr.tdiv (acD L g))/\abd (g.dep+1)/\∃g',oi L k a 99 g'/\pn g'<pn g/\a=a/\g.adr.tmod (acD L g)=g'.adr/\fX g.rts g.pos.rights g_1=g'.rts/\(acC L g).value=g'.hi/\g.dep+1=g'.dep/\L=L/\k=k/\void=void/\void=void/\void=void/\di L g.pos (g.adr.tdiv (acD L g))=g'.pos/\g.kpr=g'.kpr)))))))) (acE L k a)))):=by
 delta aba acF acE acD acC abd
 refine⟨fun h=>Aj (wE1 h) (by omega),fun h=>⟨fun h2=>?_,fun h2=>⟨fun h3=>?_,fun h3=>⟨?_,fun g hI=>⟨fun _=>?_,fun hd=>?_⟩⟩⟩⟩⟩
 ·rw[Bool.not_eq_true']at h2;exact Aj (by rw[Q0 h,h2];rfl) (by omega)
 ·rw[Bool.not_eq_false']at h2;exact Aj (by rw[Q0 h,h2,aa2 rfl,aa2 (aaZ h3)]) (by omega)
 ·refine⟨xM k a 99,Z0 (aaY h3) 99,?_⟩;repeat' apply And.intro
  all_goals rfl
 rotate_left
 ·have:=hI.2.2.1.2;have:=aaY hd;omega
 rw[Bool.not_eq_false']at h2;have hE:dM L k a=0:=by rw[Q0 h,h2,aa2 rfl,aa1 (aaY h3)]
 clear h h2 h3;obtain⟨⟨a1,a2⟩,⟨r1,r2⟩,⟨d1,d2⟩,e1,e2,e3⟩:=id hI;refine⟨fun v=>?_,fun v=>?_⟩
 ·have hv:∀d:Int,d=2\/d=3->(ah L g.pos).kind≠d:=fun d hd hk=>by
   obtain⟨p1,p2⟩:=CX (L:=L) (k:=g.pos) (by rw[hk];exact hd)
   rw[p1]at hk;rw[p2,hk]at v;rcases hd with rfl|rfl<;>simp at v
  exact qF hI hE (Hi d1 d2 (hv 3 (.inr rfl)) (hv 2 (.inl rfl))) (by omega)
 simp only[Bool.or_eq_false_iff,Bool.not_eq_false',Bool.and_eq_false_iff,aaW]at v;obtain⟨vi,vk⟩:=v;have pe:ah L g.pos=g.pos:=TU vi;have hall:=ei vi;have hp:=pk hall.1;refine⟨fun v3=>⟨fun b=>?_,fun b=>⟨⟨by unfold nX;omega,?_⟩,fun ro=>?_,fun ro=>?_⟩⟩,fun v3=>⟨fun b=>?_,fun b=>⟨?_,fun i hi=>⟨fun hlt=>?_,fun hge=>?_⟩⟩⟩⟩
 ·have v3:=aaZ v3;have b:=aaZ b;exact qF hI hE (N7 d1 d2 (by rw[pe];exact v3) (by omega)) (by omega)
 ·have h1:=Int.tmod_lt_of_pos g.rts (show(0:Int)<4 by omega)
  have h2:=Int.lt_tmod_of_pos g.rts (show(0:Int)<4 by omega)
  simp only[aF,cc];omega
 ·have v3:=aaZ v3;have b:=aaY b;have ro:g.rts.tmod 4≠0:=by simpa using ro
  have:=ym d1 d2 (by rw[pe];exact v3) (by omega)
  rw[pe]at this;unfold pc at this;rw[aa1 ro]at this;exact HD hI hE this
 ·have v3:=aaZ v3;have b:=aaY b;have ro:g.rts.tmod 4=0:=by simpa using ro
  have:=ym d1 d2 (by rw[pe];exact v3) (by omega)
  rw[pe]at this;unfold pc at this;rw[aa2 ro]at this;exact HD hI hE this
 ·have v3:=aaY v3;have b:=aaZ b;exact qF hI hE (Na d1 d2 (by rw[pe];omega) (by omega)) (by omega)
 ·refine⟨1,.inl rfl,?_⟩;have:=(ZC (r:=g.rts) (m:=g.pos.rights)).symm;repeat' apply And.intro
  all_goals first|rfl|exact this
 ·have hlt:=aaZ hlt;have hi3:i=1\/i=2\/i=4:=by unfold kZ at hi;omega
  obtain⟨⟨o1,o2⟩,o3,o4⟩:=Zk r1 r2 hp.1 hp.2 hi3;have hne:nX i:=by unfold nX;omega
  have h2:nX 2:=by unfold nX;omega
  have hi4:i=1\/i=2\/i=4\/i=8:=hi;have hn:kZ (i*2)/\(8-i*2).toNat<(8-i).toNat:=by unfold kZ;omega
  have t1:aF IntKind.i64 (g.pos.rights.tdiv i):=uE (by simp only[cc];omega) hi4
  have t2:aF IntKind.i64 ((fX g.rts g.pos.rights i).tdiv i):=uE (by simp only[cc];omega) hi4
  refine⟨⟨hne,t1⟩,⟨h2,pq _⟩,fun _=>⟨hne,t2⟩,fun _=>⟨h2,pq _⟩,fun c=>⟨by simp only[aF,cc];omega,by simp only[aF,cc];omega,i*2,hn.1,hn.2,?_⟩,fun c=>⟨by simp only[aF,cc];omega,i*2,hn.1,hn.2,?_⟩⟩
  ·have:=o3 c;repeat' apply And.intro
   all_goals first|rfl|exact this
  ·have:=o4 c;repeat' apply And.intro
   all_goals first|rfl|exact this
 ·have hge:=aaY hge;have hi8:i=8:=by unfold kZ at hi;omega
  subst hi8;have v3:=aaY v3;have b:=aaY b;have v2:g.pos.kind=2:=by omega
  have v2':(ah L g.pos).kind=2:=by rw[pe];exact v2
  have hsl:=(uh hL vi v2 15 (by omega)).1
  have hO:0<=nS g.rts g.pos.rights/\nS g.rts g.pos.rights<=7:=(Ys r1 r2 hp.1 hp.2).2;have hraw:=Tt (L:=L) hsl (by have:=hall.2.1;have:=hall.2.2.1;omega)
  have eG:∀j,di L (dn (ah L g.pos) 0) j=ah L ((aj L g.pos.oid.toNat free).slots.at j.toNat):=fun j=>by rw[pe];rfl
  have e15:di L (dn (ah L g.pos) 0) 15=ah L ((aj L g.pos.oid.toNat free).slots.at 15):=eG 15;have e14:di L (dn (ah L g.pos) 0) 14=ah L ((aj L g.pos.oid.toNat free).slots.at 14):=eG 14;generalize hS:(aj L g.pos.oid.toNat free).slots.at 15=S at *
  refine⟨⟨hall.2.1,hall.2.2.1⟩,by have:=hall.2.1;have:=hall.2.2.1;unfold ai;omega,fun f=>?_,fun f=>?_⟩
  ·refine qF hI hE (Hq d1 d2 v2' (by omega) ?_) (by omega)
   rw[e15];rw[Bool.eq_false_iff,ne_eq,vG];rintro⟨f1,f2,f3,f4⟩
   have:ah L S=S:=hraw.1 (by by_cases hk:S.kind=1;exact hk;exact absurd f1 (hraw.2 hk))
   rw[this]at f1 f2 f3 f4;simp only[Bool.or_eq_true,Bool.not_eq_true',aaW,decide_eq_false_iff_not]at f;rcases f4 with f4|f4
   ·have:=e1 f4;omega
   ·omega
  ·simp only[Bool.or_eq_false_iff,Bool.not_eq_false',aaW,decide_eq_false_iff_not]at f;obtain⟨⟨⟨f1,f2⟩,f3⟩,f4⟩:=f;have eS:ah L S=S:=hraw.1 f1;rw[eS]at e15;have fh:qK g (di L (dn (ah L g.pos) 0) 15)=true:=by rw[e15,vG];exact⟨f1,by omega,by omega,.inr (by omega)⟩
   have he:=sN (show S.value<=9 by omega)
   have hd:=sV a1 he.1;have q1:j6 S.value:=⟨by omega,by omega⟩
   have q2:nX (bd S.value):=by unfold nX;omega
   unfold cc at ha;have q3:aF IntKind.i64 (g.adr.tdiv (bd S.value)):=by simp only[aF,cc];omega
   have q4:aF IntKind.i64 (g.adr.tmod (bd S.value)):=by simp only[aF,cc];omega
   have q5:aF IntKind.i64 (g.dep+1):=by simp only[aF,cc];omega
   have kp:∀b,(decide ((ah L ((aj L g.pos.oid.toNat free).slots.at 14)).kind=6)&&decide (fX g.rts g.pos.rights 8<4))=b->wv (nS g.rts g.pos.rights) (ah L ((aj L g.pos.oid.toNat free).slots.at 14)) g.kpr=if b then ah L ((aj L g.pos.oid.toNat free).slots.at 14)else g.kpr:=by
    intro b hb;unfold wv nS;cases b
    ·simp only[Bool.and_eq_false_iff,decide_eq_false_iff_not]at hb;rw[aa1 (by omega)];rfl
    ·simp only[aaV,aaW]at hb;rw[aa2 hb];rfl
   have gs:∀s:¬g.adr.tdiv (bd S.value)<14,jr L (9-g.dep).toNat g=⟨2,void,0,wv (nS g.rts g.pos.rights) (ah L ((aj L g.pos.oid.toNat free).slots.at 14)) g.kpr,0⟩:=fun s=>by
    have:=Ce d1 d2 v2' (by omega) fh (by rw[e15];exact s)
    rw[e14,pe]at this;exact this
   have gn:∀s:g.adr.tdiv (bd S.value)<14,oi L k a 99 ⟨di L g.pos (g.adr.tdiv (bd S.value)),g.adr.tmod (bd S.value),nS g.rts g.pos.rights,wv (nS g.rts g.pos.rights) (ah L ((aj L g.pos.oid.toNat free).slots.at 14)) g.kpr,g.dep+1,S.value⟩/\
     pn ⟨di L g.pos (g.adr.tdiv (bd S.value)),g.adr.tmod (bd S.value),nS g.rts g.pos.rights,wv (nS g.rts g.pos.rights) (ah L ((aj L g.pos.oid.toNat free).slots.at 14)) g.kpr,g.dep+1,S.value⟩<pn g:=fun s=>by
    have:=PT hI v2' (by omega) fh (by rw[e15];exact s)
    unfold OS at this;rw[e15,e14,pe]at this;exact this
   refine⟨fun c=>⟨q1,⟨q2,q3⟩,fun s=>?_,fun s=>⟨q1,⟨q2,q4⟩,?_,q5,_,(gn ?_).1,(gn ?_).2,?_⟩⟩,fun c=>⟨q1,⟨q2,q3⟩,fun s=>?_,fun s=>⟨q1,⟨q2,q4⟩,?_,q5,_,(gn ?_).1,(gn ?_).2,?_⟩⟩⟩
   ·have s:=aaZ s;exact qF hI hE ((gs (by omega)).trans (by rw[kp _ c];rfl)) (by omega)
   ·have s:=aaY s;exact⟨hd.1,by omega,hall.2.1,hall.2.2.1⟩
   ·have s:=aaY s;omega
   ·have s:=aaY s;omega
   ·have:=kp _ c;repeat' apply And.intro
    all_goals first|with_reducible rfl|exact this.symm|rfl
   ·have s:=aaZ s;exact qF hI hE ((gs (by omega)).trans (by rw[kp _ c];rfl)) (by omega)
   ·have s:=aaY s;exact⟨hd.1,by omega,hall.2.1,hall.2.2.1⟩
   ·have s:=aaY s;omega
   ·have s:=aaY s;omega
   ·have:=kp _ c;repeat' apply And.intro
    all_goals first|with_reducible rfl|exact this.symm|rfl
theorem Pk (L:List Sx.Obj) (k:Key) (a:Int) (ha:cc .i64 a) (hL:aq L):an Tryz.prog 192 [.sa 0,.key k,.it .i64 a] [.ro (.arr none 163 (.ob L))] (oW (DS L k a)) (fun _ _=>False):=
 bc (inl:=bx) (ann:=(iJ [(192,10,lpT [0,2,4,6,7,8,9,13] (fun g=> [(10,.it .i64 g.adr),(11,.it .i64 g.rts),(12,.it .i64 g.hi),(14,.it .i64 g.dep)]) (fun g=> [(4,.blk tK (.key g.pos)),(5,.blk tK (.key g.kpr))]) (oi L k a 99) pn),(192,27,aaz [0,2,4,6,7,8,9,10,12,13,14,15] kZ 8)])) (ae yV (ae mf (ae pL (ae OC (ae x9 ar))))) (MF L k a ha hL) (by kernel_rfl)
theorem LJ:cz Tryz.prog 192 Rr:=
 eQ (aA jC (aA iI (aA dE bV))) (fun _=>rfl) fun a hq hok=>by
  obtain⟨L,k,i,_⟩:=a;exact Pk L k i hok.2.2.1 hq
abbrev acG(k:Key)(a:Int)(n:Int)(w:Bool):=void=cw (bH [] k a n w)/\0=cx (bH [] k a n w)/\void=dr (bH [] k a n w)/\0=dN (bH [] k a n w)/\0=bW [] k a n w/\void=fF [] k a n w/\0=fI [] k a n w/\4=cm [] k a n
theorem UR (k:Key) (a:Int) (n:Int) (w:Bool):
 abb (aba (decide (ak []=0)) (void=cw (bH [] k a n w)/\0=cx (bH [] k a n w)/\void=dr (bH [] k a n w)/\0=dN (bH [] k a n w)/\0=bW [] k a n w/\void=fF [] k a n w/\0=fI [] k a n w/\1=cm [] k a n) (aba (!decide (bB k=0)||aZ k&&decide (ak []<=cy k)) (void=cw (bH [] k a n w)/\0=cx (bH [] k a n w)/\void=dr (bH [] k a n w)/\0=dN (bH [] k a n w)/\0=bW [] k a n w/\void=fF [] k a n w/\0=fI [] k a n w/\2=cm [] k a n) (aba (decide (a<0)) (acG k a n w) (aba (decide (n<0)||decide (64<n)) (acG k a n w) (aba (!decide (fa (au [] k a)=0)) (void=cw (bH [] k a n w)/\0=cx (bH [] k a n w)/\void=dr (bH [] k a n w)/\0=dN (bH [] k a n w)/\fa (au [] k a)=bW [] k a n w/\fS (au [] k a)=fF [] k a n w/\fR (au [] k a) a=fI [] k a n w/\0=cm [] k a n) (aF IntKind.i64 (cx (au [] k a)+n)/\aba (decide (64<cx (au [] k a)+n)) (abb (void=cw (bH [] k a n w)/\0=cx (bH [] k a n w)/\void=dr (bH [] k a n w)/\0=dN (bH [] k a n w)/\5=bW [] k a n w/\dr (au [] k a)=fF [] k a n w/\a=fI [] k a n w/\0=cm [] k a n)) (aba (w&& !decide (bk BinOp.and IntKind.i64 (cw (au [] k a)).rights 1=0)) (abb (void=cw (bH [] k a n w)/\0=cx (bH [] k a n w)/\void=dr (bH [] k a n w)/\0=dN (bH [] k a n w)/\6=bW [] k a n w/\dr (au [] k a)=fF [] k a n w/\a=fI [] k a n w/\0=cm [] k a n)) (cw (au [] k a)=cw (bH [] k a n w)/\cx (au [] k a)=cx (bH [] k a n w)/\dr (au [] k a)=dr (bH [] k a n w)/\dN (au [] k a)=dN (bH [] k a n w)/\0=bW [] k a n w/\void=fF [] k a n w/\0=fI [] k a n w/\0=cm [] k a n)))))))):=by
 delta aba acG abb
 exact⟨rfl,fun h=>qt (PQ (wE1 h) (by omega)) (by omega),fun h=>absurd h (by decide)⟩
abbrev acH(L:List Sx.Obj)(k:Key)(a:Int)(n:Int)(w:Bool):=void=cw (bH L k a n w)/\0=cx (bH L k a n w)/\void=dr (bH L k a n w)/\0=dN (bH L k a n w)/\0=bW L k a n w/\void=fF L k a n w/\0=fI L k a n w/\4=cm L k a n
theorem WZ (L:List Sx.Obj) (k:Key) (a:Int) (n:Int) (w:Bool):
 abb (aba (decide (ak L=0)) (void=cw (bH L k a n w)/\0=cx (bH L k a n w)/\void=dr (bH L k a n w)/\0=dN (bH L k a n w)/\0=bW L k a n w/\void=fF L k a n w/\0=fI L k a n w/\1=cm L k a n) (aba (!decide (bB k=0)||aZ k&&decide (ak L<=cy k)) (void=cw (bH L k a n w)/\0=cx (bH L k a n w)/\void=dr (bH L k a n w)/\0=dN (bH L k a n w)/\0=bW L k a n w/\void=fF L k a n w/\0=fI L k a n w/\2=cm L k a n) (aba (decide (a<0)) (acH L k a n w) (aba (decide (n<0)||decide (64<n)) (acH L k a n w) (aba (!decide (fa (au L k a)=0)) (void=cw (bH L k a n w)/\0=cx (bH L k a n w)/\void=dr (bH L k a n w)/\0=dN (bH L k a n w)/\fa (au L k a)=bW L k a n w/\fS (au L k a)=fF L k a n w/\fR (au L k a) a=fI L k a n w/\0=cm L k a n) (aF IntKind.i64 (cx (au L k a)+n)/\aba (decide (64<cx (au L k a)+n)) (abb (void=cw (bH L k a n w)/\0=cx (bH L k a n w)/\void=dr (bH L k a n w)/\0=dN (bH L k a n w)/\5=bW L k a n w/\dr (au L k a)=fF L k a n w/\a=fI L k a n w/\0=cm L k a n)) (aba (w&& !decide (bk BinOp.and IntKind.i64 (cw (au L k a)).rights 1=0)) (abb (void=cw (bH L k a n w)/\0=cx (bH L k a n w)/\void=dr (bH L k a n w)/\0=dN (bH L k a n w)/\6=bW L k a n w/\dr (au L k a)=fF L k a n w/\a=fI L k a n w/\0=cm L k a n)) (cw (au L k a)=cw (bH L k a n w)/\cx (au L k a)=cx (bH L k a n w)/\dr (au L k a)=dr (bH L k a n w)/\dN (au L k a)=dN (bH L k a n w)/\0=bW L k a n w/\void=fF L k a n w/\0=fI L k a n w/\0=cm L k a n)))))))):=by
 delta aba acH abb
 refine⟨rfl,fun h=>qt (PQ (wE1 h) (by omega)) (by omega),fun h=>⟨fun h2=>?_,fun h2=>⟨fun h3=>?_,fun h3=>?_⟩⟩⟩
 ·rw[Bo,Bool.not_eq_true']at h2;exact qt (PQ (by rw[Q0 h,h2];rfl) (by omega)) (by omega)
 ·rw[Bo,Bool.not_eq_false']at h2;exact qt (PQ (by rw[Q0 h,h2,aa2 rfl,aa2 (aaZ h3)]) (by omega)) (by omega)
 rw[Bo,Bool.not_eq_false']at h2;have hW:dM L k a=0:=by rw[Q0 h,h2,aa2 rfl,aa1 (aaY h3)]
 clear h h2 h3;refine⟨fun h=>qt (Zl hW h) (by omega),fun h=>?_⟩
 have hE:=WV hW h;refine⟨fun hk=>?_,fun hk=>?_⟩
 ·have hk:fa (au L k a)≠0:=by simpa using hk
  have hk:(au L k a).kd≠0:=hk;obtain⟨u1,u2,u3⟩:=Y0 (a:=a) hk;rw[u1,u2,u3];exact sK hE (YT hE hk) hk
 have hk:fa (au L k a)=0:=by simpa using hk
 have hk:(au L k a).kd=0:=hk;obtain⟨⟨e1,e2⟩,e3,e4⟩:=FW hW hk;obtain⟨f1,f2,f3⟩:=Ld hk;have hr:=CO e1 e2;obtain⟨_,n0,n1⟩:=yM hE;rw[f1,f2,f3];rw[XT hr.1 hr.2];refine⟨by simp only[aF,cc];omega,fun h5=>?_,fun h5=>⟨fun h6=>?_,fun h6=>?_⟩⟩
 ·exact⟨rfl,sK hE (aaq hE hk (aaZ h5)) (by omega)⟩
 ·exact⟨rfl,sK hE (ZM hE hk (aaY h5) h6) (by omega)⟩
 ·have:=Is hE (aaf hE hk (aaY h5) h6);rw[f1,f2,f3]at this;exact this
theorem z9:cz Tryz.prog 233 YW:=
 eQ (aA tk (aA iI (aA dE (aA dE (aA Fa bV))))) (fun _=>rfl) fun a hq hok=>by
  obtain⟨S,k,i,n,w,_⟩:=a;cases S with
  |none=>exact bc (inl:=(fun f=>f==235||f==237)) (ann:=aQ) (ae bC (ae gy (ae dJ (ae Hw ar)))) (UR k i n w) (by kernel_rfl)
  |some L=>exact bc (inl:=(fun f=>f==235||f==237)) (ann:=aQ) (ae bC (ae gy (ae dJ (ae Hw ar)))) (WZ L k i n w) (by kernel_rfl)
theorem Sw (L:List Sx.Obj) (k:Key) (a:Int) (n:Int) (w:Bool) (hL:aq L):
 aq L/\aba (decide (dM L k a=0)&&(decide (n<0)||decide (64<n))) (void=cw (bH L k a n w)/\0=cx (bH L k a n w)/\void=dr (bH L k a n w)/\0=dN (bH L k a n w)/\0=bW L k a n w/\void=fF L k a n w/\0=fI L k a n w/\4=cm L k a n) (aba (!decide (dM L k a=0)|| !decide (fa (au L k a)=0)) (void=cw (bH L k a n w)/\0=cx (bH L k a n w)/\void=dr (bH L k a n w)/\0=dN (bH L k a n w)/\fa (au L k a)=bW L k a n w/\fS (au L k a)=fF L k a n w/\fR (au L k a) a=fI L k a n w/\dM L k a=cm L k a n) (aF IntKind.i64 (cx (au L k a)+n)/\aba (decide (64<cx (au L k a)+n)) (void=cw (bH L k a n w)/\0=cx (bH L k a n w)/\void=dr (bH L k a n w)/\0=dN (bH L k a n w)/\5=bW L k a n w/\dr (au L k a)=fF L k a n w/\a=fI L k a n w/\0=cm L k a n) (aba (w&& !decide ((cw (au L k a)).rights=0)) (void=cw (bH L k a n w)/\0=cx (bH L k a n w)/\void=dr (bH L k a n w)/\0=dN (bH L k a n w)/\6=bW L k a n w/\dr (au L k a)=fF L k a n w/\a=fI L k a n w/\0=cm L k a n) (cw (au L k a)=cw (bH L k a n w)/\cx (au L k a)=cx (bH L k a n w)/\dr (au L k a)=dr (bH L k a n w)/\dN (au L k a)=dN (bH L k a n w)/\0=bW L k a n w/\void=fF L k a n w/\0=fI L k a n w/\0=cm L k a n)))):=by
 delta aba
 refine⟨hL,fun h=>?_,fun h=>⟨fun h2=>?_,fun h2=>?_⟩⟩
 ·rw[aaV,aaW]at h;exact qt (Zl h.1 h.2) (by omega)
 ·by_cases hW:dM L k a=0
  ·rw[decide_eq_true hW,Bool.true_and]at h;rw[decide_eq_true hW]at h2;have hE:=WV hW h;have hk:fa (au L k a)≠0:=by simpa using h2
   have hk:(au L k a).kd≠0:=hk;obtain⟨u1,u2,u3⟩:=Y0 (a:=a) hk;rw[u1,u2,u3,hW];exact sK hE (YT hE hk) hk
  ·have hr:au L k a=YK:=by unfold au;rw[aa1 hW]
   rw[hr];exact qt (PQ rfl hW) hW
 simp only[Bool.or_eq_false_iff,Bool.not_eq_false',aaW]at h2;obtain⟨hW,hk⟩:=h2;rw[decide_eq_true hW,Bool.true_and]at h;have hE:=WV hW h;have hk:(au L k a).kd=0:=hk;obtain⟨⟨e1,e2⟩,e3,e4⟩:=FW hW hk;obtain⟨f1,f2,f3⟩:=Ld hk;obtain⟨_,n0,n1⟩:=yM hE;rw[f1,f2,f3];refine⟨by simp only[aF,cc];omega,fun h5=>?_,fun h5=>⟨fun h6=>?_,fun h6=>?_⟩⟩
 ·exact sK hE (aaq hE hk (aaZ h5)) (by omega)
 ·exact sK hE (ZM hE hk (aaY h5) h6) (by omega)
 ·have:=Is hE (aaf hE hk (aaY h5) h6);rw[f1,f2,f3]at this;exact this
theorem H5:cz Tryz.prog 141 XG:=
 eQ (aA jC (aA iI (aA dE (aA dE (aA Fa bV))))) (fun _=>rfl) fun a hq hok=>by
  obtain⟨L,k,i,n,w,_⟩:=a;exact bc (inl:=bx) (ann:=aQ) (ae LJ ar) (Sw L k i n w hq) (by kernel_rfl)
theorem Xo (L:List Sx.Obj) (k:Key) (i:Int) (s:ByteArray) (hL:aq L) (hs:aw s):
 (decide (aW L k true=0)=true->abd (bO s))/\aba (decide (aW L k true=0)&& !cB i (bO s)) (ki L k i s=false/\4=cL L k i s) (aba (!decide (aW L k true=0)) (ki L k i s=false/\aW L k true=cL L k i s) ((0<=k.oid/\k.oid< ↑(ai L))/\k.oid.toNat<ai L/\(∃g,ry s g/\k=k/\i=i/\s=s/\Value.slice none 0 0=Value.slice none 0 0/\aW L k true=aW L k true/\0=g/\L=L/\k=k/\aj L k.oid.toNat free=tz L k i s g)/\∀(g:Int),ry s g->abd (bO s)/\aba (decide (g<bO s)) (abd (i+g)/\pSz s g/\(0<=i+g/\i+g< ↑64)/\abd (g+1)/\∃g',ry s g'/\xc s g'<xc s g/\k=k/\i=i/\s=s/\Value.slice none 0 0=Value.slice none 0 0/\aW L k true=aW L k true/\g+1=g'/\L=L/\k=k/\Obj.mk (tz L k i s g).kind (tz L k i s g).count (tz L k i s g).calls (tz L k i s g).slots ((tz L k i s g).bytes.put (i+g).toNat (sat s g.toNat))=tz L k i s g') (dO L k.oid/\ki L k i s=true/\0=cL L k i s/\b6 L k.oid.toNat (tz L k i s g)=eZ L k i s))):=by
 delta aba abd
 have hsz:aF IntKind.i64 (bO s):=by unfold aw at hs;simp only[aF,cc,bO];omega
 refine⟨fun _=>hsz,fun h=>?_,fun h=>⟨fun h'=>?_,fun h'=>?_⟩⟩
 ·rw[aaV,aaW]at h;obtain⟨e1,e2⟩:=Mo h.1 h.2;exact⟨by unfold ki;rw[<-e1];rfl,e1⟩
 ·have h':aW L k true≠0:=by simpa using h'
  obtain⟨e1,e2⟩:=wk (i:=i) (z:=s) rfl h';exact⟨by unfold ki;rw[<-e1];simpa using h',e1⟩
 ·have h':aW L k true=0:=by simpa using h'
  have hi:(!cB i (bO s))=false:=by rw[h']at h;simpa using h
  have hi':cB i (bO s)=true:=by simpa using hi
  obtain⟨i0,i1,i2,i3⟩:=nN.1 hi';have i3:(s.size:Int)<=64-i:=i3;have hE:cL L k i s=0:=by unfold cL;rw[aa2 h',hi'];rfl
  obtain⟨r1,r2,r3,r4⟩:=pD hL (nj h').1;refine⟨⟨r2,r3⟩,r4,⟨0,⟨by omega,by omega⟩,?_⟩,fun g hg=>⟨hsz,fun hlt=>?_,fun hge=>?_⟩⟩
  ·have hz:=Tb (L:=L) (k:=k) (i:=i) (s:=s);repeat' apply And.intro
   all_goals first|with_reducible rfl|exact hz
  ·obtain⟨g0,g1⟩:=hg;have hlt:g<(s.size:Int):=aaZ hlt;have hs:=SF (L:=L) (k:=k) (i:=i) (s:=s) (g:=g) i0 g0 (by omega)
   refine⟨by simp only[aF,cc];omega,⟨g0,hlt⟩,⟨by omega,by omega⟩,by simp only[aF,cc];omega,g+1,⟨by omega,by omega⟩,by unfold xc;omega,?_⟩
   repeat' apply And.intro
   all_goals first|with_reducible rfl|exact hs
  ·obtain⟨g0,g1⟩:=hg;have hge:¬g<(s.size:Int):=aaY hge;have hg:g=(s.size:Int):=by omega
   subst hg;refine⟨r1,by unfold ki;simpa using hE,hE.symm,?_⟩
   unfold eZ;rw[hE,aa2 rfl];rfl
theorem Yd (L:List Sx.Obj) (k:Key) (i:Int) (s:ByteArray) (hL:aq L) (hs:aw s):an Tryz.prog 115 [.sa 0,.key k,.it .i64 i,.st s] [.ro (.arr none 163 (.ob L))] (yA (ki L k i s) (eZ L k i s) [.it .i64 (cL L k i s)]) (fun _ _=>False):=
 bm (inl:=bx) (ann:=(iJ [(115,8,YN [0,1,2,3,4,5,8,9,10,11] (fun g=> [(12,.it .i64 g)]) 11 (fun g=> .blk tO (.ob (tz L k i s g))) (ry s) (xc s))])) (ae vp (ae ug (ae jG ar))) aE (Xo L k i s hL hs) (by kernel_rfl)
theorem OW:lh Tryz.prog 115 Z8:=
 iP (m:=fun x=> [.key x.1,.it .i64 x.2.1,.st x.2.2]) vb (fun _=>rfl) (fun _ _=>rfl) fun L x hq=>Yd L x.1 x.2.1 x.2.2 hq.1 hq.2
theorem VC (k:Key) (a:Int) (n:Int):
 aba (!decide (cm [] k a n=0)|| !decide (bW [] k a n false=0)) (ByteArray.mk (Array.mk [])=jW [] k a n/\bW [] k a n false=bW [] k a n false/\fF [] k a n false=fF [] k a n false/\fI [] k a n false=fI [] k a n false/\cm [] k a n=cm [] k a n) (ec [] (cw (bH [] k a n false)) (cx (bH [] k a n false)) n=jW [] k a n/\0=bW [] k a n false/\void=fF [] k a n false/\0=fI [] k a n false/\0=cm [] k a n):=by
 delta aba
 rw[tx];refine⟨fun h=>⟨?_,rfl,rfl,rfl,rfl⟩,fun h=>?_⟩
 ·rw[Bool.not_eq_true']at h;unfold jW;rw[aa1 (by rw[h];simp)]
 ·rw[Bool.not_eq_false']at h;have h0:=uf h;unfold jW fF fI;rw[aa2 h,h0.1,h0.2];exact⟨rfl,rfl,rfl,rfl,rfl⟩
theorem ZB (L:List Sx.Obj) (k:Key) (a:Int) (n:Int):
 aba (!decide (cm L k a n=0)|| !decide (bW L k a n false=0)) (ByteArray.mk (Array.mk [])=jW L k a n/\bW L k a n false=bW L k a n false/\fF L k a n false=fF L k a n false/\fI L k a n false=fI L k a n false/\cm L k a n=cm L k a n) (ec L (cw (bH L k a n false)) (cx (bH L k a n false)) n=jW L k a n/\0=bW L k a n false/\void=fF L k a n false/\0=fI L k a n false/\0=cm L k a n):=by
 delta aba
 rw[tx];refine⟨fun h=>⟨?_,rfl,rfl,rfl,rfl⟩,fun h=>?_⟩
 ·rw[Bool.not_eq_true']at h;unfold jW;rw[aa1 (by rw[h];simp)]
 ·rw[Bool.not_eq_false']at h;have h0:=uf h;unfold jW fF fI;rw[aa2 h,h0.1,h0.2];exact⟨rfl,rfl,rfl,rfl,rfl⟩
theorem Zj:cz Tryz.prog 226 aaD:=
 eQ (aA tk (aA iI (aA dE (aA dE bV)))) (fun _=>rfl) fun a hq hok=>by
  obtain⟨S,k,i,n,_⟩:=a;cases S with
  |none=>exact bc (inl:=bx) (ann:=aQ) (ae z9 (ae ph (ae bC ar))) (VC k i n) (by kernel_rfl)
  |some L=>exact bc (inl:=bx) (ann:=aQ) (ae z9 (ae ph (ae bC ar))) (ZB L k i n) (by kernel_rfl)
abbrev acI(L:List Sx.Obj)(k:Key)(a:Int)(n:Int):=abJ=jW L k a n/\bW L k a n false=bW L k a n false/\fF L k a n false=fF L k a n false/\fI L k a n false=fI L k a n false/\0=cm L k a n
theorem WH (L:List Sx.Obj) (k:Key) (a:Int) (n:Int) (hL:aq L):
 aq L/\aba (!decide (cm L k a n=0)|| !decide (bW L k a n false=0)) (abJ=jW L k a n/\bW L k a n false=bW L k a n false/\fF L k a n false=fF L k a n false/\fI L k a n false=fI L k a n false/\cm L k a n=cm L k a n) (true=true/\aba (decide (aW L (cw (bH L k a n false)) false=0)&& !cB (cx (bH L k a n false)) n) (acI L k a n) (aba (!decide (aW L (cw (bH L k a n false)) false=0)) (acI L k a n) ((0<=(cw (bH L k a n false)).oid/\(cw (bH L k a n false)).oid< ↑(ai L))/\aF IntKind.i64 (cx (bH L k a n false)+n)/\CU (cx (bH L k a n false)) (cx (bH L k a n false)+n) 64/\(cw (bH L k a n false)).oid.toNat<ai L/\xN (aj L (cw (bH L k a n false)).oid.toNat free).bytes (cx (bH L k a n false)).toNat (cx (bH L k a n false)+n).toNat=jW L k a n/\bW L k a n false=bW L k a n false/\fF L k a n false=fF L k a n false/\fI L k a n false=fI L k a n false/\0=cm L k a n))):=by
 delta aba abJ acI
 rw[tx];refine⟨hL,fun h=>⟨?_,rfl,rfl,rfl,rfl⟩,fun h=>?_⟩
 ·rw[Bool.not_eq_true']at h;unfold jW;rw[aa1 (by rw[h];simp)]
 ·rw[Bool.not_eq_false']at h;have h0:=uf h;have hC:ma L k a n false=true:=h;obtain⟨⟨p1,p2⟩,p3,p4⟩:=LP hC;obtain⟨r1,r2,r3,r4⟩:=pD hL p1;obtain⟨e1,e2,e3,e4⟩:=xS p3 (by rw[p4];rfl)
  refine⟨rfl,fun h=>?_,fun _=>⟨fun h=>?_,fun _=>⟨⟨r2,r3⟩,e1,e2,r4,?_,rfl,rfl,rfl,h0.1.symm⟩⟩⟩
  ·rw[p4]at h;simp at h
  ·rw[p3]at h;simp at h
  ·unfold jW;rw[aa2 hC];exact e3
theorem WS:cz Tryz.prog 123 ZW:=
 eQ (aA jC (aA iI (aA dE (aA dE bV)))) (fun _=>rfl) fun a hq hok=>by
  obtain⟨L,k,i,n,_⟩:=a;exact bc (inl:=(fun f=>f==114||f==110)) (ann:=aQ) (ae H5 (ae vp (ae ug ar))) (WH L k i n hq) (by kernel_rfl)
theorem Sz (k:Key) (a:Int) (s:ByteArray) (hs:aw s):
 aF IntKind.i64 (bO s)/\aba (!decide (cm [] k a (bO s)=0)|| !decide (bW [] k a (bO s) true=0)) (bW [] k a (bO s) true=bW [] k a (bO s) true/\fF [] k a (bO s) true=fF [] k a (bO s) true/\fI [] k a (bO s) true=fI [] k a (bO s) true/\cm [] k a (bO s)=cm [] k a (bO s)) (true=true/\0=bW [] k a (bO s) true/\void=fF [] k a (bO s) true/\0=fI [] k a (bO s) true/\0=cm [] k a (bO s)):=by
 delta aba
 have hsz:aF IntKind.i64 (bO s):=by unfold aw at hs;simp only[aF,cc,bO];omega
 rw[tx];refine⟨hsz,fun h=>⟨rfl,rfl,rfl,rfl⟩,fun h=>?_⟩
 rw[Bool.not_eq_false']at h;have:=(yM (uf h).1).1;have h1:dM [] k a=1:=rfl;omega
theorem Tw (k:Key) (a:Int) (s:ByteArray) (hs:aw s):
 aF IntKind.i64 (bO s)/\aba (!decide (cm [] k a (bO s)=0)|| !decide (bW [] k a (bO s) true=0)) (bW [] k a (bO s) true=bW [] k a (bO s) true/\fF [] k a (bO s) true=fF [] k a (bO s) true/\fI [] k a (bO s) true=fI [] k a (bO s) true/\cm [] k a (bO s)=cm [] k a (bO s)) (true=true/\False):=by
 delta aba
 have hsz:aF IntKind.i64 (bO s):=by unfold aw at hs;simp only[aF,cc,bO];omega
 rw[tx];refine⟨hsz,fun h=>⟨rfl,rfl,rfl,rfl⟩,fun h=>?_⟩
 rw[Bool.not_eq_false']at h;have:=(yM (uf h).1).1;have h1:dM [] k a=1:=rfl;omega
theorem Yo (L:List Sx.Obj) (k:Key) (a:Int) (s:ByteArray) (hL:aq L) (hs:aw s):
 aF IntKind.i64 (bO s)/\aba (!decide (cm L k a (bO s)=0)|| !decide (bW L k a (bO s) true=0)) ((bW L k a (bO s) true=bW L k a (bO s) true/\fF L k a (bO s) true=fF L k a (bO s) true/\fI L k a (bO s) true=fI L k a (bO s) true/\cm L k a (bO s)=cm L k a (bO s))/\L=kx L k a s) (true=true/\(aq L/\aw s)/\(0=bW L k a (bO s) true/\void=fF L k a (bO s) true/\0=fI L k a (bO s) true/\0=cm L k a (bO s))/\eZ L (cw (bH L k a (bO s) true)) (cx (bH L k a (bO s) true)) s=kx L k a s):=by
 delta aba
 have hsz:aF IntKind.i64 (bO s):=by unfold aw at hs;simp only[aF,cc,bO];omega
 rw[tx];refine⟨hsz,fun h=>⟨⟨rfl,rfl,rfl,rfl⟩,?_⟩,fun h=>?_⟩
 ·rw[Bool.not_eq_true']at h;unfold kx;rw[aa1 (by rw[h];simp)]
 ·rw[Bool.not_eq_false']at h;have h0:=uf h;refine⟨rfl,⟨hL,hs⟩,?_,?_⟩
  ·unfold fF fI;rw[h0.1,h0.2];exact⟨rfl,rfl,rfl,rfl⟩
  ·unfold kx;rw[aa2 h]
theorem WO (L:List Sx.Obj) (k:Key) (a:Int) (s:ByteArray) (hL:aq L) (hs:aw s):an Tryz.prog 228 [.lp 0 0,.key k,.it .i64 a,.st s] [.store tS eS L] (CA (.tp [Yj L k a (bO s) true,.it .i64 (cm L k a (bO s))]) (kx L k a s)) (fun _ _=>False):=
 bm (inl:=bx) (ann:=aQ) (ae z9 (ae ph (ae bC ar))) (aC Ds aE) (Yo L k a s hL hs) (by kernel_rfl)
theorem WG:lh Tryz.prog 228 aan:=
 C6 (m:=fun x=> [.key x.1,.it .i64 x.2.1,.st x.2.2]) vb (fun _=>rfl) (fun _ _=>rfl) (fun x hs=>bm (inl:=bx) (ann:=aQ) (ae z9 (ae ph (ae bC ar))) (aC Ds aE) (Sz x.1 x.2.1 x.2.2 hs) (by kernel_rfl)) (fun x hs=>bm (inl:=bx) (ann:=aQ) (ae z9 (ae ph (ae bC ar))) (aC Ds aE) (Tw x.1 x.2.1 x.2.2 hs) (by kernel_rfl)) fun L x hL=>WO L x.1 x.2.1 x.2.2 hL.1 hL.2
theorem Xh (L:List Sx.Obj) (k:Key) (a:Int) (s:ByteArray) (hL:aq L) (hs:aw s):
 aF IntKind.i64 (bO s)/\aq L/\aba (!decide (cm L k a (bO s)=0)|| !decide (bW L k a (bO s) true=0)) (ma L k a (bO s) true=false/\bW L k a (bO s) true=bW L k a (bO s) true/\fF L k a (bO s) true=fF L k a (bO s) true/\fI L k a (bO s) true=fI L k a (bO s) true/\cm L k a (bO s)=cm L k a (bO s)) (true=true/\(aq L/\aw s)/\(ki L (cw (bH L k a (bO s) true)) (cx (bH L k a (bO s) true)) s=false->ma L k a (bO s) true=false/\bW L k a (bO s) true=bW L k a (bO s) true/\fF L k a (bO s) true=fF L k a (bO s) true/\fI L k a (bO s) true=fI L k a (bO s) true/\0=cm L k a (bO s))/\(ki L (cw (bH L k a (bO s) true)) (cx (bH L k a (bO s) true)) s=true->ma L k a (bO s) true=true/\(bW L k a (bO s) true=bW L k a (bO s) true/\fF L k a (bO s) true=fF L k a (bO s) true/\fI L k a (bO s) true=fI L k a (bO s) true/\0=cm L k a (bO s))/\eZ L (cw (bH L k a (bO s) true)) (cx (bH L k a (bO s) true)) s=kx L k a s)):=by
 delta aba
 have hsz:aF IntKind.i64 (bO s):=by unfold aw at hs;simp only[aF,cc,bO];omega
 rw[tx];refine⟨hsz,hL,fun h=>⟨?_,rfl,rfl,rfl,rfl⟩,fun h=>?_⟩
 ·rw[Bool.not_eq_true']at h;exact h
 ·rw[Bool.not_eq_false']at h;have h0:=uf h;have hC:ma L k a (bO s) true=true:=h;obtain⟨⟨p1,p2⟩,p3,p4⟩:=LP hC;have hE:cL L (cw (bH L k a (bO s) true)) (cx (bH L k a (bO s) true)) s=0:=by unfold cL;rw[aa2 p3,p4];rfl
  refine⟨rfl,⟨hL,hs⟩,fun h=>?_,fun _=>⟨hC,⟨rfl,rfl,rfl,h0.1.symm⟩,?_⟩⟩
  ·unfold ki at h;rw[hE]at h;simp at h
  ·unfold kx;rw[aa2 hC]
theorem Xf (L:List Sx.Obj) (k:Key) (a:Int) (s:ByteArray) (hL:aq L) (hs:aw s):an Tryz.prog 124 [.sa 0,.key k,.it .i64 a,.st s] [.ro (.arr none 163 (.ob L))] (yA (ma L k a (bO s) true) (kx L k a s) [Yj L k a (bO s) true,.it .i64 (cm L k a (bO s))]) (fun _ _=>False):=
 bm (inl:=bx) (ann:=aQ) (ae H5 ar) (aC OW aE) (Xh L k a s hL hs) (by kernel_rfl)
theorem X1:lh Tryz.prog 124 ZL:=
 iP (m:=fun x=> [.key x.1,.it .i64 x.2.1,.st x.2.2]) vb (fun _=>rfl) (fun _ _=>rfl) fun L x hq=>Xf L x.1 x.2.1 x.2.2 hq.1 hq.2
end Go.Proofs.YtlblcfaclmpekaaGreat
namespace Go.Sx
def v9 (o:Obj):Bool:=decide (o.kind=1)&&decide ((o.slots.at 2).kind=1)&&decide (0<=(o.slots.at 2).value)&&decide ((o.slots.at 2).value<=2)
def dS (L:List Obj) (i:Int):Bool:=v9 (aL L i)
def iG (L:List Obj) (i:Int):Int:=if dS L i=true then((aL L i).slots.at 2).value else 0
def bw (L:List Obj) (i:Int):Int:=if dS L i=true then((aL L i).slots.at 2).value else -1
def iQ:ly (Int×Unit):=ba iA gJ
theorem U5:gR iQ:=aA dE bV
def VI:Ct:=s7 (ba AE iQ) (fun _=>none) fun x=> .it .i64 (bw x.1 x.2.1)
def aar:Ct:=s7 (ba sA iQ) (fun _=>none) fun x=> .tp [.it .i64 (iG (DG x.1) x.2.1),.bo (dS (DG x.1) x.2.1)]
theorem Lc {L:List Obj} {i:Int} (h:i<0\/(L.length:Int)<=i):aL L i=free:=by
 unfold aL;rw[aa1 fun e=>by have:=mR.1 e;omega]
theorem uQ (o:Obj):v9 o=true↔o.kind=1/\(o.slots.at 2).kind=1/\0<=(o.slots.at 2).value/\(o.slots.at 2).value<=2:=by
 unfold v9;simp only[aaV,aaW,and_assoc]
theorem ur {L:List Obj} {i:Int} (h:dS L i=false):bw L i= -1/\iG L i=0:=by
 unfold bw iG;rw[h];exact⟨rfl,rfl⟩
theorem mG {L:List Obj} {i:Int} (h:dS L i=true):bw L i=((aL L i).slots.at 2).value/\iG L i=((aL L i).slots.at 2).value:=by
 unfold bw iG;rw[h];exact⟨rfl,rfl⟩
theorem yg (o:Obj):(!decide (o.kind=1)|| !decide ((o.slots.at 2).kind=1)||decide ((o.slots.at 2).value<0)||decide (2<(o.slots.at 2).value))= !v9 o:=by
 have h:=uQ o;cases hp:v9 o with
 |true=>
  obtain⟨a,b,c,d⟩:=h.1 hp;have c':¬(o.slots.at 2).value<0:=by omega
  have d':¬2<(o.slots.at 2).value:=by omega
  simp[a,b,c',d']
 |false=>
  rw[Bool.not_false,Bool.or_eq_true,Bool.or_eq_true,Bool.or_eq_true,Bool.not_eq_true',Bool.not_eq_true',decide_eq_false_iff_not,decide_eq_false_iff_not,aaW,aaW];rw[hp]at h;have hn:¬(o.kind=1/\(o.slots.at 2).kind=1/\0<=(o.slots.at 2).value/\(o.slots.at 2).value<=2):=fun hh=>by have:=h.2 hh;simp at this
  omega
def er (L:List Obj) (i st:Int):Int:=if ai L=0 then 1 else if¬(aL L i).kind=1 then 230 else if st<0\/2<st then 2 else 0
def EC (o:Obj) (st:Int):Obj:= {o with slots:=o.slots.put 2 (bL st)}
def dg (L:List Obj) (i st:Int):List Obj:=if er L i st=0 then b6 L i.toNat (EC (aL L i) st)else L
def ku (L:List Obj) (i st:Int):Bool:=decide (er L i st=0)
def Z7:ly (Int×Int×Unit):=ba iA (ba iA gJ)
theorem OV:gR Z7:=aA dE (aA dE bV)
def VH:kq:=Az (uw Z7) (fun L _=>aq L) (fun L x=>ku L x.1 x.2.1) (fun L x=>dg L x.1 x.2.1) fun L x=> [.it .i64 (er L x.1 x.2.1)]
def ZK:kq:=JV (uw Z7) (fun L _=>aq L) (fun L x=> .it .i64 (er L x.1 x.2.1)) fun L x=>dg L x.1 x.2.1
structure bp where
 code:Int
 data:ByteArray
 k0:Key
 k1:Key
 k2:Key
def jJ (m:bp):V:= .ag [.it .i64 m.code,.st m.data,.ag [.key m.k0,.key m.k1,.key m.k2]]
def cY:bp:=⟨0,⟨#[]⟩,void,void,void⟩
def AL (v:V):Option bp:=
 match v with
 | .ag l=>match l with
   | [a,b,c]=>match rI .i64 a with
     |some n=>match EM b with
      |some s=>match c with
       | .ag l'=>match l' with
         | [x,y,z]=>match rK x with
           |some k=>match rK y with
            |some k'=>match rK z with
             |some k''=>some ⟨n,s,k,k',k''⟩
             |none=>none
            |none=>none
           |none=>none
         |_=>none
       |_=>none
      |none=>none
     |none=>none
   |_=>none
 |_=>none
theorem DA:tc AL jJ:=by
 intro v x h;unfold AL at h;split at h
 case h_2=>simp at h
 split at h
 case h_2=>simp at h
 rename_i a b c;split at h
 case h_2=>simp at h
 rename_i n hn;split at h
 case h_2=>simp at h
 rename_i s hs;split at h
 case h_2=>simp at h
 split at h
 case h_2=>simp at h
 rename_i p q r;split at h
 case h_2=>simp at h
 rename_i k hk;split at h
 case h_2=>simp at h
 rename_i k' hk';split at h<;>simp only[aaT,reduceCtorEq]at h
 rename_i k'' hk'';subst h;refine⟨fun J=>?_,fun K hK=>?_⟩
 ·simp only[den,jJ,bn,(gq .i64 _ _ hn).1 J,(yq _ _ hs).1 J,(gI _ _ hk).1 J,(gI _ _ hk').1 J,(gI _ _ hk'').1 J]
 ·obtain⟨h1,h2⟩:=hK;obtain⟨g1,g2⟩:=h1.2.2.1;exact⟨⟨(gq .i64 _ _ hn).2 K h1.1,(yq _ _ hs).2 K h1.2.1,⟨⟨(gI _ _ hk).2 K g1.1,(gI _ _ hk').2 K g1.2.1,(gI _ _ hk'').2 K g1.2.2.1,trivial⟩,by simp[tv]⟩,trivial⟩,by simp[tv]⟩
def mA:Arg bp:=Fw AL jJ
theorem zY:m8 mA:=sm DA (fun _=>rfl) fun v x h=>by cases v<;>simp[AL]at h;rfl
def fk (L:List Obj) (m:bp):Bool:=decide (bO m.data<=32)&&bJ L m.k0&&bJ L m.k1&&bJ L m.k2
def aH (L:List Obj) (m:bp):bp:=⟨m.code,m.data,ah L m.k0,ah L m.k1,ah L m.k2⟩
def Br (s:cZ) (m:bp) (a:Key):cZ:=(((((s.put 2 (bL 1)).put 3 (bL m.code)).put 12 m.k0).put 13 m.k1).put 14 m.k2).put 15 a
def Bm (s:ByteArray) (g:Int):Bytes:=s6 (e9.put 0 (UInt8.ofNat s.size)) 1 g.toNat s
def za (o:Obj) (m:bp) (a:Key):Obj:=⟨o.kind,o.count,o.calls,Br o.slots m a,Bm m.data (bO m.data)⟩
def r9 (L:List Obj) (i:Int) (m:bp) (a:Key) (g:Int):Obj:=⟨(aj L i.toNat free).kind,(aj L i.toNat free).count,(aj L i.toNat free).calls,Br (aj L i.toNat free).slots m a,Bm m.data g⟩
def rP (L:List Obj) (i:Int) (m:bp) (a:Key):List Obj:=b6 L i.toNat (za (aj L i.toNat free) m a)
def hdB:ly (List Obj×Int×bp×Key×Unit):=ba AE (ba iA (ba mA (ba kA gJ)))
theorem WB:gR hdB:=aA jC (aA dE (aA zY (aA iI bV)))
def A4 (L:List Obj) (i:Int) (m:bp):Prop:=dO L i/\(0<=i/\i<(ai L:Int))/\bO m.data<=32
def Tv:kq:=UI hdB (fun x=>A4 x.1 x.2.1 x.2.2.1) (fun _=>true) (fun _=>ke) (fun _ n=> .sa n) fun x=> .arr (some tO) 163 (.ob (rP x.1 x.2.1 x.2.2.1 x.2.2.2.1))
def Xj:Ct:=s7 (ba AE (ba mA gJ)) (fun x=>some (aw x.2.1.data)) fun x=> .bo (fk x.1 x.2.1)
def X0:Ct:=s7 (ba AE (ba mA gJ)) (fun _=>none) fun x=>jJ (aH x.1 x.2.1)
def b9 (L:List Obj) (i:Int) (k:Key) (md:Int) (m:bp):Int:=
 if ai L=0 then 1 else if¬(1<=md/\md<=3)\/bJ L k=false\/fk L m=false then 2 else if bw L i≠1 then 230
 else if aU L k=false\/¬(k.kind=6\/k.kind=7)\/bw L k.oid<0 then 231
 else if(k.kind=6/\bw L k.oid≠0/\¬(md=3/\k.oid=i))\/(k.kind=7/\bw L k.oid≠2)then 232
 else if(k.kind=7/\4294967295<=(aj L k.oid.toNat free).calls)\/(md=1/\4294967295<=(aj L i.toNat free).calls)then 233 else 0
def iO (L:List Obj) (i md:Int):Key:=if md=1 then⟨7,i,(aj L i.toNat free).count,(aj L i.toNat free).calls,0,0⟩else void
def jM (md:Int):Int:=if md=1 then 2 else if md=2 then 1 else 0
def Ig (L:List Obj) (i:Int) (k:Key) (md:Int) (m:bp):Prop:=
 ai L≠0/\(1<=md/\md<=3)/\bJ L k=true/\fk L m=true/\bw L i=1/\aU L k=true/\(k.kind=6\/k.kind=7)/\0<=bw L k.oid/\
 ¬((k.kind=6/\bw L k.oid≠0/\¬(md=3/\k.oid=i))\/(k.kind=7/\bw L k.oid≠2))/\¬(k.kind=7/\4294967295<=(aj L k.oid.toNat free).calls)
def n9 (L:List Obj) (i:Int) (k:Key) (md:Int) (m:bp):Prop:=b9 L i k md m=0
def OX (o:Obj):Obj:= {o with calls:=o.calls+1}
def gS (L:List Obj) (i md:Int):List Obj:=b6 L i.toNat (EC (aj L i.toNat free) (jM md))
def h9 (L:List Obj) (i:Int) (k:Key) (md:Int):List Obj:=if k.kind=7 then b6 (gS L i md) k.oid.toNat (OX (aj (gS L i md) k.oid.toNat free))else gS L i md
def fe (L:List Obj) (i:Int) (k:Key) (md:Int) (m:bp):List Obj:=if b9 L i k md m=0 then rP (h9 L i k md) k.oid (aH L m) (iO L i md)else L
def lR (L:List Obj) (i:Int) (k:Key) (md:Int) (m:bp):Bool:=decide (b9 L i k md m=0)
def gf (L:List Obj) (i:Int) (m:bp):Int:=if ai L=0 then 1 else if fk L m=false then 2 else if bw L i≠1 then 230 else 0
def gx (L:List Obj) (i:Int) (m:bp):List Obj:=if gf L i m=0 then rP L i (aH L m) void else L
def pM (L:List Obj) (i:Int) (m:bp):Bool:=decide (gf L i m=0)
abbrev tM:Nat:=47
def bcB:ly (List Obj×Int×Int×Unit):=ba AE (ba iA (ba iA gJ))
theorem Wq:gR bcB:=aA jC (aA dE (aA dE bV))
def IK (L:List Obj) (i st:Int):Prop:=er L i st=0/\aq L
def SB:kq:=UI bcB (fun x=>IK x.1 x.2.1 x.2.2.1) (fun _=>true) (fun _=>ke) (fun _ n=> .tp [.sa n,.ci .i64 0]) fun x=> .arr (some tO) 163 (.ob (dg x.1 x.2.1 x.2.2.1))
def ivB:ly (Int×Key×Int×bp×Unit):=ba iA (ba kA (ba iA (ba mA gJ)))
theorem K8:gR ivB:=aA dE (aA iI (aA dE (aA zY bV)))
def anB:ly (Int×bp×Unit):=ba iA (ba mA gJ)
theorem NB:gR anB:=aA dE (aA zY bV)
def Vz:kq:=Az (uw ivB) (fun L x=>aq L/\aw x.2.2.2.1.data) (fun L x=>lR L x.1 x.2.1 x.2.2.1 x.2.2.2.1) (fun L x=>fe L x.1 x.2.1 x.2.2.1 x.2.2.2.1) fun L x=> [.it .i64 (b9 L x.1 x.2.1 x.2.2.1 x.2.2.2.1)]
def Xg:kq:=Az (uw anB) (fun L x=>aq L/\aw x.2.1.data) (fun L x=>pM L x.1 x.2.1) (fun L x=>gx L x.1 x.2.1) fun L x=> [.it .i64 (gf L x.1 x.2.1)]
def aab:kq:=YE (uw ivB) (fun x=>aw x.2.2.2.1.data) (fun L x=>aq L/\aw x.2.2.2.1.data) (fun L x=> .it .i64 (b9 L x.1 x.2.1 x.2.2.1 x.2.2.2.1)) fun L x=>fe L x.1 x.2.1 x.2.2.1 x.2.2.2.1
def Y4:kq:=YE (uw anB) (fun x=>aw x.2.1.data) (fun L x=>aq L/\aw x.2.1.data) (fun L x=> .it .i64 (gf L x.1 x.2.1)) fun L x=>gx L x.1 x.2.1
def F8:Ct:=fun res _ xs=>match xs with
 | [a]=>match rS tS eS res a with
   |some (_,L)=>match L with
    | []=>some (none,.ci .i64 0,[])
    |_=>none
   |none=>none
 |_=>none
theorem UL {P:Program} {f:Nat} (h:cz P f GV):cz P f F8:=by
 intro J fps res K w0 F0 w nid args q x new hH hargs hg hq hfr;unfold F8 at hg;split at hg
 case h_2=>simp at hg
 rename_i a;split at hg
 case h_2=>simp at hg
 rename_i o L hr;split at hg<;>simp only[aaT,aaU,reduceCtorEq]at hg
 obtain⟨rfl,rfl,rfl⟩:=hg;obtain⟨h1,h2⟩:=h J fps res K w0 F0 w nid [a] none (.it .i64 (ak [])) [] hH hargs (by unfold GV XK;simp only[hr]) trivial hfr
 refine⟨h1.mono ?_,h2⟩;rintro e w' ⟨v,he,ρ',g,hv,_⟩
 refine⟨v,he,ρ',g,hv,?_⟩;simp[ok,cc]
def kdX (nid:Nat):V:= .mp nid
def kdN (nid:Nat):List aK:= [.mp .i64 [6,7] [.fn 126 [],.fn 127 []]]
def dL (L:List Obj) (g:Int):List Int:=((List.range g.toNat).filter fun(j:Nat)=>decide (bw L (j:Int)=1)).map Int.ofNat
def iB (L:List Obj) (g:Int):Prop:=0<=g/\g<=(ai L:Int)
def iu (L:List Obj):Prop:=L.length<=1000
def Wz:kq:=UI (ba AE gJ) (fun x=>iu x.1) (fun _=>true) (fun _=>ke) (fun _ n=> .sa n) fun x=> .arr (some tI) 1 (.it .i64 (dL x.1 (bQ (ai x.1))))
def ZQ:kq:=UI (ba sA gJ) (fun x=>iu (DG x.1)) (fun _=>true) (fun _=>ke) (fun _ n=> .sa n) fun x=> .arr (some tI) 1 (.it .i64 (dL (DG x.1) (bQ (ai (DG x.1)))))
theorem FU {L:List Obj} {i:Int} (h:(aL L i).kind=1):0<=i/\i<(L.length:Int)/\aL L i=aj L i.toNat free:=by
 by_cases hr:i<0\/(L.length:Int)<=i
 ·rw[Lc hr]at h;simp[free]at h
 ·exact⟨by omega,by omega,fG (by omega) (by omega)⟩
theorem o7 {L:List Obj} {i:Int} (h:dS L i=true):0<=i/\i<(L.length:Int)/\aL L i=aj L i.toNat free/\(aj L i.toNat free).kind=1:=by
 have hk:=((uQ _).1 h).1;obtain⟨a,b,c⟩:=FU hk;rw[c]at hk;exact⟨a,b,c,hk⟩
theorem qM {L:List Obj} {i:Int}:(0<=bw L i↔dS L i=true)/\(bw L i<0↔dS L i=false):=by
 cases h:dS L i with
 |false=>rw[(ur h).1];simp
 |true=>
  have h2:=(mG h).1;have h3:=((uQ _).1 h).2.2.1;rw[<-h2]at h3;simp;exact h3
theorem Hy {L:List Obj} {i:Int}:(dS L i&&decide (iG L i=1))=decide (bw L i=1):=by
 cases h:dS L i with
 |false=>rw[(ur h).1];simp
 |true=>rw[(mG h).1,(mG h).2];simp
theorem ZY {L:List Obj} {i:Int} (h:dS L i=true):iG L i=bw L i:=by rw[(mG h).1,(mG h).2]
theorem L6 {o:Obj} {n st:Int} (h:bM o n=true) (hk:o.kind=1):bM (EC o st) n=true:=by
 have hn:=(fo.1 h).1;exact zF h hk (RT (by omega) (sB h hk) (sI (by omega) _))
theorem Ma {o:Obj} {n:Int} (h:bM o n=true) (hk:o.kind=1) (hc:o.calls<4294967295):bM (OX o) n=true:=by
 obtain⟨a1,a2,a3,a4,a5,a6,a7,a8,a9,a10,a11⟩:=fo.1 h;rw[fo];exact⟨a1,a2,a3,a4,a5,a6,by show 0<=o.calls+1;omega,by show o.calls+1<=4294967295;omega,.inl hk,a10,a11⟩
theorem MM {o:Obj} {n:Int} {s:cZ} {b:Bytes} (h:bM o n=true) (hk:o.kind=1) (hs:∀i,i<16->dF n (s.at i)):bM (jV (ew o s) b) n=true:=by
 have h':bM (ew o s) n=true:=zF h hk hs;have hk':(ew o s).kind=1:=hk;exact Nd h' (Or.inl hk')
theorem GY {o:Obj} {n:Int} {m:bp} {a:Key} (h:bM o n=true) (hk:o.kind=1) (h0:dF n m.k0) (h1:dF n m.k1) (h2:dF n m.k2) (ha:dF n a):bM (za o m a) n=true:=by
 have hn:=(fo.1 h).1
 have hs:∀i,i<16->dF n ((Br o.slots m a).at i):=fun i hi=>by
  unfold Br;rw[cZ.gd _ _ _ _ (by omega),cZ.gd _ _ _ _ (by omega),cZ.gd _ _ _ _ (by omega),cZ.gd _ _ _ _ (by omega),cZ.gd _ _ _ _ (by omega),cZ.gd _ _ _ _ (by omega)]
  split
  ·exact ha
  ·split
   ·exact h2
   ·split
    ·exact h1
    ·split
     ·exact h0
     ·split
      ·exact sI (by omega) _
      ·split
       ·exact sI (by omega) _
       ·exact sB h hk i hi
 have e:za o m a=jV (ew o (Br o.slots m a)) (Bm m.data (bO m.data)):=by unfold za jV ew;rfl
 rw[e];exact MM h hk hs
theorem Ah {n:Int} (hn:0<=n):dF n void:=⟨nb.1,by rw[nb.2];omega⟩
theorem Ut {n i c d:Int} (h0:0<=i) (h1:i<n) (h2:n<=64) (c0:0<=c) (c1:c<=4294967295) (d0:0<=d) (d1:d<=4294967295):dF n ⟨7,i,c,d,0,0⟩:=by
 have hk:aV ⟨7,i,c,d,0,0⟩=true:=by
  unfold aV kG ea gO fZ fy;simp;omega
 refine⟨hk,?_⟩;unfold bf;rw[hk];simp[ea];omega
theorem Df {L:List Obj} (hL:0<L.length) (m:bp):dF (L.length:Int) (aH L m).k0/\dF (L.length:Int) (aH L m).k1/\dF (L.length:Int) (aH L m).k2:=⟨pN hL _,pN hL _,pN hL _⟩
theorem Nx {s:ByteArray} (h:bO s<=32):KB (e9.put 0 (Vf (bO s))) (Int.toNat 1) (Int.toNat 64) s=Bm s (bO s):=by
 have hz:(s.size:Int)<=32:=h;have e:Nat.min s.size (64-1)=s.size:=Nat.min_eq_left (by omega)
 show s6 _ 1 (Nat.min s.size (64-1)) s=s6 _ 1 (bO s).toNat s
 rw[e];rfl
theorem O5 {L:List Obj} {i st:Int} (h:er L i st=0):(0<=i/\i<(L.length:Int))/\aL L i=aj L i.toNat free/\(aj L i.toNat free).kind=1/\0<=st/\st<=2:=by
 unfold er at h;split at h
 ·omega
 ·split at h
  ·omega
  ·split at h
   ·omega
   ·rename_i h1 h2 h3;have h2:(aL L i).kind=1:=by omega
    obtain⟨a,b,c⟩:=FU h2;exact⟨⟨a,b⟩,c,by rw[<-c];exact h2,by omega,by omega⟩
theorem G6 {L:List Obj} {i st:Int} (hL:aq L):aq (dg L i st):=by
 unfold dg;split
 ·rename_i h;obtain⟨⟨a,b⟩,c,d,_⟩:=O5 h;rw[c];exact kS hL (L6 (dt hL _ (by omega)) d)
 ·exact hL
theorem GI {L:List Obj} {i st e:Int} (h:er L i st=e) (he:e≠0):e=er L i st/\L=dg L i st:=⟨h.symm,by unfold dg;rw[h,aa1 he]⟩
theorem Vr {L:List Obj} {i st:Int} (h:ai L=0):er L i st=1:=by unfold er;rw[aa2 h]
theorem H4 {L:List Obj} {i st:Int} (h:ai L≠0) (h2:¬(aL L i).kind=1):er L i st=230:=by unfold er;rw[aa1 h,aa2 h2]
theorem Vl {L:List Obj} {i st:Int} (h:ai L≠0) (h2:(aL L i).kind=1) (h3:st<0\/2<st):er L i st=2:=by unfold er;rw[aa1 h,aa1 (by omega),aa2 h3]
theorem LD {L:List Obj} {i st:Int} (h:ai L≠0) (h2:(aL L i).kind=1) (h3:¬(st<0\/2<st)):er L i st=0:=by unfold er;rw[aa1 h,aa1 (by omega),aa1 h3]
theorem Oa {L:List Obj} {i st:Int} (hL:aq L) (h:er L i st=0):gi L i (EC (aL L i) st)=0/\cK L i (EC (aL L i) st)=dg L i st:=by
 obtain⟨⟨a,b⟩,c,d,_⟩:=O5 h;obtain⟨p1,p2⟩:=my a b (L6 (st:=st) (dt hL _ (by omega)) d)
 rw[c,p1,p2];refine⟨rfl,?_⟩;unfold dg;rw[aa2 h,c]
theorem sY {L:List Obj} {i:Int} (hL:aq L) (h0:0<=i) (h1:i<(L.length:Int)):dO L i:=⟨h0,h1,by have:=(gY hL).2;unfold ai;omega⟩
theorem TA {L:List Obj} {i:Int} (h:(decide (i<0)||decide (bQ (ai L)<=i)|| !decide ((aj L i.toNat free).kind=1))=true):¬(aL L i).kind=1:=fun hk=>by
 obtain⟨a,b,c⟩:=FU hk;rw[c]at hk;have hb:¬bQ (ai L)<=i:=by unfold bQ ai;omega
 rw[decide_eq_false (by omega:¬i<0),decide_eq_false hb,decide_eq_true hk]at h
 simp at h
theorem DL {L:List Obj} {i:Int} (h:(decide (i<0)||decide (bQ (ai L)<=i)|| !decide ((aj L i.toNat free).kind=1))=false):0<=i/\i<(L.length:Int)/\aL L i=aj L i.toNat free/\(aL L i).kind=1:=by
 simp only[Bool.or_eq_false_iff,decide_eq_false_iff_not,Bool.not_eq_false',aaW]at h;obtain⟨⟨h1,h2⟩,h3⟩:=h;unfold bQ ai at h2;have e:=fG (L:=L) (j:=i) (by omega) (by omega)
 exact⟨by omega,by omega,e,by rw[e];exact h3⟩
theorem CQ {L:List Obj} {m:bp} (h:fk L m=true):bO m.data<=32:=by
 unfold fk at h;simp only[aaV,aaW]at h;exact h.1.1.1
section
variable {L:List Obj} {i:Int} {k:Key} {md:Int} {m:bp}
theorem Yq (a:ai L=0):b9 L i k md m=1:=by unfold b9;rw[aa2 a]
theorem DK (a:ai L≠0) (b:¬(1<=md/\md<=3)\/bJ L k=false\/fk L m=false):b9 L i k md m=2:=by unfold b9;rw[aa1 a,aa2 b]
theorem G2 (a:ai L≠0) (b:¬(¬(1<=md/\md<=3)\/bJ L k=false\/fk L m=false)) (c:bw L i≠1):b9 L i k md m=230:=by unfold b9;rw[aa1 a,aa1 b,aa2 c]
theorem Ay (a:ai L≠0) (b:¬(¬(1<=md/\md<=3)\/bJ L k=false\/fk L m=false)) (c:bw L i=1) (d:aU L k=false\/¬(k.kind=6\/k.kind=7)\/bw L k.oid<0):b9 L i k md m=231:=by
 unfold b9;rw[aa1 a,aa1 b,aa1 (by omega),aa2 d]
theorem CS (a:ai L≠0) (b:¬(¬(1<=md/\md<=3)\/bJ L k=false\/fk L m=false)) (c:bw L i=1) (d:¬(aU L k=false\/¬(k.kind=6\/k.kind=7)\/bw L k.oid<0))
  (e:(k.kind=6/\bw L k.oid≠0/\¬(md=3/\k.oid=i))\/(k.kind=7/\bw L k.oid≠2)):b9 L i k md m=232:=by
 unfold b9;rw[aa1 a,aa1 b,aa1 (by omega),aa1 d,aa2 e]
theorem CY (a:ai L≠0) (b:¬(¬(1<=md/\md<=3)\/bJ L k=false\/fk L m=false)) (c:bw L i=1) (d:¬(aU L k=false\/¬(k.kind=6\/k.kind=7)\/bw L k.oid<0))
  (e:¬((k.kind=6/\bw L k.oid≠0/\¬(md=3/\k.oid=i))\/(k.kind=7/\bw L k.oid≠2))) (f:(k.kind=7/\4294967295<=(aj L k.oid.toNat free).calls)\/(md=1/\4294967295<=(aj L i.toNat free).calls)):b9 L i k md m=233:=by
 unfold b9;rw[aa1 a,aa1 b,aa1 (by omega),aa1 d,aa1 e,aa2 f]
theorem Zc (a:ai L≠0) (b:¬(¬(1<=md/\md<=3)\/bJ L k=false\/fk L m=false)) (c:bw L i=1) (d:¬(aU L k=false\/¬(k.kind=6\/k.kind=7)\/bw L k.oid<0))
  (e:¬((k.kind=6/\bw L k.oid≠0/\¬(md=3/\k.oid=i))\/(k.kind=7/\bw L k.oid≠2))) (f:¬((k.kind=7/\4294967295<=(aj L k.oid.toNat free).calls)\/(md=1/\4294967295<=(aj L i.toNat free).calls))):b9 L i k md m=0:=by
 unfold b9;rw[aa1 a,aa1 b,aa1 (by omega),aa1 d,aa1 e,aa1 f]
theorem VK (h:b9 L i k md m=0):ai L≠0/\¬(¬(1<=md/\md<=3)\/bJ L k=false\/fk L m=false)/\bw L i=1/\¬(aU L k=false\/¬(k.kind=6\/k.kind=7)\/bw L k.oid<0)/\
  ¬((k.kind=6/\bw L k.oid≠0/\¬(md=3/\k.oid=i))\/(k.kind=7/\bw L k.oid≠2))/\¬((k.kind=7/\4294967295<=(aj L k.oid.toNat free).calls)\/(md=1/\4294967295<=(aj L i.toNat free).calls)):=by
 by_cases a:ai L=0
 ·rw[Yq a]at h;omega
 ·by_cases b:¬(1<=md/\md<=3)\/bJ L k=false\/fk L m=false
  ·rw[DK a b]at h;omega
  ·by_cases c:bw L i=1
   ·by_cases d:aU L k=false\/¬(k.kind=6\/k.kind=7)\/bw L k.oid<0
    ·rw[Ay a b c d]at h;omega
    ·by_cases e:(k.kind=6/\bw L k.oid≠0/\¬(md=3/\k.oid=i))\/(k.kind=7/\bw L k.oid≠2)
     ·rw[CS a b c d e]at h;omega
     ·by_cases f:(k.kind=7/\4294967295<=(aj L k.oid.toNat free).calls)\/(md=1/\4294967295<=(aj L i.toNat free).calls)
      ·rw[CY a b c d e f]at h;omega
      ·exact⟨a,b,c,d,e,f⟩
   ·rw[G2 a b c]at h;omega
theorem nA {e:Int} (h:b9 L i k md m=e) (he:e≠0):e=b9 L i k md m/\L=fe L i k md m:=⟨h.symm,by unfold fe;rw[h,aa1 he]⟩
theorem tY {e:Int} (h:b9 L i k md m=e) (he:e≠0):lR L i k md m=false/\e=b9 L i k md m:=⟨by unfold lR;rw[h];simpa using he,h.symm⟩
theorem Vy:(decide (md<1)||decide (3<md)|| !bJ L k|| !fk L m)=true↔(¬(1<=md/\md<=3)\/bJ L k=false\/fk L m=false):=by
 cases bJ L k<;>cases fk L m<;>simp<;>omega
theorem Vx:(!aU L k|| !decide (k.kind=6)&& !decide (k.kind=7))=true↔(aU L k=false\/¬(k.kind=6\/k.kind=7)):=by
 cases aU L k<;>simp
theorem Vi:(decide (k.kind=6)&& !decide (bw L k.oid=0)&& !(decide (md=3)&&decide (k.oid=i))||decide (k.kind=7)&& !decide (bw L k.oid=2))=true↔((k.kind=6/\bw L k.oid≠0/\¬(md=3/\k.oid=i))\/(k.kind=7/\bw L k.oid≠2)):=by
 simp[and_assoc,Classical.or_iff_not_imp_left (a:=¬md=3)]
theorem Vs {x y:Int}:(decide (k.kind=7)&&decide (4294967295<=x)||decide (md=1)&&decide (4294967295<=y))=true↔((k.kind=7/\4294967295<=x)\/(md=1/\4294967295<=y)):=by simp
theorem Gk (h:1<=md/\md<=3):0<=jM md/\jM md<=2/\aj [0,2,1,0] md.toNat 0=jM md/\Ag (decide (md=1)) 2 (Ag (decide (md=2)) 1 (Ag (decide (md=3)) 0 0))=jM md:=by
 have:md=1\/md=2\/md=3:=by omega
 rcases this with rfl|rfl|rfl<;>decide
theorem Af (hL:aq L) (hE:b9 L i k md m=0):
 ((0<=i/\i<(L.length:Int))/\aL L i=aj L i.toNat free/\(aj L i.toNat free).kind=1)/\((0<=k.oid/\k.oid<(L.length:Int))/\aL L k.oid=aj L k.oid.toNat free/\(aj L k.oid.toNat free).kind=1)/\(er L i (jM md)=0/\dg L i (jM md)=gS L i md)/\(aq (gS L i md)/\(gS L i md).length=L.length)/\(aq (h9 L i k md)/\(h9 L i k md).length=L.length)/\((aj (gS L i md) k.oid.toNat free).kind=1/\(aj (gS L i md) k.oid.toNat free).calls=(aj L k.oid.toNat free).calls)/\(aj (h9 L i k md) k.oid.toNat free).kind=1/\bO m.data<=32/\dF (L.length:Int) (iO L i md):=by
 obtain⟨a,b,c,d,e,f⟩:=VK hE
 have b1:1<=md/\md<=3:=by
  by_cases h:1<=md/\md<=3
  ·exact h
  ·exact absurd (.inl h) b
 have b3:fk L m=true:=by
  cases h:fk L m with
  |true=>rfl
  |false=>exact absurd (.inr (.inr h)) b
 have d3:0<=bw L k.oid:=by
  by_cases h:bw L k.oid<0
  ·exact absurd (.inr (.inr h)) d
  ·omega
 obtain⟨i0,i1,i2,i3⟩:=o7 (qM.1.1 (by omega:0<=bw L i))
 obtain⟨k0,k1,k2,k3⟩:=o7 (qM.1.1 d3);obtain⟨n0,n1,_,_⟩:=Gk b1;have hb:er L i (jM md)=0:=LD a (by rw[i2];exact i3) (by omega)
 have h1:dg L i (jM md)=gS L i md:=by unfold dg gS;rw[aa2 hb,i2]
 have o1:aq (gS L i md):=by rw[<-h1];exact G6 hL
 have l1:(gS L i md).length=L.length:=by unfold gS;rw[iy]
 have g1:(aj (gS L i md) k.oid.toNat free).kind=1/\(aj (gS L i md) k.oid.toNat free).calls=(aj L k.oid.toNat free).calls:=by
  unfold gS;rw[gh (by omega)]
  split
  ·rename_i e;rw[e];exact⟨i3,rfl⟩
  ·exact⟨k3,rfl⟩
 have l2:(h9 L i k md).length=L.length:=by
  unfold h9;split
  ·rw[iy,l1]
  ·exact l1
 have o2:aq (h9 L i k md):=by
  unfold h9;split
  ·rename_i h7;have hc:¬4294967295<=(aj L k.oid.toNat free).calls:=fun h=>f (.inl ⟨h7,h⟩)
   exact kS o1 (Ma (dt o1 _ (by rw[l1];omega)) g1.1 (by rw[g1.2];omega))
  ·exact o1
 have g2:(aj (h9 L i k md) k.oid.toNat free).kind=1:=by
  unfold h9;split
  ·rw[gh (by rw[l1];omega),aa2 rfl];exact g1.1
  ·exact g1.1
 have ho:=fo.1 (dt hL i.toNat (by omega))
 have hn:=(gY hL)
 have hA:dF (L.length:Int) (iO L i md):=by
  unfold iO;split
  ·exact Ut i0 i1 (by omega) ho.2.2.2.2.1 ho.2.2.2.2.2.1 ho.2.2.2.2.2.2.1 ho.2.2.2.2.2.2.2.1
  ·exact Ah (by omega)
 exact⟨⟨⟨i0,i1⟩,i2,i3⟩,⟨⟨k0,k1⟩,k2,k3⟩,⟨hb,h1⟩,⟨o1,l1⟩,⟨o2,l2⟩,g1,g2,CQ b3,hA⟩
theorem Gq (hL:aq L) (hE:b9 L i k md m=0):aq (fe L i k md m)/\(fe L i k md m).length=L.length/\cK (h9 L i k md) k.oid (za (aL (h9 L i k md) k.oid) (aH L m) (iO L i md))=fe L i k md m:=by
 obtain⟨_,⟨⟨k0,k1⟩,_,_⟩,_,_,⟨o2,l2⟩,_,g2,_,hA⟩:=Af hL hE;obtain⟨f0,f1,f2⟩:=Df (by have:=gY hL;omega:0<L.length) m
 have ho:=GY (m:=aH L m) (a:=iO L i md) (dt o2 k.oid.toNat (by omega)) g2 (by rw[l2];exact f0) (by rw[l2];exact f1) (by rw[l2];exact f2) (by rw[l2];exact hA)
 have hq:fe L i k md m=b6 (h9 L i k md) k.oid.toNat (za (aj (h9 L i k md) k.oid.toNat free) (aH L m) (iO L i md)):=by unfold fe rP;rw[aa2 hE]
 rw[hq,fG k0 (by omega)]
 exact⟨kS o2 ho,by rw[iy,l2],(my k0 (by omega) ho).1⟩
theorem VY (hL:aq L):aq (fe L i k md m):=by
 by_cases hE:b9 L i k md m=0
 ·exact(Gq hL hE).1
 ·rw[<-(nA rfl hE).2];exact hL
end
theorem wU (L:List Obj):dL L 0= []:=rfl
theorem wC (L:List Obj) {g:Int} (h:0<=g):dL L (g+1)=if bw L g=1 then jm (dL L g) g else dL L g:=by
 unfold dL jm;rw[show(g+1).toNat=g.toNat+1 by omega,List.range_succ,List.filter_append,List.map_append]
 have e:((g.toNat:Nat):Int)=g:=by omega
 by_cases hp:bw L g=1
 ·rw[aa2 hp];simp[e,hp]
 ·rw[aa1 hp];simp[e,hp]
theorem EB (L:List Obj) (g:Int):ai (dL L g)<=g.toNat:=by
 unfold dL ai;rw[List.length_map];exact Nat.le_trans (List.length_filter_le _ _) (by rw[List.length_range];exact Nat.le_refl _)
theorem Ee {L:List Obj} {g:Int} (hl:iu L) (h1:g<(L.length:Int)):s5 (ai (dL L g)) 8:=by
 have:=EB L g;unfold iu at hl;unfold s5 maxLen;omega
theorem EZ {L:List Obj} {g:Int} (hl:iu L) (h0:iB L g) (h1:g<(L.length:Int)):aF IntKind.i64 (g+1)/\iB L (g+1)/\(bQ (ai L)-(g+1)).toNat<(bQ (ai L)-g).toNat:=by
 unfold iu at hl;unfold iB bQ ai at *;simp only[aF,cc];omega
end Go.Sx
namespace Go.Proofs.YtlblcfaclmpekaaGreat
open Go.Sx
theorem S0 (L:List Sx.Obj) (i:Int):
 ((!(decide (i<0)||decide (bQ (ai L)<=i)))=true->0<=i/\i< ↑(ai L))/\((!(decide (i<0)||decide (bQ (ai L)<=i)))=true->i.toNat<ai L)/\aba (decide (i<0)||decide (bQ (ai L)<=i)|| !decide ((aj L i.toNat free).kind=1)) (-1=bw L i) ((0<=i/\i< ↑(ai L))/\i.toNat<ai L/\aba (!decide (((aj L i.toNat free).slots.at 2).kind=1)||decide (((aj L i.toNat free).slots.at 2).value<0)||decide (2<((aj L i.toNat free).slots.at 2).value)) (-1=bw L i) (((aj L i.toNat free).slots.at 2).value=bw L i)):=by
 delta aba
 have hn:bQ (ai L)=(L.length:Int):=rfl;have hl:ai L=L.length:=rfl;rw[hn,hl]
 have hin:∀{b:Bool},(!(decide (i<0)||decide ((L.length:Int)<=i)))=true->0<=i/\i<(L.length:Int):=fun h=>by
  simp only[Bool.not_eq_true',Bool.or_eq_false_iff,decide_eq_false_iff_not]at h;omega
 refine⟨fun h=>hin (b:=true) h,fun h=>by have:=hin (b:=true) h;omega,fun h=>?_,fun h=>?_⟩
 ·simp only[Bool.or_eq_true,Bool.not_eq_true',aaW,decide_eq_false_iff_not]at h;refine(ur ?_).1.symm;unfold dS;cases hb:v9 (aL L i)with
  |false=>rfl
  |true=>
   exfalso
   have hk:=((uQ _).1 hb).1;by_cases hr:i<0\/(L.length:Int)<=i
   ·rw[Lc hr]at hk;simp[free]at hk
   ·rw[fG (by omega) (by omega)]at hk
    omega
 ·simp only[Bool.or_eq_false_iff,Bool.not_eq_false',aaW,decide_eq_false_iff_not]at h;have hr:0<=i/\i<(L.length:Int):=by omega
  have hg:aL L i=aj L i.toNat free:=fG hr.1 hr.2;have e:=yg (aj L i.toNat free);rw[show decide ((aj L i.toNat free).kind=1)=true from decide_eq_true h.2,Bool.not_true,Bool.false_or]at e;rw[e];refine⟨hr,by omega,fun h'=>?_,fun h'=>?_⟩
  ·exact(ur (by unfold dS;rw[hg];simpa using h')).1.symm
  ·rw[(mG (by unfold dS;rw[hg];simpa using h')).1,hg]
theorem vM:cz Tryz.prog 53 VI:=
 eQ (aA jC U5) (fun _=>rfl) fun a hq hok=>by
  obtain⟨L,i,_⟩:=a;exact bc (inl:=bx) (ann:=aQ) ar (S0 L i) (by kernel_rfl)
theorem Rt (i:Int):
 true=true/\aba (!decide ((aL [] i).kind=1)|| !decide (((aL [] i).slots.at 2).kind=1)||decide (((aL [] i).slots.at 2).value<0)||decide (2<((aL [] i).slots.at 2).value)) (0=iG [] i/\false=dS [] i) (((aL [] i).slots.at 2).value=iG [] i/\true=dS [] i):=by
 delta aba
 have e:=yg (aL [] i);rw[e];refine⟨rfl,fun h=>?_,fun h=>?_⟩
 ·have h:dS [] i=false:=by unfold dS;simpa using h
  exact⟨(ur h).2.symm,h.symm⟩
 ·have h:dS [] i=true:=by unfold dS;simpa using h
  exact⟨(mG h).2.symm,h.symm⟩
theorem Yg (L:List Sx.Obj) (i:Int):
 true=true/\aba (!decide ((aL L i).kind=1)|| !decide (((aL L i).slots.at 2).kind=1)||decide (((aL L i).slots.at 2).value<0)||decide (2<((aL L i).slots.at 2).value)) (0=iG L i/\false=dS L i) (((aL L i).slots.at 2).value=iG L i/\true=dS L i):=by
 delta aba
 have e:=yg (aL L i);rw[e];refine⟨rfl,fun h=>?_,fun h=>?_⟩
 ·have h:dS L i=false:=by unfold dS;simpa using h
  exact⟨(ur h).2.symm,h.symm⟩
 ·have h:dS L i=true:=by unfold dS;simpa using h
  exact⟨(mG h).2.symm,h.symm⟩
theorem rR:cz Tryz.prog 62 aar:=
 eQ (aA tk U5) (fun _=>rfl) fun a hq hok=>by
  obtain⟨S,i,_⟩:=a;cases S with
  |none=>exact bc (inl:=(fun f=>f==88)) (ann:=aQ) (ae fY ar) (Rt i) (by kernel_rfl)
  |some L=>exact bc (inl:=(fun f=>f==88)) (ann:=aQ) (ae fY ar) (Yg L i) (by kernel_rfl)
theorem Sv (L:List Sx.Obj) (i st:Int) (hL:aq L):
 aba (decide (bQ (ai L)=0)) (ku L i st=false/\1=er L i st) (((!(decide (i<0)||decide (bQ (ai L)<=i)))=true->0<=i/\i< ↑(ai L))/\((!(decide (i<0)||decide (bQ (ai L)<=i)))=true->i.toNat<ai L)/\aba (decide (i<0)||decide (bQ (ai L)<=i)|| !decide ((aj L i.toNat free).kind=1)) (ku L i st=false/\230=er L i st) (aba (decide (st<0)||decide (2<st)) (ku L i st=false/\2=er L i st) ((0<=i/\i< ↑(ai L))/\i.toNat<ai L/\true=true/\dO L i/\ku L i st=true/\0=er L i st/\b6 L i.toNat (Obj.mk (aj L i.toNat free).kind (aj L i.toNat free).count (aj L i.toNat free).calls ((aj L i.toNat free).slots.put 2 (abg st)) (aj L i.toNat free).bytes)=dg L i st))):=by
 delta aba abg
 have hn:bQ (ai L)=(L.length:Int):=rfl;have hlL:ai L=L.length:=rfl
 have hin:(!(decide (i<0)||decide (bQ (ai L)<=i)))=true->0<=i/\i<(L.length:Int):=fun h=>by
  rw[hn]at h;simp only[Bool.not_eq_true',Bool.or_eq_false_iff,decide_eq_false_iff_not]at h;omega
 refine⟨fun h=>?_,fun h=>⟨fun h=>hin h,fun h=>by have:=hin h;omega,fun h2=>?_,fun h2=>⟨fun h3=>?_,fun h3=>?_⟩⟩⟩
 ·have hl:ai L=0:=by have h1:bQ (ai L)=0:=aaZ h;unfold bQ at h1;omega
  unfold ku;rw[Vr hl];exact⟨rfl,rfl⟩
 ·have hl:ai L≠0:=by have h1:¬bQ (ai L)=0:=aaY h;unfold bQ at h1;omega
  unfold ku;rw[H4 hl (TA h2)];exact⟨rfl,rfl⟩
 ·have hl:ai L≠0:=by have h1:¬bQ (ai L)=0:=aaY h;unfold bQ at h1;omega
  unfold ku;rw[Vl hl (DL h2).2.2.2 (by simpa using h3)];exact⟨rfl,rfl⟩
 ·have hl:ai L≠0:=by have h1:¬bQ (ai L)=0:=aaY h;unfold bQ at h1;omega
  obtain⟨a,b,c,d⟩:=DL h2;have hE:=LD (st:=st) hl d (by simpa using h3)
  refine⟨⟨a,b⟩,by omega,rfl,sY hL a b,by unfold ku;rw[hE];rfl,hE.symm,?_⟩
  unfold dg;rw[aa2 hE,c];rfl
theorem Uz (L:List Sx.Obj) (i st:Int) (hL:aq L):an Tryz.prog 55 [.sa 0,.it .i64 i,.it .i64 st] [.ro (.arr none 163 (.ob L))] (yA (ku L i st) (dg L i st) [.it .i64 (er L i st)]) (fun _ _=>False):=
 bm (inl:=(fun f=>f==31)) (ann:=aQ) (ae jG ar) aE (Sv L i st hL) (by kernel_rfl)
theorem Io:lh Tryz.prog 55 VH:=
 iP (m:=fun x=>Z7.cn x 0) (fP OV (fun _=>rfl)) (fun _=>rfl) (fun _ _=>rfl) fun L x hq=>Uz L x.1 x.2.1 hq
theorem Uq (i st:Int):
 abb (aba (!decide (0<ak [])) (1=er [] i st) (abb (aba (!decide ((aL [] i).kind=1)) (230=er [] i st) (abb (aba (!(decide (0<=st)&&decide (st<=2))) (2=er [] i st) (abb (abb (gi [] i (Obj.mk (aL [] i).kind (aL [] i).count (aL [] i).calls ((aL [] i).slots.put 2 (abg st)) (aL [] i).bytes)=er [] i st)))))))):=by
 delta aba abg abb
 exact⟨rfl,fun h=>rfl,fun h=>absurd h (by decide)⟩
theorem TP (i st:Int):
 abb (aba (!decide (0<ak [])) (1=er [] i st) (abb (aba (!decide ((aL [] i).kind=1)) (230=er [] i st) (abb (aba (!(decide (0<=st)&&decide (st<=2))) (2=er [] i st) (abb (abb False))))))):=by
 delta aba abb
 exact⟨rfl,fun h=>rfl,fun h=>absurd h (by decide)⟩
abbrev aby(L:List Sx.Obj)(i:Int)(st:Int):=Obj.mk (aL L i).kind (aL L i).count (aL L i).calls ((aL L i).slots.put 2 (abg st)) (aL L i).bytes
theorem Yf (L:List Sx.Obj) (i st:Int) (hL:aq L):
 abb (aba (!decide (0<ak L)) (1=er L i st/\L=dg L i st) (abb (aba (!decide ((aL L i).kind=1)) (230=er L i st/\L=dg L i st) (abb (aba (!(decide (0<=st)&&decide (st<=2))) (2=er L i st/\L=dg L i st) (abb (abb (gi L i (aby L i st)=er L i st/\cK L i (aby L i st)=dg L i st)))))))):=by
 delta aba abg aby abb
 have hq:∀b,(!decide (0<ak L))=b->(b=true->ai L=0)/\(b=false->ai L≠0):=fun b hb=>by
  subst hb;refine⟨fun h=>?_,fun h=>?_⟩
  ·have h1:¬0<ak L:=by simpa using h
   unfold ak at h1;omega
  ·have h1:0<ak L:=by simpa using h
   unfold ak at h1;omega
 refine⟨rfl,fun h=>GI (Vr ((hq _ h).1 rfl)) (by omega),fun h=>⟨rfl,fun h2=>?_,fun h2=>⟨rfl,fun h3=>?_,fun h3=>⟨rfl,rfl,?_⟩⟩⟩⟩
 ·exact GI (H4 ((hq _ h).2 rfl) (by simpa using h2)) (by omega)
 ·exact GI (Vl ((hq _ h).2 rfl) (by simpa using h2) (by simp only[Bool.not_eq_true',Bool.and_eq_false_iff,decide_eq_false_iff_not]at h3;omega)) (by omega)
 ·have hE:er L i st=0:=LD ((hq _ h).2 rfl) (by simpa using h2) (by simp only[Bool.not_eq_false',aaV,aaW]at h3;omega)
  rw[hE];exact Oa hL hE
theorem WK (L:List Sx.Obj) (i st:Int) (hL:aq L):an Tryz.prog 64 [.lp 0 0,.it .i64 i,.it .i64 st] [.store tS eS L] (CA (.it .i64 (er L i st)) (dg L i st)) (fun _ _=>False):=
 aY (inl:=(fun f=>f==91||f==98)) (ann:=aQ) (ae bC (ae fY ar)) (aC dB aE) (eg lB) (Yf L i st hL) (by kernel_rfl)
theorem MO:lh Tryz.prog 64 ZK:=
 od (m:=fun x=>Z7.cn x 0) (fP OV (fun _=>rfl)) (fun _=>rfl) (fun _ _=>rfl) (fun x=>aY (inl:=(fun f=>f==91||f==98)) (ann:=aQ) (ae bC (ae fY ar)) (aC dB aE) (eg lB) (Uq x.1 x.2.1) (by kernel_rfl)) (fun x=>aY (inl:=(fun f=>f==91||f==98)) (ann:=aQ) (ae bC (ae fY ar)) (aC dB aE) (eg lB) (TP x.1 x.2.1) (by kernel_rfl)) fun L x hL _ _=>WK L x.1 x.2.1 hL
abbrev abz(nid:Nat):=V.tp [V.sa nid,V.ci IntKind.i64 0]
theorem Mw (L:List Sx.Obj) (i st:Int) (hz:IK L i st):
 aba (decide (bQ (ai L)=0)) (abb (∀(nid:Nat),some (V.tp [V.sa nid,V.ci IntKind.i64 1])=some (abz nid)/\none=some [aK.arr (some tO) 163 (TL.ob (dg L i st))])) (((!(decide (i<0)||decide (bQ (ai L)<=i)))=true->0<=i/\i< ↑(ai L))/\((!(decide (i<0)||decide (bQ (ai L)<=i)))=true->i.toNat<ai L)/\aba (decide (i<0)||decide (bQ (ai L)<=i)|| !decide ((aj L i.toNat free).kind=1)) (abb (∀(nid:Nat),some (V.tp [V.sa nid,V.ci IntKind.i64 230])=some (abz nid)/\none=some [aK.arr (some tO) 163 (TL.ob (dg L i st))])) (aba (decide (st<0)||decide (2<st)) (abb (∀(nid:Nat),some (V.tp [V.sa nid,V.ci IntKind.i64 2])=some (abz nid)/\none=some [aK.arr (some tO) 163 (TL.ob (dg L i st))])) ((0<=i/\i< ↑(ai L))/\i.toNat<ai L/\abb (dO L i/\abb (∀(nid:Nat),some (abz nid)=some (abz nid)/\some [aK.arr (some tO) 163 (TL.ob (b6 L i.toNat (Obj.mk (aj L i.toNat free).kind (aj L i.toNat free).count (aj L i.toNat free).calls ((aj L i.toNat free).slots.put 2 (abg st)) (aj L i.toNat free).bytes)))]=some [aK.arr (some tO) 163 (TL.ob (dg L i st))]))))):=by
 delta aba abg abz abb
 obtain⟨hE,hL⟩:=hz;obtain⟨⟨a,b⟩,c,d,s0,s1⟩:=O5 hE;have hl:ai L≠0:=by unfold ai;omega
 have hn:bQ (ai L)=(L.length:Int):=rfl;have hlL:ai L=L.length:=rfl;rw[decide_eq_false (by unfold bQ;omega:¬bQ (ai L)=0),decide_eq_false (by omega:¬i<0),decide_eq_false (by rw[hn];omega:¬bQ (ai L)<=i),decide_eq_true d,decide_eq_false (by omega:¬st<0),decide_eq_false (by omega:¬2<st)]
 refine⟨fun h=>by simp at h,fun _=>⟨fun _=>⟨a,b⟩,fun _=>by omega,fun h=>by simp at h,fun _=>⟨fun h=>by simp at h,fun _=>⟨⟨a,b⟩,by omega,rfl,sY hL a b,rfl,fun nid=>⟨rfl,?_⟩⟩⟩⟩⟩
 unfold dg;rw[aa2 hE,c];rfl
theorem Qx (L:List Sx.Obj) (i st:Int) (hz:IK L i st):an Tryz.prog 55 [.sa 0,.it .i64 i,.it .i64 st] [.ro (.arr none 163 (.ob L))] (Dh true ke (fun n=> .tp [.sa n,.ci .i64 0]) (.arr (some tO) 163 (.ob (dg L i st)))) (fun _ _=>False):=
 bm (inl:=(fun f=>f==31)) (ann:=aQ) (ae jG ar) aE (Mw L i st hz) (by kernel_rfl)
theorem Lf:lh Tryz.prog 55 SB:=
 Cq Wq (fun _=>rfl) (fun _=>by simp) fun a hq hok=>by
  obtain⟨L,i,st,_⟩:=a;exact Qx L i st hq
theorem Uc (L:List Sx.Obj) (m:bp) (hs:aw m.data):
 aF IntKind.i64 (bO m.data)/\(decide (bO m.data<=32)&&bJ L m.k0&&bJ L m.k1&&bJ L m.k2)=fk L m:=by
 have hsz:aF IntKind.i64 (bO m.data):=by unfold aw at hs;simp only[aF,cc,bO];omega
 exact⟨hsz,rfl⟩
theorem Dp:cz Tryz.prog 74 Xj:=
 eQ (aA jC (aA zY bV)) (fun _=>rfl) fun a hq hok=>by
  obtain⟨L,m,_⟩:=a;exact bc (inl:=bx) (ann:=(iJ [(74,3,Ml 4)])) (ae yV ar) (Uc L m hq) (by kernel_rfl)
theorem Sb (L:List Sx.Obj) (m:bp):
 m.code=(aH L m).code/\m.data=(aH L m).data/\ah L m.k0=(aH L m).k0/\ah L m.k1=(aH L m).k1/\ah L m.k2=(aH L m).k2:=by
 exact⟨rfl,rfl,rfl,rfl,rfl⟩
theorem Cm:cz Tryz.prog 75 X0:=
 eQ (aA jC (aA zY bV)) (fun _=>rfl) fun a hq hok=>by
  obtain⟨L,m,_⟩:=a;exact bc (inl:=bx) (ann:=(iJ [(75,2,Ml 4)])) (ae pL ar) (Sb L m) (by kernel_rfl)
theorem KK (L:List Sx.Obj) (i:Int) (m:bp) (k:Key) (hz:A4 L i m):
 (0<=i/\i< ↑(ai L))/\i.toNat<ai L/\abb (abb (abd (bO m.data)/\aF IntKind.u8 (bO m.data)/\(∃g,ry m.data g/\i=i/\Value.slice none 0 0=Value.slice none 0 0/\0=g/\L=L/\m.code=m.code/\m.data=m.data/\m.k0=m.k0/\m.k1=m.k1/\m.k2=m.k2/\k=k/\Obj.mk (aj L i.toNat free).kind (aj L i.toNat free).count (aj L i.toNat free).calls (((((((aj L i.toNat free).slots.put 2 (abg 1)).put 3 (abg m.code)).put 12 m.k0).put 13 m.k1).put 14 m.k2).put 15 k) (e9.put 0 (Vf (bO m.data)))=r9 L i m k g/\abg 1=abg 1/\abg m.code=abg m.code)/\∀(g:Int),ry m.data g->abd (bO m.data)/\aba (decide (g<bO m.data)) (abd (1+g)/\pSz m.data g/\(0<=1+g/\1+g< ↑64)/\abd (g+1)/\∃g',ry m.data g'/\xc m.data g'<xc m.data g/\i=i/\Value.slice none 0 0=Value.slice none 0 0/\g+1=g'/\L=L/\m.code=m.code/\m.data=m.data/\m.k0=m.k0/\m.k1=m.k1/\m.k2=m.k2/\k=k/\Obj.mk (r9 L i m k g).kind (r9 L i m k g).count (r9 L i m k g).calls (r9 L i m k g).slots ((r9 L i m k g).bytes.put (1+g).toNat (sat m.data g.toNat))=r9 L i m k g'/\abg 1=abg 1/\abg m.code=abg m.code) (dO L i/\abb (∀(nid:Nat),some (V.sa nid)=some (V.sa nid)/\some [aK.arr (some tO) 163 (TL.ob (b6 L i.toNat (r9 L i m k g)))]=some [aK.arr (some tO) 163 (TL.ob (rP L i m k))])))):=by
 delta aba abg abd abb
 obtain⟨hp,⟨i0,i1⟩,hs⟩:=hz;have i1':i.toNat<ai L:=by omega
 have hsz:aF IntKind.i64 (bO m.data):=by simp only[aF,cc,bO]at *;omega
 have hs8:aF IntKind.u8 (bO m.data):=by simp only[aF,cc,bO]at *;omega
 have hz:(m.data.size:Int)<=32:=hs;simp only[kH,jy,mN,iZ,decide_true,Bool.and_true,Bool.not_true,Bool.or_false,Bool.not_false,Bool.false_eq_true,Bool.true_eq_false,false_implies,implies_true,true_implies,true_and,and_true,and_self];refine⟨⟨i0,i1⟩,i1',hsz,hs8,⟨0,⟨by omega,by omega⟩,rfl,?_⟩,fun g hg=>⟨hsz,fun hlt=>?_,fun hge=>?_⟩⟩
 ·unfold r9 Br Bm;rw[show(0:Int).toNat=0 from rfl,Bz];rfl
 ·obtain⟨g0,g1⟩:=hg;have hlt:g<(m.data.size:Int):=aaZ hlt;refine⟨by simp only[aF,cc];omega,⟨g0,hlt⟩,⟨by omega,by omega⟩,by simp only[aF,cc];omega,g+1,⟨by omega,by omega⟩,by unfold xc;omega,rfl,?_⟩
  have e:=Bq (e9.put 0 (UInt8.ofNat m.data.size)) 1 g.toNat m.data (by omega)
  unfold r9 Bm;simp only;rw[show(1+g).toNat=1+g.toNat by omega,e,show(g+1).toNat=g.toNat+1 by omega]
 ·obtain⟨g0,g1⟩:=hg;have hge:¬g<(m.data.size:Int):=aaY hge;have:g=bO m.data:=by unfold bO;omega
  subst this;exact⟨hp,fun nid=>rfl⟩
theorem KV (L:List Sx.Obj) (i:Int) (m:bp) (k:Key) (hz:A4 L i m):an Tryz.prog 77 [.sa 0,.it .i64 i,jJ m,.key k] [.ro (.arr none 163 (.ob L))] (Dh true ke (fun n=> .sa n) (.arr (some tO) 163 (.ob (rP L i m k)))) (fun _ _=>False):=
 bm (inl:=(fun f=>f==31)) (ann:=(iJ [(77,7,YN [0,1,6,7,8,9] (fun g=> [(10,.it .i64 g)]) 9 (fun g=> .blk tO (.ob (r9 L i m k g))) (ry m.data) (xc m.data))])) (ae jG ar) aE (KK L i m k hz) (by kernel_rfl)
theorem DV:lh Tryz.prog 77 Tv:=
 Cq WB (fun _=>rfl) (fun _=>by simp) fun a hq hok=>by
  obtain⟨L,i,m,k,_⟩:=a;exact KV L i m k hq
abbrev abA(L:List Sx.Obj)(i:Int)(md:Int)(k:Key):=aj (dg L i (aj [0,2,1,0] md.toNat 0)) k.oid.toNat free
abbrev abC(md:Int):=aj [0,2,1,0] md.toNat 0
abbrev abD(L:List Sx.Obj)(i:Int)(md:Int)(k:Key):=b6 (dg L i (abC md)) k.oid.toNat (Obj.mk (abA L i md k).kind (abA L i md k).count ((abA L i md k).calls+1) (abA L i md k).slots (abA L i md k).bytes)
theorem SG (L:List Sx.Obj) (i:Int) (k:Key) (md:Int) (m:bp) (hL:aq L) (hs:aw m.data):
 aba (decide (bQ (ai L)=0)) (lR L i k md m=false/\1=b9 L i k md m) (((!(decide (md<1)||decide (3<md)|| !bJ L k))=true->aw m.data)/\aba (decide (md<1)||decide (3<md)|| !bJ L k|| !fk L m) (lR L i k md m=false/\2=b9 L i k md m) (aba (!decide (bw L i=1)) (lR L i k md m=false/\230=b9 L i k md m) (aba (!aU L k|| !decide (k.kind=6)&& !decide (k.kind=7)) (lR L i k md m=false/\231=b9 L i k md m) (aba (decide (bw L k.oid<0)) (lR L i k md m=false/\231=b9 L i k md m) (aba (decide (k.kind=6)&& !decide (bw L k.oid=0)&& !(decide (md=3)&&decide (k.oid=i))||decide (k.kind=7)&& !decide (bw L k.oid=2)) (lR L i k md m=false/\232=b9 L i k md m) ((decide (k.kind=7)=true->0<=k.oid/\k.oid< ↑(ai L))/\(decide (k.kind=7)=true->k.oid.toNat<ai L)/\((decide (md=1)&& !(decide (k.kind=7)&&decide (4294967295<=(aj L k.oid.toNat free).calls)))=true->0<=i/\i< ↑(ai L))/\((decide (md=1)&& !(decide (k.kind=7)&&decide (4294967295<=(aj L k.oid.toNat free).calls)))=true->i.toNat<ai L)/\aba (decide (k.kind=7)&&decide (4294967295<=(aj L k.oid.toNat free).calls)||decide (md=1)&&decide (4294967295<=(aj L i.toNat free).calls)) (lR L i k md m=false/\233=b9 L i k md m) ((aba (decide (md=1)) ((0<=i/\i< ↑(ai L))/\i.toNat<ai L/\(0<=i/\i< ↑(ai L))/\i.toNat<ai L/\∃g:Unit,n9 L i k md m/\i=i/\md=md/\Value.slice none 0 0=Value.slice none 0 0/\k.kind=k.kind/\L=L/\k=k/\(aH L m).code=(aH L m).code/\(aH L m).data=(aH L m).data/\(aH L m).k0=(aH L m).k0/\(aH L m).k1=(aH L m).k1/\(aH L m).k2=(aH L m).k2/\Key.mk 7 i (aj L i.toNat free).count (aj L i.toNat free).calls void.rights void.value=iO L i md) (∃g:Unit,n9 L i k md m/\i=i/\md=md/\Value.slice none 0 0=Value.slice none 0 0/\k.kind=k.kind/\L=L/\k=k/\(aH L m).code=(aH L m).code/\(aH L m).data=(aH L m).data/\(aH L m).k0=(aH L m).k0/\(aH L m).k1=(aH L m).k1/\(aH L m).k2=(aH L m).k2/\void=iO L i md))/\∀(g:Unit),n9 L i k md m->(0<=md/\md< ↑4)/\abb (IK L i (abC md)/\(true=false->False)/\(true=true->aba (decide (k.kind=7)) ((0<=k.oid/\k.oid< ↑(ai (dg L i (abC md))))/\k.oid.toNat<ai (dg L i (abC md))/\aF IntKind.i64 ((abA L i md k).calls+1)/\dO (dg L i (abC md)) k.oid/\abb (A4 (abD L i md k) k.oid (aH L m)/\(true=false->False)/\(true=true->lR L i k md m=true/\0=b9 L i k md m/\rP (abD L i md k) k.oid (aH L m) (iO L i md)=fe L i k md m))) (abb (A4 (dg L i (abC md)) k.oid (aH L m)/\(true=false->False)/\(true=true->lR L i k md m=true/\0=b9 L i k md m/\rP (dg L i (abC md)) k.oid (aH L m) (iO L i md)=fe L i k md m)))))))))))):=by
 delta aba abD abC abA abb
 simp only[kH,jy,mN,iZ,decide_true,Bool.and_true,Bool.not_true,Bool.or_false,Bool.not_false,Bool.false_eq_true,Bool.true_eq_false,false_implies,implies_true,true_implies,true_and,and_true,and_self];refine⟨fun h=>?_,fun h=>⟨fun _=>hs,fun h2=>?_,fun h2=>⟨fun h3=>?_,fun h3=>⟨fun h4=>?_,fun h4=>⟨fun h5=>?_,fun h5=>⟨fun h6=>?_,fun h6=>?_⟩⟩⟩⟩⟩⟩
 ·have hl:ai L=0:=by have h1:bQ (ai L)=0:=aaZ h;unfold bQ at h1;omega
  exact tY (Yq hl) (by omega)
 all_goals
  have hl:ai L≠0:=by have h1:¬bQ (ai L)=0:=aaY h;unfold bQ at h1;omega
 ·exact tY (DK hl (Vy.1 h2)) (by omega)
 all_goals
  have b:¬(¬(1<=md/\md<=3)\/bJ L k=false\/fk L m=false):=fun hh=>by rw[Vy.2 hh]at h2;simp at h2
 ·exact tY (G2 hl b (by simpa using h3)) (by omega)
 all_goals
  have c:bw L i=1:=by simpa using h3
 ·exact tY (Ay hl b c ((Vx.1 h4).imp id .inl)) (by omega)
 all_goals
  have d1:¬(aU L k=false\/¬(k.kind=6\/k.kind=7)):=fun hh=>by rw[Vx.2 hh]at h4;simp at h4
 ·exact tY (Ay hl b c (.inr (.inr (aaZ h5)))) (by omega)
 all_goals
  have d:¬(aU L k=false\/¬(k.kind=6\/k.kind=7)\/bw L k.oid<0):=by
   rintro(h|h|h)
   ·exact d1 (.inl h)
   ·exact d1 (.inr h)
   ·exact aaY h5 h
 ·exact tY (CS hl b c d (Vi.1 h6)) (by omega)
 have e:¬((k.kind=6/\bw L k.oid≠0/\¬(md=3/\k.oid=i))\/(k.kind=7/\bw L k.oid≠2)):=fun hh=>by rw[Vi.2 hh]at h6;simp at h6
 have b1:1<=md/\md<=3:=by
  by_cases h:1<=md/\md<=3
  ·exact h
  ·exact absurd (.inl h) b
 have d3:0<=bw L k.oid:=by
  by_cases h:bw L k.oid<0
  ·exact absurd (.inr (.inr h)) d
  ·omega
 obtain⟨i0,i1,i2,i3⟩:=o7 (qM.1.1 (by omega:0<=bw L i))
 obtain⟨k0,k1,k2,k3⟩:=o7 (qM.1.1 d3);have hlL:ai L=L.length:=rfl;have hk:(0<=k.oid/\k.oid<(ai L:Int))/\k.oid.toNat<ai L:=by omega
 have hi:(0<=i/\i<(ai L:Int))/\i.toNat<ai L:=by omega
 refine⟨fun _=>hk.1,fun _=>hk.2,fun _=>hi.1,fun _=>hi.2,fun h7=>tY (CY hl b c d e (Vs.1 h7)) (by omega),fun h7=>?_⟩
 have hE:b9 L i k md m=0:=Zc hl b c d e fun hh=>by rw[Vs.2 hh]at h7;simp at h7
 obtain⟨_,_,⟨hb,hb1⟩,⟨o1,l1⟩,⟨o2,l2⟩,⟨g1,g1c⟩,g2,hsz,hA⟩:=Af hL hE;obtain⟨n0,n1,n2,n3⟩:=Gk b1;obtain⟨_,_,hend⟩:=Gq hL hE;have hC:lR L i k md m=true:=by unfold lR;rw[hE];rfl
 have hq:fe L i k md m=rP (h9 L i k md) k.oid (aH L m) (iO L i md):=by unfold fe;rw[aa2 hE]
 rw[n2,hb1,hC,hE,hq];have hl1:ai (gS L i md)=L.length:=l1;have hl2:ai (h9 L i k md)=L.length:=l2;refine⟨⟨fun h1=>⟨hi.1,hi.2,hi.1,hi.2,⟨⟩,hE,?_⟩,fun h1=>⟨⟨⟩,hE,?_⟩⟩,fun _ _=>⟨by omega,⟨hb,hL⟩,fun h7=>?_,fun h7=>?_⟩⟩
 ·unfold iO;rw[aa2 (aaZ h1)];rfl
 ·unfold iO;rw[aa1 (aaY h1)]
 ·have h7':=aaZ h7;have hc:h9 L i k md=b6 (gS L i md) k.oid.toNat (OX (aj (gS L i md) k.oid.toNat free)):=by unfold h9;rw[aa2 h7']
  have ho:=fo.1 (dt o1 k.oid.toNat (by omega))
  refine⟨by omega,by omega,by have:=ho.2.2.2.2.2.2.1;have:=ho.2.2.2.2.2.2.2.1;simp only[aF,cc];omega,sY o1 k0 (by omega),?_,?_⟩
  ·have:=sY o2 k0 (by omega)
   rw[hc]at this;exact⟨this,⟨k0,by rw[show∀x,ai (b6 (gS L i md) k.oid.toNat x)=L.length from fun x=>by unfold ai;rw[iy,l1]];omega⟩,hsz⟩
  ·rw[hc];exact⟨rfl,rfl,rfl⟩
 ·have h7':=aaY h7;have hc:h9 L i k md=gS L i md:=by unfold h9;rw[aa1 h7']
  rw[hc]at *;exact⟨⟨sY o1 k0 (by omega),by omega,hsz⟩,rfl,rfl,rfl⟩
theorem T9 (L:List Sx.Obj) (i:Int) (k:Key) (md:Int) (m:bp) (hL:aq L) (hs:aw m.data):an Tryz.prog 51 [.sa 0,.it .i64 i,.key k,.it .i64 md,jJ m] [.ro (.arr none 163 (.ob L))] (yA (lR L i k md m) (fe L i k md m) [.it .i64 (b9 L i k md m)]) (fun _ _=>False):=
 bm (inl:=bx) (ann:=(iJ [(51,2000021,En [0,1,3,7,9,10,11,12,14] (fun(_:Unit)=> []) (fun _=> [(14,.blk tK (.key (iO L i md)))]) (fun _=> []) (fun _=>n9 L i k md m))])) (ae yV (ae Dp (ae Cm (ae vM (ae mf (ae jG ar)))))) (aC Lf (aC DV aE)) (SG L i k md m hL hs) (by kernel_rfl)
theorem Ts:lh Tryz.prog 51 Vz:=
 iP (m:=fun x=>ivB.cn x 0) (fP K8 (fun _=>rfl)) (fun _=>rfl) (fun _ _=>rfl) fun L x hq=>T9 L x.1 x.2.1 x.2.2.1 x.2.2.2.1 hq.1 hq.2
theorem T7 (L:List Sx.Obj) (i:Int) (m:bp) (hL:aq L) (hs:aw m.data):
 aba (decide (bQ (ai L)=0)) (pM L i m=false/\1=gf L i m) (aw m.data/\aba (!fk L m) (pM L i m=false/\2=gf L i m) (aba (!decide (bw L i=1)) (pM L i m=false/\230=gf L i m) (true=true/\A4 L i (aH L m)/\(true=false->False)/\(true=true->pM L i m=true/\0=gf L i m/\rP L i (aH L m) void=gx L i m)))):=by
 delta aba
 have no:∀e,gf L i m=e->e≠0->pM L i m=false/\e=gf L i m:=fun e h he=>⟨by unfold pM;rw[h];simpa using he,h.symm⟩
 simp only[kH,jy,mN,iZ,decide_true,Bool.and_true,Bool.not_true,Bool.or_false,Bool.not_false,Bool.false_eq_true,Bool.true_eq_false,false_implies,implies_true,true_implies,true_and,and_true,and_self];refine⟨fun h=>no _ ?_ (by omega),fun h=>⟨hs,fun h2=>no _ ?_ (by omega),fun h2=>⟨fun h3=>no _ ?_ (by omega),fun h3=>?_⟩⟩⟩
 ·have hl:ai L=0:=by have h1:bQ (ai L)=0:=aaZ h;unfold bQ at h1;omega
  unfold gf;rw[aa2 hl]
 ·have hl:ai L≠0:=by have h1:¬bQ (ai L)=0:=aaY h;unfold bQ at h1;omega
  unfold gf;rw[aa1 hl,aa2 (by simpa using h2)]
 ·have hl:ai L≠0:=by have h1:¬bQ (ai L)=0:=aaY h;unfold bQ at h1;omega
  unfold gf;rw[aa1 hl,aa1 (by simpa using h2),aa2 (by simpa using h3)]
 ·have hl:ai L≠0:=by have h1:¬bQ (ai L)=0:=aaY h;unfold bQ at h1;omega
  have h2':fk L m=true:=by simpa using h2
  have h3':bw L i=1:=by simpa using h3
  have hE:gf L i m=0:=by unfold gf;rw[aa1 hl,aa1 (by simpa using h2'),aa1 (by simpa using h3')]
  obtain⟨a,b,c,d⟩:=o7 (qM.1.1 (by omega:0<=bw L i))
  refine⟨⟨sY hL a b,⟨a,b⟩,(CQ h2':bO m.data<=32)⟩,by unfold pM;rw[hE];rfl,hE.symm,?_⟩
  unfold gx;rw[aa2 hE]
theorem TH (L:List Sx.Obj) (i:Int) (m:bp) (hL:aq L) (hs:aw m.data):an Tryz.prog 54 [.sa 0,.it .i64 i,jJ m] [.ro (.arr none 163 (.ob L))] (yA (pM L i m) (gx L i m) [.it .i64 (gf L i m)]) (fun _ _=>False):=
 bm (inl:=bx) (ann:=aQ) (ae Dp (ae Cm (ae vM ar))) (aC DV aE) (T7 L i m hL hs) (by kernel_rfl)
theorem T5:lh Tryz.prog 54 Xg:=
 iP (m:=fun x=>anB.cn x 0) (fP NB (fun _=>rfl)) (fun _=>rfl) (fun _ _=>rfl) fun L x hq=>TH L x.1 x.2.1 hq.1 hq.2
theorem JY:
 ∀(nid:Nat),some (V.mp nid)=some (V.mp nid)/\some [aK.mp IntKind.i64 [6,7] [V.fn 126 [],V.fn 127 []]]=some [aK.mp IntKind.i64
  [6,7] [V.fn 126 [],V.fn 127 []]]:=by
 exact fun nid=>⟨rfl,rfl⟩
theorem wm:cz Tryz.prog 95 (A9 kdX kdN):=vq (π:= [0]) (by decide) (fun _=>rfl) (bm (inl:=bx) (ann:=aQ) ar aE JY (by kernel_rfl))
theorem sE:cz Tryz.prog 36 F8:=UL bC
theorem To (i:Int) (m:bp) (hs:aw m.data):
 true=true/\1=gf [] i m:=by
 exact⟨rfl,rfl⟩
theorem UK (i:Int) (m:bp) (hs:aw m.data):
 true=true/\1=gf [] i m:=by
 exact⟨rfl,rfl⟩
theorem Wh (L:List Sx.Obj) (i:Int) (m:bp) (hL:aq L) (hs:aw m.data):
 abb (aba (!decide (0<ak L)) (1=gf L i m/\L=gx L i m) (abb (abd (bO m.data)/\abb (aba (!decide (bO m.data<=32)) (2=gf L i m/\L=gx L i m) (abb (abb (aba (!(decide (bB m.k0=0)&&(!aZ m.k0||decide (cy m.k0<ak L)))) (2=gf L i m/\L=gx L i m) (abb (abb (aba (!(decide (bB m.k1=0)&&(!aZ m.k1||decide (cy m.k1<ak L)))) (2=gf L i m/\L=gx L i m) (abb (abb (aba (!(decide (bB m.k2=0)&&(!aZ m.k2||decide (cy m.k2<ak L)))) (2=gf L i m/\L=gx L i m) (abb (aba (!(dS L i&&decide (iG L i=1))) (230=gf L i m/\L=gx L i m) (abb (abb (abb (abb (abb (abd (bO m.data)/\aF IntKind.u8 (bO m.data)/\CU 1 64 64/\abb (0=gf L i m/\cK L i (Obj.mk (aL L i).kind (aL L i).count (aL L i).calls (((((((aL L i).slots.put 2 (abg 1)).put 3 (abg m.code)).put 12 (ah L m.k0)).put 13 (ah L m.k1)).put 14 (ah L m.k2)).put 15 void) (KB (e9.put 0 (Vf (bO m.data))) (Int.toNat 1) (Int.toNat 64) m.data))=gx L i m)))))))))))))))))))))):=by
 delta aba abg abd abb
 have no:∀e,gf L i m=e->e≠0->e=gf L i m/\L=gx L i m:=fun e h he=>⟨h.symm,by unfold gx;rw[h,aa1 he]⟩
 have hq1:(!decide (0<ak L))=true->ai L=0:=fun h=>by
  have h1:¬0<ak L:=by simpa using h
  unfold ak at h1;omega
 have hq0:(!decide (0<ak L))=false->ai L≠0:=fun h=>by
  have h1:0<ak L:=by simpa using h
  unfold ak at h1;omega
 have hsz:aF IntKind.i64 (bO m.data):=by unfold aw at hs;simp only[aF,cc,bO];omega
 have hs8:bO m.data<=32->aF IntKind.u8 (bO m.data):=fun h=>by simp only[aF,cc,bO]at *;omega
 simp only[uO,Hy];simp only[kH,jy,mN,iZ,decide_true,Bool.and_true,Bool.not_true,Bool.or_false,Bool.not_false,Bool.false_eq_true,Bool.true_eq_false,false_implies,implies_true,true_implies,true_and,and_true,and_self];have mk:fk L m=(decide (bO m.data<=32)&&bJ L m.k0&&bJ L m.k1&&bJ L m.k2):=rfl
 have bad:ai L≠0->fk L m=false->2=gf L i m/\L=gx L i m:=fun h hm=>no _ (by unfold gf;rw[aa1 h,aa2 hm]) (by omega)
 refine⟨fun h=>no _ (by unfold gf;rw[aa2 (hq1 h)]) (by omega),fun h=>⟨hsz,fun g1=>bad (hq0 h) ?_,fun g1=>⟨fun g2=>bad (hq0 h) ?_,fun g2=>⟨fun g3=>bad (hq0 h) ?_,fun g3=>⟨fun g4=>bad (hq0 h) ?_,fun g4=>⟨fun g5=>no _ ?_ (by omega),fun g5=>?_⟩⟩⟩⟩⟩⟩
 ·rw[mk,show decide (bO m.data<=32)=false by simpa using g1];rfl
 ·rw[mk,show bJ L m.k0=false by simpa using g2];simp
 ·rw[mk,show bJ L m.k1=false by simpa using g3];simp
 ·rw[mk,show bJ L m.k2=false by simpa using g4];simp
 all_goals
  have hm:fk L m=true:=by
   rw[mk,show decide (bO m.data<=32)=true by simpa using g1,show bJ L m.k0=true by simpa using g2,show bJ L m.k1=true by simpa using g3,show bJ L m.k2=true by simpa using g4];rfl
 ·unfold gf;rw[aa1 (hq0 h),aa1 (by simp[hm]),aa2 (by simpa using g5)]
 have g5':bw L i=1:=by simpa using g5
 have hE:gf L i m=0:=by unfold gf;rw[aa1 (hq0 h),aa1 (by simp[hm]),aa1 (by omega)]
 obtain⟨a,b,c,d⟩:=o7 (qM.1.1 (by omega:0<=bw L i))
 refine⟨hsz,hs8 (CQ hm),⟨by omega,by omega,by omega⟩,hE.symm,?_⟩
 obtain⟨f0,f1,f2⟩:=Df (by have:=gY hL;omega:0<L.length) m
 have ho:=GY (m:=aH L m) (a:=void) (dt hL i.toNat (by omega)) d f0 f1 f2 (Ah (by omega))
 have e:Obj.mk (aL L i).kind (aL L i).count (aL L i).calls (((((((aL L i).slots.put 2 (Key.mk 1 void.oid void.count void.call void.rights 1)).put 3 (Key.mk 1 void.oid void.count void.call void.rights m.code)).put 12 (ah L m.k0)).put 13 (ah L m.k1)).put 14 (ah L m.k2)).put 15 void) (KB (e9.put 0 (Vf (bO m.data))) (Int.toNat 1) (Int.toNat 64) m.data)=za (aL L i) (aH L m) void:=by
  rw[Nx (CQ hm)];rfl
 rw[e,c,(my a b ho).1];unfold gx rP;rw[aa2 hE]
theorem Xl (L:List Sx.Obj) (i:Int) (m:bp) (hL:aq L) (hs:aw m.data):an Tryz.prog 63 [.lp 0 0,.it .i64 i,jJ m] [.store tS eS L] (CA (.it .i64 (gf L i m)) (gx L i m)) (fun _ _=>False):=
 aY (inl:=(fun f=>f==91||f==94||f==93||f==100||f==129||f==96||f==128||f==98)) (ann:=(iJ [(94,2,Ml 4)])) (ae bC (ae fY (ae iv (ae gy (ae dJ (ae rR ar)))))) (aC dB aE) (eg lB) (Wh L i m hL hs) (by kernel_rfl)
theorem WR:lh Tryz.prog 63 Y4:=
 C6 (m:=fun x=>anB.cn x 0) (fP NB (fun _=>rfl)) (fun _=>rfl) (fun _ _=>rfl) (fun x hs=>aY (inl:=(fun f=>f==91||f==94||f==93||f==100||f==129||f==96||f==128||f==98)) (ann:=aQ) (ae sE (ae fY (ae iv (ae gy (ae dJ (ae rR ar)))))) (aC dB aE) (eg lB) (To x.1 x.2.1 hs) (by kernel_rfl)) (fun x hs=>aY (inl:=(fun f=>f==91||f==94||f==93||f==100||f==129||f==96||f==128||f==98)) (ann:=aQ) (ae sE (ae fY (ae iv (ae gy (ae dJ (ae rR ar)))))) (aC dB aE) (eg lB) (UK x.1 x.2.1 hs) (by kernel_rfl)) fun L x hq=>Xl L x.1 x.2.1 hq.1 hq.2
theorem Sn (i:Int) (k:Key) (md:Int) (m:bp) (hs:aw m.data):
 true=true/\1=b9 [] i k md m:=by
 exact⟨rfl,rfl⟩
theorem Ry (i:Int) (k:Key) (md:Int) (m:bp) (hs:aw m.data):
 true=true/\1=b9 [] i k md m:=by
 exact⟨rfl,rfl⟩
theorem Yt (L:List Sx.Obj) (i:Int) (k:Key) (md:Int) (m:bp) (hL:aq L) (hs:aw m.data):
 abb (aba (!decide (0<ak L)) (1=b9 L i k md m/\L=fe L i k md m) (abb (abb (aba (!(decide (md=1)||(decide (md=2)||decide (md=3)))) (2=b9 L i k md m/\L=fe L i k md m) (abb (abb (aba (!(decide (bB k=0)&&(!aZ k||decide (cy k<ak L)))) (2=b9 L i k md m/\L=fe L i k md m) (abb (abd (bO m.data)/\abb (aba (!decide (bO m.data<=32)) (2=b9 L i k md m/\L=fe L i k md m) (abb (abb (aba (!(decide (bB m.k0=0)&&(!aZ m.k0||decide (cy m.k0<ak L)))) (2=b9 L i k md m/\L=fe L i k md m) (abb (abb (aba (!(decide (bB m.k1=0)&&(!aZ m.k1||decide (cy m.k1<ak L)))) (2=b9 L i k md m/\L=fe L i k md m) (abb (abb (aba (!(decide (bB m.k2=0)&&(!aZ m.k2||decide (cy m.k2<ak L)))) (2=b9 L i k md m/\L=fe L i k md m) (abb (aba (!(dS L i&&decide (iG L i=1))) (230=b9 L i k md m/\L=fe L i k md m) (abb (aba (!((decide (k.kind=6)||decide (k.kind=7))&&aU L k)) (231=b9 L i k md m/\L=fe L i k md m) ((aba (decide (k.kind=6)) (abb (abb (aba (!dS L k.oid) (231=b9 L i k md m/\L=fe L i k md m) (abb (aba (!(decide (iG L k.oid=0)||decide (md=3)&&decide (k.oid=i))) (232=b9 L i k md m/\L=fe L i k md m) (∃g:Unit,Ig L i k md m/\i=i/\md=md/\L=L/\k=k/\m.code=m.code/\m.data=m.data/\ah L m.k0=ah L m.k0/\ah L m.k1=ah L m.k1/\ah L m.k2=ah L m.k2/\i=i/\k=k/\md=md/\Ag (decide (md=1)) 2 (Ag (decide (md=2)) 1 (Ag (decide (md=3)) 0 0))=jM md/\aL L i=aL L i)))))) (aba (decide (k.kind=7)) (abb (abb (aba (!dS L k.oid) (231=b9 L i k md m/\L=fe L i k md m) (abb (aba (!decide (iG L k.oid=2)) (232=b9 L i k md m/\L=fe L i k md m) (abb (aba (!decide ((aL L k.oid).calls<4294967295)) (233=b9 L i k md m/\L=fe L i k md m) (∃g:Unit,Ig L i k md m/\i=i/\md=md/\L=L/\k=k/\m.code=m.code/\m.data=m.data/\ah L m.k0=ah L m.k0/\ah L m.k1=ah L m.k1/\ah L m.k2=ah L m.k2/\i=i/\k=k/\md=md/\Ag (decide (md=1)) 2 (Ag (decide (md=2)) 1 (Ag (decide (md=3)) 0 0))=jM md/\aL L i=aL L i)))))))) False))/\∀(g:Unit),Ig L i k md m->abb (aba (!(!decide (md=1)||decide ((aL L i).calls<4294967295))) (233=b9 L i k md m/\L=fe L i k md m) ((aba (decide (md=1)) (∃g:Unit,n9 L i k md m/\i=i/\md=md/\L=L/\k=k/\m.code=m.code/\m.data=m.data/\ah L m.k0=ah L m.k0/\ah L m.k1=ah L m.k1/\ah L m.k2=ah L m.k2/\i=i/\k=k/\md=md/\jM md=jM md/\aL L i=aL L i/\Key.mk 7 i (aL L i).count (aL L i).calls void.rights void.value=iO L i md) (∃g:Unit,n9 L i k md m/\i=i/\md=md/\L=L/\k=k/\m.code=m.code/\m.data=m.data/\ah L m.k0=ah L m.k0/\ah L m.k1=ah L m.k1/\ah L m.k2=ah L m.k2/\i=i/\k=k/\md=md/\jM md=jM md/\aL L i=aL L i/\void=iO L i md))/\∀(g:Unit),n9 L i k md m->(abb (abb (abb (abb (∃g:Unit,n9 L i k md m/\i=i/\md=md/\cK L i (Obj.mk (aL L i).kind (aL L i).count (aL L i).calls ((aL L i).slots.put 2 (abg (jM md))) (aL L i).bytes)=gS L i md/\k=k/\m.code=m.code/\m.data=m.data/\ah L m.k0=ah L m.k0/\ah L m.k1=ah L m.k1/\ah L m.k2=ah L m.k2/\i=i/\k=k/\md=md/\jM md=jM md/\aL L i=aL L i/\iO L i md=iO L i md)))))/\∀(g:Unit),n9 L i k md m->(aba (decide (k.kind=7)) (abb (abb (abd ((aL (gS L i md) k.oid).calls+1)/\abb (∃g:Unit,n9 L i k md m/\i=i/\md=md/\cK (gS L i md) k.oid (Obj.mk (aL (gS L i md) k.oid).kind (aL (gS L i md) k.oid).count ((aL (gS L i md) k.oid).calls+1) (aL (gS L i md) k.oid).slots (aL (gS L i md) k.oid).bytes)=h9 L i k md/\k=k/\m.code=m.code/\m.data=m.data/\ah L m.k0=ah L m.k0/\ah L m.k1=ah L m.k1/\ah L m.k2=ah L m.k2/\i=i/\k=k/\md=md/\jM md=jM md/\aL L i=aL L i/\iO L i md=iO L i md)))) (∃g:Unit,n9 L i k md m/\i=i/\md=md/\gS L i md=h9 L i k md/\k=k/\m.code=m.code/\m.data=m.data/\ah L m.k0=ah L m.k0/\ah L m.k1=ah L m.k1/\ah L m.k2=ah L m.k2/\i=i/\k=k/\md=md/\jM md=jM md/\aL L i=aL L i/\iO L i md=iO L i md))/\∀(g:Unit),n9 L i k md m->abb (abb (abb (abb (abb (abd (bO m.data)/\aF IntKind.u8 (bO m.data)/\CU 1 64 64/\abb (0=b9 L i k md m/\cK (h9 L i k md) k.oid (Obj.mk (aL (h9 L i k md) k.oid).kind (aL (h9 L i k md) k.oid).count (aL (h9 L i k md) k.oid).calls (((((((aL (h9 L i k md) k.oid).slots.put 2 (abg 1)).put 3 (abg m.code)).put 12 (ah L m.k0)).put 13 (ah L m.k1)).put 14 (ah L m.k2)).put 15 (iO L i md)) (KB (e9.put 0 (Vf (bO m.data))) (Int.toNat 1) (Int.toNat 64) m.data))=fe L i k md m)))))))))))))))))))))))))))))))):=by
 delta aba abg abd abb
 have hq1:(!decide (0<ak L))=true->ai L=0:=fun h=>by
  have h1:¬0<ak L:=by simpa using h
  unfold ak at h1;omega
 have hq0:(!decide (0<ak L))=false->ai L≠0:=fun h=>by
  have h1:0<ak L:=by simpa using h
  unfold ak at h1;omega
 have hsz:aF IntKind.i64 (bO m.data):=by unfold aw at hs;simp only[aF,cc,bO];omega
 have hs8:bO m.data<=32->aF IntKind.u8 (bO m.data):=fun h=>by simp only[aF,cc,bO]at *;omega
 simp only[uO,Hy];simp only[kH,jy,mN,iZ,decide_true,Bool.and_true,Bool.not_true,Bool.or_false,Bool.not_false,Bool.false_eq_true,Bool.true_eq_false,false_implies,implies_true,true_implies,true_and,and_true,and_self];have mk:fk L m=(decide (bO m.data<=32)&&bJ L m.k0&&bJ L m.k1&&bJ L m.k2):=rfl
 refine⟨fun h=>nA (Yq (hq1 h)) (by omega),fun h=>⟨fun c1=>nA (DK (hq0 h) (.inl ?_)) (by omega),fun c1=>⟨fun c2=>nA (DK (hq0 h) (.inr (.inl ?_))) (by omega),fun c2=>⟨hsz,fun g1=>nA (DK (hq0 h) (.inr (.inr ?_))) (by omega),fun g1=>⟨fun g2=>nA (DK (hq0 h) (.inr (.inr ?_))) (by omega),fun g2=>⟨fun g3=>nA (DK (hq0 h) (.inr (.inr ?_))) (by omega),fun g3=>⟨fun g4=>nA (DK (hq0 h) (.inr (.inr ?_))) (by omega),fun g4=>?_⟩⟩⟩⟩⟩⟩⟩
 ·simp at c1;omega
 ·simpa using c2
 ·rw[mk,show decide (bO m.data<=32)=false by simpa using g1];rfl
 ·rw[mk,show bJ L m.k0=false by simpa using g2];simp
 ·rw[mk,show bJ L m.k1=false by simpa using g3];simp
 ·rw[mk,show bJ L m.k2=false by simpa using g4];simp
 have hl:=hq0 h;have b1:1<=md/\md<=3:=by simp at c1;omega
 have b2:bJ L k=true:=by simpa using c2
 have b3:fk L m=true:=by
  rw[mk,show decide (bO m.data<=32)=true by simpa using g1,show bJ L m.k0=true by simpa using g2,show bJ L m.k1=true by simpa using g3,show bJ L m.k2=true by simpa using g4];rfl
 have b:¬(¬(1<=md/\md<=3)\/bJ L k=false\/fk L m=false):=by
  rw[b2,b3];rintro(x|x|x)
  ·exact x b1
  ·exact Bool.noConfusion x
  ·exact Bool.noConfusion x
 refine⟨fun g5=>nA (G2 hl b (by simpa using g5)) (by omega),fun g5=>?_⟩
 have c:bw L i=1:=by simpa using g5
 refine⟨fun g6=>nA (Ay hl b c ?_) (by omega),fun g6=>?_⟩
 ·simp only[Bool.not_eq_true',Bool.and_eq_false_iff,Bool.or_eq_false_iff,decide_eq_false_iff_not]at g6;rcases g6 with⟨x,y⟩|x
  ·exact .inr (.inl (by omega))
  ·exact .inl x
 have d1:(k.kind=6\/k.kind=7)/\aU L k=true:=by simp at g6;exact⟨by omega,g6.2⟩
 have hd:(!dS L k.oid)=true->231=b9 L i k md m/\L=fe L i k md m:=fun x=>nA (Ay hl b c (.inr (.inr (qM.2.2 (by simpa using x))))) (by omega)
 have dd:0<=bw L k.oid->¬(aU L k=false\/¬(k.kind=6\/k.kind=7)\/bw L k.oid<0):=fun h0=>by
  rw[d1.2];rintro(x|x|x)
  ·exact Bool.noConfusion x
  ·exact x d1.1
  ·omega
 have hd':(!dS L k.oid)=false->0<=bw L k.oid/\iG L k.oid=bw L k.oid:=fun x=>by
  have hb:dS L k.oid=true:=by simpa using x
  exact⟨qM.1.2 hb,ZY hb⟩
 obtain⟨n0,n1,_,n3⟩:=Gk b1;rw[n3];refine⟨⟨fun h6=>⟨hd,fun x=>⟨fun y=>?_,fun y=>⟨⟨⟩,?_,rfl⟩⟩⟩,fun h6=>⟨fun h7=>⟨hd,fun x=>⟨fun y=>?_,fun y=>⟨fun z=>?_,fun z=>⟨⟨⟩,?_,rfl⟩⟩⟩⟩,fun h7=>?_⟩⟩,fun _ hF=>?_⟩
 ·obtain⟨p0,pv⟩:=hd' x;have h6':=aaZ h6;rw[pv]at y;refine nA (CS hl b c (dd p0) (.inl ⟨h6',?_⟩)) (by omega)
  simp only[Bool.not_eq_true',Bool.or_eq_false_iff,Bool.and_eq_false_iff,decide_eq_false_iff_not]at y;exact⟨y.1,fun hh=>y.2.elim (fun u=>u hh.1) (fun u=>u hh.2)⟩
 ·obtain⟨p0,pv⟩:=hd' x;have h6':=aaZ h6;rw[pv]at y;simp only[Bool.not_eq_false',Bool.or_eq_true,aaV,aaW]at y;refine⟨hl,b1,b2,b3,c,d1.2,d1.1,p0,?_,fun hh=>by omega⟩
  rintro(⟨_,u,v⟩|⟨u,_⟩)
  ·exact y.elim u v
  ·omega
 ·obtain⟨p0,pv⟩:=hd' x;have h7':=aaZ h7;rw[pv]at y;exact nA (CS hl b c (dd p0) (.inr ⟨h7',by simpa using y⟩)) (by omega)
 ·obtain⟨p0,pv⟩:=hd' x;have h7':=aaZ h7;rw[pv]at y;have y':bw L k.oid=2:=by simpa using y
  obtain⟨_,_,k2,_⟩:=o7 (qM.1.1 p0);rw[k2]at z;refine nA (CY hl b c (dd p0) ?_ (.inl ⟨h7',by simpa using z⟩)) (by omega)
  rintro(⟨u,_⟩|⟨_,u⟩)<;>omega
 ·obtain⟨p0,pv⟩:=hd' x;have h7':=aaZ h7;rw[pv]at y;have y':bw L k.oid=2:=by simpa using y
  obtain⟨_,_,k2,_⟩:=o7 (qM.1.1 p0);rw[k2]at z;have z':(aj L k.oid.toNat free).calls<4294967295:=by simpa using z
  refine⟨hl,b1,b2,b3,c,d1.2,d1.1,p0,?_,fun hh=>by omega⟩
  rintro(⟨u,_⟩|⟨_,u⟩)<;>omega
 ·have h6':=aaY h6;have h7':=aaY h7;omega
 obtain⟨_,_,_,_,_,_,_,p0,f9,f10⟩:=hF;obtain⟨i0,i1,i2,i3⟩:=o7 (qM.1.1 (by omega:0<=bw L i))
 rw[i2];refine⟨fun g7=>nA (CY hl b c (dd p0) f9 (.inr ?_)) (by omega),fun g7=>?_⟩
 ·simp only[Bool.not_eq_true',Bool.or_eq_false_iff,Bool.not_eq_false',aaW,decide_eq_false_iff_not]at g7;omega
 have hE:b9 L i k md m=0:=by
  refine Zc hl b c (dd p0) f9 ?_;simp only[Bool.not_eq_false',Bool.or_eq_true,Bool.not_eq_true',aaW,decide_eq_false_iff_not]at g7;rintro(u|u)
  ·exact f10 u
  ·omega
 obtain⟨_,⟨⟨k0,k1⟩,_,_⟩,⟨hb,hb1⟩,⟨o1,l1⟩,⟨o2,l2⟩,⟨q1,q1c⟩,q2,hs32,hA⟩:=Af hL hE;obtain⟨_,_,hend⟩:=Gq hL hE;refine⟨⟨fun h1=>⟨⟨⟩,hE,?_⟩,fun h1=>⟨⟨⟩,hE,?_⟩⟩,fun _ _=>⟨⟨⟨⟩,hE,?_⟩,fun _ _=>⟨⟨fun h7=>⟨?_,⟨⟩,hE,?_⟩,fun h7=>⟨⟨⟩,hE,?_⟩⟩,fun _ _=>⟨hsz,hs8 hs32,⟨by omega,by omega,by omega⟩,hE.symm,?_⟩⟩⟩⟩
 ·unfold iO;rw[aa2 (aaZ h1)];rfl
 ·unfold iO;rw[aa1 (aaY h1)]
 ·have e:=(Oa hL hb).2;rw[hb1,i2]at e;exact e
 ·have ho:=fo.1 (dt o1 k.oid.toNat (by omega))
  rw[fG k0 (by omega)]
  have:=ho.2.2.2.2.2.2.1;have:=ho.2.2.2.2.2.2.2.1;simp only[aF,cc];omega
 ·have h7':=aaZ h7;have hc:¬4294967295<=(aj L k.oid.toNat free).calls:=fun h=>f10 ⟨h7',h⟩
  have e:=(my k0 (by omega) (Ma (dt o1 k.oid.toNat (by omega)) q1 (by rw[q1c];omega))).1
  rw[fG k0 (by omega)]
  unfold h9;rw[aa2 h7'];exact e
 ·unfold h9;rw[aa1 (aaY h7)]
 ·rw[Nx hs32,hE]at *;exact hend
theorem W6 (L:List Sx.Obj) (i:Int) (k:Key) (md:Int) (m:bp) (hL:aq L) (hs:aw m.data):an Tryz.prog 60 [.lp 0 0,.it .i64 i,.key k,.it .i64 md,jJ m] [.store tS eS L] (CA (.it .i64 (b9 L i k md m)) (fe L i k md m)) (fun _ _=>False):=
 aY (inl:=(fun f=>f==91||f==92||f==97||f==99||f==126||f==127||f==94||f==93||f==100||f==129||f==96||f==128||f==98)) (ann:=(iJ [(94,2,Ml 4),(60,2000015,En [0,1,3,7,10,11,12,15,20] (fun(_:Unit)=> []) (fun _=> [(12,.blk 129 (.it .i64 (jM md)))]) (fun _=> []) (fun _=>Ig L i k md m)),(60,2000019,En [0,1,3,7,10,11,12,15,20] (fun(_:Unit)=> []) (fun _=> [(20,.blk tK (.key (iO L i md)))]) (fun _=> []) (fun _=>n9 L i k md m)),(60,2000020,En [0,1,3,7,10,11,12,15,20] (fun(_:Unit)=> []) (fun _=> []) (fun _=> [(0,.store tS eS (gS L i md))]) (fun _=>n9 L i k md m)),(60,2000022,En [0,1,3,7,10,11,12,15,20] (fun(_:Unit)=> []) (fun _=> []) (fun _=> [(0,.store tS eS (h9 L i k md))]) (fun _=>n9 L i k md m))])) (ae bC (ae fY (ae iv (ae gy (ae dJ (ae rR (ae bR (ae wm ar)))))))) (aC dB aE) (eg lB) (Yt L i k md m hL hs) (by kernel_rfl)
theorem Xx:lh Tryz.prog 60 aab:=
 C6 (m:=fun x=>ivB.cn x 0) (fP K8 (fun _=>rfl)) (fun _=>rfl) (fun _ _=>rfl) (fun x hs=>aY (inl:=(fun f=>f==91||f==92||f==97||f==99||f==126||f==127||f==94||f==93||f==100||f==129||f==96||f==128||f==98)) (ann:=aQ) (ae sE (ae fY (ae iv (ae gy (ae dJ (ae rR (ae bR (ae wm ar)))))))) (aC dB aE) (eg lB) (Sn x.1 x.2.1 x.2.2.1 x.2.2.2.1 hs) (by kernel_rfl)) (fun x hs=>aY (inl:=(fun f=>f==91||f==92||f==97||f==99||f==126||f==127||f==94||f==93||f==100||f==129||f==96||f==128||f==98)) (ann:=aQ) (ae sE (ae fY (ae iv (ae gy (ae dJ (ae rR (ae bR (ae wm ar)))))))) (aC dB aE) (eg lB) (Ry x.1 x.2.1 x.2.2.1 x.2.2.2.1 hs) (by kernel_rfl)) fun L x hq=>W6 L x.1 x.2.1 x.2.2.1 x.2.2.2.1 hq.1 hq.2
theorem T1 (L:List Sx.Obj) (hl:iu L):
 (∃g,iB L g/\Value.slice none 0 0=Value.slice none 0 0/\0=g/\L=L/\[]=dL L g)/\∀(g:Int),iB L g->aba (decide (g<bQ (ai L))) (aba (decide (bw L g=1)) (s5 (ai (dL L g)) 8/\abd (g+1)/\∃g',iB L g'/\(bQ (ai L)-g').toNat<(bQ (ai L)-g).toNat/\Value.slice none 0 0=Value.slice none 0 0/\g+1=g'/\L=L/\jm (dL L g) g=dL L g') (abd (g+1)/\∃g',iB L g'/\(bQ (ai L)-g').toNat<(bQ (ai L)-g).toNat/\Value.slice none 0 0=Value.slice none 0 0/\g+1=g'/\L=L/\dL L g=dL L g')) (true=true/\∀(nid:Nat),some (V.sa nid)=some (V.sa nid)/\some [aK.arr (some tI) 1 (TL.it IntKind.i64 (dL L g))]=some [aK.arr (some tI) 1 (TL.it IntKind.i64 (dL L (bQ (ai L))))]):=by
 delta aba abd
 simp only[kH,jy,mN,iZ,decide_true,Bool.and_true,Bool.not_true,Bool.or_false,Bool.not_false,Bool.false_eq_true,Bool.true_eq_false,false_implies,implies_true,true_implies,true_and,and_true,and_self];refine⟨⟨0,⟨by omega,by omega⟩,rfl,(wU L).symm⟩,fun g hg=>⟨fun h=>?_,fun h=>?_⟩⟩
 ·have h1:g<(L.length:Int):=aaZ h;obtain⟨s1,s2,s3⟩:=EZ hl hg h1;have e:=wC L hg.1;refine⟨fun h2=>⟨Ee hl h1,s1,g+1,s2,s3,rfl,?_⟩,fun h2=>⟨s1,g+1,s2,s3,rfl,?_⟩⟩
  ·rw[e,aa2 (aaZ h2)]
  ·rw[e,aa1 (aaY h2)]
 ·have h1:¬g<(L.length:Int):=aaY h;have:g=bQ (ai L):=by have:=hg.2;unfold bQ ai at *;omega
  rw[this];exact fun _=>rfl
theorem UE (L:List Sx.Obj) (hl:iu L):an Tryz.prog 49 [.sa 0] [.ro (.arr none 163 (.ob L))] (Dh true ke (fun n=> .sa n) (.arr (some tI) 1 (.it .i64 (dL L (bQ (ai L)))))) (fun _ _=>False):=
 bm (inl:=bx) (ann:=(iJ [(49,3,lpS [0,2] (fun g=> [(4,.it .i64 g)]) 3 tI 1 (fun g=> .it .i64 (dL L g)) (iB L) (bQ (ai L)))])) (ae vM ar) aE (T1 L hl) (by kernel_rfl)
theorem Te:lh Tryz.prog 49 Wz:=
 Cq (aA jC bV) (fun _=>rfl) (fun _=>by simp) fun a hq hok=>by
  obtain⟨L,_⟩:=a;exact UE L hq
theorem Re:
 abb (abb (∀(r0:Loop),(∃g,iB [] g/\ak []=ak []/\0=g/\Value.pointer none=Value.pointer none/\r0=r0/\[]=dL [] g)/\∀(g:Int),iB [] g->aba (decide (g<ak [])) False (abb (∀(nid:Nat),some (V.sa nid)=some (V.sa nid)/\some [aK.arr (some tI) 1 (TL.it IntKind.i64 (dL [] g))]=some [aK.arr (some tI) 1 (TL.it IntKind.i64 (dL [] (bQ (ai ([]:List Sx.Obj)))))])))):=by
 delta aba abb
 simp only[kH,jy,mN,iZ,decide_true,Bool.and_true,Bool.not_true,Bool.or_false,Bool.not_false,Bool.false_eq_true,Bool.true_eq_false,false_implies,implies_true,true_implies,true_and,and_true,and_self];refine fun _=>⟨⟨0,⟨by omega,by unfold ai;simp⟩,rfl,rfl⟩,fun g hg=>⟨fun h=>?_,fun h _=>?_⟩⟩
 ·have h1:g<ak []:=aaZ h;have:=hg.1;unfold ak ai at h1;simp at h1;omega
 ·have:g=bQ (ai ([]:List Obj)):=by have:=hg.1;have:=hg.2;unfold bQ ai at *;simp at *;omega
  rw[this];rfl
theorem SS:an Tryz.prog 57 [ke] [] (Dh true ke (fun n=> .sa n) (.arr (some tI) 1 (.it .i64 (dL [] (bQ (ai ([]:List Sx.Obj))))))) (fun _ _=>False):=
 bm (inl:=(fun f=>f==88||f==24)) (ann:=(iJ [(4000+44,1,lpV [0,1,5] (fun g=> [(6,.it .i64 g)]) 0 103 tI 1 (fun g=> .it .i64 (dL [] g)) (iB []) (bQ (ai ([]:List Sx.Obj))))])) (ae bC ar) aE (Re) (by kernel_rfl)
theorem WJ (L:List Sx.Obj) (hl:iu L):
 abb (abb (∀(r0:Loop),(∃g,iB L g/\ak L=ak L/\0=g/\L=L/\r0=r0/\[]=dL L g)/\∀(g:Int),iB L g->aba (decide (g<ak L)) ((0<=g/\g< ↑(ai L))/\g.toNat<ai L/\g.toNat<ai L/\r0=r0/\r0=r0/\abb (aba (!decide ((aj L g.toNat free).kind=1)|| !decide (((aj L g.toNat free).slots.at 2).kind=1)||decide (((aj L g.toNat free).slots.at 2).value<0)||decide (2<((aj L g.toNat free).slots.at 2).value)) (r0=r0/\abd (g+1)/\∃g',iB L g'/\(bQ (ai L)-g').toNat<(bQ (ai L)-g).toNat/\ak L=ak L/\g+1=g'/\L=L/\r0=r0/\dL L g=dL L g') (aba (decide (((aj L g.toNat free).slots.at 2).value=1)) (s5 (ai (dL L g)) 8/\r0=r0/\abd (g+1)/\∃g',iB L g'/\(bQ (ai L)-g').toNat<(bQ (ai L)-g).toNat/\ak L=ak L/\g+1=g'/\L=L/\r0=r0/\jm (dL L g) g=dL L g') (r0=r0/\abd (g+1)/\∃g',iB L g'/\(bQ (ai L)-g').toNat<(bQ (ai L)- g).toNat/\ak L=ak L/\g+1=g'/\L=L/\r0=r0/\dL L g=dL L g')))) (abb (∀(nid:Nat),some (V.sa nid)=some (V.sa nid)/\some [aK.arr (some tI) 1 (TL.it IntKind.i64 (dL L g))]=some [aK.arr (some tI) 1 (TL.it IntKind.i64 (dL L (bQ (ai L))))])))):=by
 delta aba abd abb
 simp only[yg];simp only[kH,jy,mN,iZ,decide_true,Bool.and_true,Bool.not_true,Bool.or_false,Bool.not_false,Bool.false_eq_true,Bool.true_eq_false,false_implies,implies_true,true_implies,true_and,and_true,and_self];refine fun _=>⟨⟨0,⟨by omega,by omega⟩,rfl,(wU L).symm⟩,fun g hg=>⟨fun h=>?_,fun h=>?_⟩⟩
 ·have h1:g<(L.length:Int):=aaZ h;obtain⟨s1,s2,s3⟩:=EZ hl hg h1;have e:=wC L hg.1;have hlL:ai L=L.length:=rfl;have hg0:=hg.1;have hget:aL L g=aj L g.toNat free:=fG hg.1 h1;refine⟨⟨by omega,by omega⟩,by omega,by omega,fun h2=>⟨s1,g+1,s2,s3,rfl,?_⟩,fun h2=>⟨fun h3=>⟨Ee hl h1,s1,g+1,s2,s3,rfl,?_⟩,fun h3=>⟨s1,g+1,s2,s3,rfl,?_⟩⟩⟩
  ·have hb:dS L g=false:=by unfold dS;rw[hget];simpa using h2
   rw[e,aa1 (by rw[(ur hb).1];omega)]
  ·have hb:dS L g=true:=by unfold dS;rw[hget];simpa using h2
   rw[e,aa2 (by rw[(mG hb).1,hget];exact aaZ h3)]
  ·have hb:dS L g=true:=by unfold dS;rw[hget];simpa using h2
   rw[e,aa1 (by rw[(mG hb).1,hget];exact aaY h3)]
 ·have h1:¬g<(L.length:Int):=aaY h;have:g=bQ (ai L):=by have:=hg.2;unfold bQ ai at *;omega
  rw[this];exact fun _=>rfl
theorem V4 (L:List Sx.Obj) (hl:iu L):an Tryz.prog 57 [.lp 0 0] [.ro (.store tS eS L)] (Dh true ke (fun n=> .sa n) (.arr (some tI) 1 (.it .i64 (dL L (bQ (ai L)))))) (fun _ _=>False):=
 bm (inl:=(fun f=>f==88||f==24)) (ann:=(iJ [(4000+44,1,lpV [0,1,5] (fun g=> [(6,.it .i64 g)]) 1 103 tI 1 (fun g=> .it .i64 (dL L g)) (iB L) (bQ (ai L)))])) (ae bC ar) aE (WJ L hl) (by kernel_rfl)
theorem VP:lh Tryz.prog 57 ZQ:=
 Cq (aA tk bV) (fun _=>rfl) (fun _=>by simp) fun a hq hok=>by
  obtain⟨S,_⟩:=a;cases S with
  |none=>exact SS
  |some L=>exact V4 L hq
end Go.Proofs.YtlblcfaclmpekaaGreat
namespace Go.Sx
def oP:Nat:=179
def jz (k:Key) (r:Int):Key:=if k.kind=2 then dn k (iD k.rights r)else if k.kind=3 then dn k (iD k.rights (r.tmod 2))else k
def iK (k:Key) (r:Int):Prop:=aV k=true/\0<=r/\r<=7
def VA:Ct:=s7 (ba kA (ba iA gJ)) (fun x=>some (iK x.1 x.2.1)) fun x=> .tp [.key (jz x.1 x.2.1),.ci .i64 0]
def UQ:Ct:=s7 (ba kA (ba iA gJ)) (fun x=>some (iK x.1 x.2.1)) fun x=> .key (jz x.1 x.2.1)
def k7 (a b:Key):Bool:=aV a&&aV b&&(decide (a.kind=0)||Bw a b||(decide (a.kind=2)||decide (a.kind=3))&&decide (a.kind=b.kind)&&decide (a.oid=b.oid)&&decide (a.count=b.count)&&decide (iD a.rights b.rights=a.rights))
def Pj:Ct:=Se rK rK fun a b=> .bo (k7 a b)
theorem Gi {a:Int} (h:0<=a/\a<=7):∃x:Fin 8,a=(x.val:Int):=⟨⟨a.toNat,by omega⟩,by simp;omega⟩
theorem LU {a r:Int} (h:0<=a/\a<=7) (h':0<=r/\r<=7):bk .or .i64 a (bk .and .i64 r 7)=iD a r:=by
 have key:∀x y:Fin 8,bk .or .i64 (x.val:Int) (bk .and .i64 (y.val:Int) 7)=iD (x.val:Int) (y.val:Int):=by decide+kernel
 obtain⟨x,rfl⟩:=Gi h;obtain⟨y,rfl⟩:=Gi h';exact key x y
theorem KJ {a r:Int} (h:0<=a/\a<=1) (h':0<=r/\r<=7):bk .or .i64 a (bk .and .i64 r 1)=iD a (r.tmod 2):=by
 have key:∀x y:Fin 8,x.val<=1->bk .or .i64 (x.val:Int) (bk .and .i64 (y.val:Int) 1)=iD (x.val:Int) ((y.val:Int).tmod 2):=by decide+kernel
 obtain⟨x,rfl⟩:=Gi (a:=a) (by omega)
 obtain⟨y,rfl⟩:=Gi h';exact key x y (by omega)
theorem Qf {r:Int} (h':0<=r/\r<=7):bk .or .i64 0 (bk .and .i64 r 0)=0:=by
 have key:∀y:Fin 8,bk .or .i64 0 (bk .and .i64 (y.val:Int) 0)=0:=by decide+kernel
 obtain⟨y,rfl⟩:=Gi h';exact key y
theorem Ba {a b:Int} (h:0<=a/\a<=7) (h':0<=b/\b<=7):decide (bk .andNot .i64 b a=0)=decide (iD a b=a):=by
 have key:∀x y:Fin 8,decide (bk .andNot .i64 (y.val:Int) (x.val:Int)=0)=decide (iD (x.val:Int) (y.val:Int)=(x.val:Int)):=by decide+kernel
 obtain⟨x,rfl⟩:=Gi h;obtain⟨y,rfl⟩:=Gi h';exact key x y
def eY (k:Key):bp:=⟨0,⟨#[]⟩,k,void,void⟩
def fu (n:Int):bp:=⟨0,⟨#[]⟩,void,void,bL n⟩
def gm (s:ByteArray):bp:=⟨0,s,void,void,void⟩
def gg (e:Int):bp:=⟨e,⟨#[]⟩,void,void,void⟩
def fl (k:Key):Key:=⟨2,k.oid,k.count,0,0,0⟩
def aS (m:bp):Int:=if 0<=m.k2.value/\m.k2.value<=2147483647 then m.k2.value else -1
def dZ (b:Bool):Int:=if b then 1 else 0
def qJ (n:Int):Int:=imax 0 (lT 32 (64-n))
abbrev P6:=Int×bp×List Obj
def ey (L:List Obj) (k:Key) (m:bp):P6:=
 if m.code=1 then(bY L k (aS m),eY (aJ L k (aS m)),L)
 else if m.code=2 then(bj L k (aS m) m.k0,eY (cT L k (aS m) m.k0),cC L k (aS m) m.k0)
 else if m.code=3 then(aB L k 2 true,cY,fA L k)
 else if m.code=4 then(bT L k m.k0,cY,eT L k m.k0)
 else if m.code=5 then(if 0<=m.k2.value/\m.k2.value<=7 then 0 else 2,eY (jz k m.k2.value),L)
 else(if k.rights=0 then 0 else 191,eY ⟨5,k.oid,k.count,0,0,0⟩,L)
def eo (L:List Obj) (k:Key) (m:bp):P6:=
 if m.code=1 then(cD L k (aS m) (qJ (aS m)),gm (ec L k (aS m) (qJ (aS m))),L)
 else if m.code=2 then(cL L k (aS m) m.data,cY,eZ L k (aS m) m.data)
 else if m.code=3 then(aW L k true,cY,fq L k)
 else if m.code=4 then(cU L k m.k0,cY,fM L k m.k0)
 else(if 0<=m.k2.value/\m.k2.value<=7 then 0 else 2,eY (jz k m.k2.value),L)
def dC (L:List Obj) (k:Key) (m:bp):P6:=
 if m.code=1 then(cA L k 1,eY (dh L k 1),fx L k 1)
 else if m.code=2 then(cA L k 2,eY (dh L k 2),fx L k 2)
 else if m.code=3 then(cE L k m.k0,cY,gA L k m.k0)
 else if m.code=4 then(b8 L k (aS m),eY (ck L k (aS m)),bE L k (aS m))
 else if m.code=5 then(aN L k,fu (dZ (jF L k m.k0)),L)
 else(aN L k,fu (fN L k),ib L k)
def fO (L:List Obj) (k:Key):Key:=aJ L (fl k) 0
def dv (L:List Obj) (k:Key) (m:bp):P6:=
 if m.code=1 then(if aS m<0\/11<aS m then 4 else bY L (fl k) (aS m+4),eY (aJ L (fl k) (aS m+4)),L)
 else if m.code=2 then(if aS m<0\/11<aS m then 4 else bj L (fl k) (aS m+4) m.k0,eY (cT L (fl k) (aS m+4) m.k0),if aS m<0\/11<aS m then L else cC L (fl k) (aS m+4) m.k0)
 else if m.code=3 then(0,eY ⟨6,k.oid,k.count,0,0,m.k2.value⟩,L)
 else if m.code=4 then(0,fu (bw L k.oid),L)
 else if m.code=5 then(er L k.oid (aS m),cY,dg L k.oid (aS m))
 else if m.code=6 then(if cm L (fO L k) m.k2.value 32=0 then(if bW L (fO L k) m.k2.value 32 false=0 then 0 else 1000+bW L (fO L k) m.k2.value 32 false)else cm L (fO L k) m.k2.value 32,gm (jW L (fO L k) m.k2.value 32),L)
 else(if cm L (fO L k) m.k2.value (bO m.data)=0 then(if bW L (fO L k) m.k2.value (bO m.data) true=0 then 0 else 1000+bW L (fO L k) m.k2.value (bO m.data) true)else cm L (fO L k) m.k2.value (bO m.data),cY,kx L (fO L k) m.k2.value m.data)
def de (kind:Int):Int:=if kind=1 then 1 else if kind=2 then 6 else if kind=3 then 5 else if kind=4 then 6 else if kind=5 then 7 else if kind=8 then 3 else if kind=9\/kind=10 then 1 else 0
def cX (kind c:Int):Bool:=
 if kind=2\/kind=3 then decide (c=1)||decide (c=2)||decide (c=5)else if kind=4 then decide (c=4)
 else if kind=5 then decide (1<=c/\c<=3)||decide (5<=c/\c<=7)else false
def eJ (L:List Obj) (now:Int) (k:Key) (m:bp):P6:=
 if k.kind=1 then(0,fu k.value,L)
 else if k.kind=2 then ey L k m
 else if k.kind=3 then eo L k m
 else if k.kind=4 then dC L k m
 else if k.kind=5 then dv L k m
 else if k.kind=8 then(0,if m.code=1 then fu m.k0.kind else if m.code=2 then fu (dZ (k7 m.k0 m.k1))else fu m.k0.rights,L)
 else if k.kind=9 then(0,fu now,L)
 else(0,cY,L)
def dI (L:List Obj) (now:Int) (k:Key) (m:bp):P6:=
 if k.kind=0 then(190,cY,L)
 else if m.code=0 then(0,fu k.kind,L)
 else if m.code<1\/de k.kind<m.code\/(cX k.kind m.code=true/\m.k2.kind≠1)then(240,cY,L)
 else eJ L now k m
def en (L:List Obj) (now:Int) (k:Key) (m:bp):bp:=if(dI L now k m).1=0 then(dI L now k m).2.1 else gg (dI L now k m).1
def eF (L:List Obj) (now:Int) (k:Key) (m:bp):List Obj:=(dI L now k m).2.2
def aP (L:List Obj) (now:Int) (k:Key) (m:bp):bp×List Obj:=(en L now k m,eF L now k m)
def kk (c:Int) (k:Key):Key:=⟨c,k.oid,k.count,k.call,k.rights,k.value⟩
def mm (c:Int) (m:bp):bp:=⟨c,m.data,m.k0,m.k1,m.k2⟩
def eB:ByteArray:=⟨#[]⟩
def iU (c:V) (m:bp) (n:Int) (kd:V) (k:Key):V:= .ag [.ag [c,.st m.data,.ag [.key m.k0,.key m.k1,.key m.k2]],.lp 1 0,.it .i64 n,.ag [kd,.it .i64 k.oid,.it .i64 k.count,.it .i64 k.call,.it .i64 k.rights,.it .i64 k.value]]
def kO (A:bp×List Obj) (v:V) (r:List aK):Prop:=
 match AL v with
 |some x=>match az r 1 with
  | .store t e M=>if t==tS&&e==eS then(x,M)=A else False
  |_=>False
 |none=>False
theorem VQ {A:bp×List Obj} {v:V} {r:List aK} (h:kO A v r):ya (jJ A.1) v r/\az r 1= .store tS eS A.2:=by
 unfold kO at h;split at h
 case h_2=>exact h.elim
 rename_i x hx;split at h
 case h_2=>exact h.elim
 rename_i hr;split at h
 case isFalse=>exact h.elim
 rename_i hc;simp only[aaV,aaX]at hc;obtain⟨rfl,rfl⟩:=hc;subst h;obtain⟨a,b⟩:=DA v x hx;have ht:cS v=false:=by cases v<;>first|rfl|simp[AL]at hx
 exact⟨fun J K=>⟨a J,fun h=>fT (b K h),ht⟩,hr⟩
def uD (r:P6):bp×List Obj:=(if r.1=0 then r.2.1 else gg r.1,r.2.2)
theorem Im {L:List Obj} {n:Int} {k:Key} {m:bp} {c:Int} (hc:1<=c/\c<=7):aP L n (kk 5 k) (mm c m)=if cX 5 c=true/\m.k2.kind≠1 then(gg 240,L)else uD (dv L (kk 5 k) (mm c m)):=by
 have h0:¬c=0:=by omega
 have h1:¬(c<1\/de 5<c):=by have:de 5=7:=by decide
                            omega
 have e1:(kk 5 k).kind=5:=rfl;have e2:(mm c m).code=c:=rfl;have e3:(mm c m).k2=m.k2:=rfl;have hb:eJ L n (kk 5 k) (mm c m)=dv L (kk 5 k) (mm c m):=by unfold eJ;rw[e1];rfl
 have hr:dI L n (kk 5 k) (mm c m)=if cX 5 c=true/\m.k2.kind≠1 then(240,cY,L)else dv L (kk 5 k) (mm c m):=by
  unfold dI;rw[e1,e2,e3,aa1 (by omega),aa1 h0,hb]
  by_cases h:cX 5 c=true/\m.k2.kind≠1
  ·rw[aa2 (.inr (.inr h)),aa2 h]
  ·rw[aa1 (fun hh=>by rcases hh with hh|hh|hh;exact h1 (.inl hh);exact h1 (.inr hh);exact h hh),aa1 h]
 unfold aP en eF;rw[hr];by_cases h:cX 5 c=true/\m.k2.kind≠1
 ·simp only[aa2 h];rfl
 ·simp only[aa1 h];rfl
theorem LR {L:List Obj}:∀(n:Nat) (w:Wk),0<=(QR L n w).kd/\(QR L n w).kd<=4
 |0,w=>by simp[QR]
 |n+1,w=>by
  unfold QR;split
  ·split<;>simp
  ·split
   ·split
    ·rename_i r heq;unfold mC at heq;split at heq
     ·simp at heq;rw[<-heq];simp
     ·split at heq
      ·split at heq
       ·simp at heq
       ·simp at heq;rw[<-heq];simp
      ·simp at heq;rw[<-heq];simp
    ·exact LR n _
   ·simp
theorem Iu {L:List Obj} {k:Key} {a n:Int} {w:Bool}:0<=bW L k a n w/\bW L k a n w<=6:=by
 have h:0<=(au L k a).kd/\(au L k a).kd<=4:=by
  unfold au;split
  ·exact LR _ _
  ·simp[YK]
 unfold bW;grind
def qL (L:List Obj) (n:Int) (k:Key) (m:bp):Bool:=decide (0<=n)&&fk L m&&bJ L k
def cJ (L:List Obj) (n:Int) (k:Key) (m:bp):Int:=
 if ai L=0 then 1 else if qL L n k m=false then 2 else if(ah L k).kind=6\/(ah L k).kind=7 then 241 else 0
def aG (L:List Obj) (n:Int) (k:Key) (m:bp):bp:=if cJ L n k m=0 then en L n (ah L k) (aH L m)else cY
def cW (L:List Obj) (n:Int) (k:Key) (m:bp):Bool:=decide (cJ L n k m=0)&&decide ((ah L k).kind=10)&&decide (m.code=1)
def ia (L:List Obj) (n:Int) (k:Key) (m:bp):List Obj:=if cJ L n k m=0 then eF L n (ah L k) (aH L m)else L
def PG:Ct:=s7 (ba sA (ba kA gJ)) (fun _=>none) fun x=> .bo (bJ (DG x.1) x.2.1)
def MG:ly (Int×Key×bp×Unit):=ba iA (ba kA (ba mA gJ))
theorem IP:gR MG:=aA dE (aA iI (aA zY bV))
def aaR:kq:=YE (uw MG) (fun x=>aw x.2.2.1.data) (fun L x=>aq L/\aw x.2.2.1.data) (fun L x=> .tp [jJ (aG L x.1 x.2.1 x.2.2.1),.bo (cW L x.1 x.2.1 x.2.2.1),.it .i64 (cJ L x.1 x.2.1 x.2.2.1)]) fun L x=>ia L x.1 x.2.1 x.2.2.1
def Vn (L:List Obj) (k:Key) (m:bp):Prop:=aq L/\aw m.data/\aV k=true
def Vc:kq:=fun args res K=>
 match args with
 | [a]=>match a with
   | .lp j off=>if off==0 then match az res j with
     | .blk t c=>if t==oP then match c with
       | .ag cl=>match cl with
         | [mv,sv,nv,kv]=>match AL mv with
           |some m=>match sv with
            | .lp i o2=>if o2==0&& !(i==j)then match rI .i64 nv with
              |some n=>match rK kv with
               |some k=>match az res i with
                | .store t2 e L=>if t2==tS&&e==eS then Vn L k m/\K (jJ (en L n k m)) (bP res i (.store tS eS (eF L n k m)))else False
                |_=>False
               |none=>False
              |none=>False
              else False
            |_=>False
           |none=>False
         |_=>False
       |_=>False
       else False
     |_=>False
     else False
   |_=>False
 |_=>False
theorem tH {L:List Obj} {k:Key}:aV (ah L k)=true:=by
 unfold ah;split
 ·rfl
 ·rename_i h;simp only[Bool.or_eq_true,not_or,Bool.not_eq_true',Bool.not_eq_false]at h;exact h.1.2
theorem qV {k:IntKind} {v:V} {n:Int} (h:rI k v=some n):kE v=true:=by
 cases v<;>first|rfl|simp[rI,toInt]at h
theorem P8 {v:V} {s:ByteArray} (h:EM v=some s):kE v=true:=by
 cases v<;>first|rfl|simp[EM]at h
theorem C9 {v:V} {k:Key} (h:rK v=some k):kE v=true:=by
 unfold rK at h;split at h
 ·rfl
 ·split at h
  case h_2=>simp at h
  repeat' (split at h<;>try(simp at h;done))
  rename_i h1 _ _ h2 _ _ h3 _ _ h4 _ _ h5 _ _ h6;simp[kE,lW,qV h1,qV h2,qV h3,qV h4,qV h5,qV h6]
 ·simp at h
theorem P7 {v:V} {m:bp} (h:AL v=some m):kE v=true:=by
 unfold AL at h;split at h
 case h_2=>simp at h
 split at h
 case h_2=>simp at h
 split at h
 case h_2=>simp at h
 rename_i hn;split at h
 case h_2=>simp at h
 rename_i hs;split at h
 case h_2=>simp at h
 split at h
 case h_2=>simp at h
 split at h
 case h_2=>simp at h
 rename_i hk;split at h
 case h_2=>simp at h
 rename_i hk';split at h<;>simp only[aaT,reduceCtorEq]at h
 rename_i hk'';simp[kE,lW,qV hn,P8 hs,C9 hk,C9 hk',C9 hk'']
theorem EX {P:Program} {f:Nat} {K KP:V->List aK->Prop} {t:Nat} {c c':V} {r:aK} (hr:r≠ .yet) (hc:∀J,cells J c=cells J c') (hc':∀K,ok K c->ok K c') (hct:cS c'=false)
  (h:an P f [.lp 0 0] [.ro (.blk t c'),r] K KP):an P f [.lp 0 0] [.ro (.blk t c),r] K KP:=by
 have hk:∀i (x:V),known [.ro (.blk t x),r] i↔i=0\/i=1:=fun i x=>by
  unfold known;rcases i with _|_|i<;>simp[az,hr]
 have hkk:∀i (x y:V),known [.ro (.blk t x),r] i->known [.ro (.blk t y),r] i:=fun i x y h=>(hk i y).2 ((hk i x).1 h)
 refine h.uU fun J fps w0 F0 w hH=>⟨J,fps,hH.weaken fun i hi=>⟨hkk i _ _ hi,fun fp hh=>?_⟩,Env.bD.refl _ _,fun i hi=>hkk i _ _ hi⟩
 rcases(hk i _).1 hi with rfl|rfl
 ·obtain⟨fp',⟨h1,h2,h3,h4⟩,h5⟩:=hh;exact⟨fp',⟨hc' _ (ef (fun i hi=>hkk i _ _ hi) _ h1),hct,h3,by rw[<-hc];exact h4⟩,h5⟩
 ·exact aK.oG _ hh fun i hi=>hkk i _ _ hi
theorem zd {P:Program} {f:Nat} {K KP:V->List aK->Prop} {c c' d d':V} {m:bp} {n:Int} {k:Key} {r:aK} (hr:r≠ .yet) (hc:∀J,den J c=den J c') (hc':∀K,ok K c->ok K c') (hct:cS c'=false) (hd:∀J,den J d=den J d') (hd':∀K,ok K d->ok K d') (hdt:cS d'=false)
  (h:an P f [.lp 0 0] [.ro (.blk oP (iU c' m n d' k)),r] K KP):an P f [.lp 0 0] [.ro (.blk oP (iU c m n d k)),r] K KP:=by
 refine EX hr (fun J=>by simp only[cells,iU,den,bn,hc,hd]) (fun K h1=>?_) rfl h
 obtain⟨⟨⟨⟨x1,x2⟩,_⟩,y,z,⟨⟨u1,u2⟩,_⟩,_⟩,v⟩:=h1;exact⟨⟨⟨⟨hc' _ x1,x2⟩,by cases c'<;>first| (simp[tv];done)|simp[cS]at hct⟩,y,z,⟨⟨hd' _ u1,u2⟩,by cases d'<;>first| (simp[tv];done)|simp[cS]at hdt⟩,trivial⟩,by simp[tv]⟩
theorem Nk {P:Program} {f:Nat} {K KP:V->List aK->Prop} {mv nv kv:V} {m:bp} {n:Int} {k:Key} {r:aK} (hr:r≠ .yet) (hm:AL mv=some m) (hn:rI .i64 nv=some n) (hk:rK kv=some k)
  (h:an P f [.lp 0 0] [.ro (.blk oP (iU (.it .i64 m.code) m n (.it .i64 k.kind) k)),r] K KP):an P f [.lp 0 0] [.ro (.blk oP (.ag [mv,.lp 1 0,nv,kv])),r] K KP:=by
 obtain⟨m1,m2⟩:=DA _ _ hm;obtain⟨n1,n2⟩:=gq .i64 _ _ hn;obtain⟨k1,k2⟩:=gI _ _ hk;refine EX hr (fun J=>?_) (fun K h1=>?_) rfl h
 ·simp only[cells,iU,den,bn,m1 J,n1 J,k1 J,jJ,Value.cells,eO,i64];simp
 ·obtain⟨⟨x,y,z,u,_⟩,_⟩:=h1;obtain⟨a1,a2,a3,a4,a5,a6⟩:=(k2 K u:k.wf);exact⟨⟨fT (m2 K x),y,n2 K z,⟨⟨a1,a2,a3,a4,a5,a6,trivial⟩,by simp[tv]⟩,trivial⟩,by simp[tv,jJ]⟩
def oc (a b:Int) (k:Key) (m:bp):Bool:=decide (k.kind=a)&&decide (m.code=b)
theorem yv {c:Int} {k:Key} (h:k.kind=c):kk c k=k:=by subst h;rfl
theorem It {c:Int} {m:bp} (h:m.code=c):mm c m=m:=by subst h;rfl
def odX (nid:Nat):V:= .mp nid
def Ib (nid:Nat):List aK:= [.mq [[1,1],[2,1],[2,2],[2,3],[2,4],[2,5],[2,6],[3,1],[3,2],[3,3],[3,4],[3,5],[4,1],[4,2],[4,3],[4,4],[4,5],[4,6],[5,1],[5,2],[5,3],[5,4],[5,5],[5,6],[5,7],[8,1],[8,2],[8,3],[9,1],[10,1]] [.fn 143 [],.fn 145 [],.fn 149 [],.fn 151 [],.fn 154 [],.fn 156 [],.fn 157 [],.fn 158 [],.fn 159 [],.fn 161 [],.fn 163 [],.fn 156 [],.fn 210 [.lp (nid+1) 0],.fn 210 [.lp (nid+1+1) 0],.fn 166 [],.fn 168 [],.fn 170 [],.fn 171 [],.fn 172 [],.fn 175 [],.fn 176 [],.fn 178 [],.fn 179 [],.fn 180 [],.fn 181 [],.fn 182 [],.fn 183 [],.fn 187 [],.fn 189 [],.fn 190 []],.blk 70 (.ci .i64 1),.blk 70 (.ci .i64 2)]
end Go.Sx
namespace Go.Proofs.YtlblcfaclmpekaaGreat
open Go.Sx
theorem Ob (k:Key) (r:Int) (hq:iK k r):
 ((!aV k||decide (r<0)||decide (7<r))=true->False)/\((!aV k||decide (r<0)||decide (7<r))=false->Key.mk k.kind k.oid k.count k.call (bk BinOp.or IntKind.i64 k.rights
   (bk BinOp.and IntKind.i64 r (fy k.kind))) k.value=jz k r):=by
 obtain⟨hk,h0,h7⟩:=hq;have hr:=jj hk;refine⟨fun h=>?_,fun _=>?_⟩
 ·simp[hk]at h;omega
 obtain⟨kind,oid,count,call,rights,value⟩:=k;simp only at hr⊢;unfold jz dn;by_cases h2:kind=2
 ·subst h2;have:=LU (a:=rights) (r:=r) (by have:fy 2=7:=rfl;omega) ⟨h0,h7⟩
  simp only[if_true,show fy 2=7 from rfl,this]
 ·by_cases h3:kind=3
  ·subst h3;have:=KJ (a:=rights) (r:=r) (by have:fy 3=1:=rfl;omega) ⟨h0,h7⟩
   simp only[show¬(3:Int)=2 by omega,if_false,if_true,show fy 3=1 from rfl,this]
  ·have hm:fy kind=0:=by unfold fy;simp[h2,h3]
   have hz:rights=0:=by omega
   subst hz;simp only[h2,h3,if_false,hm,Qf ⟨h0,h7⟩]
theorem FE:cz Tryz.prog 201 VA:=
 eQ (aA iI (aA dE bV)) (fun _=>rfl) fun a hq hok=>by
  obtain⟨k,r,_⟩:=a;exact bc (inl:=bx) (ann:=aQ) (ae zN ar) (Ob k r hq) (by kernel_rfl)
theorem KW (k:Key) (r:Int) (hq:iK k r):
 aba (decide (k.kind=2)) (Key.mk k.kind k.oid k.count k.call (iD k.rights r) k.value=jz k r) (aba (decide (k.kind=3)) ((nX 2/\aF IntKind.i64 (r.tmod 2))/\Key.mk k.kind k.oid k.count k.call (iD k.rights (r.tmod 2)) k.value=jz k r) (k=jz k r)):=by
 delta aba
 refine⟨fun h=>?_,fun h=>⟨fun h'=>⟨⟨by unfold nX;omega,pq _⟩,?_⟩,fun h'=>?_⟩⟩
 ·unfold jz;rw[aa2 (aaZ h)];rfl
 ·unfold jz;rw[aa1 (aaY h),aa2 (aaZ h')];rfl
 ·unfold jz;rw[aa1 (aaY h),aa1 (aaY h')]
theorem Fl:cz Tryz.prog 113 UQ:=
 eQ (aA iI (aA dE bV)) (fun _=>rfl) fun a hq hok=>by
  obtain⟨k,r,_⟩:=a;exact bc (inl:=bx) (ann:=aQ) (ae yE ar) (KW k r hq) (by kernel_rfl)
theorem TD (a b:Key) (ha:a.wf) (hb:b.wf):
 aba (!aV a|| !aV b) (false=k7 a b) (aba (decide (a.kind=0)||Bw a b) (true=k7 a b) ((pI a.kind&&decide (a.kind=b.kind)&&decide (a.oid=b.oid)&&decide (a.count=b.count)&&decide (bk BinOp.andNot IntKind.i64 b.rights a.rights=0))=k7 a b)):=by
 delta aba
 unfold k7;cases ha1:aV a
 ·simp
 cases hb1:aV b
 ·simp
 have hra:=jj ha1;have hrb:=jj hb1;refine⟨fun h=>by simp at h,fun _=>⟨fun h=>by simp only[h,Bool.true_and,Bool.true_or],fun h=>?_⟩⟩
 rw[h];simp only[Bool.true_and,Bool.false_or];by_cases hk:a.kind=b.kind
 ·by_cases h2:a.kind=2
  ·have m1:fy a.kind=7:=by rw[h2];rfl
   have m2:fy b.kind=7:=by rw[<-hk,h2];rfl
   rw[Ba (by omega) (by omega)]
   simp[pI,h2]
  ·by_cases h3:a.kind=3
   ·have m1:fy a.kind=1:=by rw[h3];rfl
    have m2:fy b.kind=1:=by rw[<-hk,h3];rfl
    rw[Ba (by omega) (by omega)]
    simp[pI,h3]
   ·simp[pI,h2,h3]
 ·simp[hk]
theorem S7:cz Tryz.prog 186 Pj:=
 pf gI gI (fun _ _=>rfl) fun a b ha hb=>bc (inl:=bx) (ann:=aQ) (ae zN ar) (TD a b ha hb) (by kernel_rfl)
theorem RM (a b:Key) (ha:a.wf) (hb:b.wf):
 aba (!decide (bB a=0)|| !decide (bB b=0)) (false=k7 a b) (aba (decide (a.kind=0)||Bw a b) (true=k7 a b) (((decide (a.kind=2)||decide (a.kind=3))&&decide (a.kind=b.kind)&&decide (a.oid=b.oid)&&decide (a.count=b.count)&&decide (iD a.rights b.rights=a.rights))=k7 a b)):=by
 delta aba
 unfold k7 bB;cases ha1:aV a
 ·simp
 cases hb1:aV b
 ·simp
 refine⟨fun h=>by simp at h,fun _=>⟨fun h=>by simp only[h,Bool.true_and,Bool.true_or],fun h=>?_⟩⟩
 rw[h];simp only[Bool.true_and,Bool.false_or]
theorem QX:cz Tryz.prog 87 Pj:=
 pf gI gI (fun _ _=>rfl) fun a b ha hb=>bc (inl:=bx) (ann:=aQ) (ae vN (ae yE ar)) (RM a b ha hb) (by kernel_rfl)
open Go.RowKit (Below)
theorem TK {P:Program} {ops:Array Oper} {Q:Exit->Act->World->Prop} (I:(Nat->Bool)->Act->World->Prop)
  (hlt:∀(i:Nat) o,ops[i]? =some o->∀e∈o.after,Region.binds .any e=true->e.on<i)
  (hstep:∀L a w (i:Nat) o,ops[i]? =some o->L i=false->(∀e∈o.after,Region.binds .any e=true->L e.on=true)->I L a w->∀K:Act->World->Prop,(∀a' w',I (ins L i) a' w'->K a' w')->wpOpIn (FF P none) 0 P ops Q i K a w)
  (hfin:∀L a w,(∀i,i<ops.size->L i=true)->I L a w->Q .normal a w):
  ∀(fuel:Nat) (listed:Array Bool) (a:Act) (w:World),listed.size=ops.size->CN listed ops.size<=fuel->I (fun k=>listed.getD k false) a w->wpAnyIn (FF P none) 0 P .any ops Q fuel listed a w:=by
 intro fuel
 have hall:∀(listed:Array Bool),listed.size=ops.size->Region.ready .any ops listed= []->∀i,i<ops.size->listed.getD i false=true:=by
  intro listed hs hnil i;induction i using Nat.strongRecOn with
  |_ i ihi=>
   intro hi;cases h:listed.getD i false with
   |true=>rfl
   |false=>
    have hio:ops[i]? =some (ops[i]'hi):=Array.getElem?_eq_getElem hi
    have:i∈Region.ready .any ops listed:=by
     rw[mem_ready];refine⟨?_,_,hio,fun e e1 e2=>ihi e.on (hlt i _ hio e e1 e2) (by have:=hlt i _ hio e e1 e2;omega)⟩
     have:i<listed.size:=by omega
     simpa[Array.getD_eq_getD_getElem?,this]using h
    rw[hnil]at this;simp at this
 induction fuel with
 |zero=>
  intro listed a w hs hc hI
  have hall0:∀i,i<ops.size->listed.getD i false=true:=fun i hi=>by
   cases h:listed.getD i false with
   |true=>rfl
   |false=>have:=jf (n:=ops.size) hs hi h;omega
  refine⟨?_,hfin _ a w hall0 hI⟩;cases hrd:Region.ready .any ops listed with
  |nil=>rfl
  |cons i l=>
   obtain⟨h1,o,h2,_⟩:=mem_ready.1 (show i∈Region.ready .any ops listed by rw[hrd];simp)
   have hisz:i<ops.size:=(Array.getElem?_eq_some_iff.1 h2).1;have:=hall0 i hisz;have hlt:i<listed.size:=by omega
   simp only[Array.getD_eq_getD_getElem?,Array.getElem?_eq_getElem hlt,Option.getD_some]at this h1;rw[this]at h1;simp at h1
 |succ fuel ih=>
  intro listed a w hs hc hI;refine⟨fun hnil=>hfin _ a w (hall listed hs hnil) hI,fun i hi=>?_⟩
  obtain⟨h1,o,h2,h3⟩:=mem_ready.1 hi;have hisz:i<ops.size:=(Array.getElem?_eq_some_iff.1 h2).1;have hl:i<listed.size:=by omega
  have hLi:listed.getD i false=false:=by simpa[Array.getD_eq_getD_getElem?,hl]using h1
  refine hstep _ a w i o h2 hLi h3 hI _ fun a' w' hI'=>?_
  exact ih _ a' w' (by simpa using hs) (by have:=jf (n:=ops.size) hs hisz hLi;omega) (by rw[yF hl];exact hI')
abbrev tM:Nat:=217
abbrev Z1:Nat:=220
abbrev Sc:Nat:=70
abbrev Su:Nat:=165
abbrev fMc:Nat:=210
def SL (o:Oper):Option (Int×Int):=
 match o.op with
 | .build t ps=>if t==Z1 then match ps.toList with
   | [(0,.const (.int .i64 a)),(1,.const (.int .i64 b))]=>some (a,b)
   |_=>none
   else none
 |_=>none
def jH:List Oper->Nat->Option (Int×Int)
 | [],_=>none
 |o::l,s=>match o.dst with
  |some t=>if t==s then SL o else jH l s
  |none=>jH l s
def FK (k:Int×Int):Value:= .agg #[.int .i64 k.1,.int .i64 k.2]
def Ho (b:Nat):Value:= .func (.func fMc) #[] #[.pointer (some ⟨b,0,none⟩)]
def Gs (l:List Oper) (r0 b1 b2 s:Nat):Value:=
 match jH l s with
 |some k=>FK k
 |none=>if s=15 then Ho b1 else if s=17 then Ho b2 else .map (some r0)
def Ek (b1 b2:Nat):Operand->Value
 | .func g=> .func (.func g) #[] #[]
 | .tmp s=>if s=15 then Ho b1 else Ho b2
 |_=>undef
def kC (l:List Oper) (o:Oper):Option (Int×Int):=
 match o.op with
 | .insert _ _ (.tmp k) _=>jH l k
 |_=>none
def vu (l:List Oper) (b1 b2:Nat) (o:Oper):Option (Value×Value):=
 match o.op with
 | .insert _ _ (.tmp k) x=>match jH l k with
   |some c=>some (FK c,Ek b1 b2 x)
   |none=>none
 |_=>none
def nZ (l:List Oper) (b1 b2:Nat) (L:Nat->Bool):Nat->List Oper->List (Value×Value)
 |_,[]=> []
 |i,o::m=>(match vu l b1 b2 o with
  |some p=>if L i then[p]else[]
  |none=> [])++nZ l b1 b2 L (i+1) m
theorem FB {l:List Oper} {b1 b2:Nat} {L:Nat->Bool} {p:Value×Value}:∀{m:List Oper} {i:Nat},p∈nZ l b1 b2 L i m->∃(j:Nat) (o:Oper),m[j]? =some o/\L (i+j)=true/\vu l b1 b2 o=some p
 | [],i,h=>by simp[nZ]at h
 |o::m,i,h=>by
  simp only[nZ,List.mem_append]at h;rcases h with h|h
  ·split at h
   ·rename_i q hq;split at h
    ·rename_i hL;simp only[List.mem_singleton]at h;subst h;exact⟨0,o,rfl,hL,hq⟩
    ·simp at h
   ·simp at h
  ·obtain⟨j,o',h1,h2,h3⟩:=FB h;exact⟨j+1,o',by simpa using h1,by rw[show i+(j+1)=i+1+j by omega];exact h2,h3⟩
theorem BA {l:List Oper} {b1 b2:Nat} {L:Nat->Bool}:∀{m:List Oper} {i:Nat},(∀(j:Nat) (o:Oper),m[j]? =some o->L (i+j)=true->vu l b1 b2 o=none)->nZ l b1 b2 L i m= []
 | [],i,h=>rfl
 |o::m,i,h=>by
  simp only[nZ];rw[BA fun j o' h1 h2=>h (j+1) o' (by simpa using h1) (by rw[show i+(j+1)=i+1+j by omega];exact h2)]
  split
  ·rename_i p hp;split
   ·rename_i hL;have:=h 0 o rfl hL;rw[hp]at this;simp at this
   ·rfl
  ·rfl
theorem nz {l:List Oper} {o:Oper} (h:kC l o=none) (x y:Nat):vu l x y o=none:=by
 obtain⟨dst,op,type,pos,after,guard⟩:=o;cases op<;>try rfl
 rename_i t m k v;cases k<;>try rfl
 simp only[kC]at h;simp only[vu,h]
theorem qn {l:List Oper} {b1 b2 c1 c2:Nat} {L L':Nat->Bool}:∀{m:List Oper} {i:Nat},(∀(j:Nat) (o:Oper),m[j]? =some o->(kC l o).isSome=true->L (i+j)=L' (i+j)/\(L (i+j)=true->vu l b1 b2 o=vu l c1 c2 o))->nZ l b1 b2 L i m=nZ l c1 c2 L' i m
 | [],i,h=>rfl
 |o::m,i,h=>by
  simp only[nZ]
  rw[qn (c1:=c1) (c2:=c2) (L':=L') (i:=i+1) fun j o' h1 h2=>by
   have:=h (j+1) o' (by simpa using h1) h2
   rwa [show i+(j+1)=i+1+j by omega]at this]
  congr 1
  cases hk:kC l o with
  |none=>
   rw[nz hk,nz hk]
  |some k=>
   obtain⟨h1,h2⟩:=h 0 o rfl (by rw[hk];rfl)
   simp only[Nat.add_zero]at h1 h2;cases hL:L i with
   |true=>rw[<-h1,hL,h2 hL]
   |false=>
    rw[<-h1,hL];simp only[Bool.false_eq_true,if_false];split<;>split<;>rfl
theorem EK {l:List Oper} {b1 b2:Nat} {L:Nat->Bool} {p:Value×Value} {q:Nat} (hq:L q=false):∀{m:List Oper} {i j:Nat} {o:Oper},m[j]? =some o->i+j=q->vu l b1 b2 o=some p->(nZ l b1 b2 (ins L q) i m).Perm (nZ l b1 b2 L i m++ [p])
 | [],i,j,o,h,_,_=>by simp at h
 |x::m,i,0,o,h,e,hp=>by
  simp only[List.getElem?_cons_zero,aaT]at h;subst h;simp only[Nat.add_zero]at e;subst e;simp only[nZ,hp,ins,BEq.rfl,Bool.true_or,if_true,hq,Bool.false_eq_true,if_false,List.nil_append,List.singleton_append]
  have:nZ l b1 b2 (fun k=>k==i||L k) (i+1) m=nZ l b1 b2 L (i+1) m:=qn fun j o _ _=>⟨by
   have:((i+1+j)==i)=false:=by simp;omega
   simp[this],fun _=>rfl⟩
  show(p::nZ l b1 b2 (fun k=>k==i||L k) (i+1) m).Perm _
  rw[this];exact(List.perm_append_singleton _ _).symm
 |x::m,i,j+1,o,h,e,hp=>by
  simp only[nZ]
  have hi:ins L q i=L i:=by
   have:(i==q)=false:=by simp;omega
   simp[ins,this]
  rw[hi,List.append_assoc];exact List.Perm.append_left _ (EK hq (by simpa using h) (by omega) hp)
def JM (l:List Oper) (o:Oper):Bool:=
 match o.op with
 | .makeMap t r=>t==tM&&r.isNone&&o.dst==some 1
 | .build _ _=>(match SL o with|some k=>decide (cc .i64 k.1)&&decide (cc .i64 k.2)|none=>false)&&(match o.dst with|some d=>Nat.blt d 35&&jH l d==SL o|none=>false)
 | .call c=>(match c.callee with| .value (.func g)=>g==Su|_=>false)&&(match c.args.toList with| [.const (.int .i64 n)]=>(o.dst==some 15&&n==1)||(o.dst==some 17&&n==2)|_=>false)
 | .insert t m k x=>t==tM&&o.dst==none&&(match m with| .tmp s=>s==1|_=>false)&&(match k with| .tmp s=>(jH l s).isSome|_=>false)&&(match x with| .func _=>true| .tmp s=>s==15||s==17|_=>false)
 | .move x=>o.dst==some 34&&(match x with| .tmp s=>s==1|_=>false)
 | .assign x=>o.dst==some 0&&(match x with| .tmp s=>s==34|_=>false)
 |_=>false
def afB (l:List Oper) (t:Nat) (e:Edge):Bool:=Region.binds .any e&&(match l[e.on]? with|some o=>o.dst==some t|none=>false)
def XZ (l:List Oper) (o:Oper):Bool:=o.op.operands.toList.all fun x=>match x with
 | .tmp t=>o.after.toList.any (afB l t)
 |_=>true
def ltB:Nat->List Oper->Bool
 |_,[]=>true
 |i,o::l=>o.after.toList.all (fun e=> !Region.binds .any e||Nat.blt e.on i)&&ltB (i+1) l
def wK (l:List Oper):Bool:=
 l.all (fun o=>o.guard.isNone&&JM l o&&XZ l o)&&ltB 0 l&&s8 (l.map fun o=>(o.dst,0))&&(jH l 1).isNone&&(jH l 15).isNone&&(jH l 17).isNone&&(jH l 34).isNone&&(jH l 0).isNone
def HJ (l:List Oper):List (Int×Int):=l.filterMap (kC l)
theorem Fp:∀{l:List Oper} {i0:Nat},ltB i0 l=true->∀(i:Nat) (o:Oper),l[i]? =some o->∀e∈o.after,Region.binds .any e=true->e.on<i0+i
 | [],_,_,i,o,h,_,_,_=>by simp at h
 |x::l,i0,h,i,o,ho,e,he,hb=>by
  simp only[ltB,aaV,List.all_eq_true,Bool.or_eq_true,Bool.not_eq_true']at h;cases i with
  |zero=>
   simp only[List.getElem?_cons_zero,aaT]at ho;subst ho;rcases h.1 e (by simpa using he)with h|h
   ·rw[hb]at h;simp at h
   ·rw[Nat.blt_eq]at h;omega
  |succ i=>
   have:=Fp h.2 i o (by simpa using ho) e he hb
   omega
theorem qI {α β:Type} {f:α->Option β}:∀{l:List α},(l.filterMap f).Nodup->∀{i j:Nat} {a b:α} {x:β},l[i]? =some a->l[j]? =some b->f a=some x->f b=some x->i=j
 | [],_,i,j,a,b,x,h,_,_,_=>by simp at h
 |y::l,h,i,j,a,b,x,hi,hj,ha,hb=>by
  have key:∀{k:Nat} {c:α},l[k]? =some c->f c=some x->f y=some x->False:=fun{k c} hk hc hy=>by
   rw[List.filterMap_cons_some hy,List.nodup_cons]at h;exact h.1 (List.mem_filterMap.2 ⟨c,List.mem_of_getElem? hk,hc⟩)
  cases i with
  |zero=>
   simp only[List.getElem?_cons_zero,aaT]at hi;subst hi;cases j with
   |zero=>rfl
   |succ j=>exact(key (by simpa using hj) hb ha).elim
  |succ i=>
   cases j with
   |zero=>
    simp only[List.getElem?_cons_zero,aaT]at hj;subst hj;exact(key (by simpa using hi) ha hb).elim
   |succ j=>
    have:(l.filterMap f).Nodup:=by
     cases hy:f y with
     |none=>simpa[List.filterMap_cons,hy]using h
     |some z=>simp only[List.filterMap_cons,hy,List.nodup_cons]at h;exact h.2
    exact congrArg (· +1) (qI (i:=i) (j:=j) this (by simpa using hi) (by simpa using hj) ha hb)
structure AG (l:List Oper) (w0:World) (L:Nat->Bool) (a:Act) (w:World) (r0 b1 b2:Nat):Prop where
 sz:a.tmps.size=35
 df:a.defers= []
 tmp:∀(i:Nat) o d,l[i]? =some o->L i=true->o.dst=some d->a.tmps.getD d undef=Gs l r0 b1 b2 d
 bel:Below w0.heap.size w0 w
 down:∀(i:Nat) o,l[i]? =some o->L i=true->∀e∈o.after,Region.binds .any e=true->L e.on=true
 map:∀(i:Nat) o,l[i]? =some o->L i=true->o.dst=some 1->w0.heap.size<=r0/\∃es cl,w.heap[r0]? =some (.map es cl)/\(es.toList.map fun e=>(e.key,e.val)).Perm (nZ l b1 b2 L 0 l)
 one:∀(i:Nat) o,l[i]? =some o->L i=true->o.dst=some 15->w0.heap.size<=b1/\w.heap[b1]? =some (.cells #[.int .i64 1] Sc (0,0))
 two:∀(i:Nat) o,l[i]? =some o->L i=true->o.dst=some 17->w0.heap.size<=b2/\w.heap[b2]? =some (.cells #[.int .i64 2] Sc (0,0))
theorem Co {x y:Int} (hx:cc .i64 x) (hy:cc .i64 y) (w:World):(Instr.build Z1 #[(0,.int .i64 x),(1,.int .i64 y)]).run Tryz.prog w= .ok (FK (x,y)) w:=
 (rn (J:=Env.zero) (w:=w) (K:=fun _=>True) (C:=(YJ [] [] [] bx aQ).toCtx) (t:=Z1) (parts:= [(0,.it .i64 x),(1,.it .i64 y)]) (r:= .ag [.it .i64 x,.it .i64 y]) (zU pz) (by kernel_rfl) (by simp;exact⟨hx,hy⟩)).1
theorem Ud (n:Int):an Tryz.prog Su [.it .i64 n] [] (fun v r=>v= .fn fMc [.lp 0 0]/\r= [.blk Sc (.it .i64 n)]) (fun _ _=>False):=
 bm ar aE (inl:=bx) (ann:=aQ) (G:=(V.fn fMc [V.lp 0 0]=V.fn fMc [V.lp 0 0]/\ [aK.blk Sc (V.it .i64 n)]= [aK.blk Sc (V.it .i64 n)])) ⟨rfl,rfl⟩ (by kernel_rfl)
theorem Gc {n:Int} (hn:cc .i64 n) (w:World):CallsIn (FF Tryz.prog none) 0 Tryz.prog Su #[.int .i64 n] w fun e w'=>∃b,e= .returned (Ho b)/\Below w.heap.size w w'/\w.heap.size<=b/\w'.heap[b]? =some (.cells #[.int .i64 n] Sc (0,0)):=by
 have hE:bq Env.zero (fun _ _=>False) [] (known []) w (fun _=>False) w:=
  ⟨fun i hi=>hi,Nat.le_refl _,rfl,rfl,rfl,fun i hi=>by simp[known,az]at hi,fun i b hi=>by simp[known,az]at hi,fun i j b hi=>by simp[known,az]at hi,fun i b hi=>by simp[known,az]at hi,fun _ _ _=>rfl⟩
 have hc:=Ud n Env.zero _ w (fun _=>False) w hE ⟨hn,trivial⟩
 refine hc.mono fun e w' ⟨v,ρ1,fps1,r,g1,g2,g3,g4⟩=>?_
 rcases g4 with⟨rfl,rfl,rfl⟩|⟨_,hF⟩
 ·have hk:known [aK.blk Sc (V.it .i64 n)] 0:=by simp[known,az]
  obtain⟨_,_,h1,h2⟩:=g1.holds 0 hk;refine⟨ρ1.num 0,by simp only[den,bz,Ho];rfl,⟨g1.os,g1.tape,g1.output,g1.old,fun b hb=>g1.same b hb (fun h=>h)⟩,?_,?_⟩
  ·rcases Nat.lt_or_ge (ρ1.num 0) w.heap.size with h|h
   ·exact(g1.inF 0 _ hk h1 h).elim
   ·exact h
  ·rw[h2];simp[cells,den,Value.cells]
 ·exact hF.elim
theorem oO {l:List Oper} (hB:wK l=true) {i:Nat} {o:Oper} (h:l[i]? =some o):o.guard=none/\JM l o=true/\XZ l o=true:=by
 unfold wK at hB;simp only[aaV,List.all_eq_true]at hB;have:=hB.1.1.1.1.1.1.1 o (List.mem_of_getElem? h);exact⟨by simpa using this.1.1,this.1.2,this.2⟩
theorem US {l:List Oper} (hB:wK l=true) {i j:Nat} {o o':Oper} {t:Nat} (h:l[i]? =some o) (h':l[j]? =some o') (hd:o.dst=some t) (hd':o'.dst=some t):i=j:=by
 unfold wK at hB;simp only[aaV]at hB;exact pJ (t:=t) hB.1.1.1.1.1.2 (by rw[List.getElem?_map,h,Option.map_some,hd]) (by rw[List.getElem?_map,h',Option.map_some,hd'])
theorem Cw {l:List Oper} (hB:wK l=true):jH l 1=none/\jH l 15=none/\jH l 17=none/\jH l 34=none/\jH l 0=none:=by
 unfold wK at hB;simp only[aaV,Option.isNone_iff_eq_none]at hB;obtain⟨⟨⟨⟨⟨_,h1⟩,h2⟩,h3⟩,h4⟩,h5⟩:=hB;exact⟨h1,h2,h3,h4,h5⟩
theorem uN {l:List Oper} {o:Oper} (h:JM l o=true) {d:Nat} (hd:o.dst=some d):d<35/\((∃k,jH l d=some k)\/d=1\/d=15\/d=17\/(d=34/\Operand.tmp 1∈o.op.operands)\/(d=0/\Operand.tmp 34∈o.op.operands)):=by
 obtain⟨dst,op,type,pos,after,guard⟩:=o;simp only at hd;subst hd;cases op<;>simp only[JM,Bool.false_eq_true]at h
 case move x=>
  simp only[aaV,aaX,aaT]at h;obtain⟨rfl,h⟩:=h;cases x<;>simp at h
  subst h;exact⟨by omega,.inr (.inr (.inr (.inr (.inl ⟨rfl,by simp[Op.operands]⟩))))⟩
 case assign x=>
  simp only[aaV,aaX,aaT]at h;obtain⟨rfl,h⟩:=h;cases x<;>simp at h
  subst h;exact⟨by omega,.inr (.inr (.inr (.inr (.inr ⟨rfl,by simp[Op.operands]⟩))))⟩
 case makeMap t r=>
  simp only[aaV,aaX,aaT]at h;obtain⟨_,rfl⟩:=h;exact⟨by omega,.inr (.inl rfl)⟩
 case insert t m k x=>simp at h
 case build t ps=>
  simp only[aaV,aaX]at h;obtain⟨h1,h2,h3⟩:=h;refine⟨by rw[Nat.blt_eq]at h2;exact h2,.inl ?_⟩
  rw[h3];split at h1
  ·rename_i k hk;exact⟨k,hk⟩
  ·simp at h1
 case call c=>
  simp only[aaV]at h;obtain⟨_,h⟩:=h;split at h
  ·simp only[Bool.or_eq_true,aaV,aaX,aaT]at h;rcases h with⟨rfl,_⟩|⟨rfl,_⟩
   ·exact⟨by omega,.inr (.inr (.inl rfl))⟩
   ·exact⟨by omega,.inr (.inr (.inr (.inl rfl)))⟩
  ·simp at h
theorem uB {l:List Oper} {o:Oper} (h:JM l o=true) {k:Int×Int} (hk:kC l o=some k):∃s x,o.op= .insert tM (.tmp 1) (.tmp s) x/\o.dst=none/\jH l s=some k/\((∃g,x= .func g)\/x= .tmp 15\/x= .tmp 17):=by
 obtain⟨dst,op,type,pos,after,guard⟩:=o;cases op<;>simp only[kC,reduceCtorEq]at hk
 rename_i t m kk x;simp only[JM,aaV,aaX]at h;obtain⟨⟨⟨⟨rfl,rfl⟩,hm⟩,hs⟩,hx⟩:=h;cases m<;>simp at hm
 subst hm;cases kk<;>simp only[reduceCtorEq]at hk
 rename_i s;refine⟨s,x,rfl,rfl,hk,?_⟩;cases x<;>simp at hx
 ·rcases hx with rfl|rfl
  ·exact .inr (.inl rfl)
  ·exact .inr (.inr rfl)
 ·exact .inl ⟨_,rfl⟩
theorem yf {l:List Oper} {o:Oper} {k:Int×Int} (hk:kC l o=some k) (b1 b2:Nat) {t s:Nat} {m x:Operand} (ho:o.op= .insert t m (.tmp s) x):vu l b1 b2 o=some (FK k,Ek b1 b2 x):=by
 unfold kC at hk;unfold vu;rw[ho]at hk⊢;simp only at hk⊢;rw[hk]
theorem SA {a b:Int×Int} (h:FK a=FK b):a=b:=by
 simp only[FK,Value.agg.injEq,Array.mk.injEq,List.cons.injEq,Value.int.injEq,true_and,and_true]at h;exact Prod.ext h.1 h.2
theorem V7 (a:Int×Int):FK a=j3 [a.1,a.2]:=rfl
section
variable {l:List Oper} {w0:World} {L:Nat->Bool} {a:Act} {w:World} {r0 b1 b2:Nat} {i:Nat} {o:Oper}
theorem Oz (hB:wK l=true) {j:Nat} {o':Oper} (h:l[j]? =some o') {t:Nat} (ht:Operand.tmp t∈o'.op.operands):∃e∈o'.after,Region.binds .any e=true/\∃o1,l[e.on]? =some o1/\o1.dst=some t:=by
 have:=(oO hB h).2.2;unfold XZ at this;rw[List.all_eq_true]at this;have:=this _ (by simpa using ht)
 simp only[List.any_eq_true]at this;obtain⟨e,he,h2⟩:=this;simp only[afB,aaV]at h2;refine⟨e,by simpa using he,h2.1,?_⟩
 have h3:=h2.2;split at h3
 ·rename_i o1 ho1;exact⟨o1,ho1,by simpa using h3⟩
 ·simp at h3
theorem AG.dep (I:AG l w0 L a w r0 b1 b2) (hB:wK l=true) {j:Nat} {o':Oper} (h:l[j]? =some o') (hj:L j=true) {t:Nat} (ht:Operand.tmp t∈o'.op.operands):∃k o1,l[k]? =some o1/\o1.dst=some t/\L k=true:=by
 obtain⟨e,he,hb,o1,h1,h2⟩:=Oz hB h ht;exact⟨e.on,o1,h1,h2,I.down j o' h hj e he hb⟩
theorem AG.root (I:AG l w0 L a w r0 b1 b2) (hB:wK l=true) {j:Nat} {o':Oper} (h:l[j]? =some o') (hj:L j=true) {d:Nat} (hd:o'.dst=some d) (hd':d=1\/d=34\/d=0):∃k o1,l[k]? =some o1/\o1.dst=some 1/\L k=true:=by
 have step34:∀{j:Nat} {o':Oper},l[j]? =some o'->L j=true->o'.dst=some 34->∃k o1,l[k]? =some o1/\o1.dst=some 1/\L k=true:=fun{j o'} h hj hd=>by
  rcases(uN (oO hB h).2.1 hd).2 with⟨k,hk⟩|hk|hk|hk|⟨_,hk⟩|⟨hk,_⟩
  ·rw[(Cw hB).2.2.2.1]at hk;simp at hk
  ·omega
  ·omega
  ·omega
  ·exact I.dep hB h hj hk
  ·omega
 rcases hd' with rfl|rfl|rfl
 ·exact⟨j,o',h,hd,hj⟩
 ·exact step34 h hj hd
 ·rcases(uN (oO hB h).2.1 hd).2 with⟨k,hk⟩|hk|hk|hk|⟨hk,_⟩|⟨_,hk⟩
  ·rw[(Cw hB).2.2.2.2]at hk;simp at hk
  ·omega
  ·omega
  ·omega
  ·omega
  ·obtain⟨k,o1,h1,h2,h3⟩:=I.dep hB h hj hk;exact step34 h1 h3 h2
theorem yd {k:Int×Int} {s:Nat} (h:jH l s=some k):Gs l r0 b1 b2 s=FK k:=by unfold Gs;rw[h]
theorem qs {s:Nat} (h:jH l s=none) (h1:s≠15) (h2:s≠17):Gs l r0 b1 b2 s= .map (some r0):=by unfold Gs;rw[h];simp[h1,h2]
theorem yb (h:jH l 15=none):Gs l r0 b1 b2 15=Ho b1:=by unfold Gs;rw[h];rfl
theorem yt (h:jH l 17=none):Gs l r0 b1 b2 17=Ho b2:=by unfold Gs;rw[h];rfl
theorem AG.put (I:AG l w0 L a w r0 b1 b2) (hB:wK l=true) (ho:l[i]? =some o) (hLi:L i=false) (hdep:∀e∈o.after,Region.binds .any e=true->L e.on=true) {d:Nat} (hd:o.dst=some d) {v:Value} {w':World} {c0 c1 c2:Nat}
  (hv:v=Gs l c0 c1 c2 d) (hs:∀(j:Nat) o' d',l[j]? =some o'->L j=true->o'.dst=some d'->Gs l r0 b1 b2 d'=Gs l c0 c1 c2 d') (hb:Below w0.heap.size w0 w')
  (hm:∀(j:Nat) o',l[j]? =some o'->ins L i j=true->o'.dst=some 1->w0.heap.size<=c0/\∃es cl,w'.heap[c0]? =some (.map es cl)/\(es.toList.map fun e=>(e.key,e.val)).Perm (nZ l c1 c2 (ins L i) 0 l))
  (h1:∀(j:Nat) o',l[j]? =some o'->ins L i j=true->o'.dst=some 15->w0.heap.size<=c1/\w'.heap[c1]? =some (.cells #[.int .i64 1] Sc (0,0)))
  (h2:∀(j:Nat) o',l[j]? =some o'->ins L i j=true->o'.dst=some 17->w0.heap.size<=c2/\w'.heap[c2]? =some (.cells #[.int .i64 2] Sc (0,0))):AG l w0 (ins L i) (a.put (some d) v) w' c0 c1 c2:=by
 have hd35:=(uN (oO hB ho).2.1 hd).1;refine⟨by rw[ca];exact I.sz,by simpa[Act.put]using I.df,fun j o' d' hj hL hd'=>?_,hb,fun j o' hj hL e he hbi=>?_,hm,h1,h2⟩
 ·have hp:∀s,(a.put (some d) v).tmps.getD s undef=if d=s then v else a.tmps.getD s undef:=fun s=>cj a d s v (by rw[I.sz];exact hd35)
  rw[hp];by_cases e:d=d'
  ·subst e;rw[aa2 rfl];exact hv
  ·rw[aa1 e]
   have hji:j≠i:=fun h=>by
    subst h;rw[ho]at hj;simp only[aaT]at hj;subst hj;rw[hd]at hd';simp only[aaT]at hd';exact e hd'
   have hLj:L j=true:=by simpa[ins,hji]using hL
   rw[I.tmp j o' d' hj hLj hd'];exact hs j o' d' hj hLj hd'
 ·by_cases hji:j=i
  ·subst hji;rw[ho]at hj;simp only[aaT]at hj;subst hj;simp[ins,hdep e he hbi]
  ·have hLj:L j=true:=by simpa[ins,hji]using hL
   simp[ins,I.down j o' hj hLj e he hbi]
theorem py (ho:l[i]? =some o) (hn:kC l o=none) {c1 c2:Nat} (hc:∀(j:Nat) o',l[j]? =some o'->L j=true->vu l b1 b2 o'=vu l c1 c2 o'):nZ l b1 b2 L 0 l=nZ l c1 c2 (ins L i) 0 l:=
 qn fun j o' hj hk=>by
  rw[Nat.zero_add]
  have hji:j≠i:=fun h=>by
   subst h;rw[ho]at hj;simp only[aaT]at hj;subst hj;rw[hn]at hk;simp at hk
  exact⟨by simp[ins,hji],fun hL=>hc j o' hj hL⟩
end
theorem PF {ops:Array Oper} {l:List Oper} (hops:ops.toList=l) (hB:wK l=true) (hk:(HJ l).Nodup) {w0:World} {Q:Exit->Act->World->Prop} (L:Nat->Bool) (a:Act) (w:World) (i:Nat) (o:Oper) (ho:ops[i]? =some o) (hLi:L i=false)
  (hdep:∀e∈o.after,Region.binds .any e=true->L e.on=true) (hI:∃r0 b1 b2,AG l w0 L a w r0 b1 b2) (K:Act->World->Prop) (hK:∀a' w',(∃r0 b1 b2,AG l w0 (ins L i) a' w' r0 b1 b2)->K a' w'):wpOpIn (FF Tryz.prog none) 0 Tryz.prog ops Q i K a w:=by
 obtain⟨r0,b1,b2,I⟩:=hI;have hol:l[i]? =some o:=by rw[<-hops];simpa using ho
 have hg:=(oO hB hol).1;have hop:=(oO hB hol).2.1;obtain⟨n1,n15,n17,n34,n0⟩:=Cw hB;have hsz:=I.bel.size;unfold wpOpIn;simp only[ho];rw[aa2 (by simp[Region.wanted,hg])]
 have hev:∀t,Operand.tmp t∈o.op.operands->∃k o1,l[k]? =some o1/\o1.dst=some t/\L k=true/\a.eval (.tmp t)=Gs l r0 b1 b2 t:=fun t ht=>by
  obtain⟨e,he,hb,o1,h1,h2⟩:=Oz hB hol ht;exact⟨e.on,o1,h1,h2,hdep e he hb,I.tmp _ _ _ h1 (hdep e he hb) h2⟩
 have notI:∀{j:Nat} {o':Oper} {t:Nat},l[j]? =some o'->L j=true->o'.dst=some t->o.dst=some t->False:=fun{j o' t} h1 h2 h3 h4=>by
  have:=US hB h1 hol h3 h4;rw[this,hLi]at h2;simp at h2
 have oldI:∀{j:Nat} {o':Oper} {t:Nat},l[j]? =some o'->ins L i j=true->o'.dst=some t->o.dst≠some t->L j=true:=fun{j o' t} h1 h2 h3 h4=>by
  have:j≠i:=fun e=>by
   subst e;rw[hol]at h1;simp only[aaT]at h1;subst h1;exact h4 h3
  simpa[ins,this]using h2
 obtain⟨dst,op,type,pos,after,guard⟩:=o;simp only at hg;subst hg
 have about:∀(op:Op),(∀c,op≠ .call c)->∀f,(⟨dst,op,type,pos,after,none⟩:Oper).about Tryz.prog w a.eval=some f->(Tryz.prog.funcs[f]?).isSome=true:=fun op hc f hf=>by
  unfold Oper.about at hf;split at hf
  ·rename_i c hc';exact absurd hc' (hc c)
  ·simp at hf
 cases op<;>simp only[JM,Bool.false_eq_true]at hop
 case move x=>
  simp only[aaV,aaX]at hop;obtain⟨rfl,hx⟩:=hop;cases x<;>simp at hx
  subst hx;obtain⟨k,o1,g1,g2,g3,g4⟩:=hev 1 (by simp[Op.operands])
  have hn:kC l ⟨some 34,.move (.tmp 1),type,pos,after,none⟩=none:=rfl;refine eV (ro:=none) (by simp) (about _ (by simp)) ?_
  rw[show(execOp a.eval ⟨some 34,.move (.tmp 1),type,pos,after,none⟩).run Tryz.prog w= .ok (.value (.map (some r0))) w by simp[execOp,g4,qs n1]]
  refine hK _ _ ⟨r0,b1,b2,I.put hB hol hLi hdep rfl (qs n34 (by omega) (by omega)).symm (fun _ _ _ _ _ _=>rfl) I.bel (fun j o' h1 h2 h3=>?_) (fun j o' h1 h2 h3=>I.one j o' h1 (oldI h1 h2 h3 (by simp)) h3) (fun j o' h1 h2 h3=>I.two j o' h1 (oldI h1 h2 h3 (by simp)) h3)⟩
  rw[<-py hol hn fun _ _ _ _=>rfl]
  exact I.map j o' h1 (oldI h1 h2 h3 (by simp)) h3
 case assign x=>
  simp only[aaV,aaX]at hop;obtain⟨rfl,hx⟩:=hop;cases x<;>simp at hx
  subst hx;obtain⟨k,o1,g1,g2,g3,g4⟩:=hev 34 (by simp[Op.operands])
  have hn:kC l ⟨some 0,.assign (.tmp 34),type,pos,after,none⟩=none:=rfl;refine eV (ro:=none) (by simp) (about _ (by simp)) ?_
  rw[show(execOp a.eval ⟨some 0,.assign (.tmp 34),type,pos,after,none⟩).run Tryz.prog w= .ok (.value (.map (some r0))) w by simp[execOp,g4,qs n34]]
  refine hK _ _ ⟨r0,b1,b2,I.put hB hol hLi hdep rfl (qs n0 (by omega) (by omega)).symm (fun _ _ _ _ _ _=>rfl) I.bel (fun j o' h1 h2 h3=>?_) (fun j o' h1 h2 h3=>I.one j o' h1 (oldI h1 h2 h3 (by simp)) h3) (fun j o' h1 h2 h3=>I.two j o' h1 (oldI h1 h2 h3 (by simp)) h3)⟩
  rw[<-py hol hn fun _ _ _ _=>rfl]
  exact I.map j o' h1 (oldI h1 h2 h3 (by simp)) h3
 case build t ps=>
  simp only[aaV]at hop;obtain⟨h1,h2⟩:=hop;split at h1
  case h_2=>simp at h1
  rename_i c hc;split at h2
  case h_2=>simp at h2
  rename_i d;simp only[aaV,aaW,aaX]at h1 h2;have hkd:jH l d=some c:=h2.2.trans hc;unfold SL at hc;simp only at hc;split at hc
  case isFalse=>simp at hc
  rename_i htp;have htp:=aaX.1 htp;split at hc<;>simp only[aaT,reduceCtorEq]at hc
  rename_i x y hps;subst hc;have hps':ps= #[(0,.const (.int .i64 x)),(1,.const (.int .i64 y))]:=by rw[<-hps]
  subst hps';have hn:kC l ⟨some d,.build t #[(0,.const (.int .i64 x)),(1,.const (.int .i64 y))],type,pos,after,none⟩=none:=rfl;have hdn:d≠1/\d≠15/\d≠17:=⟨fun e=>by subst e;rw[n1]at hkd;simp at hkd,fun e=>by subst e;rw[n15]at hkd;simp at hkd,fun e=>by subst e;rw[n17]at hkd;simp at hkd⟩
  refine eV (ro:=none) (by simp) (about _ (by simp)) ?_
  have hr:=Co h1.1 h1.2 w
  rw[show(execOp a.eval ⟨some d,.build t #[(0,.const (.int .i64 x)),(1,.const (.int .i64 y))],type,pos,after,none⟩).run Tryz.prog w= .ok (.value (FK (x,y))) w by
   subst htp;simp only[execOp,Sem.run_bind];rw[show(#[(0,Operand.const (.int .i64 x)),(1,.const (.int .i64 y))].map fun(i,z)=>(i,a.eval z))= #[(0,Value.int .i64 x),(1,.int .i64 y)] by apply Array.ext';simp[Act.eval],hr]
   rfl]
  refine hK _ _ ⟨r0,b1,b2,I.put hB hol hLi hdep rfl (yd hkd).symm (fun _ _ _ _ _ _=>rfl) I.bel (fun j o' h1 h2 h3=>?_) (fun j o' h1 h2 h3=>I.one j o' h1 (oldI h1 h2 h3 (by simp[hdn.2.1])) h3) (fun j o' h1 h2 h3=>I.two j o' h1 (oldI h1 h2 h3 (by simp[hdn.2.2])) h3)⟩
  rw[<-py hol hn fun _ _ _ _=>rfl]
  exact I.map j o' h1 (oldI h1 h2 h3 (by simp[hdn.1])) h3
 case makeMap t r=>
  simp only[aaV,aaX,Option.isNone_iff_eq_none]at hop;obtain⟨⟨rfl,rfl⟩,rfl⟩:=hop;have hn:kC l ⟨some 1,.makeMap tM none,type,pos,after,none⟩=none:=rfl
  have hroot:∀{j:Nat} {o':Oper} {d:Nat},l[j]? =some o'->L j=true->o'.dst=some d->(d=1\/d=34\/d=0)->False:=fun{j o' d} h1 h2 h3 h4=>by
   obtain⟨k,o1,g1,g2,g3⟩:=I.root hB h1 h2 h3 h4;exact notI g1 g3 g2 rfl
  have hno:∀(j:Nat) o',l[j]? =some o'->L j=true->kC l o'=none:=fun j o' h1 h2=>by
   cases hc:kC l o' with
   |none=>rfl
   |some c=>
    exfalso
    obtain⟨s,x,e1,_⟩:=uB (oO hB h1).2.1 hc;obtain⟨k,o1,g1,g2,g3⟩:=I.dep hB h1 h2 (t:=1) (by rw[e1];simp[Op.operands])
    exact notI g1 g3 g2 rfl
  refine eV (ro:=none) (by simp) (about _ (by simp)) ?_
  rw[show(execOp a.eval ⟨some 1,.makeMap tM none,type,pos,after,none⟩).run Tryz.prog w= .ok (.value (.map (some w.heap.size))) (w.alloc (.map #[] 0)) by
   simp[execOp,show(Instr.makeMap tM none).run Tryz.prog w= .ok (.map (some w.heap.size)) (w.alloc (.map #[] 0))from rfl]]
  have hal:=MapKept.heap_alloc w (.map #[] 0);refine hK _ _ ⟨w.heap.size,b1,b2,I.put hB hol hLi hdep rfl (qs n1 (by omega) (by omega)).symm (fun j o' d' h1 h2 h3=>?_) (I.bel.alloc hsz _) (fun j o' h1 h2 h3=>?_) (fun j o' h1 h2 h3=>?_) (fun j o' h1 h2 h3=>?_)⟩
  ·rcases(uN (oO hB h1).2.1 h3).2 with⟨k,hk'⟩|e|e|e|⟨e,_⟩|⟨e,_⟩
   ·rw[yd hk',yd hk']
   ·exact(hroot h1 h2 h3 (.inl e)).elim
   ·rw[e,yb n15,yb n15]
   ·rw[e,yt n17,yt n17]
   ·exact(hroot h1 h2 h3 (.inr (.inl e))).elim
   ·exact(hroot h1 h2 h3 (.inr (.inr e))).elim
  ·refine⟨hsz, #[],0,hal.1,?_⟩
   rw[BA fun j o' hj hL=>nz (by
    rw[Nat.zero_add]at hL;by_cases e:j=i
    ·subst e;rw[hol]at hj;simp only[aaT]at hj;subst hj;exact hn
    ·exact hno j o' hj (by simpa[ins,e]using hL)) _ _]
   exact List.Perm.refl _
  ·obtain⟨g1,g2⟩:=I.one j o' h1 (oldI h1 h2 h3 (by simp)) h3
   exact⟨g1,by rw[hal.2 _ (Array.getElem?_eq_some_iff.1 g2).1];exact g2⟩
  ·obtain⟨g1,g2⟩:=I.two j o' h1 (oldI h1 h2 h3 (by simp)) h3
   exact⟨g1,by rw[hal.2 _ (Array.getElem?_eq_some_iff.1 g2).1];exact g2⟩
 case call c=>
  obtain⟨callee,args,argTypes⟩:=c;simp only[aaV]at hop;obtain⟨h1,h2⟩:=hop;split at h1
  case h_2=>simp at h1
  rename_i g;have hgf:=aaX.1 h1;subst hgf;split at h2
  case h_2=>simp at h2
  rename_i n hargs;have hargs':args= #[.const (.int .i64 n)]:=by rw[<-hargs]
  subst hargs';simp only[Bool.or_eq_true,aaV,aaX]at h2;have hn:kC l ⟨dst,.call ⟨.value (.func Su), #[.const (.int .i64 n)],argTypes⟩,type,pos,after,none⟩=none:=rfl;have hfd:(Tryz.prog.funcs[Su]?).isSome=true:=by kernel_rfl
  have hnr:cc .i64 n:=by rcases h2 with⟨_,rfl⟩|⟨_,rfl⟩<;>simp[cc]
  have hrun:(execOp a.eval ⟨dst,.call ⟨.value (.func Su), #[.const (.int .i64 n)],argTypes⟩,type,pos,after,none⟩).run Tryz.prog w= .ok (.enter Su #[.int .i64 n]) w:=by
   have hcb:iT Tryz.prog Su=true:=by kernel_rfl
   obtain⟨fn,f1,f2,f3⟩:=rk hcb;simp only[execOp,resolve,Act.eval,Deferred.ofValue,Sem.run_bind,Sem.run_pure,Result.andThen_ok,invoke,callFunc,run_program,f1,f2,f3,Bool.false_eq_true,if_false];simp[Act.eval]
  refine eV (ro:=none) (by simp) (fun f hf=>by
   have:f=Su:=by
    simp only[Oper.about,resolve,Act.eval,Deferred.ofValue,Sem.run_bind,Sem.run_pure,Result.andThen_ok,Target.leads,aaT]at hf;exact hf.symm
   rw[this];exact hfd) ?_
  rw[hrun];refine⟨fun h=>by simp[FF]at h,(Gc hnr w).mono fun e w' ⟨b,he,hb,hbs,hbc⟩=>?_⟩
  subst he;have hbel:Below w0.heap.size w0 w':=⟨hb.os.trans I.bel.os,hb.tape.trans I.bel.tape,hb.output.trans I.bel.output,Nat.le_trans I.bel.size hb.size,fun c hc=>by rw[hb.block c (by omega)];exact I.bel.block c hc⟩
  have old:∀c x,w.heap[c]? =some x->w'.heap[c]? =some x:=fun c x h=>by rw[hb.block c (Array.getElem?_eq_some_iff.1 h).1];exact h
  have slotOf:∀(s:Nat),dst=some s->∀(j:Nat) o',l[j]? =some o'->L j=true->∀t m k,o'.op= .insert t m k (.tmp s)->False:=fun s hs j o' h1 h2 t m k h3=>by
   obtain⟨k,o1,g1,g2,g3⟩:=I.dep hB h1 h2 (t:=s) (by rw[h3];simp[Op.operands])
   exact notI g1 g3 g2 hs
  have cIns_ne:∀(c1 c2:Nat),(dst=some 15/\c2=b2\/dst=some 17/\c1=b1)->∀(j:Nat) o',l[j]? =some o'->L j=true->vu l b1 b2 o'=vu l c1 c2 o':=fun c1 c2 hc j o' h1 h2=>by
   cases hk':kC l o' with
   |none=>rw[nz hk',nz hk']
   |some q=>
    obtain⟨s,x,e1,_,_,e4⟩:=uB (oO hB h1).2.1 hk';rw[yf hk' _ _ e1,yf hk' _ _ e1];rcases e4 with⟨g,rfl⟩|rfl|rfl
    ·rfl
    ·rcases hc with⟨hc,_⟩|⟨_,rfl⟩
     ·exact(slotOf 15 hc j o' h1 h2 _ _ _ e1).elim
     ·rfl
    ·rcases hc with⟨_,rfl⟩|⟨hc,_⟩
     ·rfl
     ·exact(slotOf 17 hc j o' h1 h2 _ _ _ e1).elim
  rcases h2 with⟨rfl,rfl⟩|⟨rfl,rfl⟩
  ·refine hK _ _ ⟨r0,b,b2,I.put hB hol hLi hdep rfl (yb n15).symm (fun j o' d' h1 h2 h3=>?_) hbel (fun j o' h1 h2 h3=>?_) (fun j o' h1 h2 h3=>⟨Nat.le_trans hsz hbs,hbc⟩) (fun j o' h1 h2 h3=>?_)⟩
   ·by_cases e:d'=15
    ·subst e;exact(notI h1 h2 h3 rfl).elim
    ·unfold Gs;simp[e]
   ·obtain⟨g1,es,cl,g2,g3⟩:=I.map j o' h1 (oldI h1 h2 h3 (by simp)) h3
    exact⟨g1,es,cl,old _ _ g2,by rw[<-py hol hn (cIns_ne b b2 (.inl ⟨rfl,rfl⟩))];exact g3⟩
   ·obtain⟨g1,g2⟩:=I.two j o' h1 (oldI h1 h2 h3 (by simp)) h3
    exact⟨g1,old _ _ g2⟩
  ·refine hK _ _ ⟨r0,b1,b,I.put hB hol hLi hdep rfl (yt n17).symm (fun j o' d' h1 h2 h3=>?_) hbel (fun j o' h1 h2 h3=>?_) (fun j o' h1 h2 h3=>?_) (fun j o' h1 h2 h3=>⟨Nat.le_trans hsz hbs,hbc⟩)⟩
   ·by_cases e:d'=17
    ·subst e;exact(notI h1 h2 h3 rfl).elim
    ·unfold Gs;simp[e]
   ·obtain⟨g1,es,cl,g2,g3⟩:=I.map j o' h1 (oldI h1 h2 h3 (by simp)) h3
    exact⟨g1,es,cl,old _ _ g2,by rw[<-py hol hn (cIns_ne b1 b (.inr ⟨rfl,rfl⟩))];exact g3⟩
   ·obtain⟨g1,g2⟩:=I.one j o' h1 (oldI h1 h2 h3 (by simp)) h3
    exact⟨g1,old _ _ g2⟩
 case insert t m k x=>
  have hck:∃c,kC l ⟨dst,.insert t m k x,type,pos,after,none⟩=some c:=by
   simp only[aaV]at hop;obtain⟨⟨_,hs⟩,_⟩:=hop;cases k<;>simp at hs
   exact Option.isSome_iff_exists.1 hs
  obtain⟨c,hck⟩:=hck;obtain⟨s,x',e1,e2,e3,e4⟩:=uB (o:=⟨dst,.insert t m k x,type,pos,after,none⟩) hop hck;simp only[Op.insert.injEq]at e1;obtain⟨rfl,rfl,rfl,rfl⟩:=e1;simp only at e2;subst e2;obtain⟨k1,o1,g1,g2,g3,g4⟩:=hev 1 (by simp[Op.operands])
  obtain⟨k2,o2,q1,q2,q3,q4⟩:=hev s (by simp[Op.operands])
  rw[qs n1 (by omega) (by omega)]at g4
  rw[yd e3]at q4
  have hx:a.eval x=Ek b1 b2 x:=by
   rcases e4 with⟨g,rfl⟩|rfl|rfl
   ·rfl
   ·obtain⟨_,_,_,_,_,h⟩:=hev 15 (by simp[Op.operands])
    rw[h,yb n15];rfl
   ·obtain⟨_,_,_,_,_,h⟩:=hev 17 (by simp[Op.operands])
    rw[h,yt n17];rfl
  obtain⟨m1,es,cl,m2,m3⟩:=I.map k1 o1 g1 g3 g2
  have hmem:∀e∈es.toList,∃(j:Nat) (o':Oper) (c':Int×Int),l[j]? =some o'/\L j=true/\kC l o'=some c'/\e.key=FK c':=fun e he=>by
   have:=m3.mem_iff.1 (List.mem_map.2 ⟨e,he,rfl⟩);obtain⟨j,o',h1,h2,h3⟩:=FB this;rw[Nat.zero_add]at h2;cases hc:kC l o' with
   |none=>rw[nz hc]at h3;simp at h3
   |some c'=>
    obtain⟨s',x',f1,_⟩:=uB (oO hB h1).2.1 hc;rw[yf hc _ _ f1]at h3;simp only[aaT,aaU]at h3;exact⟨j,o',c',h1,h2,hc,h3.1.symm⟩
  have hwide:tg Tryz.prog Z1 2=true:=by kernel_rfl
  have hum:Tryz.prog.underlying tM=some (.map Z1 176):=by kernel_rfl
  obtain⟨r,f1,f2⟩:=qh (x:= [c.1,c.2]) hwide rfl w es.toList fun e he=>by
   obtain⟨_,_,c',_,_,_,h⟩:=hmem e he;exact⟨[c'.1,c'.2],rfl,h⟩
  have hr:r=none:=by
   rcases f2 with⟨h,_⟩|⟨j,e,rfl,h1,h2⟩
   ·exact h
   ·exfalso
    obtain⟨j',o',c',h3,h4,h5,h6⟩:=hmem e (List.mem_of_getElem? h1);have:c'=c:=SA (h6.symm.trans h2);subst this;have:=qI hk h3 hol h5 hck;rw[this,hLi]at h4;simp at h4
  subst hr;have hck2:=uk (P:=Tryz.prog) (a:= [c.1,c.2]) hwide rfl false w;have hset:=MapKept.heap_set (w:=w) (r:=r0) (o':= .map (es.push {key:=FK c,val:=Ek b1 b2 x,born:=cl}) (cl+1)) m2
  have hrun:(execOp a.eval ⟨none,.insert tM (.tmp 1) (.tmp s) x,type,pos,after,none⟩).run Tryz.prog w= .ok .skip {w with heap:=w.heap.setIfInBounds r0 (.map (es.push {key:=FK c,val:=Ek b1 b2 x,born:=cl}) (cl+1))}:=by
   have:(Instr.mapUpdate tM (.map (some r0)) (FK c) (Ek b1 b2 x)).run Tryz.prog w= .ok () {w with heap:=w.heap.setIfInBounds r0 (.map (es.push {key:=FK c,val:=Ek b1 b2 x,born:=cl}) (cl+1))}:=by
    rw[V7];simp only[Instr.mapUpdate,Sem.run_bind,bF w hum,Result.andThen_ok,MapKept.run_getObj_map m2,hck2,f1,MapKept.run_setObj_map _ m2]
   simp[execOp,g4,q4,hx,this]
  refine eV (ro:=none) (by simp) (about _ (by simp)) ?_
  rw[hrun];have hci:=yf hck b1 b2 (rfl:(⟨none,.insert tM (.tmp 1) (.tmp s) x,type,pos,after,none⟩:Oper).op=_);have hp:=EK (l:=l) (b1:=b1) (b2:=b2) hLi (m:=l) (i:=0) hol (by omega) hci
  have old:∀b cs t,w.heap[b]? =some (Go.Obj.cells cs t (0,0))->(w.heap.setIfInBounds r0 (Go.Obj.map (es.push {key:=FK c,val:=Ek b1 b2 x,born:=cl}) (cl+1)))[b]? =some (Go.Obj.cells cs t (0,0)):=fun b cs t h=>by
   rw[hset.2 b fun e=>by rw[e,m2]at h;simp at h]
   exact h
  refine hK _ _ ⟨r0,b1,b2,I.sz,I.df,fun j o' d' h1 h2 h3=>I.tmp j o' d' h1 (oldI h1 h2 h3 (by simp)) h3,⟨I.bel.os,I.bel.tape,I.bel.output,by simpa using hsz,fun b hb=>?_⟩,fun j o' h1 h2 e he hbi=>?_,fun j o' h1 h2 h3=>⟨m1,_,_,hset.1,?_⟩,fun j o' h1 h2 h3=>?_,fun j o' h1 h2 h3=>?_⟩
  ·show(w.heap.setIfInBounds r0 _)[b]? =_
   rw[hset.2 b (by omega)]
   exact I.bel.block b hb
  ·by_cases hji:j=i
   ·subst hji;rw[hol]at h1;simp only[aaT]at h1;subst h1;simp[ins,hdep e he hbi]
   ·have hLj:L j=true:=by simpa[ins,hji]using h2
    simp[ins,I.down j o' h1 hLj e he hbi]
  ·simp only[Array.toList_push,List.map_append,List.map_cons,List.map_nil];exact(List.Perm.append_right _ m3).trans hp.symm
  ·obtain⟨u1,u2⟩:=I.one j o' h1 (oldI h1 h2 h3 (by simp)) h3
   exact⟨u1,old _ _ _ u2⟩
  ·obtain⟨u1,u2⟩:=I.two j o' h1 (oldI h1 h2 h3 (by simp)) h3
   exact⟨u1,old _ _ _ u2⟩
def Q3 (n:Nat):Code->Option (Array Oper)
 | .region i ops _=>if i==n then some ops else none
 | .seq a b=>(Q3 n a).orElse fun _=>Q3 n b
 |_=>none
abbrev fOd:Nat:=133
noncomputable abbrev Pg:Func:=Tryz.f133
noncomputable def od0:Array Oper:=(Pg.body.bind (Q3 0)).getD #[]
noncomputable def DH:Array Oper:=(Pg.body.bind (Q3 1)).getD #[]
theorem Ty:Pg.body=some (.seq (.region 0 od0 false) (.seq (.region 1 DH true) .ret)):=by kernel_rfl
theorem Q7:od0.size=1/\∃o,od0[0]? =some o/\o.guard=none/\o.dst=some 0/\o.op= .assign (.const (.map none)):=⟨by kernel_rfl,_,rfl,rfl,rfl,rfl⟩
theorem Ci:wK DH.toList=true:=by kernel_rfl
theorem Qi:(HJ DH.toList).Nodup:=aaZ (by kernel_rfl)
theorem SD (b1 b2:Nat):nZ DH.toList b1 b2 (fun _=>true) 0 DH.toList=(([[1,1],[2,1],[2,2],[2,3],[2,4],[2,5],[2,6],[3,1],[3,2],[3,3],[3,4],[3,5],[4,1],[4,2],[4,3],[4,4],[4,5],[4,6],[5,1],[5,2],[5,3],[5,4],[5,5],[5,6],[5,7],[8,1],[8,2],[8,3],[9,1],[10,1]]:List (List Int)).map j3).zip
  (match Ib 0 with| (.mq _ vs)::_=>bz (((Env.zero.bU 0 0).bU 1 b1).bU 2 b2) vs|_=> []):=by kernel_rfl
theorem T4:an Tryz.prog fOd [] [] (xf [0,1,2] odX Ib) (fun _ _=>False):=by
 intro J fps w0 F0 w hH hargs;refine callsIn_of_wp_marks (fn:=Pg) (by kernel_rfl) Ty (by show(Tryz.prog.funcs[fOd]?).isSome=true;kernel_rfl) ?_
 refine wpIn_mono (P:=Tryz.prog) (Q:=hU J [] w0 F0 (finish (Vp [] [] bx aQ).toCtx (fun _ _ _ _=>False) Pg (xf [0,1,2] odX Ib) (fun _ _=>False))) ?_ fun e a w hp=>xC (C:=(Vp [] [] bx aQ).toCtx) (BQ (by simp)) (fun _ _ _ _ _ _ _ _ h=>h.elim) hp
 refine wpIn_seq (wpIn_region ?_);obtain⟨z1,o,z2,z3,z4,z5⟩:=Q7;rw[z1];refine cM (P:=Tryz.prog) z2 z3 (v:= .map none) (w':=w) (by simp[execOp,z5,Act.eval]) (by intro c;rw[z5];simp) ?_
 rw[z4];show Code.wpIn _ _ _ _ _ _ _
 refine wpIn_seq (wpIn_region_any (by kernel_rfl) ?_)
 generalize hA:Act.put _ _ _=A
 have hsz:A.tmps.size=35:=by subst hA;rw[ca];simp[bz]
 have hdf:A.defers= []:=by subst hA;rfl
 refine TK (fun L a w'=>∃r0 b1 b2,AG DH.toList {w with drawn:=w.drawn+1} L a w' r0 b1 b2) (fun i o h e he hb=>?_) (PF rfl Ci Qi) (fun L a w' hall hI=>?_) _ _ _ _ (by simp) ?_ ⟨0,0,0,?_⟩
 ·have h1:=Ci;unfold wK at h1;simp only[aaV]at h1;have:=Fp h1.1.1.1.1.1.1.2 i o (by simpa using h) e he hb
  omega
 ·obtain⟨r0,b1,b2,I⟩:=hI
  have hat:∀(i:Nat) (d:Nat),(∃o,DH.toList[i]? =some o/\o.dst=some d)->∃o,DH.toList[i]? =some o/\L i=true/\o.dst=some d:=fun i d ⟨o,h1,h2⟩=>⟨o,h1,hall i (by
   have:=(List.getElem?_eq_some_iff.1 h1).1;simpa using this),h2⟩
  obtain⟨o1,p1,p2,p3⟩:=hat 0 1 ⟨_,rfl,rfl⟩;obtain⟨o2,q1,q2,q3⟩:=hat 26 15 ⟨_,rfl,rfl⟩;obtain⟨o3,s1,s2,s3⟩:=hat 29 17 ⟨_,rfl,rfl⟩;obtain⟨o4,t1,t2,t3⟩:=hat 64 0 ⟨_,rfl,rfl⟩;obtain⟨m1,es,cl,m2,m3⟩:=I.map 0 o1 p1 p2 p3;obtain⟨u1,u2⟩:=I.one 26 o2 q1 q2 q3;obtain⟨v1,v2⟩:=I.two 29 o3 s1 s2 s3;have ht:=I.tmp 64 o4 0 t1 t2 t3;rw[qs (Cw Ci).2.2.2.2 (by omega) (by omega)]at ht
  have hL:nZ DH.toList b1 b2 L 0 DH.toList=nZ DH.toList b1 b2 (fun _=>true) 0 DH.toList:=qn fun j o h _=>⟨by
   rw[Nat.zero_add];exact hall j (by have:=(List.getElem?_eq_some_iff.1 h).1;simpa using this),fun _=>rfl⟩
  rw[hL,SD]at m3;refine wpIn_ret ?_;have hne1:r0≠b1:=fun e=>by rw[e,u2]at m2;simp at m2
  have hne2:r0≠b2:=fun e=>by rw[e,v2]at m2;simp at m2
  have hne3:b1≠b2:=fun e=>by rw[e,v2]at u2;simp at u2
  have hbel:Below w.heap.size w w':=⟨I.bel.os,I.bel.tape,I.bel.output,I.bel.size,I.bel.block⟩;have hnk:∀i,¬known ([]:List aK) i:=fun i h=>by simp[known,az]at h
  have hkn:∀i,known (Ib 0) i↔i<3:=fun i=>by
   unfold known Ib;rcases i with _|_|_|i<;>simp[az]
  have hgrow:og (known []) J (((J.bU 0 r0).bU 1 b1).bU 2 b2) 0 (Ib 0) w0 F0 w w':=by
   refine⟨hbel,fun j hj=>?_,fun k b=>b=(((J.bU 0 r0).bU 1 b1).bU 2 b2).num k,fun k hk=>?_,fun k l b hk hl hne h1 h2=>?_⟩
   ·have:¬j<3:=fun h=>hj ⟨by omega,by show j<0+3;omega⟩
    have e0:j≠0:=by omega
    have e1:j≠1:=by omega
    have e2:j≠2:=by omega
    simp[Env.bU,e0,e1,e2]
   ·have hk3:k<3:=hk;rw[Nat.zero_add];rcases k with _|_|_|k
    ·refine⟨⟨rfl,?_,?_,⟨rfl,aaZ (by kernel_rfl)⟩,es,cl,?_,?_⟩,fun b hb=>?_⟩
     ·simp[fQ,ok,fresh,Ib]
     ·simp[tv]
     ·simpa[Env.bU]using m2
     ·exact m3
     ·have:b=r0:=by simpa[Env.bU]using hb
      subst this;exact⟨m1,(Array.getElem?_eq_some_iff.1 m2).1⟩
    ·refine⟨⟨by simp[ok,cc],rfl,rfl,?_⟩,fun b hb=>?_⟩
     ·simpa[Env.bU,cells,den,Value.cells]using u2
     ·have:b=b1:=by simpa[Env.bU]using hb
      subst this;exact⟨u1,(Array.getElem?_eq_some_iff.1 u2).1⟩
    ·refine⟨⟨by simp[ok,cc],rfl,rfl,?_⟩,fun b hb=>?_⟩
     ·simpa[Env.bU,cells,den,Value.cells]using v2
     ·have:b=b2:=by simpa[Env.bU]using hb
      subst this;exact⟨v1,(Array.getElem?_eq_some_iff.1 v2).1⟩
    ·omega
   ·have hk3:k<3:=hk;have hl3:l<3:=hl;rcases k with _|_|_|k<;>rcases l with _|_|_|l<;>first|omega| (simp[Env.bU]at h1 h2;subst h1;first|exact hne1 h2|exact hne1 h2.symm|exact hne2 h2|exact hne2 h2.symm|exact hne3 h2|exact hne3 h2.symm)
  obtain⟨fps',hr,hag⟩:=hH.grow (res':=Ib 0) (K':=known (Ib 0)) ⟨fun i hi=>(hnk i hi).elim,fun i hi=> .inr ⟨by omega,by show i<0+3;have:=(hkn i).1 hi;omega⟩,fun k hk=>by rw[Nat.zero_add]⟩ (fun i hi=>(hnk i hi).elim)
   (fun i hi=>by
    rcases hi with hi|⟨_,hi⟩
    ·exact(hnk i hi).elim
    ·exact(hkn i).2 (by simpa[Ib]using hi)) hgrow
  refine⟨.ret,{slots:= .v (.mp 0)::List.replicate 34 .und,res:=Ib 0,defs:= []},_,fps',trivial,?_,⟨⟨by simp[I.sz],fun t=>?_⟩,hr,by rw[I.df];rfl,by simp⟩,hag,fun i hi=>(hnk i hi).elim⟩
  ·exact Eq.mp (by kernel_rfl:xf [0,1,2] odX Ib (.mp 0) (Ib 0)=_) (fun nid=>⟨rfl,rfl⟩)
  ·cases t with
   |zero=>exact⟨by rw[ht];simp[den,Env.bU],(hkn 0).2 (by omega)⟩
   |succ t=>
    have:cg (S.v (V.mp 0)::List.replicate 34 S.und) (t+1)= .und:=by
     rw[lz,aa0,List.getElem?_cons_succ,List.getElem?_replicate];split<;>rfl
    rw[this];trivial
 ·have:CN (Array.replicate DH.size false) DH.size<=DH.size:=by
   have:=List.length_filter_le (fun k=> !(Array.replicate DH.size false).getD k false) (List.range DH.size)
   simpa[CN]using this
  exact this
 ·have hfalse:∀k,(Array.replicate DH.size false).getD k false=false:=fun k=>by
   simp only[Array.getD_eq_getD_getElem?,Array.getElem?_replicate];split<;>rfl
  exact⟨hsz,hdf,fun i o d _ h=>by simp only[hfalse]at h;simp at h,Below.refl _ _,fun i o _ h=>by simp only[hfalse]at h;simp at h,fun i o _ h=>by simp only[hfalse]at h;simp at h,fun i o _ h=>by simp only[hfalse]at h;simp at h,fun i o _ h=>by simp only[hfalse]at h;simp at h⟩
theorem dz:cz Tryz.prog fOd (A9 odX Ib):=vq (π:= [0,1,2]) (by decide) (fun _=>rfl) T4
end Go.Proofs.YtlblcfaclmpekaaGreat
