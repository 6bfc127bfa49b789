import Derived.Test.YtlblcfaclmpekaaGreatMa16
set_option linter.unusedSimpArgs false
set_option linter.unusedVariables false
set_option maxRecDepth 100000
namespace Go.Proofs.YtlblcfaclmpekaaGreat
open Go.Sx
theorem On (L:List Sx.Obj) (k:Key) (i:Int):
 aba (decide (aB L k 2 false=0)&&(decide (i<0)||decide (15<i))) (void=aJ L k i/\4=bY L k i) (aba (!decide (aB L k 2 false=0)) (void=aJ L k i/\aB L k 2 false=bY L k i) (oL L k i/\di L k i=aJ L k i/\0=bY L k i)):=by
 delta aba
 refine⟨fun h=>?_,fun h=>⟨fun h'=>?_,fun h'=>?_⟩⟩
 ·simp only[aaV,Bool.or_eq_true,aaW]at h;obtain⟨e1,e2⟩:=NK h.1 h.2;rw[e1,e2];exact⟨rfl,rfl⟩
 ·have h':aB L k 2 false≠0:=by simpa using h'
  obtain⟨e1,e2⟩:=Nj (i:=i) h';rw[e1,e2];exact⟨rfl,rfl⟩
 ·have h':aB L k 2 false=0:=by simpa using h'
  have hr:¬(i<0\/15<i):=by rw[h']at h;simpa using h
  obtain⟨_,b2,b3,_⟩:=ei (gw h').1;obtain⟨e1,e2⟩:=RS h' hr;rw[e1,e2];exact⟨⟨by omega,by omega,b2,b3⟩,rfl,rfl⟩
theorem ED:cz Tryz.prog 108 Us:=
 eQ (aA jC (aA iI (aA dE bV))) (fun _=>rfl) fun a hq hok=>by
  obtain⟨L,k,i,_⟩:=a;exact bc (inl:=bx) (ann:=aQ) (ae pK (ae x9 ar)) (On L k i) (by kernel_rfl)
theorem Mn (L:List Sx.Obj) (k:Key) (i:Int) (v:Key) (hL:aq L):
 aba (decide (aB L k 2 true=0)&&(decide (i<0)||decide (15<i))) (iL L k i v=false/\void=cT L k i v/\4=bj L k i v) (aba (decide (aB L k 2 true=0)&& !bJ L v) (iL L k i v=false/\void=cT L k i v/\2=bj L k i v) (aba (!decide (aB L k 2 true=0)) (iL L k i v=false/\void=cT L k i v/\aB L k 2 true=bj L k i v) (oL L k i/\(0<=k.oid/\k.oid< ↑(ai L))/\k.oid.toNat<ai L/\(0<=i/\i< ↑16)/\dO L k.oid/\iL L k i v=true/\(di L k i=cT L k i v/\0=bj L k i v)/\b6 L k.oid.toNat (Obj.mk (aj L k.oid.toNat free).kind (aj L k.oid.toNat free).count (aj L k.oid.toNat free).calls ((aj L k.oid.toNat free).slots.put i.toNat (ah L v)) (aj L k.oid.toNat free).bytes)=cC L k i v))):=by
 delta aba
 unfold iL;refine⟨fun h=>?_,fun h=>⟨fun h'=>?_,fun h'=>⟨fun h''=>?_,fun h''=>?_⟩⟩⟩
 ·simp only[aaV,Bool.or_eq_true,aaW]at h;obtain⟨e1,e2,e3⟩:=QD (v:=v) h.1 h.2;rw[e1,e2];exact⟨rfl,rfl,rfl⟩
 ·simp only[aaV,Bool.not_eq_true',aaW]at h';have hr:¬(i<0\/15<i):=by rw[h'.1]at h;simpa using h
  obtain⟨e1,e2,e3⟩:=M9 h'.1 hr h'.2;rw[e1,e2];exact⟨rfl,rfl,rfl⟩
 ·have h'':aB L k 2 true≠0:=by simpa using h''
  obtain⟨e1,e2,e3⟩:=Nu (i:=i) (v:=v) h'';rw[e1,e2];exact⟨by simpa using h'',rfl,rfl⟩
 ·have h'':aB L k 2 true=0:=by simpa using h''
  have hr:¬(i<0\/15<i):=by rw[h'']at h;simpa using h
  have hm:bJ L v=true:=by rw[h'']at h';simpa using h'
  obtain⟨e1,e2,e3⟩:=Ur h'' hr hm;obtain⟨r1,r2,r3,r4⟩:=vl hL (gw h'').1;rw[e1,e2,e3];exact⟨⟨by omega,by omega,r2,r3⟩,⟨r2,r3⟩,r4,⟨by omega,by omega⟩,r1,rfl,⟨rfl,rfl⟩,rfl⟩
theorem K3 (L:List Sx.Obj) (k:Key) (i:Int) (v:Key) (hL:aq L):an Tryz.prog 110 [.sa 0,.key k,.it .i64 i,.key v] [.ro (.arr none 163 (.ob L))] (yA (iL L k i v) (cC L k i v) [.key (cT L k i v),.it .i64 (bj L k i v)]) (fun _ _=>False):=
 bm (inl:=bx) (ann:=aQ) (ae pK (ae x9 (ae yV (ae pL (ae jG ar))))) aE (Mn L k i v hL) (by kernel_rfl)
theorem Eu:lh Tryz.prog 110 UJ:=
 iP (m:=fun x=>VV.cn x 0) (fP Ti (fun _=>rfl)) (fun _=>rfl) (fun _ _=>rfl) fun L x hq=>K3 L x.1 x.2.1 x.2.2.1 hq
theorem Ov (L:List Sx.Obj) (k:Key) (hL:aq L):
 aba (!decide (aB L k 2 true=0)) (mH L k=false/\aB L k 2 true=aB L k 2 true) ((0<=k.oid/\k.oid< ↑(ai L))/\k.oid.toNat<ai L/\dO L k.oid/\mH L k=true/\0=aB L k 2 true/\b6 L k.oid.toNat (Obj.mk (aj L k.oid.toNat free).kind (aj L k.oid.toNat free).count (aj L k.oid.toNat free).calls g9 (aj L k.oid.toNat free).bytes)=fA L k):=by
 delta aba
 unfold mH;refine⟨fun h=>?_,fun h=>?_⟩
 ·have h:aB L k 2 true≠0:=by simpa using h
  exact⟨by simpa using h,rfl⟩
 ·have h:aB L k 2 true=0:=by simpa using h
  obtain⟨r1,r2,r3,r4⟩:=vl hL (gw h).1;exact⟨⟨r2,r3⟩,r4,r1,by simpa using h,h.symm,by unfold fA;rw[aa2 h];rfl⟩
theorem PA (L:List Sx.Obj) (k:Key) (hL:aq L):an Tryz.prog 111 [.sa 0,.key k] [.ro (.arr none 163 (.ob L))] (yA (mH L k) (fA L k) [.it .i64 (aB L k 2 true)]) (fun _ _=>False):=
 bm (inl:=bx) (ann:=aQ) (ae pK (ae jG ar)) aE (Ov L k hL) (by kernel_rfl)
theorem Mk:lh Tryz.prog 111 RX:=
 iP (m:=fun x=>kB.cn x 0) (fP D1 (fun _=>rfl)) (fun _=>rfl) (fun _ _=>rfl) fun L x hq=>PA L x.1 hq
abbrev abI(L:List Sx.Obj)(t:Key)(f:Key)(g:Int):=ew (aj L t.oid.toNat free) (dH L t f g)
theorem LZ (L:List Sx.Obj) (t f:Key) (hL:aq L):
 aba (decide (aB L t 2 true=0)) (aba (!decide (aB L f 2 false=0)) (kN L t f=false/\aB L f 2 false=bT L t f) ((0<=t.oid/\t.oid< ↑(ai L))/\t.oid.toNat<ai L/\(∃g,lD g/\t=t/\f=f/\Value.slice none 0 0=Value.slice none 0 0/\aB L f 2 false=aB L f 2 false/\0=g/\L=L/\t=t/\f=f/\aj L t.oid.toNat free=ew (aj L t.oid.toNat free) (dH L t f g))/\∀(g:Int),lD g->aba (decide (g<16)) (oL L f g/\(0<=g/\g< ↑16)/\abd (g+1)/\∃ g',lD g'/\oU g'<oU g/\t=t/\f=f/\Value.slice none 0 0=Value.slice none 0 0/\aB L f 2 false=aB L f 2 false/\g+1=g'/\L=L/\t=t/\f=f/\Obj.mk (abI L t f g).kind (abI L t f g).count (abI L t f g).calls ((abI L t f g).slots.put g.toNat (di L f g)) (abI L t f g).bytes=ew (aj L t.oid.toNat free) (dH L t f g')) (dO L t.oid/\kN L t f=true/\0=bT L t f/\b6 L t.oid.toNat (abI L t f g)=eT L t f))) (aba (!decide (aB L t 2 true=0)) (kN L t f=false/\aB L t 2 true=bT L t f) ((0<=t.oid/\t.oid< ↑(ai L))/\t.oid.toNat<ai L/\(∃g,lD g/\t=t/\f=f/\Value.slice none 0 0=Value.slice none 0 0/\aB L t 2 true=aB L t 2 true/\0=g/\L=L/\t=t/\f=f/\aj L t.oid.toNat free=ew (aj L t.oid.toNat free) (dH L t f g))/\∀(g:Int),lD g->aba (decide (g<16)) (oL L f g/\(0<=g/\g< ↑16)/\abd (g+1)/\∃g',lD g'/\oU g'<oU g/\t=t/\f=f/\Value.slice none 0 0=Value.slice none 0 0/\aB L t 2 true=aB L t 2 true/\g+1=g'/\L=L/\t=t/\f=f/\Obj.mk (abI L t f g).kind (abI L t f g).count (abI L t f g).calls ((abI L t f g).slots.put g.toNat (di L f g)) (abI L t f g).bytes=ew (aj L t.oid.toNat free) (dH L t f g')) (dO L t.oid/\kN L t f=true/\0=bT L t f/\b6 L t.oid.toNat (abI L t f g)=eT L t f))):=by
 delta aba abI abd
 unfold kN;have no:∀e,bT L t f=e->e≠0->decide (bT L t f=0)=false/\e=bT L t f:=fun e h h0=>⟨by rw[h];simpa using h0,h.symm⟩
 refine⟨fun h=>⟨fun h'=>?_,fun h'=>?_⟩,fun h=>⟨fun h'=>?_,fun h'=>?_⟩⟩
 ·have h:=aaZ h;have h':aB L f 2 false≠0:=by simpa using h'
  exact no _ (by unfold bT;rw[aa2 h]) h'
 ·have h:=aaZ h;have h':aB L f 2 false=0:=by simpa using h'
  have hE:bT L t f=0:=by unfold bT;rw[aa2 h];exact h'
  obtain⟨r1,r2,r3,r4⟩:=vl hL (gw h).1;obtain⟨_,s2,s3,_⟩:=vl hL (gw h').1;have hk:=(ei (gw h).1).2.2.2.1;have ho:=(ei (gw h').1).2.2.2.1;refine⟨⟨r2,r3⟩,r4,⟨0,⟨by omega,by omega⟩,?_⟩,fun g hg=>⟨fun hlt=>?_,fun hge=>?_⟩⟩
  ·have hz:=DU (f:=f) hk;rw[hk]at hz;repeat' apply And.intro
   all_goals first|rfl|exact hz
  ·obtain⟨g0,g1⟩:=hg;have hlt:=aaZ hlt;have hs:=DR (t:=t) g0 ho (aj L t.oid.toNat free) g9;rw[ho]at hs;refine⟨⟨g0,by omega,s2,s3⟩,⟨g0,by omega⟩,by simp only[aF,cc];omega,g+1,⟨by omega,by omega⟩,by unfold oU;omega,?_⟩
   repeat' apply And.intro
   all_goals first|rfl|exact hs
  ·obtain⟨g0,g1⟩:=hg;have hge:=aaY hge;have:g=16:=by omega
   subst this;exact⟨r1,by simpa using hE,hE.symm,by unfold eT;rw[hE,aa2 rfl];rfl⟩
 ·have h:=aaY h;exact no _ (by unfold bT;rw[aa1 h]) h
 ·rw[h]at h';simp at h'
theorem Nc (L:List Sx.Obj) (t f:Key) (hL:aq L):an Tryz.prog 112 [.sa 0,.key t,.key f] [.ro (.arr none 163 (.ob L))] (yA (kN L t f) (eT L t f) [.it .i64 (bT L t f)]) (fun _ _=>False):=
 bm (inl:=bx) (ann:=(iJ [(112,8,YN [0,1,2,3,4,5,6,7,8,9] (fun g=> [(10,.it .i64 g)]) 9 (fun g=> .blk tO (.ob (ew (aj L (qf t.oid) free) (dH L t f g)))) lD oU)])) (ae pK (ae x9 (ae jG ar))) aE (LZ L t f hL) (by kernel_rfl)
theorem Nw:lh Tryz.prog 112 UP:=
 iP (m:=fun x=>NY.cn x 0) (fP wj (fun _=>rfl)) (fun _=>rfl) (fun _ _=>rfl) fun L x hq=>Nc L x.1 x.2.1 hq
theorem Jg (L:List Sx.Obj) (k:Key) (i n:Int) (hL:aq L):
 aba (decide (aW L k false=0)&& !cB i n) (abG=ec L k i n/\4=cD L k i n) (aba (!decide (aW L k false=0)) (abG=ec L k i n/\aW L k false=cD L k i n) ((0<=k.oid/\k.oid< ↑(ai L))/\aF IntKind.i64 (i+n)/\CU i (i+n) 64/\k.oid.toNat<ai L/\xN (aj L k.oid.toNat free).bytes i.toNat (i+n).toNat=ec L k i n/\0=cD L k i n)):=by
 delta aba abG
 refine⟨fun h=>?_,fun h=>⟨fun h'=>?_,fun h'=>?_⟩⟩
 ·rw[aaV,aaW]at h;obtain⟨e1,e2⟩:=yS h.1 h.2;rw[<-e1,<-e2];exact⟨rfl,rfl⟩
 ·have h':aW L k false≠0:=by simpa using h'
  obtain⟨e1,e2⟩:=rF (i:=i) (n:=n) rfl h';rw[<-e1,<-e2];exact⟨rfl,rfl⟩
 ·have h':aW L k false=0:=by simpa using h'
  have hi:(!cB i n)=false:=by rw[h']at h;simpa using h
  obtain⟨r1,r2,r3,r4⟩:=pD hL (nj h').1;obtain⟨e1,e2,e3,e4⟩:=xS h' hi;exact⟨⟨r2,r3⟩,e1,e2,r4,e3,e4⟩
theorem JT:cz Tryz.prog 114 Qe:=
 eQ (aA jC (aA iI (aA dE (aA dE bV)))) (fun _=>rfl) fun a hq hok=>by
  obtain⟨L,k,i,n,_⟩:=a;exact bc (inl:=bx) (ann:=aQ) (ae vp (ae ug ar)) (Jg L k i n hq) (by kernel_rfl)
theorem LO (L:List Sx.Obj) (k:Key) (hL:aq L):
 aba (!decide (aW L k true=0)) (mD L k=false/\aW L k true=aW L k true) ((0<=k.oid/\k.oid< ↑(ai L))/\k.oid.toNat<ai L/\dO L k.oid/\mD L k=true/\0=aW L k true/\b6 L k.oid.toNat (Obj.mk (aj L k.oid.toNat free).kind (aj L k.oid.toNat free).count (aj L k.oid.toNat free).calls (aj L k.oid.toNat free).slots e9)=fq L k):=by
 delta aba
 unfold mD;refine⟨fun h=>?_,fun h=>?_⟩
 ·have h:aW L k true≠0:=by simpa using h
  exact⟨by simpa using h,rfl⟩
 ·have h:aW L k true=0:=by simpa using h
  obtain⟨r1,r2,r3,r4⟩:=pD hL (nj h).1;exact⟨⟨r2,r3⟩,r4,r1,by simpa using h,h.symm,by unfold fq;rw[aa2 h];rfl⟩
theorem NA (L:List Sx.Obj) (k:Key) (hL:aq L):an Tryz.prog 116 [.sa 0,.key k] [.ro (.arr none 163 (.ob L))] (yA (mD L k) (fq L k) [.it .i64 (aW L k true)]) (fun _ _=>False):=
 bm (inl:=bx) (ann:=aQ) (ae vp (ae jG ar)) aE (LO L k hL) (by kernel_rfl)
theorem NF:lh Tryz.prog 116 Rp:=
 iP (m:=fun x=>kB.cn x 0) (fP D1 (fun _=>rfl)) (fun _=>rfl) (fun _ _=>rfl) fun L x hq=>NA L x.1 hq
abbrev abJ(t:Key)(L:List Sx.Obj)(f:Key):=(0<=t.oid/\t.oid< ↑(ai L))/\t.oid.toNat<ai L/\(0<=f.oid/\f.oid< ↑(ai L))/\f.oid.toNat<ai L/\dO L t.oid/\mU L t f=true/\0=cU L t f/\b6 L t.oid.toNat (Obj.mk (aj L t.oid.toNat free).kind (aj L t.oid.toNat free).count (aj L t.oid.toNat free).calls (aj L t.oid.toNat free).slots (aj L f.oid.toNat free).bytes)=fM L t f
theorem RQ (L:List Sx.Obj) (t f:Key) (hL:aq L):
 aba (decide (aW L t true=0)) (aba (!decide (aW L f false=0)) (mU L t f=false/\aW L f false=cU L t f) (abJ t L f)) (aba (!decide (aW L t true=0)) (mU L t f=false/\aW L t true=cU L t f) (abJ t L f)):=by
 delta aba abJ
 unfold mU;refine⟨fun h=>⟨fun h'=>?_,fun h'=>?_⟩,fun h=>⟨fun h'=>?_,fun h'=>?_⟩⟩
 ·have h:=aaZ h;have h':aW L f false≠0:=by simpa using h'
  obtain⟨e1,e2⟩:=HG h rfl h';rw[<-e1];exact⟨by simpa using h',rfl⟩
 ·have h:=aaZ h;have h':aW L f false=0:=by simpa using h'
  have hE:cU L t f=0:=by unfold cU;rw[aa2 h];exact h'
  obtain⟨r1,r2,r3,r4⟩:=pD hL (nj h).1;obtain⟨_,s2,s3,s4⟩:=pD hL (nj h').1;exact⟨⟨r2,r3⟩,r4,⟨s2,s3⟩,s4,r1,by simpa using hE,hE.symm,by unfold fM;rw[hE,aa2 rfl];rfl⟩
 ·have h:=aaY h;obtain⟨e1,e2⟩:=wW (f:=f) rfl h;rw[<-e1];exact⟨by simpa using h,rfl⟩
 ·rw[h]at h';simp at h'
theorem Ta (L:List Sx.Obj) (t f:Key) (hL:aq L):an Tryz.prog 117 [.sa 0,.key t,.key f] [.ro (.arr none 163 (.ob L))] (yA (mU L t f) (fM L t f) [.it .i64 (cU L t f)]) (fun _ _=>False):=
 bm (inl:=bx) (ann:=aQ) (ae vp (ae jG ar)) aE (RQ L t f hL) (by kernel_rfl)
theorem TM:lh Tryz.prog 117 VB:=
 iP (m:=fun x=>NY.cn x 0) (fP wj (fun _=>rfl)) (fun _=>rfl) (fun _ _=>rfl) fun L x hq=>Ta L x.1 x.2.1 hq
theorem MP (d:Int) (hq:xT d):
 (0<=d/\d< ↑11)/\aj [0,1,6,5,6,7,0,0,3,1,1] d.toNat 0=de d:=by
 obtain⟨h0,h1⟩:=hq;refine⟨⟨h0,by omega⟩,?_⟩
 have:d=0\/d=1\/d=2\/d=3\/d=4\/d=5\/d=6\/d=7\/d=8\/d=9\/d=10:=by omega
 rcases this with rfl|rfl|rfl|rfl|rfl|rfl|rfl|rfl|rfl|rfl|rfl<;>rfl
theorem Mb:cz Tryz.prog 80 Tl:=
 eQ (aA dE bV) (fun _=>rfl) fun a hq hok=>by
  obtain⟨d,_⟩:=a;exact bc (inl:=bx) (ann:=aQ) ar (MP d hq) (by kernel_rfl)
abbrev abK(a:Int)(b:Int):=aba (decide (a=4)) (decide (b=4)=cX a b) (aba (decide (a=5)) ((decide (1<=b)&&decide (b<=3)||decide (5<=b)&&decide (b<=7))=cX a b) (false=cX a b))
theorem Qs (a b:Int):
 aba (decide (a=2)) (aba (decide (a=2)) ((decide (b=1)||decide (b=2)||decide (b=5))=cX a b) (abK a b)) (aba (decide (a=3)) ((decide (b=1)||decide (b=2)||decide (b=5))=cX a b) (abK a b)):=by
 delta aba abK
 unfold cX;grind
theorem PC:cz Tryz.prog 81 TY:=
 pf (gq .i64) (gq .i64) (fun _ _=>rfl) fun a b ha hb=>bc (inl:=bx) (ann:=aQ) ar (Qs a b) (by kernel_rfl)
theorem Ny (L:List Sx.Obj) (k:Key) (m:bp) (i:Int) (hq:mI L k m i):
 aba (decide (m.code=1)) (abb (kg L k m=false/\0=(cq L k m).code/\abG=(cq L k m).data/\aJ L k i=(cq L k m).k0/\void=(cq L k m).k1/\void=(cq L k m).k2/\bY L k i=(ey L k m).fst)) (aba (decide (m.code=2)) (abb (aq L/\(iL L k i m.k0=false->abb (kg L k m=false/\0=(cq L k m).code/\abG=(cq L k m).data/\cT L k i m.k0=(cq L k m).k0/\void=(cq L k m).k1/\void=(cq L k m).k2/\bj L k i m.k0=(ey L k m).fst))/\(iL L k i m.k0=true->abb (kg L k m=true/\(0=(cq L k m).code/\abG=(cq L k m).data/\cT L k i m.k0=(cq L k m).k0/\void=(cq L k m).k1/\void=(cq L k m).k2/\bj L k i m.k0=(ey L k m).fst)/\cC L k i m.k0=(ey L k m).snd.snd)))) (aba (decide (m.code=3)) (abb (aq L/\(mH L k=false->kg L k m=false/\0=(cq L k m).code/\abG=(cq L k m).data/\void=(cq L k m).k0/\void=(cq L k m).k1/\void=(cq L k m).k2/\aB L k 2 true=(ey L k m).fst)/\(mH L k=true->kg L k m=true/\(0=(cq L k m).code/\abG=(cq L k m).data/\void=(cq L k m).k0/\void=(cq L k m).k1/\void=(cq L k m).k2/\aB L k 2 true=(ey L k m).fst)/\fA L k=(ey L k m).snd.snd))) (aba (decide (m.code=4)) (abb (aq L/\(kN L k m.k0=false->kg L k m=false/\0=(cq L k m).code/\abG=(cq L k m).data/\void=(cq L k m).k0/\void=(cq L k m).k1/\void=(cq L k m).k2/\bT L k m.k0=(ey L k m).fst)/\(kN L k m.k0=true->kg L k m=true/\(0=(cq L k m).code/\abG=(cq L k m).data/\void=(cq L k m).k0/\void=(cq L k m).k1/\void=(cq L k m).k2/\bT L k m.k0=(ey L k m).fst)/\eT L k m.k0=(ey L k m).snd.snd))) (aba (decide (m.code=5)) (aba (decide (i<0)||decide (7<i)) (kg L k m=false/\0=(cq L k m).code/\abG=(cq L k m).data/\void=(cq L k m).k0/\void=(cq L k m).k1/\void=(cq L k m).k2/\2=(ey L k m).fst) (iK k i/\abb (kg L k m=false/\0=(cq L k m).code/\abG=(cq L k m).data/\jz k i=(cq L k m).k0/\void=(cq L k m).k1/\void=(cq L k m).k2/\0=(ey L k m).fst))) (aba (!decide (k.rights=0)) (kg L k m=false/\0=(cq L k m).code/\abG=(cq L k m).data/\void=(cq L k m).k0/\void=(cq L k m).k1/\void=(cq L k m).k2/\191=(ey L k m).fst) (abb (kg L k m=false/\0=(cq L k m).code/\abG=(cq L k m).data/\abA 5 k void.value=(cq L k m).k0/\void=(cq L k m).k1/\void=(cq L k m).k2/\0=(ey L k m).fst))))))):=by
 delta aba abG abA abb
 obtain⟨hL,hs,hk,rfl⟩:=hq;have hlq:iK k (aS m)↔(0<=aS m/\aS m<=7):=by unfold iK;simp[hk]
 have h8:=N4 (m:=m);have hin:=Dy (m:=m);have hr:aF IntKind.i64 (64-aS m):=by unfold aF cc;omega
 have hr4:aF IntKind.i64 (aS m+4):=by unfold aF cc;omega
 repeat' (first|with_reducible assumption|with_reducible rfl|with_reducible apply And.intro|with_reducible intro _)
 all_goals(first| (simp_all[kg,cq,ey,eY,fu,gm,dZ,bL,cY,void];done)| (simp_all[kg,cq,ey,eY,fu,gm,dZ,bL,cY,void];omega)| (by_cases hz:0<=m.k2.value/\m.k2.value<=7<;>first| (simp_all[kg,cq,ey,eY,fu,gm,dZ,bL,cY,void];done)| (simp_all[kg,cq,ey,eY,fu,gm,dZ,bL,cY,void];omega)))
theorem MI (L:List Sx.Obj) (k:Key) (m:bp) (i:Int) (hq:mI L k m i):an Tryz.prog 82 [.sa 0,.key k,jJ m,.it .i64 i] [.ro (.arr none 163 (.ob L))] (yA (kg L k m) ((ey L k m).2.2) [jJ (cq L k m),.it .i64 (ey L k m).1]) (fun _ _=>False):=
 bm (inl:=(fun f=>f==109||f==79||f==86||f==31)) (ann:=aQ) (ae ED (ae Fl ar)) (aC Eu (aC Mk (aC Nw aE))) (Ny L k m i hq) (by kernel_rfl)
theorem K9:lh Tryz.prog 82 SK:=
 iP (m:=fun x=>C3.cn x 0) (fP yB (fun _=>rfl)) (fun _=>rfl) (fun _ _=>rfl) fun L x hq=>MI L x.1 x.2.1 x.2.2.1 hq
theorem N9 (L:List Sx.Obj) (k:Key) (m:bp) (i:Int) (hq:mI L k m i):
 aba (decide (m.code=1)) (aF IntKind.i64 (64-i)/\aq L/\ld L k m=false/\0=(cV L k m).code/\ec L k i (imax 0 (lT 32 (64-i)))=(cV L k m).data/\void=(cV L k m).k0/\void=(cV L k m).k1/\void=(cV L k m).k2/\cD L k i (imax 0 (lT 32 (64-i)))=(eo L k m).fst) (aba (decide (m.code=2)) (abb ((aq L/\aw m.data)/\(ki L k i m.data=false->ld L k m=false/\0=(cV L k m).code/\abG=(cV L k m).data/\void=(cV L k m).k0/\void=(cV L k m).k1/\void=(cV L k m).k2/\cL L k i m.data=(eo L k m).fst)/\(ki L k i m.data=true->ld L k m=true/\(0=(cV L k m).code/\abG=(cV L k m).data/\void=(cV L k m).k0/\void=(cV L k m).k1/\void=(cV L k m).k2/\cL L k i m.data=(eo L k m).fst)/\eZ L k i m.data=(eo L k m).snd.snd))) (aba (decide (m.code=3)) (abb (aq L/\(mD L k=false->ld L k m=false/\0=(cV L k m).code/\abG=(cV L k m).data/\void=(cV L k m).k0/\void=(cV L k m).k1/\void=(cV L k m).k2/\aW L k true=(eo L k m).fst)/\(mD L k=true->ld L k m=true/\(0=(cV L k m).code/\abG=(cV L k m).data/\void=(cV L k m).k0/\void=(cV L k m).k1/\void=(cV L k m).k2/\aW L k true=(eo L k m).fst)/\fq L k=(eo L k m).snd.snd))) (aba (decide (m.code=4)) (abb (aq L/\(mU L k m.k0=false->ld L k m=false/\0=(cV L k m).code/\abG=(cV L k m).data/\void=(cV L k m).k0/\void=(cV L k m).k1/\void=(cV L k m).k2/\cU L k m.k0=(eo L k m).fst)/\(mU L k m.k0=true->ld L k m=true/\(0=(cV L k m).code/\abG=(cV L k m).data/\void=(cV L k m).k0/\void=(cV L k m).k1/\void=(cV L k m).k2/\cU L k m.k0=(eo L k m).fst)/\fM L k m.k0=(eo L k m).snd.snd))) (aba (decide (i<0)||decide (7<i)) (ld L k m=false/\0=(cV L k m).code/\abG=(cV L k m).data/\void=(cV L k m).k0/\void=(cV L k m).k1/\void=(cV L k m).k2/\2=(eo L k m).fst) (iK k i/\abb (ld L k m=false/\0=(cV L k m).code/\abG=(cV L k m).data/\jz k i=(cV L k m).k0/\void=(cV L k m).k1/\void=(cV L k m).k2/\0=(eo L k m).fst)))))):=by
 delta aba abG abb
 obtain⟨hL,hs,hk,rfl⟩:=hq;have hlq:iK k (aS m)↔(0<=aS m/\aS m<=7):=by unfold iK;simp[hk]
 have h8:=N4 (m:=m);have hin:=Dy (m:=m);have hr:aF IntKind.i64 (64-aS m):=by unfold aF cc;omega
 have hr4:aF IntKind.i64 (aS m+4):=by unfold aF cc;omega
 repeat' (first|with_reducible assumption|with_reducible rfl|with_reducible apply And.intro|with_reducible intro _)
 all_goals(first| (simp_all[ld,cV,eo,qJ,eY,fu,gm,dZ,bL,cY,void];done)| (simp_all[ld,cV,eo,qJ,eY,fu,gm,dZ,bL,cY,void];omega)| (by_cases hz:0<=m.k2.value/\m.k2.value<=7<;>first| (simp_all[ld,cV,eo,qJ,eY,fu,gm,dZ,bL,cY,void];done)| (simp_all[ld,cV,eo,qJ,eY,fu,gm,dZ,bL,cY,void];omega)))
theorem Nf (L:List Sx.Obj) (k:Key) (m:bp) (i:Int) (hq:mI L k m i):an Tryz.prog 83 [.sa 0,.key k,jJ m,.it .i64 i] [.ro (.arr none 163 (.ob L))] (yA (ld L k m) ((eo L k m).2.2) [jJ (cV L k m),.it .i64 (eo L k m).1]) (fun _ _=>False):=
 bm (inl:=(fun f=>f==109||f==79||f==86||f==31)) (ann:=aQ) (ae JT (ae Fl ar)) (aC OW (aC NF (aC TM aE))) (N9 L k m i hq) (by kernel_rfl)
theorem Pw:lh Tryz.prog 83 UX:=
 iP (m:=fun x=>C3.cn x 0) (fP yB (fun _=>rfl)) (fun _=>rfl) (fun _ _=>rfl) fun L x hq=>Nf L x.1 x.2.1 x.2.2.1 hq
abbrev abL(m:bp)(L:List Sx.Obj)(k:Key)(i:Int):=aba (decide (m.code=4)) (true=true/\aq L/\(k9 L k i=false->true=true/\gQ L k m=false/\0=(bh L k m).code/\abG=(bh L k m).data/\ck L k i=(bh L k m).k0/\void=(bh L k m).k1/\void=(bh L k m).k2/\b8 L k i=(dC L k m).fst)/\(k9 L k i=true->true=true/\gQ L k m=true/\(0=(bh L k m).code/\abG=(bh L k m).data/\ck L k i=(bh L k m).k0/\void=(bh L k m).k1/\void=(bh L k m).k2/\b8 L k i=(dC L k m).fst)/\bE L k i=(dC L k m).snd.snd)) (aba (decide (m.code=5)) (true=true/\aba (jF L k m.k0) (true=true/\true=true/\gQ L k m=false/\0=(bh L k m).code/\abG=(bh L k m).data/\void=(bh L k m).k0/\void=(bh L k m).k1/\abg 1=(bh L k m).k2/\aN L k=(dC L k m).fst) (true=true/\true=true/\gQ L k m=false/\0=(bh L k m).code/\abG=(bh L k m).data/\void=(bh L k m).k0/\void=(bh L k m).k1/\abg 0=(bh L k m).k2/\aN L k=(dC L k m).fst)) (true=true/\aq L/\(kX L k=false->true=true/\true=true/\gQ L k m=false/\0=(bh L k m).code/\abG=(bh L k m).data/\void=(bh L k m).k0/\void=(bh L k m).k1/\abg (fN L k)=(bh L k m).k2/\aN L k=(dC L k m).fst)/\(kX L k=true->true=true/\true=true/\gQ L k m=true/\(0=(bh L k m).code/\abG=(bh L k m).data/\void=(bh L k m).k0/\void=(bh L k m).k1/\abg (fN L k)=(bh L k m).k2/\aN L k=(dC L k m).fst)/\ib L k=(dC L k m).snd.snd)))
abbrev abM(L:List Sx.Obj)(k:Key)(m:bp):=true=true/\aq L/\(gE L k m.code=false->true=true/\gQ L k m=false/\0=(bh L k m).code/\abG=(bh L k m).data/\dh L k m.code=(bh L k m).k0/\void=(bh L k m).k1/\void=(bh L k m).k2/\cA L k m.code=(dC L k m).fst)/\(gE L k m.code=true->true=true/\gQ L k m=true/\(0=(bh L k m).code/\abG=(bh L k m).data/\dh L k m.code=(bh L k m).k0/\void=(bh L k m).k1/\void=(bh L k m).k2/\cA L k m.code=(dC L k m).fst)/\fx L k m.code=(dC L k m).snd.snd)
abbrev abN(m:bp)(L:List Sx.Obj)(k:Key)(i:Int):=aba (decide (m.code=3)) (true=true/\aq L/\(jU L k m.k0=false->gQ L k m=false/\0=(bh L k m).code/\abG=(bh L k m).data/\void=(bh L k m).k0/\void=(bh L k m).k1/\void=(bh L k m).k2/\cE L k m.k0=(dC L k m).fst)/\(jU L k m.k0=true->gQ L k m=true/\(0=(bh L k m).code/\abG=(bh L k m).data/\void=(bh L k m).k0/\void=(bh L k m).k1/\void=(bh L k m).k2/\cE L k m.k0=(dC L k m).fst)/\gA L k m.k0=(dC L k m).snd.snd)) (abL m L k i)
theorem Jw (L:List Sx.Obj) (k:Key) (m:bp) (i:Int) (hq:mI L k m i):
 aba (decide (m.code=1)) (aba (decide (m.code=1)) (abM L k m) (abN m L k i)) (aba (decide (m.code=2)) (abM L k m) (abN m L k i)):=by
 delta aba abG abg abN abM abL
 obtain⟨hL,hs,hk,rfl⟩:=hq;have hlq:iK k (aS m)↔(0<=aS m/\aS m<=7):=by unfold iK;simp[hk]
 have h8:=N4 (m:=m);have hin:=Dy (m:=m);have hr:aF IntKind.i64 (64-aS m):=by unfold aF cc;omega
 have hr4:aF IntKind.i64 (aS m+4):=by unfold aF cc;omega
 repeat' (first|with_reducible assumption|with_reducible rfl|with_reducible apply And.intro|with_reducible intro _)
 all_goals(first| (simp_all[gQ,bh,dC,eY,fu,gm,dZ,bL,cY,void];done)| (simp_all[gQ,bh,dC,eY,fu,gm,dZ,bL,cY,void];omega)| (by_cases hz:0<=m.k2.value/\m.k2.value<=7<;>first| (simp_all[gQ,bh,dC,eY,fu,gm,dZ,bL,cY,void];done)| (simp_all[gQ,bh,dC,eY,fu,gm,dZ,bL,cY,void];omega)))
theorem JK (L:List Sx.Obj) (k:Key) (m:bp) (i:Int) (hq:mI L k m i):an Tryz.prog 84 [.sa 0,.key k,jJ m,.it .i64 i] [.ro (.arr none 163 (.ob L))] (yA (gQ L k m) ((dC L k m).2.2) [jJ (bh L k m),.it .i64 (dC L k m).1]) (fun _ _=>False):=
 bm (inl:=(fun f=>f==109||f==79||f==86||f==31)) (ann:=aQ) (ae ND ar) (aC OU (aC SI (aC JA (aC PK aE)))) (Jw L k m i hq) (by kernel_rfl)
theorem Jp:lh Tryz.prog 84 MC:=
 iP (m:=fun x=>C3.cn x 0) (fP yB (fun _=>rfl)) (fun _=>rfl) (fun _ _=>rfl) fun L x hq=>JK L x.1 x.2.1 x.2.2.1 hq
abbrev abO(L:List Sx.Obj)(k:Key):=aJ L (abA 2 k void.value) 0
abbrev abP(k:Key):=abA 2 k void.value
abbrev abQ(L:List Sx.Obj)(k:Key)(m:bp):=decide (cm L (abO L k) m.k2.value (bO m.data)=0)&& !decide (bW L (abO L k) m.k2.value (bO m.data) true=0)
theorem KY (L:List Sx.Obj) (k:Key) (m:bp) (i:Int) (hq:mI L k m i):
 aba ((decide (m.code=1)||decide (m.code=2))&&(decide (i<0)||decide (11<i))) (iw L k m=false/\0=(bG L k m).code/\abG=(bG L k m).data/\void=(bG L k m).k0/\void=(bG L k m).k1/\void=(bG L k m).k2/\4=(dv L k m).fst) (aba (decide (m.code=1)) (abd (i+4)/\abb (iw L k m=false/\0=(bG L k m).code/\abG=(bG L k m).data/\aJ L (abP k) (i+4)=(bG L k m).k0/\void=(bG L k m).k1/\void=(bG L k m).k2/\bY L (abP k) (i+4)=(dv L k m).fst)) (aba (decide (m.code=2)) (abd (i+4)/\abb (aq L/\(iL L (abP k) (i+4) m.k0=false->abb (iw L k m=false/\0=(bG L k m).code/\abG=(bG L k m).data/\cT L (abP k) (i+4) m.k0=(bG L k m).k0/\void=(bG L k m).k1/\void=(bG L k m).k2/\bj L (abP k) (i+4) m.k0=(dv L k m).fst))/\(iL L (abP k) (i+4) m.k0=true->abb (iw L k m=true/\(0=(bG L k m).code/\abG=(bG L k m).data/\cT L (abP k) (i+4) m.k0=(bG L k m).k0/\void=(bG L k m).k1/\void=(bG L k m).k2/\bj L (abP k) (i+4) m.k0=(dv L k m).fst)/\cC L (abP k) (i+4) m.k0=(dv L k m).snd.snd)))) (aba (decide (m.code=3)) (abb (iw L k m=false/\0=(bG L k m).code/\abG=(bG L k m).data/\abA 6 k m.k2.value=(bG L k m).k0/\void=(bG L k m).k1/\void=(bG L k m).k2/\0=(dv L k m).fst)) (aba (decide (m.code=4)) (abb (abb (iw L k m=false/\0=(bG L k m).code/\abG=(bG L k m).data/\void=(bG L k m).k0/\void=(bG L k m).k1/\abg (bw L k.oid)=(bG L k m).k2/\0=(dv L k m).fst))) (aba (decide (m.code=5)) (abb (aq L/\(ku L k.oid i=false->iw L k m=false/\0=(bG L k m).code/\abG=(bG L k m).data/\void=(bG L k m).k0/\void=(bG L k m).k1/\void=(bG L k m).k2/\er L k.oid i=(dv L k m).fst)/\(ku L k.oid i=true->iw L k m=true/\(0=(bG L k m).code/\abG=(bG L k m).data/\void=(bG L k m).k0/\void=(bG L k m).k1/\void=(bG L k m).k2/\er L k.oid i=(dv L k m).fst)/\dg L k.oid i=(dv L k m).snd.snd))) (aba (decide (m.code=6)) (aq L/\aba (decide (cm L (abO L k) m.k2.value 32=0)&& !decide (bW L (abO L k) m.k2.value 32 false=0)) (abd (1000+bW L (abO L k) m.k2.value 32 false)/\iw L k m=false/\0=(bG L k m).code/\jW L (abO L k) m.k2.value 32=(bG L k m).data/\void=(bG L k m).k0/\void=(bG L k m).k1/\void=(bG L k m).k2/\1000+bW L (abO L k) m.k2.value 32 false=(dv L k m).fst) (iw L k m=false/\0=(bG L k m).code/\jW L (abO L k) m.k2.value 32=(bG L k m).data/\void=(bG L k m).k0/\void=(bG L k m).k1/\void=(bG L k m).k2/\cm L (abO L k) m.k2.value 32=(dv L k m).fst)) (abb ((aq L/\aw m.data)/\(ma L (abO L k) m.k2.value (bO m.data) true=false->aba (abQ L k m) (abd (1000+bW L (abO L k) m.k2.value (bO m.data) true)/\iw L k m=false/\0=(bG L k m).code/\abG=(bG L k m).data/\void=(bG L k m).k0/\void=(bG L k m).k1/\void=(bG L k m).k2/\1000+bW L (abO L k) m.k2.value (bO m.data) true=(dv L k m).fst) (iw L k m=false/\0=(bG L k m).code/\abG=(bG L k m).data/\void=(bG L k m).k0/\void=(bG L k m).k1/\void=(bG L k m).k2/\cm L (abO L k) m.k2.value (bO m.data)=(dv L k m).fst))/\(ma L (abO L k) m.k2.value (bO m.data) true=true->aba (abQ L k m) (abd (1000+bW L (abO L k) m.k2.value (bO m.data) true)/\iw L k m=true/\(0=(bG L k m).code/\abG=(bG L k m).data/\void=(bG L k m).k0/\void=(bG L k m).k1/\void=(bG L k m).k2/\1000+bW L (abO L k) m.k2.value (bO m.data) true=(dv L k m).fst)/\kx L (abO L k) m.k2.value m.data=(dv L k m).snd.snd) (iw L k m=true/\(0=(bG L k m).code/\abG=(bG L k m).data/\void=(bG L k m).k0/\void=(bG L k m).k1/\void=(bG L k m).k2/\cm L (abO L k) m.k2.value (bO m.data)=(dv L k m).fst)/\kx L (abO L k) m.k2.value m.data=(dv L k m).snd.snd)))))))))):=by
 delta aba abG abg abA abQ abP abO abd abb
 obtain⟨hL,hs,hk,rfl⟩:=hq;have hlq:iK k (aS m)↔(0<=aS m/\aS m<=7):=by unfold iK;simp[hk]
 have hin:=Dy (m:=m);have hr:aF IntKind.i64 (64-aS m):=by unfold aF cc;omega
 have hr4:aF IntKind.i64 (aS m+4):=by unfold aF cc;omega
 have hw:Key.mk 2 k.oid k.count void.call void.rights void.value=fl k:=rfl;have hro:aJ L (fl k) 0=fO L k:=rfl;have f1:=Iu (L:=L) (k:=fO L k) (a:=m.k2.value) (n:=32) (w:=false);have f2:=Iu (L:=L) (k:=fO L k) (a:=m.k2.value) (n:=bO m.data) (w:=true);have g1:aF IntKind.i64 (1000+bW L (fO L k) m.k2.value 32 false):=by unfold aF cc;omega
 have g2:aF IntKind.i64 (1000+bW L (fO L k) m.k2.value (bO m.data) true):=by unfold aF cc;omega
 rw[hw,hro];refine⟨fun h=>?_,fun h=>⟨fun h1=>?_,fun h1=>⟨fun h2=>?_,fun h2=>?_⟩⟩⟩
 ·simp only[aaV,Bool.or_eq_true,aaW]at h;obtain⟨h1|h1,h2⟩:=h
  ·simp[iw,bG,dv,h1,h2,cY]
  ·simp[iw,bG,dv,h1,h2,cY]
 ·have h1:=aaZ h1;have hz:¬(aS m<0\/11<aS m):=by rw[h1]at h;simpa using h
  have e1:dv L k m=(bY L (fl k) (aS m+4),eY (aJ L (fl k) (aS m+4)),L):=by unfold dv;rw[aa2 h1,aa1 hz]
  have e2:bG L k m=eY (aJ L (fl k) (aS m+4)):=by unfold bG;rw[aa1 (fun hh=>hz hh.2),e1]
  have e3:iw L k m=false:=by unfold iw;rw[aa2 h1]
  rw[e1,e2,e3];exact⟨hr4,rfl,rfl,rfl,rfl,rfl,rfl,rfl,rfl⟩
 ·have h1:=aaY h1;have h2:=aaZ h2;have hz:¬(aS m<0\/11<aS m):=by rw[h2]at h;simpa using h
  have e1:dv L k m=(bj L (fl k) (aS m+4) m.k0,eY (cT L (fl k) (aS m+4) m.k0),cC L (fl k) (aS m+4) m.k0):=by unfold dv;rw[aa1 h1,aa2 h2,aa1 hz,aa1 hz]
  have e2:bG L k m=eY (cT L (fl k) (aS m+4) m.k0):=by unfold bG;rw[aa1 (fun hh=>hz hh.2),e1]
  have e3:iw L k m=iL L (fl k) (aS m+4) m.k0:=by unfold iw;rw[aa1 h1,aa2 h2,aa1 hz]
  rw[e1,e2,e3];exact⟨hr4,rfl,hL,fun h=>⟨rfl,h,rfl,rfl,rfl,rfl,rfl,rfl⟩,fun h=>⟨rfl,h,⟨rfl,rfl,rfl,rfl,rfl,rfl⟩,rfl⟩⟩
 have h1:=aaY h1;have h2:=aaY h2;clear h;repeat' (first|with_reducible assumption|with_reducible rfl|with_reducible apply And.intro|with_reducible intro _)
 all_goals(first| (simp_all[iw,bG,dv,eY,fu,gm,dZ,bL,cY,void];done)| (simp_all[iw,bG,dv,eY,fu,gm,dZ,bL,cY,void];omega))
theorem PO (L:List Sx.Obj) (k:Key) (m:bp) (i:Int) (hq:mI L k m i):an Tryz.prog 85 [.sa 0,.key k,jJ m,.it .i64 i] [.ro (.arr none 163 (.ob L))] (yA (iw L k m) ((dv L k m).2.2) [jJ (bG L k m),.it .i64 (dv L k m).1]) (fun _ _=>False):=
 bm (inl:=(fun f=>f==109||f==79||f==86||f==31)) (ann:=aQ) (ae ED (ae vM (ae WS ar))) (aC Eu (aC Io (aC X1 aE))) (KY L k m i hq) (by kernel_rfl)
theorem KR:lh Tryz.prog 85 Q4:=
 iP (m:=fun x=>C3.cn x 0) (fP yB (fun _=>rfl)) (fun _=>rfl) (fun _ _=>rfl) fun L x hq=>PO L x.1 x.2.1 x.2.2.1 hq
abbrev abR(L:List Sx.Obj)(k:Key):=(ah L k).kind=10
abbrev abS(L:List Sx.Obj)(k:Key)(m:bp):=cq L (ah L k) (aH L m)
abbrev abT(L:List Sx.Obj)(k:Key)(m:bp):=cV L (ah L k) (aH L m)
abbrev abU(L:List Sx.Obj)(k:Key)(m:bp):=bh L (ah L k) (aH L m)
abbrev abV(L:List Sx.Obj)(k:Key)(m:bp):=bG L (ah L k) (aH L m)
theorem XH (L:List Sx.Obj) (n:Int) (k:Key) (m:bp) (hL:aq L) (hs:aw m.data):
 aba (decide (bQ (ai L)=0)) (fz L n k m=false/\0=(aG L n k m).code/\abG=(aG L n k m).data/\void=(aG L n k m).k0/\void=(aG L n k m).k1/\void=(aG L n k m).k2/\false=cW L n k m/\1=cJ L n k m) (((!(decide (n<0)|| !bJ L k))=true->aw m.data)/\aba (decide (n<0)|| !bJ L k|| !fk L m) (fz L n k m=false/\0=(aG L n k m).code/\abG=(aG L n k m).data/\void=(aG L n k m).k0/\void=(aG L n k m).k1/\void=(aG L n k m).k2/\false=cW L n k m/\2=cJ L n k m) (aba (decide ((ah L k).kind=6)||decide ((ah L k).kind=7)) (fz L n k m=false/\0=(aG L n k m).code/\abG=(aG L n k m).data/\void=(aG L n k m).k0/\void=(aG L n k m).k1/\void=(aG L n k m).k2/\false=cW L n k m/\241=cJ L n k m) (aba (decide ((ah L k).kind=0)) (abb (fz L n k m=false/\190=(aG L n k m).code/\abG=(aG L n k m).data/\void=(aG L n k m).k0/\void=(aG L n k m).k1/\void=(aG L n k m).k2/\false=cW L n k m/\0=cJ L n k m)) (aba (decide ((aH L m).code=0)) (abb (abb (fz L n k m=false/\0=(aG L n k m).code/\abG=(aG L n k m).data/\void=(aG L n k m).k0/\void=(aG L n k m).k1/\abg (ah L k).kind=(aG L n k m).k2/\false=cW L n k m/\0=cJ L n k m))) (((!decide ((aH L m).code<1))=true->xT (ah L k).kind)/\aba (decide ((aH L m).code<1)||decide (de (ah L k).kind<(aH L m).code)||cX (ah L k).kind (aH L m).code&& !decide ((aH L m).k2.kind=1)) (abb (fz L n k m=false/\240=(aG L n k m).code/\abG=(aG L n k m).data/\void=(aG L n k m).k0/\void=(aG L n k m).k1/\void=(aG L n k m).k2/\false=cW L n k m/\0=cJ L n k m)) ((aba (decide (0<=(aH L m).k2.value)&&decide ((aH L m).k2.value<=2147483647)) (∃g: Unit,xu L n k m/\n=n/\(ah L k).kind=(ah L k).kind/\(aH L m).k2.value=aS (aH L m)/\L=L/\ah L k=ah L k/\(aH L m).code=(aH L m).code/\(aH L m).data=(aH L m).data/\(aH L m).k0=(aH L m).k0/\(aH L m).k1=(aH L m).k1/\(aH L m).k2=(aH L m).k2/\abG=abG/\void=void/\void=void/\void=void) (∃g:Unit,xu L n k m/\n=n/\(ah L k).kind=(ah L k).kind/\-1=aS (aH L m)/\L=L/\ah L k=ah L k/\(aH L m).code=(aH L m).code/\(aH L m).data=(aH L m).data/\(aH L m).k0=(aH L m).k0/\(aH L m).k1=(aH L m).k1/\(aH L m).k2=(aH L m).k2/\abG=abG/\void=void/\void=void/\void=void))/\∀(g:Unit),xu L n k m->aba (decide ((ah L k).kind=1)) (abb (abb (fz L n k m=false/\0=(aG L n k m).code/\abG=(aG L n k m).data/\void=(aG L n k m).k0/\void=(aG L n k m).k1/\abg (ah L k).value=(aG L n k m).k2/\decide (abR L k)=cW L n k m/\0=cJ L n k m))) (aba (decide ((ah L k).kind=2)) (abb (mI L (ah L k) (aH L m) (aS (aH L m))/\(kg L (ah L k) (aH L m)=false->aba (!decide ((ey L (ah L k) (aH L m)).fst=0)) (abb (fz L n k m=false/\(ey L (ah L k) (aH L m)).fst=(aG L n k m).code/\abG=(aG L n k m).data/\void=(aG L n k m).k0/\void=(aG L n k m).k1/\void=(aG L n k m).k2/\decide (abR L k)=cW L n k m/\0=cJ L n k m)) (fz L n k m=false/\(abS L k m).code=(aG L n k m).code/\(abS L k m).data=(aG L n k m).data/\(abS L k m).k0=(aG L n k m).k0/\(abS L k m).k1=(aG L n k m).k1/\(abS L k m).k2=(aG L n k m).k2/\decide (abR L k)=cW L n k m/\0=cJ L n k m))/\(kg L (ah L k) (aH L m)=true->aba (!decide ((ey L (ah L k) (aH L m)).fst=0)) (abb (fz L n k m=true/\((ey L (ah L k) (aH L m)).fst=(aG L n k m).code/\abG=(aG L n k m).data/\void=(aG L n k m).k0/\void=(aG L n k m).k1/\void=(aG L n k m).k2/\decide (abR L k)=cW L n k m/\0=cJ L n k m)/\(ey L (ah L k) (aH L m)).snd.snd=ia L n k m)) (fz L n k m=true/\((abS L k m).code=(aG L n k m).code/\(abS L k m).data=(aG L n k m).data/\(abS L k m).k0=(aG L n k m).k0/\(abS L k m).k1=(aG L n k m).k1/\(abS L k m).k2=(aG L n k m).k2/\decide (abR L k)=cW L n k m/\0=cJ L n k m)/\(ey L (ah L k) (aH L m)).snd.snd=ia L n k m)))) (aba (decide ((ah L k).kind=3)) (abb (mI L (ah L k) (aH L m) (aS (aH L m))/\(ld L (ah L k) (aH L m)=false->aba (!decide ((eo L (ah L k) (aH L m)).fst=0)) (abb (fz L n k m=false/\(eo L (ah L k) (aH L m)).fst=(aG L n k m).code/\abG=(aG L n k m).data/\void=(aG L n k m).k0/\void=(aG L n k m).k1/\void=(aG L n k m).k2/\decide (abR L k)=cW L n k m/\0=cJ L n k m)) (fz L n k m=false/\(abT L k m).code=(aG L n k m).code/\(abT L k m).data=(aG L n k m).data/\(abT L k m).k0=(aG L n k m).k0/\(abT L k m).k1=(aG L n k m).k1/\(abT L k m).k2=(aG L n k m).k2/\decide (abR L k)=cW L n k m/\0=cJ L n k m))/\(ld L (ah L k) (aH L m)=true->aba (!decide ((eo L (ah L k) (aH L m)).fst=0)) (abb (fz L n k m=true/\((eo L (ah L k) (aH L m)).fst=(aG L n k m).code/\abG=(aG L n k m).data/\void=(aG L n k m).k0/\void=(aG L n k m).k1/\void=(aG L n k m).k2/\decide (abR L k)=cW L n k m/\0=cJ L n k m)/\(eo L (ah L k) (aH L m)).snd.snd=ia L n k m)) (fz L n k m=true/\((abT L k m).code=(aG L n k m).code/\(abT L k m).data=(aG L n k m).data/\(abT L k m).k0=(aG L n k m).k0/\(abT L k m).k1=(aG L n k m).k1/\(abT L k m).k2=(aG L n k m).k2/\decide (abR L k)=cW L n k m/\0=cJ L n k m)/\(eo L (ah L k) (aH L m)).snd.snd=ia L n k m)))) (aba (decide ((ah L k).kind=4)) (abb (mI L (ah L k) (aH L m) (aS (aH L m))/\(gQ L (ah L k) (aH L m)=false->aba (!decide ((dC L (ah L k) (aH L m)).fst=0)) (abb (fz L n k m=false/\(dC L (ah L k) (aH L m)).fst=(aG L n k m).code/\abG=(aG L n k m).data/\void=(aG L n k m).k0/\void=(aG L n k m).k1/\void=(aG L n k m).k2/\decide (abR L k)=cW L n k m/\0=cJ L n k m)) (fz L n k m=false/\(abU L k m).code=(aG L n k m).code/\(abU L k m).data=(aG L n k m).data/\(abU L k m).k0=(aG L n k m).k0/\(abU L k m).k1=(aG L n k m).k1/\(abU L k m).k2=(aG L n k m).k2/\decide (abR L k)=cW L n k m/\0=cJ L n k m))/\(gQ L (ah L k) (aH L m)=true->aba (!decide ((dC L (ah L k) (aH L m)).fst=0)) (abb (fz L n k m=true/\((dC L (ah L k) (aH L m)).fst=(aG L n k m).code/\abG=(aG L n k m).data/\void=(aG L n k m).k0/\void=(aG L n k m).k1/\void=(aG L n k m).k2/\decide (abR L k)=cW L n k m/\0=cJ L n k m)/\(dC L (ah L k) (aH L m)).snd.snd=ia L n k m)) (fz L n k m=true/\((abU L k m).code=(aG L n k m).code/\(abU L k m).data=(aG L n k m).data/\(abU L k m).k0=(aG L n k m).k0/\(abU L k m).k1=(aG L n k m).k1/\(abU L k m).k2=(aG L n k m).k2/\decide (abR L k)=cW L n k m/\0=cJ L n k m)/\(dC L (ah L k) (aH L m)).snd.snd=ia L n k m)))) (aba (decide ((ah L k).kind=5)) (abb (mI L (ah L k) (aH L m) (aS (aH L m))/\(iw L (ah L k) (aH L m)=false->aba (!decide ((dv L (ah L k) (aH L m)).fst=0)) (abb (fz L n k m=false/\(dv L (ah L k) (aH L m)).fst=(aG L n k m).code/\abG=(aG L n k m).data/\void=(aG L n k m).k0/\void=(aG L n k m).k1/\void=(aG L n k m).k2/\decide (abR L k)=cW L n k m/\0=cJ L n k m)) (fz L n k m=false/\(abV L k m).code=(aG L n k m).code/\(abV L k m).data=(aG L n k m).data/\(abV L k m).k0=(aG L n k m).k0/\(abV L k m).k1=(aG L n k m).k1/\(abV L k m).k2=(aG L n k m).k2/\decide (abR L k)=cW L n k m/\0=cJ L n k m))/\(iw L (ah L k) (aH L m)=true->aba (!decide ((dv L (ah L k) (aH L m)).fst=0)) (abb (fz L n k m=true/\((dv L (ah L k) (aH L m)).fst=(aG L n k m).code/\abG=(aG L n k m).data/\void=(aG L n k m).k0/\void=(aG L n k m).k1/\void=(aG L n k m).k2/\decide (abR L k)=cW L n k m/\0=cJ L n k m)/\(dv L (ah L k) (aH L m)).snd.snd=ia L n k m)) (fz L n k m=true/\((abV L k m).code=(aG L n k m).code/\(abV L k m).data=(aG L n k m).data/\(abV L k m).k0=(aG L n k m).k0/\(abV L k m).k1=(aG L n k m).k1/\(abV L k m).k2=(aG L n k m).k2/\decide (abR L k)=cW L n k m/\0=cJ L n k m)/\(dv L (ah L k) (aH L m)).snd.snd=ia L n k m)))) (aba (decide ((ah L k).kind=8)) (aba (decide ((aH L m).code=1)) (abb (abb (fz L n k m=false/\0=(aG L n k m).code/\abG=(aG L n k m).data/\void=(aG L n k m).k0/\void=(aG L n k m).k1/\abg (aH L m).k0.kind=(aG L n k m).k2/\decide (abR L k)=cW L n k m/\0=cJ L n k m))) (aba (decide ((aH L m).code=2)) (abb (aba (k7 (aH L m).k0 (aH L m).k1) (abb (abb (fz L n k m=false/\0=(aG L n k m).code/\abG=(aG L n k m).data/\void=(aG L n k m).k0/\void=(aG L n k m).k1/\abg 1=(aG L n k m).k2/\decide (abR L k)=cW L n k m/\0=cJ L n k m))) (abb (abb (fz L n k m=false/\0=(aG L n k m).code/\abG=(aG L n k m).data/\void=(aG L n k m).k0/\void=(aG L n k m).k1/\abg 0=(aG L n k m).k2/\decide (abR L k)=cW L n k m/\0=cJ L n k m))))) (abb (abb (fz L n k m=false/\0=(aG L n k m).code/\abG=(aG L n k m).data/\void=(aG L n k m).k0/\void=(aG L n k m).k1/\abg (aH L m).k0.rights=(aG L n k m).k2/\decide (abR L k)=cW L n k m/\0=cJ L n k m))))) (aba (decide ((ah L k).kind=9)) (abb (abb (fz L n k m=false/\0=(aG L n k m).code/\abG=(aG L n k m).data/\void=(aG L n k m).k0/\void=(aG L n k m).k1/\abg n=(aG L n k m).k2/\decide (abR L k)=cW L n k m/\0=cJ L n k m))) (fz L n k m=false/\0=(aG L n k m).code/\abG=(aG L n k m).data/\void=(aG L n k m).k0/\void=(aG L n k m).k1/\void=(aG L n k m).k2/\decide (abR L k)=cW L n k m/\0=cJ L n k m))))))))))))):=by
 delta aba abG abg abV abU abT abS abR abb
 have hd:(aH L m).data=m.data:=rfl;have hcd:(aH L m).code=m.code:=rfl;have hsz:bQ (ai L)=0↔ai L=0:=by simp[bQ]
 refine⟨fun h=>?_,fun h=>⟨fun _=>hs,fun h2=>?_,fun h2=>⟨fun h3=>?_,fun h3=>⟨fun h4=>?_,fun h4=>⟨fun h5=>?_,fun h5=>⟨fun _=>?_,fun h6=>?_,fun h6=>?_⟩⟩⟩⟩⟩⟩
 ·obtain⟨a,b,c,d⟩:=Lu (n:=n) (k:=k) (m:=m) (L:=L) (e:=1) (by unfold cJ;rw[aa2 (hsz.1 (aaZ h))]) (by omega)
  rw[a,b,c];exact⟨rfl,rfl,rfl,rfl,rfl,rfl,rfl,d⟩
 all_goals have h0:¬ai L=0:=fun e=>aaY h (hsz.2 e)
 ·have hf:qL L n k m=false:=Sk h2;obtain⟨a,b,c,d⟩:=Lu (n:=n) (k:=k) (m:=m) (L:=L) (e:=2) (by unfold cJ;rw[aa1 h0,aa2 hf]) (by omega)
  rw[a,b,c];exact⟨rfl,rfl,rfl,rfl,rfl,rfl,rfl,d⟩
 all_goals have hf:¬qL L n k m=false:=L0 h2
 ·have h3:(ah L k).kind=6\/(ah L k).kind=7:=by simpa using h3
  obtain⟨a,b,c,d⟩:=Lu (n:=n) (k:=k) (m:=m) (L:=L) (e:=241) (by unfold cJ;rw[aa1 h0,aa1 hf,aa2 h3]) (by omega)
  rw[a,b,c];exact⟨rfl,rfl,rfl,rfl,rfl,rfl,rfl,d⟩
 all_goals have h3:¬((ah L k).kind=6\/(ah L k).kind=7):=by simpa using h3
 all_goals have hE:cJ L n k m=0:=by unfold cJ;rw[aa1 h0,aa1 hf,aa1 h3]
 ·have h4:=aaZ h4;obtain⟨a,b,c,d,e⟩:=CV (c:=false) (r:=(190,cY,L)) hE (by unfold dI;rw[aa2 h4]) (by unfold vK;rw[aa2 h4])
  rw[a,b,d,h4];exact⟨rfl,rfl,rfl,rfl,rfl,rfl,rfl,rfl,e⟩
 all_goals have h4:=aaY h4
 ·have h5:=aaZ h5;obtain⟨a,b,c,d,e⟩:=CV (c:=false) (r:=(0,fu (ah L k).kind,L)) hE (by unfold dI;rw[aa1 h4,aa2 h5]) (by unfold vK;rw[aa1 h4,aa2 h5])
  rw[hcd]at h5;rw[a,b,d,h5];refine⟨rfl,rfl,rfl,rfl,rfl,rfl,rfl,rfl,?_,e⟩;simp
 all_goals have h5:=aaY h5
 ·unfold xT;have:=tH (L:=L) (k:=k);unfold aV at this;simp only[aaV,aaW]at this;omega
 ·have h6':(aH L m).code<1\/de (ah L k).kind<(aH L m).code\/(cX (ah L k).kind (aH L m).code=true/\(aH L m).k2.kind≠1):=by
   simp only[Bool.or_eq_true,aaV,aaW,Bool.not_eq_true',decide_eq_false_iff_not]at h6;rcases h6 with(h6|h6)|h6
   ·exact .inl h6
   ·exact .inr (.inl h6)
   ·exact .inr (.inr h6)
  obtain⟨a,b,c,d,e⟩:=CV (c:=false) (r:=(240,cY,L)) hE (by unfold dI;rw[aa1 h4,aa1 h5,aa2 h6']) (by unfold vK;rw[aa1 h4,aa1 h5,aa2 h6'])
  have hw:(decide ((ah L k).kind=10)&&decide (m.code=1))=false:=by
   by_cases hk:(ah L k).kind=10
   ·have h1:de (ah L k).kind=1:=by rw[hk];rfl
    have h2:cX (ah L k).kind (aH L m).code=false:=by rw[hk];rfl
    rw[h2,h1,hcd]at h6';have:¬m.code=1:=fun hm=>by rw[hm]at h6';simp at h6'
    simp[this]
   ·simp[hk]
  rw[a,b,d,hw];exact⟨rfl,rfl,rfl,rfl,rfl,rfl,rfl,rfl,e⟩
 have h6':¬((aH L m).code<1\/de (ah L k).kind<(aH L m).code\/(cX (ah L k).kind (aH L m).code=true/\(aH L m).k2.kind≠1)):=fun hh=>by
  simp only[Bool.or_eq_false_iff,Bool.and_eq_false_iff,decide_eq_false_iff_not,Bool.not_eq_false',aaW]at h6;obtain⟨⟨h6a,h6b⟩,h6c⟩:=h6;rcases hh with hh|hh|hh
  ·exact h6a hh
  ·exact h6b hh
  ·rcases h6c with h6c|h6c
   ·rw[h6c]at hh;simp at hh
   ·exact hh.2 h6c
 have hZ:xu L n k m:=⟨⟨hL,hs⟩,hE,h4,h5,h6'⟩;refine⟨⟨fun h7=>⟨(),hZ,?_⟩,fun h7=>⟨(),hZ,?_⟩⟩,fun _ _=>?_⟩
 ·have h7:0<=(aH L m).k2.value/\(aH L m).k2.value<=2147483647:=by simpa using h7
  have:(aH L m).k2.value=aS (aH L m):=by unfold aS;rw[aa2 h7]
  exact⟨rfl,rfl,this,rfl,rfl,rfl,rfl,rfl,rfl,rfl,rfl,rfl,rfl,rfl⟩
 ·have h7:¬(0<=(aH L m).k2.value/\(aH L m).k2.value<=2147483647):=by simpa using h7
  have: -1=aS (aH L m):=by unfold aS;rw[aa1 h7]
  exact⟨rfl,rfl,this,rfl,rfl,rfl,rfl,rfl,rfl,rfl,rfl,rfl,rfl,rfl⟩
 obtain⟨e1,e2,e3,e4,e5⟩:=UH hZ rfl rfl;have hro:mI L (ah L k) (aH L m) (aS (aH L m)):=⟨hL,hs,tH,rfl⟩;clear hZ h6' h6 h5 h4 hE h3 hf h0 h2 h hsz hcd hd hL hs;rw[e1,e2,e3,e4,<-e5];clear e1 e2 e3 e4 e5;generalize ah L k=k' at *
 generalize aH L m=m' at *
 repeat' (first|with_reducible assumption|with_reducible rfl|with_reducible apply And.intro|with_reducible intro _)
 all_goals(first| (simp_all[tP,eJ,Py,PU,MK,bh,gg,fu,dZ,bL,cY,void];done)| (simp_all[tP,eJ,Py,PU,MK,bh,gg,fu,dZ,bL,cY,void];omega))
theorem Xe (L:List Sx.Obj) (n:Int) (k:Key) (m:bp) (hL:aq L) (hs:aw m.data):an Tryz.prog 52 [.sa 0,.it .i64 n,.key k,jJ m] [.ro (.arr none 163 (.ob L))] (yA (fz L n k m) (ia L n k m) [jJ (aG L n k m),.bo (cW L n k m),.it .i64 (cJ L n k m)]) (fun _ _=>False):=
 bm (inl:=(fun f=>f==109||f==79||f==86||f==31||f==78)) (ann:=(iJ [(52,2000019,En [0,1,6,7,9,12] (fun(_:Unit)=> [(13,.it .i64 (aS (aH L m)))]) (fun _=> []) (fun _=> []) (fun _=>xu L n k m))])) (ae yV (ae Dp (ae Cm (ae pL (ae QX (ae Mb (ae PC ar))))))) (aC K9 (aC Pw (aC Jp (aC KR aE)))) (XH L n k m hL hs) (by kernel_rfl)
theorem Yx:lh Tryz.prog 52 Z2:=
 iP (m:=fun x=>MG.cn x 0) (fP IP (fun _=>rfl)) (fun _=>rfl) (fun _ _=>rfl) fun L x hq=>Xe L x.1 x.2.1 x.2.2.1 hq.1 hq.2
end Go.Proofs.YtlblcfaclmpekaaGreat
namespace Go.Sx
theorem Td {L:List Obj} {i:Int} {m:bp} (hL:aq L):aq (gx L i m):=by
 unfold gx;split
 ·rename_i hE
  have hm:fk L m=true/\bw L i=1:=by
   unfold gf at hE;split at hE
   ·omega
   ·split at hE
    ·omega
    ·split at hE
     ·omega
     ·rename_i h1 h2;exact⟨by simpa using h1,by omega⟩
  obtain⟨a,b,c,d⟩:=o7 (qM.1.1 (by omega:0<=bw L i))
  obtain⟨f0,f1,f2⟩:=Df (by have:=gY hL;omega:0<L.length) m
  exact kS hL (GY (dt hL i.toNat (by omega)) d f0 f1 f2 (Ah (by omega)))
 ·exact hL
theorem V6 {L:List Obj} {n:Int} {p:jb} (hL:aq L):aq (dP L n p):=by
 unfold dP;split
 ·split
  ·exact VY hL
  ·unfold w8;have h1:aq (iH L n p):=Gu hL;split
   ·split
    ·exact Td h1
    ·split
     ·exact G6 h1
     ·exact h1
   ·exact h1
 ·exact hL
theorem XJ {n:Int} {p:jb} (hn:gN n):gN (jn n p):=by
 unfold jn;split
 ·rename_i h;obtain⟨hr,hk⟩:=h;unfold eu at hr;rw[aa2 hk]at hr;simp only[aaV,aaW]at hr;unfold gN at hn⊢;omega
 ·exact hn
def Es (l:TL) (L:List Obj) (n:Int):Prop:=aq L/\gN n/\∃x:List jb,l=lX x/\wE x/\ai x<=40
theorem Ft {L:List Obj} {i:Int} {o:Obj} (hL:aq L):aq (cK L i o):=by
 unfold cK;split
 ·rename_i h;rcases GS o (ai L:Int)with⟨_,h2⟩|⟨h1,_⟩
  ·exact kS hL h2
  ·rw[h.2]at h1;simp at h1
 ·exact hL
theorem SM {n:Int} (h:gZ n=true):aq (kh n):=by
 unfold gZ at h;simp only[aaV,aaW]at h;have hl:(kh n).length=n.toNat:=by simp[kh]
 have key:∀k:Fin 65,1<=k.val->bM free (k.val:Int)=true:=by decide+kernel
 refine gM.2 ⟨by omega,by omega,fun i hi=>?_⟩
 have e:aj (kh n) i free=free:=by
  unfold aj kh;rw[aa0,List.getElem?_replicate];split<;>rfl
 rw[e,hl];exact key ⟨n.toNat,by omega⟩ (by simp only;omega)
theorem Si {n:Int} (h:gZ n=true):aq (dc n):=Ft (Ft (SM h))
def gr (p:jb):Prop:=True
def qj (L:List Obj) (p:jb) (g:Int):Prop:=0<=g/\g<(ai (b7 L):Int)/\aj (b7 L) g.toNat 0=aX L p
def Vj (o:Obj) (p:jb):bp:=⟨p.code,p.data,oD o p.s0,oD o p.s1,oD o p.s2⟩
def mz (L:List Obj) (p:jb):bp:=Vj (aL L (aX L p)) p
def ye (L:List Obj) (p:jb):Key:=ah L ((aj L (aX L p).toNat free).slots.at (4+p.reg).toNat)
def stM (L:List Obj) (n:Int) (p:jb):bp:=aG L n (ye L p) (bK L p)
def Yh (L:List Obj) (n:Int) (p:jb):List Obj:=ia L n (ye L p) (bK L p)
def JD (L:List Obj) (p:jb) (s:Int):Key:=(aj L (aX L p).toNat free).slots.at (4+s).toNat
def Ve (L:List Obj) (p:jb) (s:Int) (r:Prop):Prop:=aF .i64 (4+s)/\(0<=aX L p/\aX L p< ↑(ai L))/\(0<=4+s/\4+s< ↑16)/\(aX L p).toNat<ai L/\r
def xJ (L:List Obj) (n:Int) (p:jb) (r:Prop):Prop:=L=L/\n=n/\p.kind=p.kind/\p.proc=p.proc/\p.reg=p.reg/\p.mode=p.mode/\p.code=p.code/\p.data=p.data/\p.s0=p.s0/\p.s1=p.s1/\p.s2=p.s2/\p.num=p.num/\p.val=p.val/\Value.slice none 0 0=Value.slice none 0 0/\ByteArray.mk (Array.mk [])=ByteArray.mk (Array.mk [])/\void=void/\void=void/\void=void/\false=false/\b7 L=b7 L/\r
def Ie (L:List Obj) (n:Int) (p:jb):Prop:=L=L/\n=n/\p.kind=p.kind/\p.proc=p.proc/\p.reg=p.reg/\p.mode=p.mode/\p.code=p.code/\p.data=p.data/\p.s0=p.s0/\p.s1=p.s1/\p.s2=p.s2/\p.num=p.num/\p.val=p.val/\Value.slice none 0 0=Value.slice none 0 0/\ByteArray.mk (Array.mk [])=ByteArray.mk (Array.mk [])/\void=void/\void=void/\void=void/\false=false/\b7 L=b7 L
theorem CM {L:List Obj} {n:Int} {p:jb}:Ie L n p:=⟨rfl,rfl,rfl,rfl,rfl,rfl,rfl,rfl,rfl,rfl,rfl,rfl,rfl,rfl,rfl,rfl,rfl,rfl,rfl,rfl⟩
theorem FQ {L:List Obj} {n:Int} {p:jb} {r:Prop} (h:r):xJ L n p r:=⟨rfl,rfl,rfl,rfl,rfl,rfl,rfl,rfl,rfl,rfl,rfl,rfl,rfl,rfl,rfl,rfl,rfl,rfl,rfl,rfl,h⟩
def QP (L:List Obj) (n:Int) (p:jb) (x o i e:Int) (m:bp) (w:Bool):Prop:=x=jn n p/\o=(aT L n p).out/\i=(aT L n p).proc/\e=(aT L n p).err/\m.code=(aT L n p).ans.code/\m.data=(aT L n p).ans.data/\m.k0=(aT L n p).ans.k0/\m.k1=(aT L n p).ans.k1/\m.k2=(aT L n p).ans.k2/\w=(aT L n p).wants
theorem w7 {L:List Obj} {n x o i e:Int} {p:jb} {m:bp} {w:Bool} (h1:jn n p=x) (h2:aT L n p=⟨o,i,e,m,w⟩):QP L n p x o i e m w:=by
 unfold QP;rw[h1,h2];(repeat' apply And.intro)<;>rfl
theorem Ch {L:List Obj} {p:jb} {s:Int} (h0:0<=aX L p) (h1:aX L p<(ai L:Int)) (hs:gU s=true):(decide (0<=s)=true->(∀r,r->Ve L p s r)/\JD L p s=oD (aL L (aX L p)) s)/\(decide (0<=s)=false->void=oD (aL L (aX L p)) s):=by
 refine⟨fun h=>?_,fun h=>?_⟩
 ·have h:=aaZ h
  have hb:s<12:=by
   unfold gU tL at hs;simp only[Bool.or_eq_true,aaV,aaW]at hs;omega
  refine⟨fun r hr=>⟨by simp only[aF,cc];omega,⟨h0,h1⟩,by omega,by omega,hr⟩,?_⟩
  unfold oD;rw[aa1 (by omega),fG h0 h1]
  rfl
 ·have h:=aaY h;unfold oD;rw[aa2 (by omega)]
theorem He (L:List Obj):∀(k:Nat),∀x∈dL L (k:Int),0<=x/\x<(k:Int)
 |0,x,h=>by rw[show((0:Nat):Int)=0 from rfl,wU]at h;simp at h
 |k+1,x,h=>by
  rw[show((k+1:Nat):Int)=(k:Int)+1 by omega,wC L (by omega)]at h
  have ih:=He L k x;split at h
  ·unfold jm at h;rcases List.mem_append.1 h with h|h
   ·have:=ih h;omega
   ·simp only[List.mem_singleton]at h;omega
  ·have:=ih h;omega
theorem WY {L:List Obj} {p:jb} (hL:aq L) (h0:¬ai (b7 L)=0):0<=aX L p/\aX L p<(ai L:Int):=by
 obtain⟨_,_,_,f4⟩:=we (p:=p) hL h0
 have hlt:((p.proc.tmod (ai (b7 L):Int)+(ai (b7 L):Int)).tmod (ai (b7 L):Int)).toNat<(b7 L).length:=by
  have:ai (b7 L)=(b7 L).length:=rfl;omega
 have hm:aX L p∈b7 L:=by
  unfold aX aj;rw[aa0,List.getElem?_eq_getElem hlt];exact List.getElem_mem _
 exact He L (ai L) _ hm
theorem XN {L:List Obj} {p:jb} (hL:aq L) (h0:¬ai (b7 L)=0):(p.proc.tmod (ai (b7 L):Int)<0->qj L p (p.proc.tmod (ai (b7 L):Int)+(ai (b7 L):Int)))/\(¬p.proc.tmod (ai (b7 L):Int)<0->qj L p (p.proc.tmod (ai (b7 L):Int))):=by
 have hN:(0:Int)<(ai (b7 L):Int):=by omega
 have hb:=Int.tmod_lt_of_pos p.proc hN;have hb2:=Int.lt_tmod_of_pos p.proc hN;unfold qj aX;generalize p.proc.tmod (ai (b7 L):Int)=x at *
 refine⟨fun h=>⟨by omega,by omega,?_⟩,fun h=>⟨by omega,by omega,?_⟩⟩
 ·rw[Int.tmod_eq_of_lt (by omega) (by omega)]
 ·rw[Int.tmod_eq_emod_of_nonneg (by omega),Int.add_emod_right,Int.emod_eq_of_lt (by omega) hb]
theorem X2 {L:List Obj} {n:Int} {p:jb} {A:List Obj} (hA:iH L n p=A):w8 L n p=if bw A (aX L p)=1 then(if p.mode=1 then gx A (aX L p) (aG L n (cR L p) (bK L p))else if p.mode=3 then dg A (aX L p) 0 else A)else A:=by
 unfold w8;rw[hA]
 have:(dS A (aX L p)=true/\iG A (aX L p)=1)↔bw A (aX L p)=1:=by
  unfold iG bw;split<;>simp_all
 simp only[this]
def Hj (L:List Obj) (n:Int) (p:jb) (A:List Obj) (E D:Prop):Prop:=((decide (bw A (aX L p)=1)&&decide (p.mode=1))=true->true=true/\(aq A/\aw (stM L n p).data)/\(pM A (aX L p) (stM L n p)=false->((decide (bw A (aX L p)=1)&&decide (p.mode=3))=true->true=true/\aq A/\(ku A (aX L p) 0=false->D/\E)/\(ku A (aX L p) 0=true->D/\dg A (aX L p) 0=dP L n p))/\((decide (bw A (aX L p)=1)&&decide (p.mode=3))=false->D/\E))/\(pM A (aX L p) (stM L n p)=true->((decide (bw (gx A (aX L p) (stM L n p)) (aX L p)=1)&&decide (p.mode=3))=true->true=true/\aq (gx A (aX L p) (stM L n p))/\(ku (gx A (aX L p) (stM L n p)) (aX L p) 0=false->D/\gx A (aX L p) (stM L n p)=dP L n p)/\(ku (gx A (aX L p) (stM L n p)) (aX L p) 0=true->D/\dg (gx A (aX L p) (stM L n p)) (aX L p) 0=dP L n p))/\((decide (bw (gx A (aX L p) (stM L n p)) (aX L p)=1)&&decide (p.mode=3))=false->D/\gx A (aX L p) (stM L n p)=dP L n p)))/\((decide (bw A (aX L p)=1)&&decide (p.mode=1))=false->((decide (bw A (aX L p)=1)&&decide (p.mode=3))=true->true=true/\aq A/\(ku A (aX L p) 0=false->D/\E)/\(ku A (aX L p) 0=true->D/\dg A (aX L p) 0=dP L n p))/\((decide (bw A (aX L p)=1)&&decide (p.mode=3))=false->D/\E))
theorem IB {L:List Obj} {n:Int} {p:jb} {A:List Obj} {E D:Prop} (hA:iH L n p=A) (hE:dP L n p=A->E) (hl:dP L n p=w8 L n p) (hM:aG L n (cR L p) (bK L p)=stM L n p) (hL:aq A) (d:D):Hj L n p A E D:=by
 rw[X2 hA,hM]at hl;have hs:aw (stM L n p).data:=by rw[<-hM];exact CZ
 simp only[Hj,aaV,Bool.and_eq_false_iff,aaW,decide_eq_false_iff_not];refine⟨fun⟨h1,h2⟩=>?_,fun h=>⟨fun⟨h1,h3⟩=>?_,fun h3=>⟨d,hE ?_⟩⟩⟩
 ·rw[aa2 h1,aa2 h2]at hl;have h3:¬p.mode=3:=by omega
  refine⟨trivial,⟨hL,hs⟩,fun hc=>⟨fun hh=>absurd hh.2 h3,fun _=>⟨d,hE (hl.trans (Ya hc))⟩⟩,fun hc=>⟨fun hh=>absurd hh.2 h3,fun _=>⟨d,hl.symm⟩⟩⟩
 ·rw[aa2 h1,aa1 (by omega),aa2 h3]at hl
  exact⟨trivial,hL,fun hc=>⟨d,hE (hl.trans (H9 hc))⟩,fun hc=>⟨d,hl.symm⟩⟩
 ·by_cases h1:bw A (aX L p)=1
  ·rw[aa2 h1,aa1 (by omega),aa1 (by omega)]at hl
   exact hl
  ·rw[aa1 h1]at hl;exact hl
def kRs (L M:List Obj) (n:Int) (D:V) (v:V) (r:List aK):Prop:=
 match v with
 | .tp l=>match l with
   | [a,d]=>match a with
     | .ag m=>match m with
       | [b,y]=>match b with
         | .sa p=>if p==0 then oW (.tp [.it .i64 n,D]) (.tp [y,d]) r/\M=L else if Nat.ble 1 p then match az r p with
           | .arr own z t=>match own with
             |some e=>match t with
              | .ob N=>if z==163&&e==tO then oW (.tp [.it .i64 n,D]) (.tp [y,d]) r/\N=M else False
              |_=>False
             |none=>False
           |_=>False
           else False
         |_=>False
       |_=>False
     |_=>False
   |_=>False
 |_=>False
theorem RF {L M:List Obj} {n:Int} {D v:V} {r:List aK} (h:kRs L M n D v r):∃p y d,v= .tp [.ag [.sa p,y],d]/\oW (.tp [.it .i64 n,D]) (.tp [y,d]) r/\((p=0/\M=L)\/(1<=p/\az r p= .arr (some tO) 163 (.ob M))):=by
 unfold kRs at h;split at h
 case h_2=>exact h.elim
 split at h
 case h_2=>exact h.elim
 split at h
 case h_2=>exact h.elim
 split at h
 case h_2=>exact h.elim
 rename_i d _ _ _ y;split at h
 case h_2=>exact h.elim
 rename_i p;split at h
 ·rename_i e;exact⟨p,y,d,rfl,h.1,.inl ⟨aaX.1 e,h.2⟩⟩
 ·split at h
  case isFalse=>exact h.elim
  rename_i hp;split at h
  case h_2=>exact h.elim
  rename_i hrp;split at h
  case h_2=>exact h.elim
  split at h
  case h_2=>exact h.elim
  split at h
  case isFalse=>exact h.elim
  rename_i hc;simp only[aaV,aaX]at hc;obtain⟨rfl,rfl⟩:=hc;obtain⟨h1,rfl⟩:=h;exact⟨p,y,d,rfl,h1,.inr ⟨by simpa using hp,hrp⟩⟩
def Cu:kq:=fun args res K=>
 match args with
 |a::l=>match uw JM l with
  |some x=>match a with
   | .ag m=>match m with
     | [b,y]=>match b with
       | .sa j=>match y with
         | .it k n=>match k with
           | .i64=>match cP res j with
             | .arr _ z t=>if z==163 then match t with
               | .ob M=>(Xy M n (wy x.1)/\eu (wy x.1) n=true)/\(dP M n (wy x.1)=M->K (.tp [.ag [.sa j,.it .i64 (jn n (wy x.1))],YQ (aT M n (wy x.1))]) res)/\
                 K (.tp [.ag [.sa res.length,.it .i64 (jn n (wy x.1))],YQ (aT M n (wy x.1))]) (res++ [.arr (some tO) 163 (.ob (dP M n (wy x.1)))])
               |_=>False
               else False
             |_=>False
           |_=>False
         |_=>False
       |_=>False
     |_=>False
   |_=>False
  |none=>False
 |_=>False
theorem EJ {κ:Nat->Option Nat} {p j:Nat} {n:Int} {y d F:V} {r:List aK} (hκ:κ p=some j) (hF:kE F=true) (hb:oW (.tp [.it .i64 n,F]) (.tp [y,d]) r):lu κ (.tp [.ag [.sa p,y],d]) (.tp [.ag [.sa j,.it .i64 n],F]):=by
 intro ρ2 ρ3 N N' h1 h2 hv;obtain⟨⟨⟨hp,hy,_⟩,_⟩,hd,_⟩:=hv;obtain⟨e1,e2,_⟩:=dK hb ρ2 N;obtain⟨a1,a2,a3,a4,a5,a6⟩:=h1 p j hκ;have hFN:fQ N [.it .i64 n,F]:=e2 ⟨hy,hd,trivial⟩;have hF0:fQ (fun _=>False) [V.it .i64 n,F]:=mF _ (by simp[lW,kE,hF]) hFN
 have e3:bz ρ3 [.it .i64 n,F]=bz ρ2 [.it .i64 n,F]:=fW (N:=fun _=>False) (fun _ h=>h.elim) _ hF0
 have hN':fQ N' [V.it .i64 n,F]:=mF _ (by simp[lW,kE,hF]) hFN
 have e1:den ρ2 y= .int .i64 n/\den ρ2 d=den ρ2 F:=by simpa[den,bz]using e1
 have e3:den ρ3 F=den ρ2 F:=by simpa[bz,den]using e3
 refine⟨?_,⟨⟨h2 p j hκ hp,hN'.1,trivial⟩,trivial,trivial,trivial⟩,hN'.2⟩;simp only[den,bz,bn,e1.1,e1.2,e3,a2,a4,a5]
theorem W9 {P:Program} {f:Nat} (hcl:∀L n p,Xy L n p->eu p n=true->an P f [.ag [.sa 0,.it .i64 n],Ky p] [.ro (.arr none 163 (.ob L))] (kRs L (dP L n p) (jn n p) (YQ (aT L n p))) (fun _ _=>False)):lh P f Cu:=by
 intro args res K KP h;unfold Cu at h;split at h
 case h_2=>exact h.elim
 split at h
 case h_2=>exact h.elim
 rename_i x hx;refine an.args (ff.j4 (fP F5 (fun _=>rfl) _ _ hx)) ?_
 split at h
 case h_2=>exact h.elim
 split at h
 case h_2=>exact h.elim
 split at h
 case h_2=>exact h.elim
 rename_i j;split at h
 case h_2=>exact h.elim
 rename_i n;split at h
 case h_2=>exact h.elim
 split at h
 case h_2=>exact h.elim
 rename_i own z t hj;split at h
 case isFalse=>exact h.elim
 rename_i hz;have hz:=aaX.1 hz;subst hz;split at h
 case h_2=>exact h.elim
 rename_i M;obtain⟨⟨hQ,hR⟩,h0,h1⟩:=h;have hkj:=eU hj (by simp)
 have hjl:=aO hkj;have hres:fD (lS 0 (dV [(j,false)])) res [(j,false)]= [.ro (.arr own 163 (.ob M))]:=by simp[fD,hj,gL]
 refine an.frame (pl:= [(j,false)]) (args0:= [.ag [.sa 0,.it .i64 n],Ky (wy x.1)]) (K0:=kRs M (dP M n (wy x.1)) (jn n (wy x.1)) (YQ (aT M n (wy x.1)))) (KP0:=fun _ _=>False) (by simp[fm,cQ.2 hkj]) (by simpa[ju,dV,pF]using hjl) ?_ ?_ (fun v r hv=>?_) (fun _ _ h=>h.elim)
 ·exact mg (by simp[ga,eX,lS,idxOf,dV]) (lf _ rfl)
 ·rw[hres];exact an.Vm (hcl M n (wy x.1) hQ hR)
 ·obtain⟨p,y,d,rfl,hb,hv⟩:=RF hv;rcases hv with⟨rfl,hc⟩|⟨hp,hrp⟩
  ·have hm:merge [(j,false)] [] r res=res:=by simp[merge,fC,gG]
   refine⟨[],_,rfl,by simp[kV],rfl,EJ (j:=j) (by simp[back,v7]) rfl hb,by rw[hm];exact h0 hc⟩
  ·have hpl:p<r.length:=aO (by rw[hrp];simp)
   have hm:merge [(j,false)] [p] r res=res++ [.arr (some tO) 163 (.ob (dP M n (wy x.1)))]:=by simp[merge,fC,hrp,gL,gG]
   refine⟨[p],_,by simpa[ju,pF]using⟨hp,hpl⟩,by simp[kV],by simp[oz,hrp,jT],EJ (j:=res.length) ?_ rfl hb,by rw[hm];exact h1⟩
   unfold back;rw[sj _ _ (by simpa using hp)]
   simp[idxOf]
def rdM (res:List aK) (a:V):Option (Nat×Nat×Int×List Obj):=
 match a with
 | .lp b off=>match cP res b with
   | .blk t c=>match M6 c with
     |some q=>match cP res q.1 with
      | .store ts e L=>if off==0&&t==sR&&ts==tS&&e==eS then some (b,q.1,q.2,L)else none
      |_=>none
     |none=>none
   |_=>none
 |_=>none
theorem Ln {res:List aK} {a:V} {b s:Nat} {n:Int} {L:List Obj} (h:rdM res a=some (b,s,n,L)):a= .lp b 0/\(cP res b= .blk sR (om s n)\/cP res b= .blk sR (.ag [.lp s 0,.ci .i64 n]))/\cP res s= .store tS eS L:=by
 unfold rdM at h;split at h
 case h_2=>simp at h
 split at h
 case h_2=>simp at h
 rename_i hb;split at h
 case h_2=>simp at h
 rename_i q hq;split at h
 case h_2=>simp at h
 rename_i hs;split at h
 case isFalse=>simp at h
 rename_i hc;simp only[aaV,aaX]at hc;obtain⟨⟨⟨rfl,rfl⟩,rfl⟩,rfl⟩:=hc;simp only[aaT,aaU]at h;obtain⟨rfl,rfl,rfl,rfl⟩:=h;obtain⟨y,rfl,hy⟩:=wo (s:=q.1) (n:=q.2) hq;refine⟨rfl,?_,hs⟩;rw[hb];cases y<;>simp[rI,toInt]at hy
 all_goals(obtain⟨rfl,hn⟩:=hy;subst hn;first|exact .inl rfl|exact .inr rfl)
def ctM (Q:List Obj->Option Prop) (x:Int->Nat->V) (new:List Obj->List aK):Ct:=fun res nid args=>match args with
 | [a]=>match rdM res a with
   |some r=>some (Q r.2.2.2,x r.2.2.1 nid,new r.2.2.2)
   |none=>none
 |_=>none
theorem Lm {P:Program} {f:Nat} {π:List Nat} {Q:List Obj->Option Prop} {x:Int->Nat->V} {new:List Obj->List aK} (hnd:π.Nodup) (hy:∀L,YL (new L)=true)
  (h:∀n L,dY (Q L)->an P f [.lp 0 0] [.ro (.blk sR (om 1 n)),.ro (.store tS eS L)] (fun v r=>xf π (x n) (fun _=>new L) v r) (fun _ _=>False)):cz P f (ctM Q x new):=by
 intro J fps res K w0 F0 w nid args q y new' hH hargs hg hq hfr;unfold ctM at hg;split at hg
 case h_2=>simp at hg
 split at hg<;>simp only[aaT,aaU,reduceCtorEq]at hg
 rename_i r hr;obtain⟨b,s,n,L⟩:=r;obtain⟨rfl,rfl,rfl⟩:=hg;obtain⟨rfl,hb,hs⟩:=Ln hr;refine⟨?_,fun k hk=>uz (hy L) k hk⟩
 have hne:b≠s:=fun e=>by rcases hb with hb|hb<;>rw[e,hs]at hb<;>simp at hb
 have hfr:∀b,b<w0.heap.size->¬F0 b->w.heap[b]? =w0.heap[b]? /\¬(fun _:Nat=>False) b:=fun b hb hF=>⟨hH.same b hb hF,fun h=>h⟩
 have hv:Env.via (fun p=>if p=b then some 0 else if p=s then some 1 else none) J (J.pull fun i=>if i=0 then b else s):=rB fun p i hp=>by
  split at hp<;>(try split at hp)<;>simp only[aaT,reduceCtorEq]at hp<;>subst hp<;>simp[*]
 have hkn:∀i,known [.ro (.blk sR (om 1 n)),.ro (.store tS eS L)] i↔i=0\/i=1:=fun i=>by
  match i with
  |0=>simp[known,az]
  |1=>simp[known,az]
  |i+2=>simp[known,az]
 have hrep:bq (J.pull fun i=>if i=0 then b else s) (fun _ _=>False) [.ro (.blk sR (om 1 n)),.ro (.store tS eS L)] (known [.ro (.blk sR (om 1 n)),.ro (.store tS eS L)]) w (fun _=>False) w:=by
  refine⟨fun i hi=>hi,Nat.le_refl _,rfl,rfl,rfl,fun i hi=>?_,fun i b hi h=>h.elim,fun i j b hi hj hne h=>h.elim,fun i b hi h=>h.elim,fun _ _ _=>rfl⟩
  have gen:∀p j r,cP res p=r->r≠ .yet->(fun p=>if p=b then some 0 else if p=s then some 1 else none) p=some j->∃fp:Nat->Prop,(gL (fun p=>if p=b then some 0 else if p=s then some 1 else none) r).holds (known [.ro (.blk sR (om 1 n)),.ro (.store tS eS L)]) (J.pull fun i=>if i=0 then b else s) j fp w (fun _=>False) w/\∀b,fp b->b<w.heap.size/\¬(fun _=>False) b:=by
   intro p j r hr hy hp;obtain⟨fp,g1,g2⟩:=(pE.look hr hy).2 J fps K w0 F0 w hH;refine⟨fp,iV hv (fun p i hp _=>?_) hp _ _ _ (aK.tC hH.old hfr _ _ g1),fun c hc=>⟨?_,fun h=>h⟩⟩
   ·rw[hkn];split at hp<;>(try split at hp)<;>simp only[aaT,reduceCtorEq]at hp<;>subst hp<;>simp
   ·rcases g2 c hc with⟨j,hj,hf⟩|⟨hl,_⟩
    ·exact hH.lt j c hj hf
    ·exact Nat.lt_of_lt_of_le hl hH.old
  rcases(hkn i).1 hi with rfl|rfl
  ·rcases hb with hb|hb<;>obtain⟨fp,h1,h2⟩:=gen b 0 _ hb (by simp) (by simp)<;>simp only[gL,om,ga,eX,if_true,aa1 (Ne.symm hne)]at h1<;>exact⟨fp,h1,h2⟩
  ·obtain⟨fp,h1,h2⟩:=gen s 1 _ hs (by simp) (by simp[Ne.symm hne])
   exact⟨fp,h1,h2⟩
 have hd:bz J [.lp b 0]=bz (J.pull fun i=>if i=0 then b else s) [.lp 0 0]:=by simp[bz,den,Env.pull]
 rw[hd];refine(h n L hq _ _ _ _ _ hrep ⟨(hkn 0).2 (.inl rfl),trivial⟩).mono fun e w' ⟨v,ρ1,fps1,r,g1,g2,g3,g4⟩=>?_
 rcases g4 with⟨rfl,hN⟩|⟨_,hF⟩
 ·exact⟨_,rfl,uq (new:=fun _=>new L) hnd g1 g3 hN⟩
 ·exact hF.elim
def hJ:Obj:=Obj.mk 1 1 free.calls free.slots free.bytes
def CL:Obj:=Obj.mk 1 1 free.calls (free.slots.put 2 (bL 1)) free.bytes
def ky:Obj:=Obj.mk 1 1 free.calls (CL.slots.put 4 (Key.mk 4 1 1 void.call void.rights void.value)) free.bytes
def oh:Obj:=Obj.mk 1 1 free.calls (((ky.slots.put 5 (Key.mk 8 void.oid void.count void.call void.rights void.value)).put 6 (Key.mk 9 void.oid void.count void.call void.rights void.value)).put 7 (Key.mk 10 void.oid void.count void.call void.rights void.value)) free.bytes
def bX (n:Int) (o:Obj):List Obj:=b6 (k8 n.toNat free) 0 o
def oy (n:Int):List Obj:=bX n xj
def ee (n:Int) (o:Obj):List Obj:=b6 (bX n xj) 1 o
def gW (l:List Obj) (i:Int) (s:Nat) (k:Key):List Obj:=b6 l (Int.toNat i) (Obj.mk (aj l (Int.toNat i) free).kind (aj l (Int.toNat i) free).count (aj l (Int.toNat i) free).calls ((aj l (Int.toNat i) free).slots.put s k) (aj l (Int.toNat i) free).bytes)
def pG (l:List Obj) (i:Int) (x:Int):List Obj:=b6 l (Int.toNat i) (Obj.mk x (aj l (Int.toNat i) free).count (aj l (Int.toNat i) free).calls (aj l (Int.toNat i) free).slots (aj l (Int.toNat i) free).bytes)
def AN (l:List Obj) (i:Int) (x:Int):List Obj:=b6 l (Int.toNat i) (Obj.mk (aj l (Int.toNat i) free).kind x (aj l (Int.toNat i) free).calls (aj l (Int.toNat i) free).slots (aj l (Int.toNat i) free).bytes)
def lV (l:List Obj) (i:Int):Prop:=0<=i/\i< ↑(ai l)
theorem uX (l:List Obj) (i:Int):(∀s k,ai (gW l i s k)=ai l)/\(∀x,ai (pG l i x)=ai l)/\∀x,ai (AN l i x)=ai l:=by
 refine⟨fun s k=>?_,fun x=>?_,fun x=>?_⟩<;>simp[gW,pG,AN,ai,b6]
theorem np (n:Int) (o:Obj):ai (bX n o)=n.toNat:=by unfold bX ai b6 k8;simp
theorem HN (n:Int) (o:Obj):ai (ee n o)=n.toNat:=by rw[<-np n xj];unfold ee ai b6;simp
theorem NN (l:List Obj) (i:Nat) (o p:Obj):b6 (b6 l i o) i p=b6 l i p:=by unfold b6;simp
theorem qx {n:Int} (h:4<=n) (o:Obj):(∀s k,gW (bX n o) 0 s k=bX n ⟨o.kind,o.count,o.calls,o.slots.put s k,o.bytes⟩)/\(∀x,pG (bX n o) 0 x=bX n ⟨x,o.count,o.calls,o.slots,o.bytes⟩)/\∀x,AN (bX n o) 0 x=bX n ⟨o.kind,x,o.calls,o.slots,o.bytes⟩:=by
 have hg:aj (bX n o) (Int.toNat 0) free=o:=(mL _ _ _ _).2 (by unfold k8;simp;omega)
 refine⟨fun s k=>?_,fun x=>?_,fun x=>?_⟩<;>simp only[gW,pG,AN,hg]<;>exact NN _ _ _ _
theorem Dl {n:Int} (h:4<=n) (o:Obj):(∀s k,gW (ee n o) 1 s k=ee n ⟨o.kind,o.count,o.calls,o.slots.put s k,o.bytes⟩)/\(∀x,pG (ee n o) 1 x=ee n ⟨x,o.count,o.calls,o.slots,o.bytes⟩)/\∀x,AN (ee n o) 1 x=ee n ⟨o.kind,x,o.calls,o.slots,o.bytes⟩:=by
 have hl:ai (bX n xj)=n.toNat:=np _ _;have hg:aj (ee n o) (Int.toNat 1) free=o:=(mL _ _ _ _).2 (by unfold ai at hl;show 1<_;omega)
 refine⟨fun s k=>?_,fun x=>?_,fun x=>?_⟩<;>simp only[gW,pG,AN,hg]<;>exact NN _ _ _ _
def wJ (n:Int):List Obj:=gW (bX n ky) 0 5 (Key.mk 8 void.oid void.count void.call void.rights void.value)
def qO (n:Int):List Obj:=gW (wJ n) 0 6 (Key.mk 9 void.oid void.count void.call void.rights void.value)
def qN (n:Int):List Obj:=gW (ee n hJ) 1 0 (bL 2)
def oX (n:Int) (l m:List Obj):Prop:=∃g:Unit,gr jk/\n=n/\Value.slice none 0 0=Value.slice none 0 0/\l=m
theorem zw {n:Int} {l m:List Obj} (h:l=m):oX n l m:=⟨(),trivial,rfl,rfl,h⟩
theorem NU:∀k:Fin 65,4<=k.val->bM xj (k.val:Int)=true/\bM (Lb ((k.val:Int)-1)) (k.val:Int)=true:=by decide+kernel
theorem TC {n:Int} (h4:4<=n) (h64:n<=64):ee n (Lb (n-1))=dc n:=by
 have hn:((n.toNat:Nat):Int)=n:=by omega
 obtain⟨k1,k2⟩:=NU ⟨n.toNat,by omega⟩ (by simp only;omega)
 simp only[hn]at k1 k2;have hl0:ai (kh n)=n.toNat:=by unfold kh ai;simp
 have put:∀(L:List Obj) (i:Int) (o:Obj),ai L=n.toNat->(i=0\/i=1)->bM o n=true->cK L i o=b6 L i.toNat o:=fun L i o hL hi ho=>by
  unfold cK dA ej;rw[hL,hn,ho];have:L.length=n.toNat:=hL;grind
 unfold dc ee bX;rw[put (kh n) 0 xj hl0 (.inl rfl) k1,put _ 1 _ (by unfold ai b6 at *;simpa using hl0) (.inr rfl) k2]
 rfl
theorem T8 {n:Int} (h:4<=n):aj (oy n) (Int.toNat 1) free=free:=by
 unfold oy bX;rw[(mL _ _ _ _).1 _ (by decide)]
 unfold aj k8;rw[aa0,List.getElem?_replicate];split<;>rfl
theorem Zy {n:Int} (h:4<=n):pG (oy n) 1 1=ee n ⟨1,free.count,free.calls,free.slots,free.bytes⟩:=by
 simp only[pG,T8 h];rfl
theorem V2 {n:Int} (h:4<=n):pG (k8 n.toNat free) 0 1=bX n ⟨1,free.count,free.calls,free.slots,free.bytes⟩:=by
 have hg:aj (k8 n.toNat free) (Int.toNat 0) free=free:=by
  unfold aj k8;rw[aa0,List.getElem?_replicate];split<;>rfl
 simp only[pG,hg];rfl
theorem qH {n:Int} (h:4<=n) {l:List Obj} (hl:ai l=n.toNat):(lV l 0/\lV l 1)/\Int.toNat 0<ai l/\Int.toNat 1<ai l:=by
 have e0:Int.toNat 0=0:=rfl;have e1:Int.toNat 1=1:=rfl;unfold lV;rw[hl,e0,e1];omega
def II (n:Int):Prop:=4<=n/\n<=64
def QY:Ct:=Rx (ba iA gJ) (fun x=>some (II x.1)) (fun _ nid=> .ag [.sa nid,.ci .i64 0]) (fun x _=> [.arr (some tO) 163 (.ob (dc x.1))])
def XF:Ct:=s7 (ba iA gJ) (fun _=>none) fun x=> .key (bL x.1)
def aax:Ct:=ctM (fun _=>none) (fun n _=> .it .i64 n) fun _=> []
def ZT:Ct:=ctM (fun L=>some (ai L<=1000/\bu L=false)) (fun _ nid=> .lp nid 0) fun L=> [.store tS eS L]
abbrev tG:Nat:=31
def aat (c:Nat) (U:St):Option (List Nat):=
 match az U.res c with
 | .blk _ v=>match asV v with
   |some p=>some [p.1]
   |none=>none
 |_=>none
def aaS (j4:List Nat) (i c k:Nat) (inv:Int×Int×List Obj->Prop) (μ:Int×Int×List Obj->Nat):dD:=
 {γ:=Int×Int×List Obj,head:=fun U g=> {U with slots:=I5 j4 [(i,.it .i64 g.1)] 0 U.slots,res:=IG [(0,.blk sR (om 1 g.2.1)),(1,.store tS eS g.2.2),(c,.blk tG (.ag [.sa k,.it .i64 g.2.1]))] U.res++ [.arr none 163 (.ob g.2.2)]},
  inv:=inv,μ:=μ,pre:= [.ab c],ext:=aat c}
def oF (m:Nat) (g:Int×Int×List Obj):Prop:=0<=g.1/\g.1<=(m:Int)/\gN g.2.1/\aq g.2.2
def oY (m:Nat) (g:Int×Int×List Obj):Nat:=m-g.1.toNat
def CG (x:List jb) (g:Int×Int×List Obj):List Obj:=dP g.snd.snd g.snd.fst (aj x g.fst.toNat jk)
def Kz (x:List jb) (g:Int×Int×List Obj):Int:=jn g.snd.fst (aj x g.fst.toNat jk)
def mpD (x:List jb) (g:Int×Int×List Obj):Dn:=aT g.snd.snd g.snd.fst (aj x g.fst.toNat jk)
def Vh (x:List jb) (g:Int×Int×List Obj):Int:=oJ g.snd.fst (aj x g.fst.toNat jk)
def Vg (x:List jb) (g:Int×Int×List Obj):Bool:=eu (aj x g.fst.toNat jk) g.snd.fst
def dnS (d:Dn):Bool:=(decide (d.out=d.out)&&(decide (d.proc=d.proc)&&(decide (d.err=d.err)&&(decide (d.ans.code=d.ans.code)&&(AD d.ans.data d.ans.data&&(Bw d.ans.k0 d.ans.k0&&(Bw d.ans.k1 d.ans.k1&&(Bw d.ans.k2 d.ans.k2&&true))&&true))&&(d.wants==d.wants&&true)))))
def dnZ (d:Dn):Bool:=(decide (d.out=0)&&(decide (d.proc=0)&&(decide (d.err=0)&&(decide (d.ans.code=0)&&(AD d.ans.data (ByteArray.mk (Array.mk []))&&(Bw d.ans.k0 void&&(Bw d.ans.k1 void&&(Bw d.ans.k2 void&&true))&&true))&&(d.wants==false&&true)))))
def Vd (x:List jb) (g:Int×Int×List Obj):Bool:=(!decide (Vh x g=0)|| !dnS (mpD x g)|| !decide (Kz x g=Kz x g))
theorem aau (d:Dn):dnS d=true:=by simp[dnS,kH,jy]
theorem aae:dnZ dn0=true:=by simp[dnZ,dn0,cY,kH,jy]
theorem rnX {x:List jb} {L:List Obj} {n:Int} (hq:Es (lX x) L n):wE x/\ai x<=40:=by
 obtain⟨_,_,x',hx',hxs,hxl⟩:=hq;have e1:ai x=ai x':=congrArg TL.len hx';refine⟨fun i hi=>?_,by omega⟩
 have e2:(lX x).get i=(lX x').get i:=by rw[hx']
 have e3:Ky (aj x i jk)=Ky (aj x' i jk):=e2
 have e4:(aj x i jk).data=(aj x' i jk).data:=by
  simp only[Ky,V.ag.injEq,List.cons.injEq,V.st.injEq]at e3;exact e3.2.2.2.2.2.1
 rw[e4];exact hxs i (by omega)
theorem Zq {x:List jb} {g:Int×Int×List Obj} (h:Vg x g=false):Kz x g=g.snd.fst/\CG x g=g.snd.snd/\mpD x g=dn0/\Vh x g=2:=by
 unfold Vg at h;refine⟨?_,?_,?_,?_⟩
 ·unfold Kz jn;rw[aa1 (by simp[h])]
 ·unfold CG dP;rw[aa1 (by simp[h])]
 ·unfold mpD aT;rw[aa1 (by simp[h])]
 ·unfold Vh oJ;rw[aa1 (by simp[h])]
theorem Yy {x:List jb} {g:Int×Int×List Obj} (h:Vg x g=true):Vh x g=0/\Vd x g=false:=by
 have e:Vh x g=0:=by unfold Vg at h;unfold Vh oJ;rw[aa2 h]
 refine⟨e,?_⟩;unfold Vd;rw[e,aau];simp
theorem QU {m:Nat} {g:Int×Int×List Obj} (hg:oF m g) (hlt:g.fst<(m:Int)) (n:Int) (M:List Obj) (hn:gN n) (hM:aq M):oF m (g.fst+1,n,M)/\oY m (g.fst+1,n,M)<oY m g:=by
 obtain⟨g0,g1,_,_⟩:=hg;exact⟨⟨by simp only;omega,by simp only;omega,hn,hM⟩,by unfold oY;simp only;omega⟩
theorem HT {L:List Obj} (hL:aq L):ai L<=1000/\bu L=false:=by
 have h:=gY hL;refine⟨by unfold ai;omega,?_⟩
 cases hc:bu L with
 |false=>rfl
 |true=>rw[wI]at hc;subst hc;simp at h
def kPl (v:V) (r:List aK):Prop:=
 match az r 1 with
 | .store t e L=>if t==tS&&e==eS then match az r 0 with
   | .blk t c=>match mcX c with
     |some n=>if t==sR then oW (.bo true) v r else False
     |none=>False
   |_=>False
   else False
 |_=>False
theorem TQ {v:V} {r:List aK} (h:kPl v r):∃n M,ya (.bo true) v r/\az r 0= .blk sR (om 1 n)/\az r 1= .store tS eS M:=by
 unfold kPl at h;split at h
 case h_2=>exact h.elim
 rename_i hr;split at h
 case isFalse=>exact h.elim
 rename_i hc;simp only[aaV,aaX]at hc;obtain⟨rfl,rfl⟩:=hc;split at h
 case h_2=>exact h.elim
 rename_i h0;split at h
 case h_2=>exact h.elim
 rename_i n hn;split at h
 case isFalse=>exact h.elim
 rename_i ht;have ht:=aaX.1 ht;subst ht;exact⟨n,_,dK h,by rw[h0,EO hn],hr⟩
def plX (y:V):Option (Nat×Int):=
 match y with
 | .ag m=>match m with
   | [x,z]=>match x with
     | .sa j=>match rI .i64 z with
       |some n=>some (j,n)
       |none=>none
     |_=>none
   |_=>none
 |_=>none
theorem Ns {y:V} {j:Nat} {n:Int} (h:plX y=some (j,n)):∃z,y= .ag [.sa j,z]/\rI .i64 z=some n:=by
 unfold plX at h;split at h
 case h_2=>simp at h
 split at h
 case h_2=>simp at h
 split at h
 case h_2=>simp at h
 split at h
 case h_2=>simp at h
 rename_i hn;simp only[aaT,aaU]at h;obtain⟨rfl,rfl⟩:=h;exact⟨_,rfl,hn⟩
def Cj:kq:=fun args res K=>
 match args with
 | [a,y,c]=>match a with
   | .lp b off=>if off==0 then match c with
     | .sa k=>match plX y with
       |some (j,m)=>match az res b with
        | .blk t y=>match M6 y with
          |some (s,n)=>match az res s with
           | .store ts e L=>match cP res k with
             | .arr _ esz l=>match cP res j with
               | .arr _ ez g=>match g with
                 | .ob M=>if t==sR&&ts==tS&&e==eS&&esz==11&&ez==163 then(Es l L n/\L=M/\n=m)/\
                   ∀n' M',K (.bo true) (bP (bP res b (.blk sR (om s n'))) s (.store tS eS M'))else False
                 |_=>False
               |_=>False
             |_=>False
           |_=>False
          |none=>False
        |_=>False
       |none=>False
     |_=>False
     else False
   |_=>False
 |_=>False
theorem an.Xn {P:Program} {f:Nat} {args:List V} {K KP:V->List aK->Prop} {own own':Option Nat} {e e':Nat} {l l':TL} {a b:aK} (h:an P f args [a,b,.ro (.arr none e l),.ro (.arr none e' l')] K KP):an P f args [a,b,.ro (.arr own e l),.ro (.arr own' e' l')] K KP:=by
 have hK:known [a,b,.ro (.arr own e l),.ro (.arr own' e' l')]=known [a,b,.ro (.arr none e l),.ro (.arr none e' l')]:=by
  funext i
  match i with
  |0=>rfl
  |1=>rfl
  |2=>simp[known,az]
  |3=>simp[known,az]
  |n+4=>rfl
 refine h.uU fun J fps w0 F0 w hH=>⟨J,fps,hH.weaken fun i hi=>⟨by rw[hK];exact hi,fun fp hh=>?_⟩,Env.bD.refl _ _,fun i hi=>by rw[<-hK];exact hi⟩
 rw[hK]at hh;match i with
 |0=>exact hh
 |1=>exact hh
 |2=>
  obtain⟨fp',g1,g2⟩:=hh;exact⟨fp',zs g1,g2⟩
 |3=>
  obtain⟨fp',g1,g2⟩:=hh;exact⟨fp',zs g1,g2⟩
 |n+4=>exact hh
theorem WE {P:Program} {f:Nat} (h:∀(x:List jb) (L:List Obj) (n:Int),Es (lX x) L n->an P f [.lp 0 0,.ag [.sa 2,.it .i64 n],.sa 3] [.blk sR (om 1 n),.store tS eS L,.ro (.arr none 163 (.ob L)),.ro (.arr none 11 (lX x))]
  kPl (fun _ _=>False)):lh P f Cj:=by
 intro args res K KP hh;unfold Cj at hh;split at hh
 case h_2=>exact hh.elim
 split at hh
 case h_2=>exact hh.elim
 rename_i b off;split at hh
 case isFalse=>exact hh.elim
 rename_i ho;have ho:=aaX.1 ho;subst ho;split at hh
 case h_2=>exact hh.elim
 rename_i k;split at hh
 case h_2=>exact hh.elim
 rename_i j m hy;split at hh
 case h_2=>exact hh.elim
 rename_i t c hb;split at hh
 case h_2=>exact hh.elim
 rename_i s n hc;split at hh
 case h_2=>exact hh.elim
 rename_i ts e L hs;split at hh
 case h_2=>exact hh.elim
 rename_i own esz l hk;split at hh
 case h_2=>exact hh.elim
 rename_i own' ez g hj;split at hh
 case h_2=>exact hh.elim
 rename_i M;split at hh
 case isFalse=>exact hh.elim
 rename_i ht;simp only[aaV,aaX]at ht;obtain⟨⟨⟨⟨rfl,rfl⟩,rfl⟩,rfl⟩,rfl⟩:=ht;obtain⟨⟨hq,rfl,rfl⟩,hK⟩:=hh;obtain⟨x,rfl,_⟩:=id hq.2.2;obtain⟨y,rfl,hy'⟩:=wo hc;obtain⟨z,rfl,hz⟩:=Ns hy;have hkb:known res b:=by unfold known;rw[hb];simp
 have hlb:=aO hkb;have hne:b≠s:=fun e=>by rw[e,hs]at hb;simp at hb
 have hnk:b≠k:=fun e=>by unfold cP at hk;rw[<-e,hb]at hk;simp at hk
 have hsk:s≠k:=fun e=>by unfold cP at hk;rw[<-e,hs]at hk;simp at hk
 have hnj:b≠j:=fun e=>by unfold cP at hj;rw[<-e,hb]at hj;simp at hj
 have hsj:s≠j:=fun e=>by unfold cP at hj;rw[<-e,hs]at hj;simp at hj
 have hjk:j≠k:=fun e=>by rw[e,hk]at hj;simp at hj
 refine an.mcN hb hy' ?_;refine an.args (args':= [.lp b 0,.ag [.sa j,.it .i64 n],.sa k]) (ff.j4 fun J K hk=>?_) ?_
 ·obtain⟨r1,r2⟩:=gq .i64 z n hz;obtain⟨⟨⟨k1,k2,_⟩,_⟩,k3⟩:=hk;refine⟨?_,⟨⟨⟨k1,fT (r2 K k2),trivial⟩,trivial,trivial,trivial⟩,k3⟩⟩;have e1:=r1 J;simp only[bz,den,bn]at e1⊢;rw[e1]
 have hl1:(bP res b (.blk sR (om s n))).length=res.length:=cG _ _ _;have hb1:az (bP res b (.blk sR (om s n))) b= .blk sR (om s n):=by rw[bI _ _ _ _ hlb,aa2 rfl]
 have hs1:az (bP res b (.blk sR (om s n))) s= .store tS eS L:=by rw[bI _ _ _ _ hlb,aa1 (Ne.symm hne)];exact hs
 have hk1:cP (bP res b (.blk sR (om s n))) k= .arr own 11 (lX x):=by unfold cP at hk⊢;rw[bI _ _ _ _ hlb,aa1 (Ne.symm hnk)];exact hk
 have hj1:cP (bP res b (.blk sR (om s n))) j= .arr own' 163 (.ob L):=by unfold cP at hj⊢;rw[bI _ _ _ _ hlb,aa1 (Ne.symm hnj)];exact hj
 have hrr:∀n',bP res b (.blk sR (om s n'))=bP (bP res b (.blk sR (om s n))) b (.blk sR (om s n')):=fun n'=>by rw[kP,kP,kP,List.set_set]
 have hK:∀n' M',K (.bo true) (bP (bP (bP res b (.blk sR (om s n))) b (.blk sR (om s n'))) s (.store tS eS M')):=fun n' M'=>by rw[<-hrr];exact hK n' M'
 generalize bP res b (.blk sR (om s n))=res at *
 have kb:known res b:=by unfold known;rw[hb1];simp
 have ks:known res s:=by unfold known;rw[hs1];simp
 have kk':=eU hk1 (by simp)
 have kj':=eU hj1 (by simp)
 have lb:=aO kb;have ls:=aO ks;have lk:=aO kk';have lj:=aO kj'
 have hres:fD (lS 0 (dV [(b,true),(s,true),(j,false),(k,false)])) res [(b,true),(s,true),(j,false),(k,false)]= [.blk sR (om 1 n),.store tS eS L,.ro (.arr own' 163 (.ob L)),.ro (.arr own 11 (lX x))]:=by
  simp[fD,hb1,hs1,hk1,hj1,gL,om,ga,eX,lS,idxOf,dV,hne,Ne.symm hne,hnk,Ne.symm hnk,hsk,Ne.symm hsk,hnj,Ne.symm hnj,hsj,Ne.symm hsj,hjk,Ne.symm hjk]
 refine an.frame (pl:= [(b,true),(s,true),(j,false),(k,false)]) (args0:= [.lp 0 0,.ag [.sa 2,.it .i64 n],.sa 3]) (K0:=kPl) (KP0:=fun _ _=>False)
  (by simp[fm,cQ.2 kb,cQ.2 ks,cQ.2 kk',cQ.2 kj']) (by simp[ju,dV,pF,lb,ls,lk,lj,hne,Ne.symm hne,hnk,Ne.symm hnk,hsk,Ne.symm hsk,hnj,Ne.symm hnj,hsj,Ne.symm hsj,hjk,Ne.symm hjk]) ?_ ?_ (fun v r hv=>?_) (fun _ _ h=>h.elim)
 ·simp[eX,ga,lS,idxOf,dV,hnk,Ne.symm hnk,hsk,Ne.symm hsk,hnj,Ne.symm hnj,hsj,Ne.symm hsj,hjk,Ne.symm hjk]
 ·rw[hres];exact an.Xn (h x L n hq)
 ·obtain⟨n',M',h1,h2,h3⟩:=TQ hv
  have hm:merge [(b,true),(s,true),(j,false),(k,false)] [] r res=bP (bP res b (.blk sR (om s n'))) s (.store tS eS M'):=by
   simp[merge,fC,h2,h3,gL,gG,om,ga,eX,back,v7]
  exact⟨[],.bo true,rfl,by simp[kV,h2,h3,jT],rfl,lu.kE h1 rfl,by rw[hm];exact hK n' M'⟩
end Go.Sx
namespace Go.Proofs.YtlblcfaclmpekaaGreat
open Go.Sx
theorem Jv (p:jb) (n:Int) (hs:aw p.data) (hn:gN n):
 aba (decide (p.kind=2)) (((decide (0<=p.val)&&decide (p.val<=1099511627776))=true->abd (n+p.val))/\(decide (0<=p.val)&&decide (p.val<=1099511627776)&&decide (n+p.val<=4611686018427387904))=eu p n) (((decide (p.kind=1)&&decide (1<=p.mode)&&decide (p.mode<=3))=true->abd (bO p.data))/\(decide (p.kind=1)&&decide (1<=p.mode)&&decide (p.mode<=3)&&decide (bO p.data<=32)&&decide (0<=p.reg)&&decide (p.reg<=11)&&decide (-1<=p.s0)&&decide (p.s0<=11)&&decide (-1<=p.s1)&&decide (p.s1<=11)&&decide (-1<=p.s2)&&decide (p.s2<=11))=eu p n):=by
 delta aba abd
 unfold eu;refine⟨fun hk=>⟨fun hv=>?_,?_⟩,fun hk=>⟨fun _=>?_,?_⟩⟩
 ·simp only[aaV,aaW]at hv;unfold gN at hn;simp only[aF,cc];omega
 ·rw[aa2 (aaZ hk)];congr 1;exact decide_eq_decide.2 (by omega)
 ·unfold aw at hs;simp only[aF,cc,bO];omega
 ·rw[aa1 (aaY hk)];unfold gU tL;rw[Bool.eq_iff_iff];simp only[aaV,Bool.or_eq_true,aaW];omega
theorem JI:cz Tryz.prog 34 Fj:=
 eQ (aA Ga (aA dE bV)) (fun _=>rfl) fun a hq hok=>by
  obtain⟨x,n,_⟩:=a;exact bc (inl:=bx) (ann:=(iJ [(34,5,Ml 4)])) ar (Jv (wy x) n hq.1 hq.2) (by kernel_rfl)
theorem Lq (L:List Sx.Obj) (n:Int) (p:jb) (hq:Xy L n p) (hr:eu p n=true):
 aba (decide (p.kind=2)) (abd (n+p.val)/\QP L n p (n+p.val) (5) (0) (0) cY (false)/\dP L n p=L) (abb (iu L/\(true=false->False)/\(true=true->aba (decide (bQ (ai (b7 L))=0)) (QP L n p (n) (1) (0) (0) cY (false)/\dP L n p=L) ((nX (bQ (ai (b7 L)))/\abd (p.proc.tmod (bQ (ai (b7 L)))))/\(aba (decide (p.proc.tmod (bQ (ai (b7 L)))<0)) (abd (p.proc.tmod (bQ (ai (b7 L)))+bQ (ai (b7 L)))/\∃g,qj L p g/\p.proc.tmod (bQ (ai (b7 L)))+bQ (ai (b7 L))=g/\Ie L n p) (∃g,qj L p g/\p.proc.tmod (bQ (ai (b7 L)))=g/\Ie L n p))/\∀(g:Int),qj L p g->((0<=g/\g< ↑(ai (b7 L)))/\g.toNat<ai (b7 L)/\∃g_1:Unit,gr p/\aj (b7 L) g.toNat 0=aX L p/\Ie L n p)/\∀(g:Unit),gr p->(aba (decide (0<=p.s0)) (Ve L p p.s0 ((decide (0<=p.s1)=true->Ve L p p.s1 ((decide (0<=p.s2)=true->Ve L p p.s2 (∃g:Unit,gr p/\aX L p=aX L p/\xJ L n p (p.code=(mz L p).code/\p.data=(mz L p).data/\JD L p p.s0=(mz L p).k0/\JD L p p.s1=(mz L p).k1/\JD L p p.s2=(mz L p).k2)))/\(decide (0<=p.s2)=false->∃g:Unit,gr p/\aX L p=aX L p/\xJ L n p (p.code=(mz L p).code/\p.data=(mz L p).data/\JD L p p.s0=(mz L p).k0/\JD L p p.s1=(mz L p).k1/\void=(mz L p).k2))))/\(decide (0<=p.s1)=false->(decide (0<=p.s2)=true->Ve L p p.s2 (∃g:Unit,gr p/\aX L p=aX L p/\xJ L n p (p.code=(mz L p).code/\p.data=(mz L p).data/\JD L p p.s0=(mz L p).k0/\void=(mz L p).k1/\JD L p p.s2=(mz L p).k2)))/\(decide (0<=p.s2)=false->∃g:Unit,gr p/\aX L p=aX L p/\xJ L n p (p.code=(mz L p).code/\p.data=(mz L p).data/\JD L p p.s0=(mz L p).k0/\void=(mz L p).k1/\void=(mz L p).k2))))) (aba (decide (0<=p.s1)) (Ve L p p.s1 ((decide (0<=p.s2)=true->Ve L p p.s2 (∃g:Unit,gr p/\aX L p=aX L p/\xJ L n p (p.code=(mz L p).code/\p.data=(mz L p).data/\void=(mz L p).k0/\JD L p p.s1=(mz L p).k1/\JD L p p.s2=(mz L p).k2)))/\(decide (0<=p.s2)=false->∃g:Unit,gr p/\aX L p=aX L p/\xJ L n p (p.code=(mz L p).code/\p.data=(mz L p).data/\void=(mz L p).k0/\JD L p p.s1=(mz L p).k1/\void=(mz L p).k2)))) (aba (decide (0<=p.s2)) (Ve L p p.s2 (∃g:Unit,gr p/\aX L p=aX L p/\xJ L n p (p.code=(mz L p).code/\p.data=(mz L p).data/\void=(mz L p).k0/\void=(mz L p).k1/\JD L p p.s2=(mz L p).k2))) (∃g:Unit,gr p/\aX L p=aX L p/\xJ L n p (p.code=(mz L p).code/\p.data=(mz L p).data/\void=(mz L p).k0/\void=(mz L p).k1/\void=(mz L p).k2)))))/\∀(g:Unit),gr p->(aba p.num (abb (∃g:Unit,gr p/\aX L p=aX L p/\xJ L n p ((mz L p).code=(bK L p).code/\(mz L p).data=(bK L p).data/\(mz L p).k0=(bK L p).k0/\(mz L p).k1=(bK L p).k1/\abg p.val=(bK L p).k2))) (∃g:Unit,gr p/\aX L p=aX L p/\xJ L n p ((mz L p).code=(bK L p).code/\(mz L p).data=(bK L p).data/\(mz L p).k0=(bK L p).k0/\(mz L p).k1=(bK L p).k1/\(mz L p).k2=(bK L p).k2)))/\∀(g:Unit),gr p->abd (4+p.reg)/\(0<=aX L p/\aX L p< ↑(ai L))/\(0<=4+p.reg/\4+p.reg< ↑16)/\(aX L p).toNat<ai L/\aba (decide ((ye L p).kind=6)||decide ((ye L p).kind=7)) (abb ((aq L/\aw (bK L p).data)/\(lR L (aX L p) (ye L p) p.mode (bK L p)=false->aba (!decide (b9 L (aX L p) (ye L p) p.mode (bK L p)=0)) (QP L n p (n) (3) (aX L p) (b9 L (aX L p) (ye L p) p.mode (bK L p)) cY (false)/\dP L n p=L) (QP L n p (n) (2) (aX L p) (0) cY (false)/\dP L n p=L))/\(lR L (aX L p) (ye L p) p.mode (bK L p)=true->aba (!decide (b9 L (aX L p) (ye L p) p.mode (bK L p)=0)) (QP L n p (n) (3) (aX L p) (b9 L (aX L p) (ye L p) p.mode (bK L p)) cY (false)/\fe L (aX L p) (ye L p) p.mode (bK L p)=dP L n p) (QP L n p (n) (2) (aX L p) (0) cY (false)/\fe L (aX L p) (ye L p) p.mode (bK L p)=dP L n p)))) (abb ((aq L/\aw (bK L p).data)/\(fz L n (ye L p) (bK L p)=false->Hj L n p L (dP L n p=L) (QP L n p (n) (4) (aX L p) (0) (stM L n p) (cW L n (ye L p) (bK L p))))/\(fz L n (ye L p) (bK L p)=true->Hj L n p (Yh L n p) (Yh L n p=dP L n p) (QP L n p (n) (4) (aX L p) (0) (stM L n p) (cW L n (ye L p) (bK L p)))))))))):=by
 delta aba abg abd abb
 obtain⟨hL,hs,hn⟩:=hq;have hnn:bQ (ai (b7 L))=(ai (b7 L):Int):=rfl;refine⟨fun h2=>?_,fun h2=>⟨rfl,Bc hL,fun h=>by simp at h,fun _=>⟨fun h0=>?_,fun h0=>?_⟩⟩⟩
 ·have h2:=aaZ h2
  have ht:aF IntKind.i64 (n+p.val):=by
   unfold eu at hr;rw[aa2 h2]at hr;simp only[aaV,aaW]at hr;unfold gN at hn;simp only[aF,cc];omega
  exact⟨ht,w7 (by unfold jn;rw[aa2 ⟨hr,h2⟩]) (by unfold aT;rw[aa2 hr,aa2 h2]),by unfold dP;rw[aa1 (fun h=>h.2.1 h2)]⟩
 all_goals
  have h2:=aaY h2
  have hk:p.kind=1:=by
   unfold eu at hr;rw[aa1 h2]at hr;simp only[aaV,aaW]at hr;omega
  have eN:jn n p=n:=by unfold jn;rw[aa1 (fun h=>h2 h.2)]
 ·have h0:ai (b7 L)=0:=by have:=aaZ h0;rw[hnn]at this;omega
  exact⟨w7 eN (by unfold aT;rw[aa2 hr,aa1 h2,aa2 h0]),by unfold dP;rw[aa1 (fun h=>h.2.2 h0)]⟩
 have h0:¬ai (b7 L)=0:=by have:=aaY h0;rw[hnn]at this;omega
 obtain⟨hm,⟨r0,r1⟩,s0,s1,s2⟩:=Bd hr hk;obtain⟨f1,f2,f3,_⟩:=we (p:=p) hL h0;obtain⟨i0,i1⟩:=WY (p:=p) hL h0;obtain⟨a0,a1⟩:=XN (p:=p) hL h0;have eK:cR L p=ye L p:=by unfold cR ye;rw[fG i0 i1]
 have eM:aG L n (cR L p) (bK L p)=stM L n p:=by rw[eK];rfl
 have eA:iH L n p=Yh L n p:=by unfold iH;rw[eK];rfl
 have eC:rr L p=(decide ((ye L p).kind=6)||decide ((ye L p).kind=7)):=by unfold rr;rw[eK]
 have eL:dP L n p=if rr L p=true then fe L (aX L p) (cR L p) p.mode (bK L p)else w8 L n p:=by unfold dP;rw[aa2 ⟨hr,h2,h0⟩]
 have eD:aT L n p=if rr L p=true then(if b9 L (aX L p) (cR L p) p.mode (bK L p)=0 then⟨2,aX L p,0,cY,false⟩else⟨3,aX L p,b9 L (aX L p) (cR L p) p.mode (bK L p),cY,false⟩)
   else⟨4,aX L p,0,aG L n (cR L p) (bK L p),cW L n (cR L p) (bK L p)⟩:=by unfold aT;rw[aa2 hr,aa1 h2,aa1 h0]
 rw[eC]at eL eD;rw[eM]at eD;rw[eK]at eD eL;rw[hnn];obtain⟨u0,v0⟩:=Ch i0 i1 s0;obtain⟨u1,v1⟩:=Ch i0 i1 s1;obtain⟨u2,v2⟩:=Ch i0 i1 s2
 have leaf:∀k0 k1 k2,k0=oD (aL L (aX L p)) p.s0->k1=oD (aL L (aX L p)) p.s1->k2=oD (aL L (aX L p)) p.s2->∃g:Unit,gr p/\aX L p=aX L p/\xJ L n p (p.code=(mz L p).code/\p.data=(mz L p).data/\k0=(mz L p).k0/\k1=(mz L p).k1/\k2=(mz L p).k2):=
  fun _ _ _ e0 e1 e2=>⟨(),trivial,rfl,FQ ⟨rfl,rfl,e0,e1,e2⟩⟩
 have hw:∀e,aF IntKind.i64 e↔(-9223372036854775808<=e/\e<=9223372036854775807):=fun e=>Iff.rfl
 refine⟨⟨f2,by rw[hw];omega⟩,⟨fun h=>⟨by rw[hw];omega,_,a0 (aaZ h),rfl,CM⟩,fun h=>⟨_,a1 (aaY h),rfl,CM⟩⟩,fun g hg=>⟨⟨⟨hg.1,hg.2.1⟩,by have:=hg.2.1;have:=hg.1;omega,(),trivial,hg.2.2,CM⟩,fun _ _=>⟨?_,fun _ _=>⟨⟨fun hN=>⟨rfl,(),trivial,rfl,FQ ⟨rfl,rfl,rfl,rfl,?_⟩⟩,fun hN=>⟨(),trivial,rfl,FQ ⟨rfl,rfl,rfl,rfl,?_⟩⟩⟩,fun _ _=>⟨by rw[hw];omega,⟨i0,i1⟩,by omega,by omega,fun hC=>⟨rfl,⟨hL,hs⟩,?_,?_⟩,fun hC=>⟨rfl,⟨hL,hs⟩,?_,?_⟩⟩⟩⟩⟩⟩
 ·exact⟨fun h0=>(u0 h0).1 _ ⟨fun h1=>(u1 h1).1 _ ⟨fun h2=>(u2 h2).1 _ (leaf _ _ _ (u0 h0).2 (u1 h1).2 (u2 h2).2),fun h2=>leaf _ _ _ (u0 h0).2 (u1 h1).2 (v2 h2)⟩,fun h1=>⟨fun h2=>(u2 h2).1 _ (leaf _ _ _ (u0 h0).2 (v1 h1) (u2 h2).2),fun h2=>leaf _ _ _ (u0 h0).2 (v1 h1) (v2 h2)⟩⟩,
   fun h0=>⟨fun h1=>(u1 h1).1 _ ⟨fun h2=>(u2 h2).1 _ (leaf _ _ _ (v0 h0) (u1 h1).2 (u2 h2).2),fun h2=>leaf _ _ _ (v0 h0) (u1 h1).2 (v2 h2)⟩,fun h1=>⟨fun h2=>(u2 h2).1 _ (leaf _ _ _ (v0 h0) (v1 h1) (u2 h2).2),fun h2=>leaf _ _ _ (v0 h0) (v1 h1) (v2 h2)⟩⟩⟩
 ·show _=if p.num=true then bL p.val else _
  rw[aa2 hN];rfl
 ·show _=if p.num=true then bL p.val else _
  rw[aa1 (by simp[hN])];rfl
 ·rw[aa2 hC]at eL eD;refine fun hc=>⟨fun he=>⟨w7 eN ?_,eL.trans (MY hc)⟩,fun he=>⟨w7 eN ?_,eL.trans (MY hc)⟩⟩
  ·rw[eD,aa1 (by simpa using he)]
  ·rw[eD,aa2 (by simpa using he)]
 ·rw[aa2 hC]at eL eD;refine fun hc=>⟨fun he=>⟨w7 eN ?_,eL.symm⟩,fun he=>⟨w7 eN ?_,eL.symm⟩⟩
  ·rw[eD,aa1 (by simpa using he)]
  ·rw[eD,aa2 (by simpa using he)]
 ·rw[aa1 (by rw[hC];simp)]at eL eD
  exact fun hc=>IB (eA.trans (WN hc)) id eL eM hL (w7 eN eD)
 ·rw[aa1 (by rw[hC];simp)]at eL eD
  exact fun hc=>IB eA Eq.symm eL eM (Gu hL) (w7 eN eD)
theorem Qc:lh Tryz.prog 35 Cu:=W9 fun L n p hq hr=>bm (inl:=(fun f=>f==31)) (ann:=(iJ [(35,13,Ml 4),(35,2000010,En [2,3,4,5,6] (fun(g:Int)=> [(7,.it .i64 g)]) (fun _=> []) (fun _=> []) (qj L p)),(35,2000011,En [2,3,4,5] (fun(_:Unit)=> [(8,.it .i64 (aX L p))]) (fun _=> []) (fun _=> []) (fun _=>gr p)),(35,2000017,En [2,3,4,5,8,9] (fun(_:Unit)=> []) (fun _=> [(9,.blk 47 (jJ (Vj (aL L (aX L p)) p)))]) (fun _=> []) (fun _=>gr p)),(35,2000019,En [2,3,4,5,8,9] (fun(_:Unit)=> []) (fun _=> [(9,.blk 47 (jJ (bK L p)))]) (fun _=> []) (fun _=>gr p))])) (ae vM (ae pL ar)) (aC Te (aC Ts (aC Yx (aC T5 (aC Io aE))))) (Lq L n p hq hr) (by kernel_rfl)
theorem QO (M:List Sx.Obj):
 abb (abb (abb (∀(r0:Loop),(∃g,p6 [] M g/\ak []=ak []/\0=g/\M=M/\false=false/\0=g/\Value.pointer none=Value.pointer none/\Value.pointer none=Value.pointer none/\r0=r0)/\∀(g:Int),p6 [] M g->aba (decide (g<ak [])) False (decide (g=bQ (ai M))=jZ [] M)))):=by
 delta aba abb
 refine⟨rfl,rfl,rfl,fun r0=>⟨⟨0,⟨by omega,by unfold ai;omega,by omega,fun j hj=>by omega⟩,by(repeat' apply And.intro)<;>rfl⟩,fun g hg=>⟨fun hlt=>?_,fun _=>BV hg (by simp only[ai,List.length_nil];exact hg.1)⟩⟩⟩
 have h0:g<0:=aaZ hlt;exact absurd hg.1 (by omega)
theorem Li (M:List Sx.Obj):an Tryz.prog 15 [ke,.sa 0] [.ro (.arr none 163 (.ob M))] (oW (.bo (jZ [] M))) (fun _ _=>False):=bc (inl:=(fun f=>f==24)) (ann:=(iJ [(6000+44,1,lpR [0,1,5] (fun g=> [(6,.it .i64 g)]) 3 (fun g=> .blk 3 (.it .i64 g)) (p6 [] M) 0)])) (ae bC ar) (QO M) (by kernel_rfl)
theorem Ps (L M:List Sx.Obj) (hL:L.length<=9223372036854775807):
 abb (abb (abb (∀(r0:Loop),(∃g,p6 L M g/\ak L=ak L/\0=g/\M=M/\L=L/\false=false/\0=g/\r0=r0)/\∀(g:Int),p6 L M g->aba (decide (g<ak L)) ((0<=g/\g< ↑(ai L))/\g.toNat<ai L/\g.toNat<ai L/\r0=r0/\r0=r0/\((!(!decide (g=g)||decide (bQ (ai M)<=g)))=true->0<=g/\g< ↑(ai M))/\((!(!decide (g=g)||decide (bQ (ai M)<=g)))=true->g.toNat<ai M)/\aba (!decide (g=g)||decide (bQ (ai M)<=g)|| !CW (aj L g.toNat free) (aj M g.toNat free)) (r0=r0/\false=jZ L M) (abd (g+1)/\r0=r0/\abd (g+1)/\∃g',p6 L M g'/\(bQ (ai L)-g').toNat<(bQ (ai L)-g).toNat/\ak L=ak L/\g+1=g'/\M=M/\L=L/\false=false/\g+1=g'/\r0=r0)) (decide (g=bQ (ai M))=jZ L M)))):=by
 delta aba abd abb
 refine⟨rfl,rfl,rfl,fun r0=>⟨⟨0,⟨by omega,by unfold ai;omega,by omega,fun j hj=>by omega⟩,by(repeat' apply And.intro)<;>rfl⟩,fun g hg=>⟨fun hlt=>?_,fun hge=>?_⟩⟩⟩
 ·have hg':=hg;obtain⟨g0,g1,g2,g3⟩:=hg;have hlt:g<ak L:=aaZ hlt;have hle:=rj L;have hlm:=rj M;have hq:ak L=(L.length:Int):=rfl;rw[hq]at hlt;have hz:∀b:Bool,(!decide (g=g)||b)=b:=by simp
  rw[hz];refine⟨⟨g0,by omega⟩,by omega,by omega,rfl,rfl,fun h=>?_,fun h=>?_,fun h=>⟨rfl,?_⟩,fun h=>?_⟩
  ·have h:¬(bQ (ai M)<=g):=by simpa using h
   rw[kD]at h;exact⟨g0,by omega⟩
  ·have h:¬(bQ (ai M)<=g):=by simpa using h
   rw[kD]at h;omega
  ·unfold jZ;symm
   rw[decide_eq_false_iff_not];rintro rfl
   rw[Bool.or_eq_true,aaW,kD]at h;rcases h with h|h
   ·omega
   ·simp[CW]at h
  ·rw[Bool.or_eq_false_iff,decide_eq_false_iff_not,kD]at h;obtain⟨h1,h2⟩:=h;have h2:aj L g.toNat free=aj M g.toNat free:=by simpa[CW]using h2
   have hr:aF IntKind.i64 (g+1):=by simp only[aF,cc];omega
   refine⟨hr,rfl,hr,g+1,⟨by omega,by omega,by omega,fun j hj=>?_⟩,by rw[kD];omega,by(repeat' apply And.intro)<;>rfl⟩
   by_cases e:(j:Int)<g
   ·exact g3 j e
   ·rw[show j=g.toNat by omega];exact h2
 ·have hge:¬g<ak L:=aaY hge;exact BV hg (by unfold ak at hge;omega)
theorem Ik:cz Tryz.prog 15 Xs:=
 RD (fun _ _=>rfl) (fun M _ _=>Li M) (fun L M _ hL _ _=>bc (inl:=(fun f=>f==24)) (ann:=(iJ [(6000+44,1,lpR [0,1,5] (fun g=> [(6,.it .i64 g)]) 6 (fun g=> .blk 3 (.it .i64 g)) (p6 L M) (bQ (ai L)))])) (ae bC ar) (Ps L M hL) (by kernel_rfl))
end Go.Proofs.YtlblcfaclmpekaaGreat
