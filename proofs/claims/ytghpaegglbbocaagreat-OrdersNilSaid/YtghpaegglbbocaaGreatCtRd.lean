import Derived.Test.YtghpaegglbbocaaGreatCtRa
import Derived.Test.YtghpaegglbbocaaGreatSpRd
set_option linter.unusedSimpArgs false
set_option linter.unusedVariables false
namespace Go.Proofs.YtghpaegglbbocaaGreat
open Go.Sx
set_option maxRecDepth 100000
theorem M8 (L:List Sx.Obj) (k:Key) (i:Int):
 ((decide (ay L k 2 false=0)&&(decide (i<0)||decide (15<i)))=true->void=aF L k i/\4=bJ L k i)/\((decide (ay L k 2 false=0)&&(decide (i<0)||decide (15<i)))
   =false->((!decide (ay L k 2 false=0))=true->void=aF L k i/\ay L k 2 false=bJ L k i)/\((!decide (ay L k 2 false=0))=false->na L k i/\cN L k i=aF
   L k i/\0=bJ L k i)):=by
 refine⟨fun h=>?_,fun h=>⟨fun h'=>?_,fun h'=>?_⟩⟩
 ·simp only[Yj,Bool.or_eq_true,Yk]at h;obtain⟨e1,e2⟩:=LD h.1 h.2;rw[e1,e2];exact⟨rfl,rfl⟩
 ·have h':ay L k 2 false≠0:=by simpa using h'
  obtain⟨e1,e2⟩:=KY (i:=i) h';rw[e1,e2];exact⟨rfl,rfl⟩
 ·have h':ay L k 2 false=0:=by simpa using h'
  have hr:¬(i<0\/15<i):=by rw[h']at h;simpa using h
  obtain⟨_,b2,b3,_⟩:=dz (fG h').1;obtain⟨e1,e2⟩:=Rn h' hr;rw[e1,e2];exact⟨⟨by omega,by omega,b2,b3⟩,rfl,rfl⟩
theorem Dy:ck Tryz.prog 111 Oo:=
 eP (aJ js (aJ gQ (aJ ft cF))) (fun _=>rfl) fun a hq hok=>by
  obtain⟨L,k,i,_⟩:=a;exact aV (inl:=bp) (ann:=aP) (ab oi (ab wS ak)) (M8 L k i) (by kernel_rfl)
theorem Jm (L:List Sx.Obj) (k:Key) (i:Int) (v:Key) (hL:aq L):
 ((decide (ay L k 2 true=0)&&(decide (i<0)||decide (15<i)))=true->gA L k i v=false/\void=cz L k i v/\4=ba L k i v)/\((decide (ay L k 2 true=0)&&(decide
   (i<0)||decide (15<i)))=false->((decide (ay L k 2 true=0)&& !cZ L v)=true->gA L k i v=false/\void=cz L k i v/\2=ba L k i v)/\((decide (ay L k 2 true=
   0)&& !cZ L v)=false->((!decide (ay L k 2 true=0))=true->gA L k i v=false/\void=cz L k i v/\ay L k 2 true=ba L k i v)/\((!decide (ay L k 2 true=0))=
   false->na L k i/\(0<=k.oid/\k.oid< ↑(aj L))/\k.oid.toNat<aj L/\(0<=i/\i< ↑16)/\dL L k.oid/\gA L k i v=true/\(cN L k i=cz L k i v/\0=ba L k i v)/\
   cC L k.oid.toNat (Obj.mk (ah L k.oid.toNat free).kind (ah L k.oid.toNat free).count (ah L k.oid.toNat free).calls ((ah L k.oid.toNat free).slots.put i.toNat (ae L v)) (ah L k.oid.toNat
   free).bytes)=b6 L k i v))):=by
 unfold gA;refine⟨fun h=>?_,fun h=>⟨fun h'=>?_,fun h'=>⟨fun h''=>?_,fun h''=>?_⟩⟩⟩
 ·simp only[Yj,Bool.or_eq_true,Yk]at h;obtain⟨e1,e2,e3⟩:=Jg (v:=v) h.1 h.2;rw[e1,e2];exact⟨rfl,rfl,rfl⟩
 ·simp only[Yj,Bool.not_eq_true',Yk]at h';have hr:¬(i<0\/15<i):=by rw[h'.1]at h;simpa using h
  obtain⟨e1,e2,e3⟩:=IL h'.1 hr h'.2;rw[e1,e2];exact⟨rfl,rfl,rfl⟩
 ·have h'':ay L k 2 true≠0:=by simpa using h''
  obtain⟨e1,e2,e3⟩:=Jh (i:=i) (v:=v) h'';rw[e1,e2];exact⟨by simpa using h'',rfl,rfl⟩
 ·have h'':ay L k 2 true=0:=by simpa using h''
  have hr:¬(i<0\/15<i):=by rw[h'']at h;simpa using h
  have hm:cZ L v=true:=by rw[h'']at h';simpa using h'
  obtain⟨e1,e2,e3⟩:=NZ h'' hr hm;obtain⟨r1,r2,r3,r4⟩:=tJ hL (fG h'').1;rw[e1,e2,e3];exact⟨⟨by omega,by omega,r2,r3⟩,⟨r2,r3⟩,r4,⟨by omega,by omega⟩,r1,rfl,⟨rfl,rfl⟩,rfl⟩
theorem Kp (L:List Sx.Obj) (k:Key) (i:Int) (v:Key) (hL:aq L):ai Tryz.prog 113 [.sa 0,.key k,.it .i64 i,.key v] [.ro (.arr none 163 (.ob L))] (yT (gA L k i v) (b6 L k i v) [.key (cz L k i v),.it .i64 (ba L k i v)]) (fun _ _=>False):=
 bn (inl:=bp) (ann:=aP) (ab oi (ab wS (ab Br (ab qk (ab kb ak))))) aC (Jm L k i v hL) (by kernel_rfl)
theorem De:lF Tryz.prog 113 Qf:=
 iC (m:=fun x=>Sq.cn x 0) (gg On (fun _=>rfl)) (fun _=>rfl) (fun _ _=>rfl) fun L x hq=>Kp L x.1 x.2.1 x.2.2.1 hq
theorem LU (L:List Sx.Obj) (k:Key) (hL:aq L):
 ((!decide (ay L k 2 true=0))=true->lb L k=false/\ay L k 2 true=ay L k 2 true)/\((!decide (ay L k 2 true=0))=false->(0<=k.oid/\k.oid< ↑(aj L))/\k.oid.toNat
   <aj L/\dL L k.oid/\lb L k=true/\0=ay L k 2 true/\cC L k.oid.toNat (Obj.mk (ah L k.oid.toNat free).kind (ah L k.oid.toNat free).count (ah L k.oid.toNat free).calls
   fY (ah L k.oid.toNat free).bytes)=eQ L k):=by
 unfold lb;refine⟨fun h=>?_,fun h=>?_⟩
 ·have h:ay L k 2 true≠0:=by simpa using h
  exact⟨by simpa using h,rfl⟩
 ·have h:ay L k 2 true=0:=by simpa using h
  obtain⟨r1,r2,r3,r4⟩:=tJ hL (fG h).1;exact⟨⟨r2,r3⟩,r4,r1,by simpa using h,h.symm,by unfold eQ;rw[Yq h];rfl⟩
theorem KM (L:List Sx.Obj) (k:Key) (hL:aq L):ai Tryz.prog 114 [.sa 0,.key k] [.ro (.arr none 163 (.ob L))] (yT (lb L k) (eQ L k) [.it .i64 (ay L k 2 true)]) (fun _ _=>False):=
 bn (inl:=bp) (ann:=aP) (ab oi (ab kb ak)) aC (LU L k hL) (by kernel_rfl)
theorem Kx:lF Tryz.prog 114 OS:=
 iC (m:=fun x=>kB.cn x 0) (gg C4 (fun _=>rfl)) (fun _=>rfl) (fun _ _=>rfl) fun L x hq=>KM L x.1 hq
theorem Ko (L:List Sx.Obj) (t f:Key) (hL:aq L):
 (decide (ay L t 2 true=0)=true->((!decide (ay L f 2 false=0))=true->jM L t f=false/\ay L f 2 false=bG L t f)/\((!decide (ay L f 2 false=0))=false->(0
  <=t.oid/\t.oid< ↑(aj L))/\t.oid.toNat<aj L/\(∃g,kf g/\t=t/\f=f/\Value.slice none 0 0=Value.slice none 0 0/\ay L f 2 false=ay L f 2 false/\0=g/\L=L/\t=t/\
  f=f/\ah L t.oid.toNat free=eo (ah L t.oid.toNat free) (cX L t f g))/\∀(g:Int),kf g->(decide (g<16)=true->na L f g/\(0<=g/\g< ↑16)/\aG IntKind.i64 (g+1)/\∃
  g',kf g'/\nn g'<nn g/\t=t/\f=f/\Value.slice none 0 0=Value.slice none 0 0/\ay L f 2 false=ay L f 2 false/\g+1=g'/\L=L/\t=t/\f=f/\Obj.mk (eo
  (ah L t.oid.toNat free) (cX L t f g)).kind (eo (ah L t.oid.toNat free) (cX L t f g)).count (eo (ah L t.oid.toNat free) (cX L t f g)).calls ((eo (ah L t.oid.toNat free)
  (cX L t f g)).slots.put g.toNat (cN L f g)) (eo (ah L t.oid.toNat free) (cX L t f g)).bytes=eo (ah L t.oid.toNat free) (cX L t f g'))/\(decide (g<16)=false->dL L
  t.oid/\jM L t f=true/\0=bG L t f/\cC L t.oid.toNat (eo (ah L t.oid.toNat free) (cX L t f g))=dV L t f)))/\(decide (ay L t 2 true=0)=false->((!decide
  (ay L t 2 true=0))=true->jM L t f=false/\ay L t 2 true=bG L t f)/\((!decide (ay L t 2 true=0))=false->(0<=t.oid/\t.oid< ↑(aj L))/\t.oid.toNat<aj L/\
  (∃g,kf g/\t=t/\f=f/\Value.slice none 0 0=Value.slice none 0 0/\ay L t 2 true=ay L t 2 true/\0=g/\L=L/\t=t/\f=f/\ah L t.oid.toNat free=eo (ah L
  t.oid.toNat free) (cX L t f g))/\∀(g:Int),kf g->(decide (g<16)=true->na L f g/\(0<=g/\g< ↑16)/\aG IntKind.i64 (g+1)/\∃g',kf g'/\nn g'<nn g/\t=t/\
  f=f/\Value.slice none 0 0=Value.slice none 0 0/\ay L t 2 true=ay L t 2 true/\g+1=g'/\L=L/\t=t/\f=f/\Obj.mk (eo (ah L t.oid.toNat free) (cX L t f g)).kind
  (eo (ah L t.oid.toNat free) (cX L t f g)).count (eo (ah L t.oid.toNat free) (cX L t f g)).calls ((eo (ah L t.oid.toNat free) (cX L t f g)).slots.put g.toNat (cN L f g))
  (eo (ah L t.oid.toNat free) (cX L t f g)).bytes=eo (ah L t.oid.toNat free) (cX L t f g'))/\(decide (g<16)=false->dL L t.oid/\jM L t f=true/\0=bG L t f/\
  cC L t.oid.toNat (eo (ah L t.oid.toNat free) (cX L t f g))=dV L t f))):=by
 unfold jM;have no:∀e,bG L t f=e->e≠0->decide (bG L t f=0)=false/\e=bG L t f:=fun e h h0=>⟨by rw[h];simpa using h0,h.symm⟩
 refine⟨fun h=>⟨fun h'=>?_,fun h'=>?_⟩,fun h=>⟨fun h'=>?_,fun h'=>?_⟩⟩
 ·have h:=Yn h;have h':ay L f 2 false≠0:=by simpa using h'
  exact no _ (by unfold bG;rw[Yq h]) h'
 ·have h:=Yn h;have h':ay L f 2 false=0:=by simpa using h'
  have hE:bG L t f=0:=by unfold bG;rw[Yq h];exact h'
  obtain⟨r1,r2,r3,r4⟩:=tJ hL (fG h).1;obtain⟨_,s2,s3,_⟩:=tJ hL (fG h').1;have hk:=(dz (fG h).1).2.2.2.1;have ho:=(dz (fG h').1).2.2.2.1;refine⟨⟨r2,r3⟩,r4,⟨0,⟨by omega,by omega⟩,?_⟩,fun g hg=>⟨fun hlt=>?_,fun hge=>?_⟩⟩
  ·have hz:=Cd (f:=f) hk;rw[hk]at hz;repeat' apply And.intro
   all_goals first|rfl|exact hz
  ·obtain⟨g0,g1⟩:=hg;have hlt:=Yn hlt;have hs:=C0 (t:=t) g0 ho (ah L t.oid.toNat free) fY;rw[ho]at hs;refine⟨⟨g0,by omega,s2,s3⟩,⟨g0,by omega⟩,by simp only[aG,bY];omega,g+1,⟨by omega,by omega⟩,by unfold nn;omega,?_⟩
   repeat' apply And.intro
   all_goals first|rfl|exact hs
  ·obtain⟨g0,g1⟩:=hg;have hge:=Ym hge;have:g=16:=by omega
   subst this;exact⟨r1,by simpa using hE,hE.symm,by unfold dV;rw[hE,Yq rfl];rfl⟩
 ·have h:=Ym h;exact no _ (by unfold bG;rw[Yp h]) h
 ·rw[h]at h';simp at h'
theorem NB (L:List Sx.Obj) (t f:Key) (hL:aq L):ai Tryz.prog 115 [.sa 0,.key t,.key f] [.ro (.arr none 163 (.ob L))] (yT (jM L t f) (dV L t f) [.it .i64 (bG L t f)]) (fun _ _=>False):=
 bn (inl:=bp) (ann:=(iy [(115,8,RV [0,1,2,3,4,5,6,7,8,9] (fun g=> [(10,.it .i64 g)]) 9 (fun g=> .blk tO (.ob (eo (ah L (oX t.oid) free) (cX L t f g)))) kf nn)])) (ab oi (ab wS (ab kb ak))) aC (Ko L t f hL) (by kernel_rfl)
theorem JU:lF Tryz.prog 115 Oj:=
 iC (m:=fun x=>Lv.cn x 0) (gg vj (fun _=>rfl)) (fun _=>rfl) (fun _ _=>rfl) fun L x hq=>NB L x.1 x.2.1 hq
theorem GZ (L:List Sx.Obj) (k:Key) (i n:Int) (hL:aq L):
 ((decide (aS L k false=0)&& !bZ i n)=true->ByteArray.mk (Array.mk [])=dQ L k i n/\4=b7 L k i n)/\((decide (aS L k false=0)&& !bZ i n)=false->((!decide
   (aS L k false=0))=true->ByteArray.mk (Array.mk [])=dQ L k i n/\aS L k false=b7 L k i n)/\((!decide (aS L k false=0))=false->(0<=k.oid/\k.oid< ↑(aj L))/\aG
   IntKind.i64 (i+n)/\CB i (i+n) 64/\k.oid.toNat<aj L/\BL (ah L k.oid.toNat free).bytes i.toNat (i+n).toNat=dQ L k i n/\0=b7 L k i n)):=by
 refine⟨fun h=>?_,fun h=>⟨fun h'=>?_,fun h'=>?_⟩⟩
 ·rw[Yj,Yk]at h;obtain⟨e1,e2⟩:=yn h.1 h.2;rw[<-e1,<-e2];exact⟨rfl,rfl⟩
 ·have h':aS L k false≠0:=by simpa using h'
  obtain⟨e1,e2⟩:=pD (i:=i) (n:=n) rfl h';rw[<-e1,<-e2];exact⟨rfl,rfl⟩
 ·have h':aS L k false=0:=by simpa using h'
  have hi:(!bZ i n)=false:=by rw[h']at h;simpa using h
  obtain⟨r1,r2,r3,r4⟩:=nV hL (lP h').1;obtain⟨e1,e2,e3,e4⟩:=wz h' hi;exact⟨⟨r2,r3⟩,e1,e2,r4,e3,e4⟩
theorem Hf:ck Tryz.prog 117 MJ:=
 eP (aJ js (aJ gQ (aJ ft (aJ ft cF)))) (fun _=>rfl) fun a hq hok=>by
  obtain⟨L,k,i,n,_⟩:=a;exact aV (inl:=bp) (ann:=aP) (ab uk (ab rP ak)) (GZ L k i n hq) (by kernel_rfl)
theorem KW (L:List Sx.Obj) (k:Key) (hL:aq L):
 ((!decide (aS L k true=0))=true->k9 L k=false/\aS L k true=aS L k true)/\((!decide (aS L k true=0))=false->(0<=k.oid/\k.oid< ↑(aj L))/\k.oid.toNat<aj L/\
   dL L k.oid/\k9 L k=true/\0=aS L k true/\cC L k.oid.toNat (Obj.mk (ah L k.oid.toNat free).kind (ah L k.oid.toNat free).count (ah L k.oid.toNat free).calls (ah L
   k.oid.toNat free).slots fX)=eD L k):=by
 unfold k9;refine⟨fun h=>?_,fun h=>?_⟩
 ·have h:aS L k true≠0:=by simpa using h
  exact⟨by simpa using h,rfl⟩
 ·have h:aS L k true=0:=by simpa using h
  obtain⟨r1,r2,r3,r4⟩:=nV hL (lP h).1;exact⟨⟨r2,r3⟩,r4,r1,by simpa using h,h.symm,by unfold eD;rw[Yq h];rfl⟩
theorem JE (L:List Sx.Obj) (k:Key) (hL:aq L):ai Tryz.prog 119 [.sa 0,.key k] [.ro (.arr none 163 (.ob L))] (yT (k9 L k) (eD L k) [.it .i64 (aS L k true)]) (fun _ _=>False):=
 bn (inl:=bp) (ann:=aP) (ab uk (ab kb ak)) aC (KW L k hL) (by kernel_rfl)
theorem IK:lF Tryz.prog 119 OA:=
 iC (m:=fun x=>kB.cn x 0) (gg C4 (fun _=>rfl)) (fun _=>rfl) (fun _ _=>rfl) fun L x hq=>JE L x.1 hq
theorem Pj (L:List Sx.Obj) (t f:Key) (hL:aq L):
 (decide (aS L t true=0)=true->((!decide (aS L f false=0))=true->lG L t f=false/\aS L f false=cy L t f)/\((!decide (aS L f false=0))=false->(0<=t.oid/\
  t.oid< ↑(aj L))/\t.oid.toNat<aj L/\(0<=f.oid/\f.oid< ↑(aj L))/\f.oid.toNat<aj L/\dL L t.oid/\lG L t f=true/\0=cy L t f/\cC L t.oid.toNat (Obj.mk (ah L
  t.oid.toNat free).kind (ah L t.oid.toNat free).count (ah L t.oid.toNat free).calls (ah L t.oid.toNat free).slots (ah L f.oid.toNat free).bytes)=eT L t f))/\(decide (aS L t true=0)
  =false->((!decide (aS L t true=0))=true->lG L t f=false/\aS L t true=cy L t f)/\((!decide (aS L t true=0))=false->(0<=t.oid/\t.oid< ↑(aj L))/\t.oid.toNat<
  aj L/\(0<=f.oid/\f.oid< ↑(aj L))/\f.oid.toNat<aj L/\dL L t.oid/\lG L t f=true/\0=cy L t f/\cC L t.oid.toNat (Obj.mk (ah L t.oid.toNat free).kind (ah L
  t.oid.toNat free).count (ah L t.oid.toNat free).calls (ah L t.oid.toNat free).slots (ah L f.oid.toNat free).bytes)=eT L t f)):=by
 unfold lG;refine⟨fun h=>⟨fun h'=>?_,fun h'=>?_⟩,fun h=>⟨fun h'=>?_,fun h'=>?_⟩⟩
 ·have h:=Yn h;have h':aS L f false≠0:=by simpa using h'
  obtain⟨e1,e2⟩:=Gv h rfl h';rw[<-e1];exact⟨by simpa using h',rfl⟩
 ·have h:=Yn h;have h':aS L f false=0:=by simpa using h'
  have hE:cy L t f=0:=by unfold cy;rw[Yq h];exact h'
  obtain⟨r1,r2,r3,r4⟩:=nV hL (lP h).1;obtain⟨_,s2,s3,s4⟩:=nV hL (lP h').1;exact⟨⟨r2,r3⟩,r4,⟨s2,s3⟩,s4,r1,by simpa using hE,hE.symm,by unfold eT;rw[hE,Yq rfl];rfl⟩
 ·have h:=Ym h;obtain⟨e1,e2⟩:=uN (f:=f) rfl h;rw[<-e1];exact⟨by simpa using h,rfl⟩
 ·rw[h]at h';simp at h'
theorem Ry (L:List Sx.Obj) (t f:Key) (hL:aq L):ai Tryz.prog 120 [.sa 0,.key t,.key f] [.ro (.arr none 163 (.ob L))] (yT (lG L t f) (eT L t f) [.it .i64 (cy L t f)]) (fun _ _=>False):=
 bn (inl:=bp) (ann:=aP) (ab uk (ab kb ak)) aC (Pj L t f hL) (by kernel_rfl)
theorem PK:lF Tryz.prog 120 SX:=
 iC (m:=fun x=>Lv.cn x 0) (gg vj (fun _=>rfl)) (fun _=>rfl) (fun _ _=>rfl) fun L x hq=>Ry L x.1 x.2.1 hq
theorem MV (d:Int) (hq:wI d):
 (0<=d/\d< ↑11)/\ah [0,1,6,5,6,7,0,0,3,1,1] d.toNat 0=cI d:=by
 obtain⟨h0,h1⟩:=hq;refine⟨⟨h0,by omega⟩,?_⟩
 have:d=0\/d=1\/d=2\/d=3\/d=4\/d=5\/d=6\/d=7\/d=8\/d=9\/d=10:=by omega
 rcases this with rfl|rfl|rfl|rfl|rfl|rfl|rfl|rfl|rfl|rfl|rfl<;>rfl
theorem Ik:ck Tryz.prog 48 Pa:=
 eP (aJ ft cF) (fun _=>rfl) fun a hq hok=>by
  obtain⟨d,_⟩:=a;exact aV (inl:=bp) (ann:=aP) ak (MV d hq) (by kernel_rfl)
theorem Np (a b:Int):
 (decide (a=2)=true->(decide (a=2)=true->(decide (b=1)||decide (b=2)||decide (b=5))=cD a b)/\(decide (a=2)=false->(decide (a=4)=true->decide (b=4)=cD a b)/\
  (decide (a=4)=false->(decide (a=5)=true->(decide (1<=b)&&decide (b<=3)||decide (5<=b)&&decide (b<=7))=cD a b)/\(decide (a=5)=false->false=cD a b))))/\(decide (a=
  2)=false->(decide (a=3)=true->(decide (b=1)||decide (b=2)||decide (b=5))=cD a b)/\(decide (a=3)=false->(decide (a=4)=true->decide (b=4)=cD a b)/\(decide (a=
  4)=false->(decide (a=5)=true->(decide (1<=b)&&decide (b<=3)||decide (5<=b)&&decide (b<=7))=cD a b)/\(decide (a=5)=false->false=cD a b)))):=by
 unfold cD;grind
theorem Jk:ck Tryz.prog 49 Oi:=
 mf (fy .i64) (fy .i64) (fun _ _=>rfl) fun a b ha hb=>aV (inl:=bp) (ann:=aP) ak (Np a b) (by kernel_rfl)
theorem K6 (L:List Sx.Obj) (k:Key) (m:bm) (i:Int) (hq:lk L k m i):
 (decide (m.code=1)=true->true=true/\jr L k m=false/\0=(bS L k m).code/\ByteArray.mk (Array.mk [])=(bS L k m).data/\aF L k i=(bS L k m).k0/\void=(bS L k m).k1/\
  void=(bS L k m).k2/\bJ L k i=(dO L k m).fst)/\(decide (m.code=1)=false->(decide (m.code=2)=true->true=true/\aq L/\(gA L k i m.k0=false->true=true/\jr L k
  m=false/\0=(bS L k m).code/\ByteArray.mk (Array.mk [])=(bS L k m).data/\cz L k i m.k0=(bS L k m).k0/\void=(bS L k m).k1/\void=(bS L k m).k2/\ba L k i m.k0=
  (dO L k m).fst)/\(gA L k i m.k0=true->true=true/\jr L k m=true/\(0=(bS L k m).code/\ByteArray.mk (Array.mk [])=(bS L k m).data/\cz L k i m.k0=(bS L k m).k0/\
  void=(bS L k m).k1/\void=(bS L k m).k2/\ba L k i m.k0=(dO L k m).fst)/\b6 L k i m.k0=(dO L k m).snd.snd))/\(decide (m.code=2)=false->(decide (m.code=3)=true->
  true=true/\aq L/\(lb L k=false->jr L k m=false/\0=(bS L k m).code/\ByteArray.mk (Array.mk [])=(bS L k m).data/\void=(bS L k m).k0/\void=(bS L k m).k1/\void
  =(bS L k m).k2/\ay L k 2 true=(dO L k m).fst)/\(lb L k=true->jr L k m=true/\(0=(bS L k m).code/\ByteArray.mk (Array.mk [])=(bS L k m).data/\void=(bS L k
  m).k0/\void=(bS L k m).k1/\void=(bS L k m).k2/\ay L k 2 true=(dO L k m).fst)/\eQ L k=(dO L k m).snd.snd))/\(decide (m.code=3)=false->(decide (m.code=4)=true->
  true=true/\aq L/\(jM L k m.k0=false->jr L k m=false/\0=(bS L k m).code/\ByteArray.mk (Array.mk [])=(bS L k m).data/\void=(bS L k m).k0/\void=(bS L k m).k1/\
  void=(bS L k m).k2/\bG L k m.k0=(dO L k m).fst)/\(jM L k m.k0=true->jr L k m=true/\(0=(bS L k m).code/\ByteArray.mk (Array.mk [])=(bS L k m).data/\void=
  (bS L k m).k0/\void=(bS L k m).k1/\void=(bS L k m).k2/\bG L k m.k0=(dO L k m).fst)/\dV L k m.k0=(dO L k m).snd.snd))/\(decide (m.code=4)=false->(decide (m.code
  =5)=true->((decide (i<0)||decide (7<i))=true->jr L k m=false/\0=(bS L k m).code/\ByteArray.mk (Array.mk [])=(bS L k m).data/\void=(bS L k m).k0/\void=(bS L k
  m).k1/\void=(bS L k m).k2/\2=(dO L k m).fst)/\((decide (i<0)||decide (7<i))=false->gy k i/\true=true/\jr L k m=false/\0=(bS L k m).code/\ByteArray.mk (Array.mk
  [])=(bS L k m).data/\iu k i=(bS L k m).k0/\void=(bS L k m).k1/\void=(bS L k m).k2/\0=(dO L k m).fst))/\(decide (m.code=5)=false->((!decide (k.rights=0))=true->
  jr L k m=false/\0=(bS L k m).code/\ByteArray.mk (Array.mk [])=(bS L k m).data/\void=(bS L k m).k0/\void=(bS L k m).k1/\void=(bS L k m).k2/\191=(dO L k m).fst)/\
  ((!decide (k.rights=0))=false->true=true/\jr L k m=false/\0=(bS L k m).code/\ByteArray.mk (Array.mk [])=(bS L k m).data/\Key.mk 5 k.oid k.count void.call void.rights
  void.value=(bS L k m).k0/\void=(bS L k m).k1/\void=(bS L k m).k2/\0=(dO L k m).fst)))))):=by
 obtain⟨hL,hs,hk,rfl⟩:=hq;have hlq:gy k (aO m)↔(0<=aO m/\aO m<=7):=by unfold gy;simp[hk]
 have h8:=H7 (m:=m);have hin:=BH (m:=m);have hr:aG IntKind.i64 (64-aO m):=by unfold aG bY;omega
 have hr4:aG IntKind.i64 (aO m+4):=by unfold aG bY;omega
 repeat' (first|with_reducible assumption|with_reducible rfl|with_reducible apply And.intro|with_reducible intro _)
 all_goals(first| (simp_all[jr,bS,dO,eg,e9,fD,dB,cH,dg,void];done)| (simp_all[jr,bS,dO,eg,e9,fD,dB,cH,dg,void];omega)| (by_cases hz:0<=m.k2.value/\m.k2.value<=7<;>first| (simp_all[jr,bS,dO,eg,e9,fD,dB,cH,dg,void];done)| (simp_all[jr,bS,dO,eg,e9,fD,dB,cH,dg,void];omega)))
theorem KF (L:List Sx.Obj) (k:Key) (m:bm) (i:Int) (hq:lk L k m i):ai Tryz.prog 50 [.sa 0,.key k,jR m,.it .i64 i] [.ro (.arr none 163 (.ob L))] (yT (jr L k m) ((dO L k m).2.2) [jR (bS L k m),.it .i64 (dO L k m).1]) (fun _ _=>False):=
 bn (inl:=(fun f=>f==112||f==47||f==54||f==110)) (ann:=aP) (ab Dy (ab CX ak)) (aD De (aD Kx (aD JU aC))) (K6 L k m i hq) (by kernel_rfl)
theorem Ir:lF Tryz.prog 50 PO:=
 iC (m:=fun x=>Ba.cn x 0) (gg wK (fun _=>rfl)) (fun _=>rfl) (fun _ _=>rfl) fun L x hq=>KF L x.1 x.2.1 x.2.2.1 hq
theorem IE (L:List Sx.Obj) (k:Key) (m:bm) (i:Int) (hq:lk L k m i):
 (decide (m.code=1)=true->aG IntKind.i64 (64-i)/\aq L/\j6 L k m=false/\0=(cx L k m).code/\dQ L k i (imax 0 (kJ 32 (64-i)))=(cx L k m).data/\void=(cx L k
  m).k0/\void=(cx L k m).k1/\void=(cx L k m).k2/\b7 L k i (imax 0 (kJ 32 (64-i)))=(dM L k m).fst)/\(decide (m.code=1)=false->(decide (m.code=2)=true->true=true/\
  (aq L/\aw m.data)/\(jt L k i m.data=false->j6 L k m=false/\0=(cx L k m).code/\ByteArray.mk (Array.mk [])=(cx L k m).data/\void=(cx L k m).k0/\void=(cx L k
  m).k1/\void=(cx L k m).k2/\cq L k i m.data=(dM L k m).fst)/\(jt L k i m.data=true->j6 L k m=true/\(0=(cx L k m).code/\ByteArray.mk (Array.mk [])=(cx L k m).data
  /\void=(cx L k m).k0/\void=(cx L k m).k1/\void=(cx L k m).k2/\cq L k i m.data=(dM L k m).fst)/\ec L k i m.data=(dM L k m).snd.snd))/\(decide (m.code=2)=false->
  (decide (m.code=3)=true->true=true/\aq L/\(k9 L k=false->j6 L k m=false/\0=(cx L k m).code/\ByteArray.mk (Array.mk [])=(cx L k m).data/\void=(cx L k m).k0/\
  void=(cx L k m).k1/\void=(cx L k m).k2/\aS L k true=(dM L k m).fst)/\(k9 L k=true->j6 L k m=true/\(0=(cx L k m).code/\ByteArray.mk (Array.mk [])=(cx L k
  m).data/\void=(cx L k m).k0/\void=(cx L k m).k1/\void=(cx L k m).k2/\aS L k true=(dM L k m).fst)/\eD L k=(dM L k m).snd.snd))/\(decide (m.code=3)=false->
  (decide (m.code=4)=true->true=true/\aq L/\(lG L k m.k0=false->j6 L k m=false/\0=(cx L k m).code/\ByteArray.mk (Array.mk [])=(cx L k m).data/\void=(cx L k m).k0
  /\void=(cx L k m).k1/\void=(cx L k m).k2/\cy L k m.k0=(dM L k m).fst)/\(lG L k m.k0=true->j6 L k m=true/\(0=(cx L k m).code/\ByteArray.mk (Array.mk [])=(cx
  L k m).data/\void=(cx L k m).k0/\void=(cx L k m).k1/\void=(cx L k m).k2/\cy L k m.k0=(dM L k m).fst)/\eT L k m.k0=(dM L k m).snd.snd))/\(decide (m.code=4)=false
  ->((decide (i<0)||decide (7<i))=true->j6 L k m=false/\0=(cx L k m).code/\ByteArray.mk (Array.mk [])=(cx L k m).data/\void=(cx L k m).k0/\void=(cx L k m).k1/\void
  =(cx L k m).k2/\2=(dM L k m).fst)/\((decide (i<0)||decide (7<i))=false->gy k i/\true=true/\j6 L k m=false/\0=(cx L k m).code/\ByteArray.mk (Array.mk [])=(cx
  L k m).data/\iu k i=(cx L k m).k0/\void=(cx L k m).k1/\void=(cx L k m).k2/\0=(dM L k m).fst))))):=by
 obtain⟨hL,hs,hk,rfl⟩:=hq;have hlq:gy k (aO m)↔(0<=aO m/\aO m<=7):=by unfold gy;simp[hk]
 have h8:=H7 (m:=m);have hin:=BH (m:=m);have hr:aG IntKind.i64 (64-aO m):=by unfold aG bY;omega
 have hr4:aG IntKind.i64 (aO m+4):=by unfold aG bY;omega
 repeat' (first|with_reducible assumption|with_reducible rfl|with_reducible apply And.intro|with_reducible intro _)
 all_goals(first| (simp_all[j6,cx,dM,pn,eg,e9,fD,dB,cH,dg,void];done)| (simp_all[j6,cx,dM,pn,eg,e9,fD,dB,cH,dg,void];omega)| (by_cases hz:0<=m.k2.value/\m.k2.value<=7<;>first| (simp_all[j6,cx,dM,pn,eg,e9,fD,dB,cH,dg,void];done)| (simp_all[j6,cx,dM,pn,eg,e9,fD,dB,cH,dg,void];omega)))
theorem NI (L:List Sx.Obj) (k:Key) (m:bm) (i:Int) (hq:lk L k m i):ai Tryz.prog 51 [.sa 0,.key k,jR m,.it .i64 i] [.ro (.arr none 163 (.ob L))] (yT (j6 L k m) ((dM L k m).2.2) [jR (cx L k m),.it .i64 (dM L k m).1]) (fun _ _=>False):=
 bn (inl:=(fun f=>f==112||f==47||f==54||f==110)) (ann:=aP) (ab Hf (ab CX ak)) (aD Lc (aD IK (aD PK aC))) (IE L k m i hq) (by kernel_rfl)
theorem LO:lF Tryz.prog 51 Qs:=
 iC (m:=fun x=>Ba.cn x 0) (gg wK (fun _=>rfl)) (fun _=>rfl) (fun _ _=>rfl) fun L x hq=>NI L x.1 x.2.1 x.2.2.1 hq
theorem Hi (L:List Sx.Obj) (k:Key) (m:bm) (i:Int) (hq:lk L k m i):
 (decide (m.code=1)=true->(decide (m.code=1)=true->true=true/\aq L/\(fN L k m.code=false->true=true/\fU L k m=false/\0=(aZ L k m).code/\ByteArray.mk (Array.mk [])
  =(aZ L k m).data/\cL L k m.code=(aZ L k m).k0/\void=(aZ L k m).k1/\void=(aZ L k m).k2/\bX L k m.code=(cY L k m).fst)/\(fN L k m.code=true->true=true/\fU
  L k m=true/\(0=(aZ L k m).code/\ByteArray.mk (Array.mk [])=(aZ L k m).data/\cL L k m.code=(aZ L k m).k0/\void=(aZ L k m).k1/\void=(aZ L k m).k2/\bX L k m.code=
  (cY L k m).fst)/\eI L k m.code=(cY L k m).snd.snd))/\(decide (m.code=1)=false->(decide (m.code=3)=true->true=true/\aq L/\(iY L k m.k0=false->fU L k m=false/\0
  =(aZ L k m).code/\ByteArray.mk (Array.mk [])=(aZ L k m).data/\void=(aZ L k m).k0/\void=(aZ L k m).k1/\void=(aZ L k m).k2/\b8 L k m.k0=(cY L k m).fst)/\(iY L k
  m.k0=true->fU L k m=true/\(0=(aZ L k m).code/\ByteArray.mk (Array.mk [])=(aZ L k m).data/\void=(aZ L k m).k0/\void=(aZ L k m).k1/\void=(aZ L k m).k2/\b8 L k
  m.k0=(cY L k m).fst)/\fI L k m.k0=(cY L k m).snd.snd))/\(decide (m.code=3)=false->(decide (m.code=4)=true->true=true/\aq L/\(j5 L k i=false->true=true/\fU L k
  m=false/\0=(aZ L k m).code/\ByteArray.mk (Array.mk [])=(aZ L k m).data/\bP L k i=(aZ L k m).k0/\void=(aZ L k m).k1/\void=(aZ L k m).k2/\bM L k i=(cY L k
  m).fst)/\(j5 L k i=true->true=true/\fU L k m=true/\(0=(aZ L k m).code/\ByteArray.mk (Array.mk [])=(aZ L k m).data/\bP L k i=(aZ L k m).k0/\void=(aZ L k m).k1/\
  void=(aZ L k m).k2/\bM L k i=(cY L k m).fst)/\br L k i=(cY L k m).snd.snd))/\(decide (m.code=4)=false->(decide (m.code=5)=true->true=true/\(iF L k m.k0=true->
  true=true/\true=true/\fU L k m=false/\0=(aZ L k m).code/\ByteArray.mk (Array.mk [])=(aZ L k m).data/\void=(aZ L k m).k0/\void=(aZ L k m).k1/\Key.mk 1 void.oid
  void.count void.call void.rights 1=(aZ L k m).k2/\aK L k=(cY L k m).fst)/\(iF L k m.k0=false->true=true/\true=true/\fU L k m=false/\0=(aZ L k m).code/\
  ByteArray.mk (Array.mk [])=(aZ L k m).data/\void=(aZ L k m).k0/\void=(aZ L k m).k1/\Key.mk 1 void.oid void.count void.call void.rights 0=(aZ L k m).k2/\aK L k=(cY L k
  m).fst))/\(decide (m.code=5)=false->true=true/\aq L/\(jP L k=false->true=true/\true=true/\fU L k m=false/\0=(aZ L k m).code/\ByteArray.mk (Array.mk [])=(aZ L
  k m).data/\void=(aZ L k m).k0/\void=(aZ L k m).k1/\Key.mk 1 void.oid void.count void.call void.rights (eL L k)=(aZ L k m).k2/\aK L k=(cY L k m).fst)/\(jP L k=true
  ->true=true/\true=true/\fU L k m=true/\(0=(aZ L k m).code/\ByteArray.mk (Array.mk [])=(aZ L k m).data/\void=(aZ L k m).k0/\void=(aZ L k m).k1/\Key.mk 1 void.oid
  void.count void.call void.rights (eL L k)=(aZ L k m).k2/\aK L k=(cY L k m).fst)/\gi L k=(cY L k m).snd.snd))))))/\(decide (m.code=1)=false->(decide (m.code=2)=true
  ->true=true/\aq L/\(fN L k m.code=false->true=true/\fU L k m=false/\0=(aZ L k m).code/\ByteArray.mk (Array.mk [])=(aZ L k m).data/\cL L k m.code=(aZ L k
  m).k0/\void=(aZ L k m).k1/\void=(aZ L k m).k2/\bX L k m.code=(cY L k m).fst)/\(fN L k m.code=true->true=true/\fU L k m=true/\(0=(aZ L k m).code/\ByteArray.mk
  (Array.mk [])=(aZ L k m).data/\cL L k m.code=(aZ L k m).k0/\void=(aZ L k m).k1/\void=(aZ L k m).k2/\bX L k m.code=(cY L k m).fst)/\eI L k m.code=(cY L k
  m).snd.snd))/\(decide (m.code=2)=false->(decide (m.code=3)=true->true=true/\aq L/\(iY L k m.k0=false->fU L k m=false/\0=(aZ L k m).code/\ByteArray.mk (Array.mk [])
  =(aZ L k m).data/\void=(aZ L k m).k0/\void=(aZ L k m).k1/\void=(aZ L k m).k2/\b8 L k m.k0=(cY L k m).fst)/\(iY L k m.k0=true->fU L k m=true/\(0=(aZ L k
  m).code/\ByteArray.mk (Array.mk [])=(aZ L k m).data/\void=(aZ L k m).k0/\void=(aZ L k m).k1/\void=(aZ L k m).k2/\b8 L k m.k0=(cY L k m).fst)/\fI L k m.k0=(cY L
  k m).snd.snd))/\(decide (m.code=3)=false->(decide (m.code=4)=true->true=true/\aq L/\(j5 L k i=false->true=true/\fU L k m=false/\0=(aZ L k m).code/\ByteArray.mk
  (Array.mk [])=(aZ L k m).data/\bP L k i=(aZ L k m).k0/\void=(aZ L k m).k1/\void=(aZ L k m).k2/\bM L k i=(cY L k m).fst)/\(j5 L k i=true->true=true/\fU L k
  m=true/\(0=(aZ L k m).code/\ByteArray.mk (Array.mk [])=(aZ L k m).data/\bP L k i=(aZ L k m).k0/\void=(aZ L k m).k1/\void=(aZ L k m).k2/\bM L k i=(cY L k
  m).fst)/\br L k i=(cY L k m).snd.snd))/\(decide (m.code=4)=false->(decide (m.code=5)=true->true=true/\(iF L k m.k0=true->true=true/\true=true/\fU L k m=false/\0
  =(aZ L k m).code/\ByteArray.mk (Array.mk [])=(aZ L k m).data/\void=(aZ L k m).k0/\void=(aZ L k m).k1/\Key.mk 1 void.oid void.count void.call void.rights 1=(aZ L k m).k2/\
  aK L k=(cY L k m).fst)/\(iF L k m.k0=false->true=true/\true=true/\fU L k m=false/\0=(aZ L k m).code/\ByteArray.mk (Array.mk [])=(aZ L k m).data/\void=(aZ L k
  m).k0/\void=(aZ L k m).k1/\Key.mk 1 void.oid void.count void.call void.rights 0=(aZ L k m).k2/\aK L k=(cY L k m).fst))/\(decide (m.code=5)=false->true=true/\aq L/\
  (jP L k=false->true=true/\true=true/\fU L k m=false/\0=(aZ L k m).code/\ByteArray.mk (Array.mk [])=(aZ L k m).data/\void=(aZ L k m).k0/\void=(aZ L k m).k1/\
  Key.mk 1 void.oid void.count void.call void.rights (eL L k)=(aZ L k m).k2/\aK L k=(cY L k m).fst)/\(jP L k=true->true=true/\true=true/\fU L k m=true/\(0=(aZ L
  k m).code/\ByteArray.mk (Array.mk [])=(aZ L k m).data/\void=(aZ L k m).k0/\void=(aZ L k m).k1/\Key.mk 1 void.oid void.count void.call void.rights (eL L k)=(aZ L k m).k2/\
  aK L k=(cY L k m).fst)/\gi L k=(cY L k m).snd.snd)))))):=by
 obtain⟨hL,hs,hk,rfl⟩:=hq;have hlq:gy k (aO m)↔(0<=aO m/\aO m<=7):=by unfold gy;simp[hk]
 have h8:=H7 (m:=m);have hin:=BH (m:=m);have hr:aG IntKind.i64 (64-aO m):=by unfold aG bY;omega
 have hr4:aG IntKind.i64 (aO m+4):=by unfold aG bY;omega
 repeat' (first|with_reducible assumption|with_reducible rfl|with_reducible apply And.intro|with_reducible intro _)
 all_goals(first| (simp_all[fU,aZ,cY,eg,e9,fD,dB,cH,dg,void];done)| (simp_all[fU,aZ,cY,eg,e9,fD,dB,cH,dg,void];omega)| (by_cases hz:0<=m.k2.value/\m.k2.value<=7<;>first| (simp_all[fU,aZ,cY,eg,e9,fD,dB,cH,dg,void];done)| (simp_all[fU,aZ,cY,eg,e9,fD,dB,cH,dg,void];omega)))
theorem HZ (L:List Sx.Obj) (k:Key) (m:bm) (i:Int) (hq:lk L k m i):ai Tryz.prog 52 [.sa 0,.key k,jR m,.it .i64 i] [.ro (.arr none 163 (.ob L))] (yT (fU L k m) ((cY L k m).2.2) [jR (aZ L k m),.it .i64 (cY L k m).1]) (fun _ _=>False):=
 bn (inl:=(fun f=>f==112||f==47||f==54||f==110)) (ann:=aP) (ab Ij ak) (aD L3 (aD Rb (aD HS (aD Im aC)))) (Hi L k m i hq) (by kernel_rfl)
theorem GB:lF Tryz.prog 52 Mp:=
 iC (m:=fun x=>Ba.cn x 0) (gg wK (fun _=>rfl)) (fun _=>rfl) (fun _ _=>rfl) fun L x hq=>HZ L x.1 x.2.1 x.2.2.1 hq
theorem Iy (L:List Sx.Obj) (k:Key) (m:bm) (i:Int) (hq:lk L k m i):
 (((decide (m.code=1)||decide (m.code=2))&&(decide (i<0)||decide (11<i)))=true->gq L k m=false/\0=(bw L k m).code/\ByteArray.mk (Array.mk [])=(bw L k m).data/\void=
   (bw L k m).k0/\void=(bw L k m).k1/\void=(bw L k m).k2/\4=(cT L k m).fst)/\(((decide (m.code=1)||decide (m.code=2))&&(decide (i<0)||decide (11<i)))=false->(decide
   (m.code=1)=true->aG IntKind.i64 (i+4)/\true=true/\gq L k m=false/\0=(bw L k m).code/\ByteArray.mk (Array.mk [])=(bw L k m).data/\aF L (Key.mk 2 k.oid k.count
   void.call void.rights void.value) (i+4)=(bw L k m).k0/\void=(bw L k m).k1/\void=(bw L k m).k2/\bJ L (Key.mk 2 k.oid k.count void.call void.rights void.value) (i+4)=(cT L
   k m).fst)/\(decide (m.code=1)=false->(decide (m.code=2)=true->aG IntKind.i64 (i+4)/\true=true/\aq L/\(gA L (Key.mk 2 k.oid k.count void.call void.rights void.value) (i+4)
   m.k0=false->true=true/\gq L k m=false/\0=(bw L k m).code/\ByteArray.mk (Array.mk [])=(bw L k m).data/\cz L (Key.mk 2 k.oid k.count void.call void.rights void.value) (i+4)
   m.k0=(bw L k m).k0/\void=(bw L k m).k1/\void=(bw L k m).k2/\ba L (Key.mk 2 k.oid k.count void.call void.rights void.value) (i+4) m.k0=(cT L k m).fst)/\(gA L (Key.mk 2
   k.oid k.count void.call void.rights void.value) (i+4) m.k0=true->true=true/\gq L k m=true/\(0=(bw L k m).code/\ByteArray.mk (Array.mk [])=(bw L k m).data/\cz L (Key.mk 2
   k.oid k.count void.call void.rights void.value) (i+4) m.k0=(bw L k m).k0/\void=(bw L k m).k1/\void=(bw L k m).k2/\ba L (Key.mk 2 k.oid k.count void.call void.rights void.value)
   (i+4) m.k0=(cT L k m).fst)/\b6 L (Key.mk 2 k.oid k.count void.call void.rights void.value) (i+4) m.k0=(cT L k m).snd.snd))/\(decide (m.code=2)=false->(decide (m.code=3)=true
   ->true=true/\gq L k m=false/\0=(bw L k m).code/\ByteArray.mk (Array.mk [])=(bw L k m).data/\Key.mk 6 k.oid k.count void.call void.rights m.k2.value=(bw L k m).k0/\void=
   (bw L k m).k1/\void=(bw L k m).k2/\0=(cT L k m).fst)/\(decide (m.code=3)=false->(decide (m.code=4)=true->true=true/\true=true/\gq L k m=false/\0=(bw L k
   m).code/\ByteArray.mk (Array.mk [])=(bw L k m).data/\void=(bw L k m).k0/\void=(bw L k m).k1/\Key.mk 1 void.oid void.count void.call void.rights (qt L k.oid)=(bw L k m).k2/\0
   =(cT L k m).fst)/\(decide (m.code=4)=false->(decide (m.code=5)=true->true=true/\aq L/\(mj L k.oid i=false->gq L k m=false/\0=(bw L k m).code/\ByteArray.mk
   (Array.mk [])=(bw L k m).data/\void=(bw L k m).k0/\void=(bw L k m).k1/\void=(bw L k m).k2/\ea L k.oid i=(cT L k m).fst)/\(mj L k.oid i=true->gq L k m=true/\
   (0=(bw L k m).code/\ByteArray.mk (Array.mk [])=(bw L k m).data/\void=(bw L k m).k0/\void=(bw L k m).k1/\void=(bw L k m).k2/\ea L k.oid i=(cT L k m).fst)/\iK L
   k.oid i=(cT L k m).snd.snd))/\(decide (m.code=5)=false->(decide (m.code=6)=true->aq L/\((decide (bQ L (aF L (Key.mk 2 k.oid k.count void.call void.rights void.value) 0)
   m.k2.value 32=0)&& !decide (bH L (aF L (Key.mk 2 k.oid k.count void.call void.rights void.value) 0) m.k2.value 32 false=0))=true->aG IntKind.i64 (1000+bH L (aF L (Key.mk 2 k.oid
   k.count void.call void.rights void.value) 0) m.k2.value 32 false)/\gq L k m=false/\0=(bw L k m).code/\jH L (aF L (Key.mk 2 k.oid k.count void.call void.rights void.value) 0)
   m.k2.value 32=(bw L k m).data/\void=(bw L k m).k0/\void=(bw L k m).k1/\void=(bw L k m).k2/\1000+bH L (aF L (Key.mk 2 k.oid k.count void.call void.rights void.value) 0)
   m.k2.value 32 false=(cT L k m).fst)/\((decide (bQ L (aF L (Key.mk 2 k.oid k.count void.call void.rights void.value) 0) m.k2.value 32=0)&& !decide (bH L (aF L (Key.mk 2 k.oid k.count
   void.call void.rights void.value) 0) m.k2.value 32 false=0))=false->gq L k m=false/\0=(bw L k m).code/\jH L (aF L (Key.mk 2 k.oid k.count void.call void.rights void.value) 0)
   m.k2.value 32=(bw L k m).data/\void=(bw L k m).k0/\void=(bw L k m).k1/\void=(bw L k m).k2/\bQ L (aF L (Key.mk 2 k.oid k.count void.call void.rights void.value) 0)
   m.k2.value 32=(cT L k m).fst))/\(decide (m.code=6)=false->true=true/\(aq L/\aw m.data)/\(kQ L (aF L (Key.mk 2 k.oid k.count void.call void.rights void.value) 0) m.k2.value
   (bW m.data) true=false->((decide (bQ L (aF L (Key.mk 2 k.oid k.count void.call void.rights void.value) 0) m.k2.value (bW m.data)=0)&& !decide (bH L (aF L (Key.mk 2 k.oid k.count
   void.call void.rights void.value) 0) m.k2.value (bW m.data) true=0))=true->aG IntKind.i64 (1000+bH L (aF L (Key.mk 2 k.oid k.count void.call void.rights void.value) 0) m.k2.value (bW
   m.data) true)/\gq L k m=false/\0=(bw L k m).code/\ByteArray.mk (Array.mk [])=(bw L k m).data/\void=(bw L k m).k0/\void=(bw L k m).k1/\void=(bw L k m).k2/\1000+
   bH L (aF L (Key.mk 2 k.oid k.count void.call void.rights void.value) 0) m.k2.value (bW m.data) true=(cT L k m).fst)/\((decide (bQ L (aF L (Key.mk 2 k.oid k.count void.call void.rights
   void.value) 0) m.k2.value (bW m.data)=0)&& !decide (bH L (aF L (Key.mk 2 k.oid k.count void.call void.rights void.value) 0) m.k2.value (bW m.data) true=0))=false->gq L k m=false/\
   0=(bw L k m).code/\ByteArray.mk (Array.mk [])=(bw L k m).data/\void=(bw L k m).k0/\void=(bw L k m).k1/\void=(bw L k m).k2/\bQ L (aF L (Key.mk 2 k.oid k.count
   void.call void.rights void.value) 0) m.k2.value (bW m.data)=(cT L k m).fst))/\(kQ L (aF L (Key.mk 2 k.oid k.count void.call void.rights void.value) 0) m.k2.value (bW m.data) true=true->
   ((decide (bQ L (aF L (Key.mk 2 k.oid k.count void.call void.rights void.value) 0) m.k2.value (bW m.data)=0)&& !decide (bH L (aF L (Key.mk 2 k.oid k.count void.call void.rights
   void.value) 0) m.k2.value (bW m.data) true=0))=true->aG IntKind.i64 (1000+bH L (aF L (Key.mk 2 k.oid k.count void.call void.rights void.value) 0) m.k2.value (bW m.data) true)/\gq L
   k m=true/\(0=(bw L k m).code/\ByteArray.mk (Array.mk [])=(bw L k m).data/\void=(bw L k m).k0/\void=(bw L k m).k1/\void=(bw L k m).k2/\1000+bH L (aF L (Key.mk 2
   k.oid k.count void.call void.rights void.value) 0) m.k2.value (bW m.data) true=(cT L k m).fst)/\jz L (aF L (Key.mk 2 k.oid k.count void.call void.rights void.value) 0) m.k2.value m.data=
   (cT L k m).snd.snd)/\((decide (bQ L (aF L (Key.mk 2 k.oid k.count void.call void.rights void.value) 0) m.k2.value (bW m.data)=0)&& !decide (bH L (aF L (Key.mk 2 k.oid k.count
   void.call void.rights void.value) 0) m.k2.value (bW m.data) true=0))=false->gq L k m=true/\(0=(bw L k m).code/\ByteArray.mk (Array.mk [])=(bw L k m).data/\void=(bw L k
   m).k0/\void=(bw L k m).k1/\void=(bw L k m).k2/\bQ L (aF L (Key.mk 2 k.oid k.count void.call void.rights void.value) 0) m.k2.value (bW m.data)=(cT L k m).fst)/\jz L (aF L
   (Key.mk 2 k.oid k.count void.call void.rights void.value) 0) m.k2.value m.data=(cT L k m).snd.snd))))))))):=by
 obtain⟨hL,hs,hk,rfl⟩:=hq;have hlq:gy k (aO m)↔(0<=aO m/\aO m<=7):=by unfold gy;simp[hk]
 have hin:=BH (m:=m);have hr:aG IntKind.i64 (64-aO m):=by unfold aG bY;omega
 have hr4:aG IntKind.i64 (aO m+4):=by unfold aG bY;omega
 have hw:Key.mk 2 k.oid k.count void.call void.rights void.value=eA k:=rfl;have hro:aF L (eA k) 0=eZ L k:=rfl;have f1:=Gq (L:=L) (k:=eZ L k) (a:=m.k2.value) (n:=32) (w:=false);have f2:=Gq (L:=L) (k:=eZ L k) (a:=m.k2.value) (n:=bW m.data) (w:=true);have g1:aG IntKind.i64 (1000+bH L (eZ L k) m.k2.value 32 false):=by unfold aG bY;omega
 have g2:aG IntKind.i64 (1000+bH L (eZ L k) m.k2.value (bW m.data) true):=by unfold aG bY;omega
 rw[hw,hro];refine⟨fun h=>?_,fun h=>⟨fun h1=>?_,fun h1=>⟨fun h2=>?_,fun h2=>?_⟩⟩⟩
 ·simp only[Yj,Bool.or_eq_true,Yk]at h;obtain⟨h1|h1,h2⟩:=h
  ·simp[gq,bw,cT,h1,h2,dg]
  ·simp[gq,bw,cT,h1,h2,dg]
 ·have h1:=Yn h1;have hz:¬(aO m<0\/11<aO m):=by rw[h1]at h;simpa using h
  have e1:cT L k m=(bJ L (eA k) (aO m+4),eg (aF L (eA k) (aO m+4)),L):=by unfold cT;rw[Yq h1,Yp hz]
  have e2:bw L k m=eg (aF L (eA k) (aO m+4)):=by unfold bw;rw[Yp (fun hh=>hz hh.2),e1]
  have e3:gq L k m=false:=by unfold gq;rw[Yq h1]
  rw[e1,e2,e3];exact⟨hr4,rfl,rfl,rfl,rfl,rfl,rfl,rfl,rfl⟩
 ·have h1:=Ym h1;have h2:=Yn h2;have hz:¬(aO m<0\/11<aO m):=by rw[h2]at h;simpa using h
  have e1:cT L k m=(ba L (eA k) (aO m+4) m.k0,eg (cz L (eA k) (aO m+4) m.k0),b6 L (eA k) (aO m+4) m.k0):=by unfold cT;rw[Yp h1,Yq h2,Yp hz,Yp hz]
  have e2:bw L k m=eg (cz L (eA k) (aO m+4) m.k0):=by unfold bw;rw[Yp (fun hh=>hz hh.2),e1]
  have e3:gq L k m=gA L (eA k) (aO m+4) m.k0:=by unfold gq;rw[Yp h1,Yq h2,Yp hz]
  rw[e1,e2,e3];exact⟨hr4,rfl,hL,fun h=>⟨rfl,h,rfl,rfl,rfl,rfl,rfl,rfl⟩,fun h=>⟨rfl,h,⟨rfl,rfl,rfl,rfl,rfl,rfl⟩,rfl⟩⟩
 have h1:=Ym h1;have h2:=Ym h2;clear h;repeat' (first|with_reducible assumption|with_reducible rfl|with_reducible apply And.intro|with_reducible intro _)
 all_goals(first| (simp_all[gq,bw,cT,eg,e9,fD,dB,cH,dg,void];done)| (simp_all[gq,bw,cT,eg,e9,fD,dB,cH,dg,void];omega))
theorem Lr (L:List Sx.Obj) (k:Key) (m:bm) (i:Int) (hq:lk L k m i):ai Tryz.prog 53 [.sa 0,.key k,jR m,.it .i64 i] [.ro (.arr none 163 (.ob L))] (yT (gq L k m) ((cT L k m).2.2) [jR (bw L k m),.it .i64 (cT L k m).1]) (fun _ _=>False):=
 bn (inl:=(fun f=>f==112||f==47||f==54||f==110)) (ann:=aP) (ab Dy (ab Pm (ab SO ak))) (aD De (aD OI (aD Up aC))) (Iy L k m i hq) (by kernel_rfl)
theorem Lq:lF Tryz.prog 53 Rs:=
 iC (m:=fun x=>Ba.cn x 0) (gg wK (fun _=>rfl)) (fun _=>rfl) (fun _ _=>rfl) fun L x hq=>Lr L x.1 x.2.1 x.2.2.1 hq
theorem Tk (L:List Sx.Obj) (n:Int) (k:Key) (m:bm) (hL:aq L) (hs:aw m.data):
 (decide (b9 (aj L)=0)=true->ey L n k m=false/\0=(aB L n k m).code/\ByteArray.mk (Array.mk [])=(aB L n k m).data/\void=(aB L n k m).k0/\void=(aB L n k m).k1/\void=
  (aB L n k m).k2/\false=cA L n k m/\1=bI L n k m)/\(decide (b9 (aj L)=0)=false->((!(decide (n<0)|| !cZ L k))=true->aw m.data)/\((decide (n<0)|| !cZ L k||
  !rv L m)=true->ey L n k m=false/\0=(aB L n k m).code/\ByteArray.mk (Array.mk [])=(aB L n k m).data/\void=(aB L n k m).k0/\void=(aB L n k m).k1/\void=(aB L n k
  m).k2/\false=cA L n k m/\2=bI L n k m)/\((decide (n<0)|| !cZ L k|| !rv L m)=false->((decide ((ae L k).kind=6)||decide ((ae L k).kind=7))=true->ey L n k m=
  false/\0=(aB L n k m).code/\ByteArray.mk (Array.mk [])=(aB L n k m).data/\void=(aB L n k m).k0/\void=(aB L n k m).k1/\void=(aB L n k m).k2/\false=cA L n k m/\241=
  bI L n k m)/\((decide ((ae L k).kind=6)||decide ((ae L k).kind=7))=false->(decide ((ae L k).kind=0)=true->true=true/\ey L n k m=false/\190=(aB L n k m).code
  /\ByteArray.mk (Array.mk [])=(aB L n k m).data/\void=(aB L n k m).k0/\void=(aB L n k m).k1/\void=(aB L n k m).k2/\false=cA L n k m/\0=bI L n k m)/\(decide ((ae L
  k).kind=0)=false->(decide ((aL L m).code=0)=true->true=true/\true=true/\ey L n k m=false/\0=(aB L n k m).code/\ByteArray.mk (Array.mk [])=(aB L n k m).data/\void=
  (aB L n k m).k0/\void=(aB L n k m).k1/\Key.mk 1 void.oid void.count void.call void.rights (ae L k).kind=(aB L n k m).k2/\false=cA L n k m/\0=bI L n k m)/\(decide ((aL
  L m).code=0)=false->((!decide ((aL L m).code<1))=true->wI (ae L k).kind)/\((decide ((aL L m).code<1)||decide (cI (ae L k).kind<(aL L m).code)||cD (ae
  L k).kind (aL L m).code&& !decide ((aL L m).k2.kind=1))=true->true=true/\ey L n k m=false/\240=(aB L n k m).code/\ByteArray.mk (Array.mk [])=(aB L n k m).data/\void=
  (aB L n k m).k0/\void=(aB L n k m).k1/\void=(aB L n k m).k2/\false=cA L n k m/\0=bI L n k m)/\((decide ((aL L m).code<1)||decide (cI (ae L k).kind<(aL L
  m).code)||cD (ae L k).kind (aL L m).code&& !decide ((aL L m).k2.kind=1))=false->(((decide (0<=(aL L m).k2.value)&&decide ((aL L m).k2.value<=2147483647))=true->∃g:
  Unit,vy L n k m/\n=n/\(ae L k).kind=(ae L k).kind/\(aL L m).k2.value=aO (aL L m)/\L=L/\ae L k=ae L k/\(aL L m).code=(aL L m).code/\(aL L m).data
  =(aL L m).data/\(aL L m).k0=(aL L m).k0/\(aL L m).k1=(aL L m).k1/\(aL L m).k2=(aL L m).k2/\ByteArray.mk (Array.mk [])=ByteArray.mk (Array.mk [])/\void=void/\void=
  void/\void=void)/\((decide (0<=(aL L m).k2.value)&&decide ((aL L m).k2.value<=2147483647))=false->∃g:Unit,vy L n k m/\n=n/\(ae L k).kind=(ae L k).kind/\ -1=aO
  (aL L m)/\L=L/\ae L k=ae L k/\(aL L m).code=(aL L m).code/\(aL L m).data=(aL L m).data/\(aL L m).k0=(aL L m).k0/\(aL L m).k1=(aL L m).k1/\(aL L
  m).k2=(aL L m).k2/\ByteArray.mk (Array.mk [])=ByteArray.mk (Array.mk [])/\void=void/\void=void/\void=void))/\∀(g:Unit),vy L n k m->(decide ((ae L k).kind=1)=true->
  true=true/\true=true/\ey L n k m=false/\0=(aB L n k m).code/\ByteArray.mk (Array.mk [])=(aB L n k m).data/\void=(aB L n k m).k0/\void=(aB L n k m).k1/\Key.mk 1
  void.oid void.count void.call void.rights (ae L k).value=(aB L n k m).k2/\decide ((ae L k).kind=10)=cA L n k m/\0=bI L n k m)/\(decide ((ae L k).kind=1)=false->
  (decide ((ae L k).kind=2)=true->true=true/\lk L (ae L k) (aL L m) (aO (aL L m))/\(jr L (ae L k) (aL L m)=false->((!decide ((dO L (ae L k) (aL L
  m)).fst=0))=true->true=true/\ey L n k m=false/\(dO L (ae L k) (aL L m)).fst=(aB L n k m).code/\ByteArray.mk (Array.mk [])=(aB L n k m).data/\void=(aB L n k m).k0
  /\void=(aB L n k m).k1/\void=(aB L n k m).k2/\decide ((ae L k).kind=10)=cA L n k m/\0=bI L n k m)/\((!decide ((dO L (ae L k) (aL L m)).fst=0))=false->ey L
  n k m=false/\(bS L (ae L k) (aL L m)).code=(aB L n k m).code/\(bS L (ae L k) (aL L m)).data=(aB L n k m).data/\(bS L (ae L k) (aL L m)).k0=(aB L n k
  m).k0/\(bS L (ae L k) (aL L m)).k1=(aB L n k m).k1/\(bS L (ae L k) (aL L m)).k2=(aB L n k m).k2/\decide ((ae L k).kind=10)=cA L n k m/\0=bI L n k m))/\
  (jr L (ae L k) (aL L m)=true->((!decide ((dO L (ae L k) (aL L m)).fst=0))=true->true=true/\ey L n k m=true/\((dO L (ae L k) (aL L m)).fst=(aB L n k
  m).code/\ByteArray.mk (Array.mk [])=(aB L n k m).data/\void=(aB L n k m).k0/\void=(aB L n k m).k1/\void=(aB L n k m).k2/\decide ((ae L k).kind=10)=cA L n k m/\0=
  bI L n k m)/\(dO L (ae L k) (aL L m)).snd.snd=fm L n k m)/\((!decide ((dO L (ae L k) (aL L m)).fst=0))=false->ey L n k m=true/\((bS L (ae L k) (aL L
  m)).code=(aB L n k m).code/\(bS L (ae L k) (aL L m)).data=(aB L n k m).data/\(bS L (ae L k) (aL L m)).k0=(aB L n k m).k0/\(bS L (ae L k) (aL L m)).k1=
  (aB L n k m).k1/\(bS L (ae L k) (aL L m)).k2=(aB L n k m).k2/\decide ((ae L k).kind=10)=cA L n k m/\0=bI L n k m)/\(dO L (ae L k) (aL L m)).snd.snd=
  fm L n k m)))/\(decide ((ae L k).kind=2)=false->(decide ((ae L k).kind=3)=true->true=true/\lk L (ae L k) (aL L m) (aO (aL L m))/\(j6 L (ae L k) (aL L
  m)=false->((!decide ((dM L (ae L k) (aL L m)).fst=0))=true->true=true/\ey L n k m=false/\(dM L (ae L k) (aL L m)).fst=(aB L n k m).code/\ByteArray.mk (Array.mk
  [])=(aB L n k m).data/\void=(aB L n k m).k0/\void=(aB L n k m).k1/\void=(aB L n k m).k2/\decide ((ae L k).kind=10)=cA L n k m/\0=bI L n k m)/\((!decide ((dM
  L (ae L k) (aL L m)).fst=0))=false->ey L n k m=false/\(cx L (ae L k) (aL L m)).code=(aB L n k m).code/\(cx L (ae L k) (aL L m)).data=(aB L n k m).data/\
  (cx L (ae L k) (aL L m)).k0=(aB L n k m).k0/\(cx L (ae L k) (aL L m)).k1=(aB L n k m).k1/\(cx L (ae L k) (aL L m)).k2=(aB L n k m).k2/\decide ((ae L
  k).kind=10)=cA L n k m/\0=bI L n k m))/\(j6 L (ae L k) (aL L m)=true->((!decide ((dM L (ae L k) (aL L m)).fst=0))=true->true=true/\ey L n k m=true/\
  ((dM L (ae L k) (aL L m)).fst=(aB L n k m).code/\ByteArray.mk (Array.mk [])=(aB L n k m).data/\void=(aB L n k m).k0/\void=(aB L n k m).k1/\void=(aB L n k m).k2/\
  decide ((ae L k).kind=10)=cA L n k m/\0=bI L n k m)/\(dM L (ae L k) (aL L m)).snd.snd=fm L n k m)/\((!decide ((dM L (ae L k) (aL L m)).fst=0))=false->
  ey L n k m=true/\((cx L (ae L k) (aL L m)).code=(aB L n k m).code/\(cx L (ae L k) (aL L m)).data=(aB L n k m).data/\(cx L (ae L k) (aL L m)).k0=(aB
  L n k m).k0/\(cx L (ae L k) (aL L m)).k1=(aB L n k m).k1/\(cx L (ae L k) (aL L m)).k2=(aB L n k m).k2/\decide ((ae L k).kind=10)=cA L n k m/\0=bI L n k
  m)/\(dM L (ae L k) (aL L m)).snd.snd=fm L n k m)))/\(decide ((ae L k).kind=3)=false->(decide ((ae L k).kind=4)=true->true=true/\lk L (ae L k) (aL L m)
  (aO (aL L m))/\(fU L (ae L k) (aL L m)=false->((!decide ((cY L (ae L k) (aL L m)).fst=0))=true->true=true/\ey L n k m=false/\(cY L (ae L k) (aL L
  m)).fst=(aB L n k m).code/\ByteArray.mk (Array.mk [])=(aB L n k m).data/\void=(aB L n k m).k0/\void=(aB L n k m).k1/\void=(aB L n k m).k2/\decide ((ae L k).kind=10)
  =cA L n k m/\0=bI L n k m)/\((!decide ((cY L (ae L k) (aL L m)).fst=0))=false->ey L n k m=false/\(aZ L (ae L k) (aL L m)).code=(aB L n k m).code/\(aZ L
  (ae L k) (aL L m)).data=(aB L n k m).data/\(aZ L (ae L k) (aL L m)).k0=(aB L n k m).k0/\(aZ L (ae L k) (aL L m)).k1=(aB L n k m).k1/\(aZ L (ae L k)
  (aL L m)).k2=(aB L n k m).k2/\decide ((ae L k).kind=10)=cA L n k m/\0=bI L n k m))/\(fU L (ae L k) (aL L m)=true->((!decide ((cY L (ae L k) (aL L
  m)).fst=0))=true->true=true/\ey L n k m=true/\((cY L (ae L k) (aL L m)).fst=(aB L n k m).code/\ByteArray.mk (Array.mk [])=(aB L n k m).data/\void=(aB L n k m).k0
  /\void=(aB L n k m).k1/\void=(aB L n k m).k2/\decide ((ae L k).kind=10)=cA L n k m/\0=bI L n k m)/\(cY L (ae L k) (aL L m)).snd.snd=fm L n k m)/\((!decide
  ((cY L (ae L k) (aL L m)).fst=0))=false->ey L n k m=true/\((aZ L (ae L k) (aL L m)).code=(aB L n k m).code/\(aZ L (ae L k) (aL L m)).data=(aB L n k
  m).data/\(aZ L (ae L k) (aL L m)).k0=(aB L n k m).k0/\(aZ L (ae L k) (aL L m)).k1=(aB L n k m).k1/\(aZ L (ae L k) (aL L m)).k2=(aB L n k m).k2/\decide
  ((ae L k).kind=10)=cA L n k m/\0=bI L n k m)/\(cY L (ae L k) (aL L m)).snd.snd=fm L n k m)))/\(decide ((ae L k).kind=4)=false->(decide ((ae L k).kind=5)
  =true->true=true/\lk L (ae L k) (aL L m) (aO (aL L m))/\(gq L (ae L k) (aL L m)=false->((!decide ((cT L (ae L k) (aL L m)).fst=0))=true->true=true/\
  ey L n k m=false/\(cT L (ae L k) (aL L m)).fst=(aB L n k m).code/\ByteArray.mk (Array.mk [])=(aB L n k m).data/\void=(aB L n k m).k0/\void=(aB L n k m).k1/\void=
  (aB L n k m).k2/\decide ((ae L k).kind=10)=cA L n k m/\0=bI L n k m)/\((!decide ((cT L (ae L k) (aL L m)).fst=0))=false->ey L n k m=false/\(bw L (ae L
  k) (aL L m)).code=(aB L n k m).code/\(bw L (ae L k) (aL L m)).data=(aB L n k m).data/\(bw L (ae L k) (aL L m)).k0=(aB L n k m).k0/\(bw L (ae L k) (aL
  L m)).k1=(aB L n k m).k1/\(bw L (ae L k) (aL L m)).k2=(aB L n k m).k2/\decide ((ae L k).kind=10)=cA L n k m/\0=bI L n k m))/\(gq L (ae L k) (aL L m)=
  true->((!decide ((cT L (ae L k) (aL L m)).fst=0))=true->true=true/\ey L n k m=true/\((cT L (ae L k) (aL L m)).fst=(aB L n k m).code/\ByteArray.mk (Array.mk [])=
  (aB L n k m).data/\void=(aB L n k m).k0/\void=(aB L n k m).k1/\void=(aB L n k m).k2/\decide ((ae L k).kind=10)=cA L n k m/\0=bI L n k m)/\(cT L (ae L k)
  (aL L m)).snd.snd=fm L n k m)/\((!decide ((cT L (ae L k) (aL L m)).fst=0))=false->ey L n k m=true/\((bw L (ae L k) (aL L m)).code=(aB L n k m).code/\(bw
  L (ae L k) (aL L m)).data=(aB L n k m).data/\(bw L (ae L k) (aL L m)).k0=(aB L n k m).k0/\(bw L (ae L k) (aL L m)).k1=(aB L n k m).k1/\(bw L (ae L k)
  (aL L m)).k2=(aB L n k m).k2/\decide ((ae L k).kind=10)=cA L n k m/\0=bI L n k m)/\(cT L (ae L k) (aL L m)).snd.snd=fm L n k m)))/\(decide ((ae L k).kind=
  5)=false->(decide ((ae L k).kind=8)=true->(decide ((aL L m).code=1)=true->true=true/\true=true/\ey L n k m=false/\0=(aB L n k m).code/\ByteArray.mk (Array.mk [])=
  (aB L n k m).data/\void=(aB L n k m).k0/\void=(aB L n k m).k1/\Key.mk 1 void.oid void.count void.call void.rights (aL L m).k0.kind=(aB L n k m).k2/\decide ((ae L k).kind=
  10)=cA L n k m/\0=bI L n k m)/\(decide ((aL L m).code=1)=false->(decide ((aL L m).code=2)=true->true=true/\(kF (aL L m).k0 (aL L m).k1=true->true=true/\
  true=true/\ey L n k m=false/\0=(aB L n k m).code/\ByteArray.mk (Array.mk [])=(aB L n k m).data/\void=(aB L n k m).k0/\void=(aB L n k m).k1/\Key.mk 1 void.oid void.count
  void.call void.rights 1=(aB L n k m).k2/\decide ((ae L k).kind=10)=cA L n k m/\0=bI L n k m)/\(kF (aL L m).k0 (aL L m).k1=false->true=true/\true=true/\ey L
  n k m=false/\0=(aB L n k m).code/\ByteArray.mk (Array.mk [])=(aB L n k m).data/\void=(aB L n k m).k0/\void=(aB L n k m).k1/\Key.mk 1 void.oid void.count void.call void.rights
  0=(aB L n k m).k2/\decide ((ae L k).kind=10)=cA L n k m/\0=bI L n k m))/\(decide ((aL L m).code=2)=false->true=true/\true=true/\ey L n k m=false/\0=(aB
  L n k m).code/\ByteArray.mk (Array.mk [])=(aB L n k m).data/\void=(aB L n k m).k0/\void=(aB L n k m).k1/\Key.mk 1 void.oid void.count void.call void.rights (aL L m).k0.rights=
  (aB L n k m).k2/\decide ((ae L k).kind=10)=cA L n k m/\0=bI L n k m)))/\(decide ((ae L k).kind=8)=false->(decide ((ae L k).kind=9)=true->true=true/\true=
  true/\ey L n k m=false/\0=(aB L n k m).code/\ByteArray.mk (Array.mk [])=(aB L n k m).data/\void=(aB L n k m).k0/\void=(aB L n k m).k1/\Key.mk 1 void.oid void.count
  void.call void.rights n=(aB L n k m).k2/\decide ((ae L k).kind=10)=cA L n k m/\0=bI L n k m)/\(decide ((ae L k).kind=9)=false->ey L n k m=false/\0=(aB L n k
  m).code/\ByteArray.mk (Array.mk [])=(aB L n k m).data/\void=(aB L n k m).k0/\void=(aB L n k m).k1/\void=(aB L n k m).k2/\decide ((ae L k).kind=10)=cA L n k m/\0=
  bI L n k m))))))))))))):=by
 have hd:(aL L m).data=m.data:=rfl;have hcd:(aL L m).code=m.code:=rfl;have hsz:b9 (aj L)=0↔aj L=0:=by simp[b9]
 refine⟨fun h=>?_,fun h=>⟨fun _=>hs,fun h2=>?_,fun h2=>⟨fun h3=>?_,fun h3=>⟨fun h4=>?_,fun h4=>⟨fun h5=>?_,fun h5=>⟨fun _=>?_,fun h6=>?_,fun h6=>?_⟩⟩⟩⟩⟩⟩
 ·obtain⟨a,b,c,d⟩:=MB (n:=n) (k:=k) (m:=m) (L:=L) (e:=1) (by unfold bI;rw[Yq (hsz.1 (Yn h))]) (by omega)
  rw[a,b,c];exact⟨rfl,rfl,rfl,rfl,rfl,rfl,rfl,d⟩
 all_goals have h0:¬aj L=0:=fun e=>Ym h (hsz.2 e)
 ·have hf:ph L n k m=false:=PR h2;obtain⟨a,b,c,d⟩:=MB (n:=n) (k:=k) (m:=m) (L:=L) (e:=2) (by unfold bI;rw[Yp h0,Yq hf]) (by omega)
  rw[a,b,c];exact⟨rfl,rfl,rfl,rfl,rfl,rfl,rfl,d⟩
 all_goals have hf:¬ph L n k m=false:=Ni h2
 ·have h3:(ae L k).kind=6\/(ae L k).kind=7:=by simpa using h3
  obtain⟨a,b,c,d⟩:=MB (n:=n) (k:=k) (m:=m) (L:=L) (e:=241) (by unfold bI;rw[Yp h0,Yp hf,Yq h3]) (by omega)
  rw[a,b,c];exact⟨rfl,rfl,rfl,rfl,rfl,rfl,rfl,d⟩
 all_goals have h3:¬((ae L k).kind=6\/(ae L k).kind=7):=by simpa using h3
 all_goals have hE:bI L n k m=0:=by unfold bI;rw[Yp h0,Yp hf,Yp h3]
 ·have h4:=Yn h4;obtain⟨a,b,c,d,e⟩:=A6 (c:=false) (r:=(190,dg,L)) hE (by unfold dn;rw[Yq h4]) (by unfold ti;rw[Yq h4])
  rw[a,b,d,h4];exact⟨rfl,rfl,rfl,rfl,rfl,rfl,rfl,rfl,e⟩
 all_goals have h4:=Ym h4
 ·have h5:=Yn h5;obtain⟨a,b,c,d,e⟩:=A6 (c:=false) (r:=(0,e9 (ae L k).kind,L)) hE (by unfold dn;rw[Yp h4,Yq h5]) (by unfold ti;rw[Yp h4,Yq h5])
  rw[hcd]at h5;rw[a,b,d,h5];refine⟨rfl,rfl,rfl,rfl,rfl,rfl,rfl,rfl,?_,e⟩;simp
 all_goals have h5:=Ym h5
 ·unfold wI;have:=rR (L:=L) (k:=k);unfold aT at this;simp only[Yj,Yk]at this;omega
 ·have h6':(aL L m).code<1\/cI (ae L k).kind<(aL L m).code\/(cD (ae L k).kind (aL L m).code=true/\(aL L m).k2.kind≠1):=by
   simp only[Bool.or_eq_true,Yj,Yk,Bool.not_eq_true',decide_eq_false_iff_not]at h6;rcases h6 with(h6|h6)|h6
   ·exact .inl h6
   ·exact .inr (.inl h6)
   ·exact .inr (.inr h6)
  obtain⟨a,b,c,d,e⟩:=A6 (c:=false) (r:=(240,dg,L)) hE (by unfold dn;rw[Yp h4,Yp h5,Yq h6']) (by unfold ti;rw[Yp h4,Yp h5,Yq h6'])
  have hw:(decide ((ae L k).kind=10)&&decide (m.code=1))=false:=by
   by_cases hk:(ae L k).kind=10
   ·have h1:cI (ae L k).kind=1:=by rw[hk];rfl
    have h2:cD (ae L k).kind (aL L m).code=false:=by rw[hk];rfl
    rw[h2,h1,hcd]at h6';have:¬m.code=1:=fun hm=>by rw[hm]at h6';simp at h6'
    simp[this]
   ·simp[hk]
  rw[a,b,d,hw];exact⟨rfl,rfl,rfl,rfl,rfl,rfl,rfl,rfl,e⟩
 have h6':¬((aL L m).code<1\/cI (ae L k).kind<(aL L m).code\/(cD (ae L k).kind (aL L m).code=true/\(aL L m).k2.kind≠1)):=fun hh=>by
  simp only[Bool.or_eq_false_iff,Bool.and_eq_false_iff,decide_eq_false_iff_not,Bool.not_eq_false',Yk]at h6;obtain⟨⟨h6a,h6b⟩,h6c⟩:=h6;rcases hh with hh|hh|hh
  ·exact h6a hh
  ·exact h6b hh
  ·rcases h6c with h6c|h6c
   ·rw[h6c]at hh;simp at hh
   ·exact hh.2 h6c
 have hZ:vy L n k m:=⟨⟨hL,hs⟩,hE,h4,h5,h6'⟩;refine⟨⟨fun h7=>⟨(),hZ,?_⟩,fun h7=>⟨(),hZ,?_⟩⟩,fun _ _=>?_⟩
 ·have h7:0<=(aL L m).k2.value/\(aL L m).k2.value<=2147483647:=by simpa using h7
  have:(aL L m).k2.value=aO (aL L m):=by unfold aO;rw[Yq h7]
  exact⟨rfl,rfl,this,rfl,rfl,rfl,rfl,rfl,rfl,rfl,rfl,rfl,rfl,rfl⟩
 ·have h7:¬(0<=(aL L m).k2.value/\(aL L m).k2.value<=2147483647):=by simpa using h7
  have: -1=aO (aL L m):=by unfold aO;rw[Yp h7]
  exact⟨rfl,rfl,this,rfl,rfl,rfl,rfl,rfl,rfl,rfl,rfl,rfl,rfl,rfl⟩
 obtain⟨e1,e2,e3,e4,e5⟩:=QK hZ rfl rfl;have hro:lk L (ae L k) (aL L m) (aO (aL L m)):=⟨hL,hs,rR,rfl⟩;clear hZ h6' h6 h5 h4 hE h3 hf h0 h2 h hsz hcd hd hL hs;rw[e1,e2,e3,e4,<-e5];clear e1 e2 e3 e4 e5;generalize ae L k=k' at *
 generalize aL L m=m' at *
 repeat' (first|with_reducible assumption|with_reducible rfl|with_reducible apply And.intro|with_reducible intro _)
 all_goals(first| (simp_all[si,ee,Ip,LM,K4,aZ,fx,e9,dB,cH,dg,void];done)| (simp_all[si,ee,Ip,LM,K4,aZ,fx,e9,dB,cH,dg,void];omega))
theorem TK (L:List Sx.Obj) (n:Int) (k:Key) (m:bm) (hL:aq L) (hs:aw m.data):ai Tryz.prog 30 [.sa 0,.it .i64 n,.key k,jR m] [.ro (.arr none 163 (.ob L))] (yT (ey L n k m) (fm L n k m) [jR (aB L n k m),.bo (cA L n k m),.it .i64 (bI L n k m)]) (fun _ _=>False):=
 bn (inl:=(fun f=>f==112||f==47||f==54||f==110||f==46)) (ann:=(iy [(30,2000019,Yb [0,1,6,7,9,12] (fun(_:Unit)=> [(13,.it .i64 (aO (aL L m)))]) (fun _=> []) (fun _=> []) (fun _=>vy L n k m))])) (ab Br (ab QQ (ab OB (ab qk (ab Qw (ab Ik (ab Jk ak))))))) (aD Ir (aD LO (aD GB (aD Lq aC)))) (Tk L n k m hL hs) (by kernel_rfl)
theorem S3:lF Tryz.prog 30 V4:=
 iC (m:=fun x=>Mr.cn x 0) (gg F3 (fun _=>rfl)) (fun _=>rfl) (fun _ _=>rfl) fun L x hq=>TK L x.1 x.2.1 x.2.2.1 hq.1 hq.2
end Go.Proofs.YtghpaegglbbocaaGreat
