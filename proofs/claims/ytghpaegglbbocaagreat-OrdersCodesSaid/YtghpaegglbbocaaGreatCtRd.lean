import Derived.Test.YtghpaegglbbocaaGreatCtRa
import Derived.Test.YtghpaegglbbocaaGreatSpRd
set_option linter.unusedSimpArgs false
set_option linter.unusedVariables false
namespace Go.Proofs.YtghpaegglbbocaaGreat
open Go.Sx
set_option maxRecDepth 100000
theorem IG (L:List Sx.Obj) (k:Key) (i:Int):
 ((decide (ay L k 2 false=0)&&(decide (i<0)||decide (15<i)))=true->void=aF L k i/\4=bJ L k i)/\((decide (ay L k 2 false=0)&&(decide (i<0)||decide (15<i)))
   =false->((!decide (ay L k 2 false=0))=true->void=aF L k i/\ay L k 2 false=bJ L k i)/\((!decide (ay L k 2 false=0))=false->nb L k i/\cL L k i=aF
   L k i/\0=bJ L k i)):=by
 refine⟨fun h=>?_,fun h=>⟨fun h'=>?_,fun h'=>?_⟩⟩
 ·simp only[Yo,Bool.or_eq_true,Yp]at h;obtain⟨e1,e2⟩:=Mz h.1 h.2;rw[e1,e2];exact⟨rfl,rfl⟩
 ·have h':ay L k 2 false≠0:=by simpa using h'
  obtain⟨e1,e2⟩:=Jj (i:=i) h';rw[e1,e2];exact⟨rfl,rfl⟩
 ·have h':ay L k 2 false=0:=by simpa using h'
  have hr:¬(i<0\/15<i):=by rw[h']at h;simpa using h
  obtain⟨_,b2,b3,_⟩:=dC (fH h').1;obtain⟨e1,e2⟩:=OZ h' hr;rw[e1,e2];exact⟨⟨by omega,by omega,b2,b3⟩,rfl,rfl⟩
theorem Cw:ck Tryz.prog 111 QS:=
 eO (aJ ju (aJ gR (aJ ft cF))) (fun _=>rfl) fun a hq hok=>by
  obtain⟨L,k,i,_⟩:=a;exact aV (inl:=bn) (ann:=aP) (ab od (ab wJ ak)) (IG L k i) (by kernel_rfl)
theorem L5 (L:List Sx.Obj) (k:Key) (i:Int) (v:Key) (hL:aq L):
 ((decide (ay L k 2 true=0)&&(decide (i<0)||decide (15<i)))=true->gA L k i v=false/\void=cA L k i v/\4=bc L k i v)/\((decide (ay L k 2 true=0)&&(decide
   (i<0)||decide (15<i)))=false->((decide (ay L k 2 true=0)&& !cZ L v)=true->gA L k i v=false/\void=cA L k i v/\2=bc L k i v)/\((decide (ay L k 2 true=
   0)&& !cZ L v)=false->((!decide (ay L k 2 true=0))=true->gA L k i v=false/\void=cA L k i v/\ay L k 2 true=bc L k i v)/\((!decide (ay L k 2 true=0))=
   false->nb L k i/\(0<=k.oid/\k.oid< ↑(aj L))/\k.oid.toNat<aj L/\(0<=i/\i< ↑16)/\dS L k.oid/\gA L k i v=true/\(cL L k i=cA L k i v/\0=bc L k i v)/\
   cC L k.oid.toNat (Obj.mk (ah L k.oid.toNat free).kind (ah L k.oid.toNat free).count (ah L k.oid.toNat free).calls ((ah L k.oid.toNat free).slots.put i.toNat (ae L v)) (ah L k.oid.toNat
   free).bytes)=b7 L k i v))):=by
 unfold gA;refine⟨fun h=>?_,fun h=>⟨fun h'=>?_,fun h'=>⟨fun h''=>?_,fun h''=>?_⟩⟩⟩
 ·simp only[Yo,Bool.or_eq_true,Yp]at h;obtain⟨e1,e2,e3⟩:=KA (v:=v) h.1 h.2;rw[e1,e2];exact⟨rfl,rfl,rfl⟩
 ·simp only[Yo,Bool.not_eq_true',Yp]at h';have hr:¬(i<0\/15<i):=by rw[h'.1]at h;simpa using h
  obtain⟨e1,e2,e3⟩:=Kn h'.1 hr h'.2;rw[e1,e2];exact⟨rfl,rfl,rfl⟩
 ·have h'':ay L k 2 true≠0:=by simpa using h''
  obtain⟨e1,e2,e3⟩:=Ki (i:=i) (v:=v) h'';rw[e1,e2];exact⟨by simpa using h'',rfl,rfl⟩
 ·have h'':ay L k 2 true=0:=by simpa using h''
  have hr:¬(i<0\/15<i):=by rw[h'']at h;simpa using h
  have hm:cZ L v=true:=by rw[h'']at h';simpa using h'
  obtain⟨e1,e2,e3⟩:=Pj h'' hr hm;obtain⟨r1,r2,r3,r4⟩:=uy hL (fH h'').1;rw[e1,e2,e3];exact⟨⟨by omega,by omega,r2,r3⟩,⟨r2,r3⟩,r4,⟨by omega,by omega⟩,r1,rfl,⟨rfl,rfl⟩,rfl⟩
theorem JJ (L:List Sx.Obj) (k:Key) (i:Int) (v:Key) (hL:aq L):ai Tryz.prog 113 [.sa 0,.key k,.it .i64 i,.key v] [.ro (.arr none 163 (.ob L))] (yV (gA L k i v) (b7 L k i v) [.key (cA L k i v),.it .i64 (bc L k i v)]) (fun _ _=>False):=
 bp (inl:=bn) (ann:=aP) (ab od (ab wJ (ab BT (ab pC (ab kz ak))))) aC (L5 L k i v hL) (by kernel_rfl)
theorem Dw:lG Tryz.prog 113 N9:=
 iw (m:=fun x=>Tr.cn x 0) (gh OO (fun _=>rfl)) (fun _=>rfl) (fun _ _=>rfl) fun L x hq=>JJ L x.1 x.2.1 x.2.2.1 hq
theorem IU (L:List Sx.Obj) (k:Key) (hL:aq L):
 ((!decide (ay L k 2 true=0))=true->la L k=false/\ay L k 2 true=ay L k 2 true)/\((!decide (ay L k 2 true=0))=false->(0<=k.oid/\k.oid< ↑(aj L))/\k.oid.toNat
   <aj L/\dS L k.oid/\la L k=true/\0=ay L k 2 true/\cC L k.oid.toNat (Obj.mk (ah L k.oid.toNat free).kind (ah L k.oid.toNat free).count (ah L k.oid.toNat free).calls
   fX (ah L k.oid.toNat free).bytes)=eT L k):=by
 unfold la;refine⟨fun h=>?_,fun h=>?_⟩
 ·have h:ay L k 2 true≠0:=by simpa using h
  exact⟨by simpa using h,rfl⟩
 ·have h:ay L k 2 true=0:=by simpa using h
  obtain⟨r1,r2,r3,r4⟩:=uy hL (fH h).1;exact⟨⟨r2,r3⟩,r4,r1,by simpa using h,h.symm,by unfold eT;rw[Yv h];rfl⟩
theorem J5 (L:List Sx.Obj) (k:Key) (hL:aq L):ai Tryz.prog 114 [.sa 0,.key k] [.ro (.arr none 163 (.ob L))] (yV (la L k) (eT L k) [.it .i64 (ay L k 2 true)]) (fun _ _=>False):=
 bp (inl:=bn) (ann:=aP) (ab od (ab kz ak)) aC (IU L k hL) (by kernel_rfl)
theorem KG:lG Tryz.prog 114 Oz:=
 iw (m:=fun x=>kB.cn x 0) (gh CR (fun _=>rfl)) (fun _=>rfl) (fun _ _=>rfl) fun L x hq=>J5 L x.1 hq
theorem Mv (L:List Sx.Obj) (t f:Key) (hL:aq L):
 (decide (ay L t 2 true=0)=true->((!decide (ay L f 2 false=0))=true->jM L t f=false/\ay L f 2 false=bG L t f)/\((!decide (ay L f 2 false=0))=false->(0
  <=t.oid/\t.oid< ↑(aj L))/\t.oid.toNat<aj L/\(∃g,km g/\t=t/\f=f/\Value.slice none 0 0=Value.slice none 0 0/\ay L f 2 false=ay L f 2 false/\0=g/\L=L/\t=t/\
  f=f/\ah L t.oid.toNat free=eo (ah L t.oid.toNat free) (cX L t f g))/\∀(g:Int),km g->(decide (g<16)=true->nb L f g/\(0<=g/\g< ↑16)/\aG IntKind.i64 (g+1)/\∃
  g',km g'/\nA g'<nA g/\t=t/\f=f/\Value.slice none 0 0=Value.slice none 0 0/\ay L f 2 false=ay L f 2 false/\g+1=g'/\L=L/\t=t/\f=f/\Obj.mk (eo
  (ah L t.oid.toNat free) (cX L t f g)).kind (eo (ah L t.oid.toNat free) (cX L t f g)).count (eo (ah L t.oid.toNat free) (cX L t f g)).calls ((eo (ah L t.oid.toNat free)
  (cX L t f g)).slots.put g.toNat (cL L f g)) (eo (ah L t.oid.toNat free) (cX L t f g)).bytes=eo (ah L t.oid.toNat free) (cX L t f g'))/\(decide (g<16)=false->dS L
  t.oid/\jM L t f=true/\0=bG L t f/\cC L t.oid.toNat (eo (ah L t.oid.toNat free) (cX L t f g))=dZ L t f)))/\(decide (ay L t 2 true=0)=false->((!decide
  (ay L t 2 true=0))=true->jM L t f=false/\ay L t 2 true=bG L t f)/\((!decide (ay L t 2 true=0))=false->(0<=t.oid/\t.oid< ↑(aj L))/\t.oid.toNat<aj L/\
  (∃g,km g/\t=t/\f=f/\Value.slice none 0 0=Value.slice none 0 0/\ay L t 2 true=ay L t 2 true/\0=g/\L=L/\t=t/\f=f/\ah L t.oid.toNat free=eo (ah L
  t.oid.toNat free) (cX L t f g))/\∀(g:Int),km g->(decide (g<16)=true->nb L f g/\(0<=g/\g< ↑16)/\aG IntKind.i64 (g+1)/\∃g',km g'/\nA g'<nA g/\t=t/\
  f=f/\Value.slice none 0 0=Value.slice none 0 0/\ay L t 2 true=ay L t 2 true/\g+1=g'/\L=L/\t=t/\f=f/\Obj.mk (eo (ah L t.oid.toNat free) (cX L t f g)).kind
  (eo (ah L t.oid.toNat free) (cX L t f g)).count (eo (ah L t.oid.toNat free) (cX L t f g)).calls ((eo (ah L t.oid.toNat free) (cX L t f g)).slots.put g.toNat (cL L f g))
  (eo (ah L t.oid.toNat free) (cX L t f g)).bytes=eo (ah L t.oid.toNat free) (cX L t f g'))/\(decide (g<16)=false->dS L t.oid/\jM L t f=true/\0=bG L t f/\
  cC L t.oid.toNat (eo (ah L t.oid.toNat free) (cX L t f g))=dZ L t f))):=by
 unfold jM;have no:∀e,bG L t f=e->e≠0->decide (bG L t f=0)=false/\e=bG L t f:=fun e h h0=>⟨by rw[h];simpa using h0,h.symm⟩
 refine⟨fun h=>⟨fun h'=>?_,fun h'=>?_⟩,fun h=>⟨fun h'=>?_,fun h'=>?_⟩⟩
 ·have h:=Ys h;have h':ay L f 2 false≠0:=by simpa using h'
  exact no _ (by unfold bG;rw[Yv h]) h'
 ·have h:=Ys h;have h':ay L f 2 false=0:=by simpa using h'
  have hE:bG L t f=0:=by unfold bG;rw[Yv h];exact h'
  obtain⟨r1,r2,r3,r4⟩:=uy hL (fH h).1;obtain⟨_,s2,s3,_⟩:=uy hL (fH h').1;have hk:=(dC (fH h).1).2.2.2.1;have ho:=(dC (fH h').1).2.2.2.1;refine⟨⟨r2,r3⟩,r4,⟨0,⟨by omega,by omega⟩,?_⟩,fun g hg=>⟨fun hlt=>?_,fun hge=>?_⟩⟩
  ·have hz:=Dq (f:=f) hk;rw[hk]at hz;repeat' apply And.intro
   all_goals first|rfl|exact hz
  ·obtain⟨g0,g1⟩:=hg;have hlt:=Ys hlt;have hs:=Cm (t:=t) g0 ho (ah L t.oid.toNat free) fX;rw[ho]at hs;refine⟨⟨g0,by omega,s2,s3⟩,⟨g0,by omega⟩,by simp only[aG,bY];omega,g+1,⟨by omega,by omega⟩,by unfold nA;omega,?_⟩
   repeat' apply And.intro
   all_goals first|rfl|exact hs
  ·obtain⟨g0,g1⟩:=hg;have hge:=Yr hge;have:g=16:=by omega
   subst this;exact⟨r1,by simpa using hE,hE.symm,by unfold dZ;rw[hE,Yv rfl];rfl⟩
 ·have h:=Yr h;exact no _ (by unfold bG;rw[Yu h]) h
 ·rw[h]at h';simp at h'
theorem JO (L:List Sx.Obj) (t f:Key) (hL:aq L):ai Tryz.prog 115 [.sa 0,.key t,.key f] [.ro (.arr none 163 (.ob L))] (yV (jM L t f) (dZ L t f) [.it .i64 (bG L t f)]) (fun _ _=>False):=
 bp (inl:=bn) (ann:=(iz [(115,8,RK [0,1,2,3,4,5,6,7,8,9] (fun g=> [(10,.it .i64 g)]) 9 (fun g=> .blk tO (.ob (eo (ah L (oZ t.oid) free) (cX L t f g)))) km nA)])) (ab od (ab wJ (ab kz ak))) aC (Mv L t f hL) (by kernel_rfl)
theorem I3:lG Tryz.prog 115 Qj:=
 iw (m:=fun x=>NP.cn x 0) (gh vn (fun _=>rfl)) (fun _=>rfl) (fun _ _=>rfl) fun L x hq=>JO L x.1 x.2.1 hq
theorem H7 (L:List Sx.Obj) (k:Key) (i n:Int) (hL:aq L):
 ((decide (aS L k false=0)&& !bZ i n)=true->ByteArray.mk (Array.mk [])=dR L k i n/\4=b6 L k i n)/\((decide (aS L k false=0)&& !bZ i n)=false->((!decide
   (aS L k false=0))=true->ByteArray.mk (Array.mk [])=dR L k i n/\aS L k false=b6 L k i n)/\((!decide (aS L k false=0))=false->(0<=k.oid/\k.oid< ↑(aj L))/\aG
   IntKind.i64 (i+n)/\B5 i (i+n) 64/\k.oid.toNat<aj L/\Bn (ah L k.oid.toNat free).bytes i.toNat (i+n).toNat=dR L k i n/\0=b6 L k i n)):=by
 refine⟨fun h=>?_,fun h=>⟨fun h'=>?_,fun h'=>?_⟩⟩
 ·rw[Yo,Yp]at h;obtain⟨e1,e2⟩:=yx h.1 h.2;rw[<-e1,<-e2];exact⟨rfl,rfl⟩
 ·have h':aS L k false≠0:=by simpa using h'
  obtain⟨e1,e2⟩:=qe (i:=i) (n:=n) rfl h';rw[<-e1,<-e2];exact⟨rfl,rfl⟩
 ·have h':aS L k false=0:=by simpa using h'
  have hi:(!bZ i n)=false:=by rw[h']at h;simpa using h
  obtain⟨r1,r2,r3,r4⟩:=nL hL (lQ h').1;obtain⟨e1,e2,e3,e4⟩:=wg h' hi;exact⟨⟨r2,r3⟩,e1,e2,r4,e3,e4⟩
theorem HF:ck Tryz.prog 117 LK:=
 eO (aJ ju (aJ gR (aJ ft (aJ ft cF)))) (fun _=>rfl) fun a hq hok=>by
  obtain⟨L,k,i,n,_⟩:=a;exact aV (inl:=bn) (ann:=aP) (ab uA (ab rY ak)) (H7 L k i n hq) (by kernel_rfl)
theorem JD (L:List Sx.Obj) (k:Key) (hL:aq L):
 ((!decide (aS L k true=0))=true->k8 L k=false/\aS L k true=aS L k true)/\((!decide (aS L k true=0))=false->(0<=k.oid/\k.oid< ↑(aj L))/\k.oid.toNat<aj L/\
   dS L k.oid/\k8 L k=true/\0=aS L k true/\cC L k.oid.toNat (Obj.mk (ah L k.oid.toNat free).kind (ah L k.oid.toNat free).count (ah L k.oid.toNat free).calls (ah L
   k.oid.toNat free).slots fW)=eD L k):=by
 unfold k8;refine⟨fun h=>?_,fun h=>?_⟩
 ·have h:aS L k true≠0:=by simpa using h
  exact⟨by simpa using h,rfl⟩
 ·have h:aS L k true=0:=by simpa using h
  obtain⟨r1,r2,r3,r4⟩:=nL hL (lQ h).1;exact⟨⟨r2,r3⟩,r4,r1,by simpa using h,h.symm,by unfold eD;rw[Yv h];rfl⟩
theorem NH (L:List Sx.Obj) (k:Key) (hL:aq L):ai Tryz.prog 119 [.sa 0,.key k] [.ro (.arr none 163 (.ob L))] (yV (k8 L k) (eD L k) [.it .i64 (aS L k true)]) (fun _ _=>False):=
 bp (inl:=bn) (ann:=aP) (ab uA (ab kz ak)) aC (JD L k hL) (by kernel_rfl)
theorem M6:lG Tryz.prog 119 RG:=
 iw (m:=fun x=>kB.cn x 0) (gh CR (fun _=>rfl)) (fun _=>rfl) (fun _ _=>rfl) fun L x hq=>NH L x.1 hq
theorem Rv (L:List Sx.Obj) (t f:Key) (hL:aq L):
 (decide (aS L t true=0)=true->((!decide (aS L f false=0))=true->lC L t f=false/\aS L f false=cx L t f)/\((!decide (aS L f false=0))=false->(0<=t.oid/\
  t.oid< ↑(aj L))/\t.oid.toNat<aj L/\(0<=f.oid/\f.oid< ↑(aj L))/\f.oid.toNat<aj L/\dS L t.oid/\lC L t f=true/\0=cx L t f/\cC L t.oid.toNat (Obj.mk (ah L
  t.oid.toNat free).kind (ah L t.oid.toNat free).count (ah L t.oid.toNat free).calls (ah L t.oid.toNat free).slots (ah L f.oid.toNat free).bytes)=eX L t f))/\(decide (aS L t true=0)
  =false->((!decide (aS L t true=0))=true->lC L t f=false/\aS L t true=cx L t f)/\((!decide (aS L t true=0))=false->(0<=t.oid/\t.oid< ↑(aj L))/\t.oid.toNat<
  aj L/\(0<=f.oid/\f.oid< ↑(aj L))/\f.oid.toNat<aj L/\dS L t.oid/\lC L t f=true/\0=cx L t f/\cC L t.oid.toNat (Obj.mk (ah L t.oid.toNat free).kind (ah L
  t.oid.toNat free).count (ah L t.oid.toNat free).calls (ah L t.oid.toNat free).slots (ah L f.oid.toNat free).bytes)=eX L t f)):=by
 unfold lC;refine⟨fun h=>⟨fun h'=>?_,fun h'=>?_⟩,fun h=>⟨fun h'=>?_,fun h'=>?_⟩⟩
 ·have h:=Ys h;have h':aS L f false≠0:=by simpa using h'
  obtain⟨e1,e2⟩:=FB h rfl h';rw[<-e1];exact⟨by simpa using h',rfl⟩
 ·have h:=Ys h;have h':aS L f false=0:=by simpa using h'
  have hE:cx L t f=0:=by unfold cx;rw[Yv h];exact h'
  obtain⟨r1,r2,r3,r4⟩:=nL hL (lQ h).1;obtain⟨_,s2,s3,s4⟩:=nL hL (lQ h').1;exact⟨⟨r2,r3⟩,r4,⟨s2,s3⟩,s4,r1,by simpa using hE,hE.symm,by unfold eX;rw[hE,Yv rfl];rfl⟩
 ·have h:=Yr h;obtain⟨e1,e2⟩:=uI (f:=f) rfl h;rw[<-e1];exact⟨by simpa using h,rfl⟩
 ·rw[h]at h';simp at h'
theorem PN (L:List Sx.Obj) (t f:Key) (hL:aq L):ai Tryz.prog 120 [.sa 0,.key t,.key f] [.ro (.arr none 163 (.ob L))] (yV (lC L t f) (eX L t f) [.it .i64 (cx L t f)]) (fun _ _=>False):=
 bp (inl:=bn) (ann:=aP) (ab uA (ab kz ak)) aC (Rv L t f hL) (by kernel_rfl)
theorem P5:lG Tryz.prog 120 SF:=
 iw (m:=fun x=>NP.cn x 0) (gh vn (fun _=>rfl)) (fun _=>rfl) (fun _ _=>rfl) fun L x hq=>PN L x.1 x.2.1 hq
theorem Jk (d:Int) (hq:wi d):
 (0<=d/\d< ↑11)/\ah [0,1,6,5,6,7,0,0,3,1,1] d.toNat 0=cH d:=by
 obtain⟨h0,h1⟩:=hq;refine⟨⟨h0,by omega⟩,?_⟩
 have:d=0\/d=1\/d=2\/d=3\/d=4\/d=5\/d=6\/d=7\/d=8\/d=9\/d=10:=by omega
 rcases this with rfl|rfl|rfl|rfl|rfl|rfl|rfl|rfl|rfl|rfl|rfl<;>rfl
theorem Na:ck Tryz.prog 48 OW:=
 eO (aJ ft cF) (fun _=>rfl) fun a hq hok=>by
  obtain⟨d,_⟩:=a;exact aV (inl:=bn) (ann:=aP) ak (Jk d hq) (by kernel_rfl)
theorem JW (a b:Int):
 (decide (a=2)=true->(decide (a=2)=true->(decide (b=1)||decide (b=2)||decide (b=5))=cD a b)/\(decide (a=2)=false->(decide (a=4)=true->decide (b=4)=cD a b)/\
  (decide (a=4)=false->(decide (a=5)=true->(decide (1<=b)&&decide (b<=3)||decide (5<=b)&&decide (b<=7))=cD a b)/\(decide (a=5)=false->false=cD a b))))/\(decide (a=
  2)=false->(decide (a=3)=true->(decide (b=1)||decide (b=2)||decide (b=5))=cD a b)/\(decide (a=3)=false->(decide (a=4)=true->decide (b=4)=cD a b)/\(decide (a=
  4)=false->(decide (a=5)=true->(decide (1<=b)&&decide (b<=3)||decide (5<=b)&&decide (b<=7))=cD a b)/\(decide (a=5)=false->false=cD a b)))):=by
 unfold cD;grind
theorem Iq:ck Tryz.prog 49 Pz:=
 mo (fz .i64) (fz .i64) (fun _ _=>rfl) fun a b ha hb=>aV (inl:=bn) (ann:=aP) ak (JW a b) (by kernel_rfl)
theorem M9 (L:List Sx.Obj) (k:Key) (m:bm) (i:Int) (hq:lj L k m i):
 (decide (m.code=1)=true->true=true/\jq L k m=false/\0=(bS L k m).code/\ByteArray.mk (Array.mk [])=(bS L k m).data/\aF L k i=(bS L k m).k0/\void=(bS L k m).k1/\
  void=(bS L k m).k2/\bJ L k i=(dQ L k m).fst)/\(decide (m.code=1)=false->(decide (m.code=2)=true->true=true/\aq L/\(gA L k i m.k0=false->true=true/\jq L k
  m=false/\0=(bS L k m).code/\ByteArray.mk (Array.mk [])=(bS L k m).data/\cA L k i m.k0=(bS L k m).k0/\void=(bS L k m).k1/\void=(bS L k m).k2/\bc L k i m.k0=
  (dQ L k m).fst)/\(gA L k i m.k0=true->true=true/\jq L k m=true/\(0=(bS L k m).code/\ByteArray.mk (Array.mk [])=(bS L k m).data/\cA L k i m.k0=(bS L k m).k0/\
  void=(bS L k m).k1/\void=(bS L k m).k2/\bc L k i m.k0=(dQ L k m).fst)/\b7 L k i m.k0=(dQ L k m).snd.snd))/\(decide (m.code=2)=false->(decide (m.code=3)=true->
  true=true/\aq L/\(la L k=false->jq L k m=false/\0=(bS L k m).code/\ByteArray.mk (Array.mk [])=(bS L k m).data/\void=(bS L k m).k0/\void=(bS L k m).k1/\void
  =(bS L k m).k2/\ay L k 2 true=(dQ L k m).fst)/\(la L k=true->jq L k m=true/\(0=(bS L k m).code/\ByteArray.mk (Array.mk [])=(bS L k m).data/\void=(bS L k
  m).k0/\void=(bS L k m).k1/\void=(bS L k m).k2/\ay L k 2 true=(dQ L k m).fst)/\eT L k=(dQ L k m).snd.snd))/\(decide (m.code=3)=false->(decide (m.code=4)=true->
  true=true/\aq L/\(jM L k m.k0=false->jq L k m=false/\0=(bS L k m).code/\ByteArray.mk (Array.mk [])=(bS L k m).data/\void=(bS L k m).k0/\void=(bS L k m).k1/\
  void=(bS L k m).k2/\bG L k m.k0=(dQ L k m).fst)/\(jM L k m.k0=true->jq L k m=true/\(0=(bS L k m).code/\ByteArray.mk (Array.mk [])=(bS L k m).data/\void=
  (bS L k m).k0/\void=(bS L k m).k1/\void=(bS L k m).k2/\bG L k m.k0=(dQ L k m).fst)/\dZ L k m.k0=(dQ L k m).snd.snd))/\(decide (m.code=4)=false->(decide (m.code
  =5)=true->((decide (i<0)||decide (7<i))=true->jq L k m=false/\0=(bS L k m).code/\ByteArray.mk (Array.mk [])=(bS L k m).data/\void=(bS L k m).k0/\void=(bS L k
  m).k1/\void=(bS L k m).k2/\2=(dQ L k m).fst)/\((decide (i<0)||decide (7<i))=false->gz k i/\true=true/\jq L k m=false/\0=(bS L k m).code/\ByteArray.mk (Array.mk
  [])=(bS L k m).data/\iB k i=(bS L k m).k0/\void=(bS L k m).k1/\void=(bS L k m).k2/\0=(dQ L k m).fst))/\(decide (m.code=5)=false->((!decide (k.rights=0))=true->
  jq L k m=false/\0=(bS L k m).code/\ByteArray.mk (Array.mk [])=(bS L k m).data/\void=(bS L k m).k0/\void=(bS L k m).k1/\void=(bS L k m).k2/\191=(dQ L k m).fst)/\
  ((!decide (k.rights=0))=false->true=true/\jq L k m=false/\0=(bS L k m).code/\ByteArray.mk (Array.mk [])=(bS L k m).data/\Key.mk 5 k.oid k.count void.call void.rights
  void.value=(bS L k m).k0/\void=(bS L k m).k1/\void=(bS L k m).k2/\0=(dQ L k m).fst)))))):=by
 obtain⟨hL,hs,hk,rfl⟩:=hq;have hlq:gz k (aO m)↔(0<=aO m/\aO m<=7):=by unfold gz;simp[hk]
 have h8:=Nr (m:=m);have hin:=AW (m:=m);have hr:aG IntKind.i64 (64-aO m):=by unfold aG bY;omega
 have hr4:aG IntKind.i64 (aO m+4):=by unfold aG bY;omega
 repeat' (first|with_reducible assumption|with_reducible rfl|with_reducible apply And.intro|with_reducible intro _)
 all_goals(first| (simp_all[jq,bS,dQ,ec,e9,fA,dD,cI,dg,void];done)| (simp_all[jq,bS,dQ,ec,e9,fA,dD,cI,dg,void];omega)| (by_cases hz:0<=m.k2.value/\m.k2.value<=7<;>first| (simp_all[jq,bS,dQ,ec,e9,fA,dD,cI,dg,void];done)| (simp_all[jq,bS,dQ,ec,e9,fA,dD,cI,dg,void];omega)))
theorem JU (L:List Sx.Obj) (k:Key) (m:bm) (i:Int) (hq:lj L k m i):ai Tryz.prog 50 [.sa 0,.key k,jS m,.it .i64 i] [.ro (.arr none 163 (.ob L))] (yV (jq L k m) ((dQ L k m).2.2) [jS (bS L k m),.it .i64 (dQ L k m).1]) (fun _ _=>False):=
 bp (inl:=(fun f=>f==112||f==47||f==54||f==110)) (ann:=aP) (ab Cw (ab Dk ak)) (aD Dw (aD KG (aD I3 aC))) (M9 L k m i hq) (by kernel_rfl)
theorem LQ:lG Tryz.prog 50 Pb:=
 iw (m:=fun x=>A7.cn x 0) (gh wH (fun _=>rfl)) (fun _=>rfl) (fun _ _=>rfl) fun L x hq=>JU L x.1 x.2.1 x.2.2.1 hq
theorem L6 (L:List Sx.Obj) (k:Key) (m:bm) (i:Int) (hq:lj L k m i):
 (decide (m.code=1)=true->aG IntKind.i64 (64-i)/\aq L/\jY L k m=false/\0=(cB L k m).code/\dR L k i (imax 0 (kL 32 (64-i)))=(cB L k m).data/\void=(cB L k
  m).k0/\void=(cB L k m).k1/\void=(cB L k m).k2/\b6 L k i (imax 0 (kL 32 (64-i)))=(dP L k m).fst)/\(decide (m.code=1)=false->(decide (m.code=2)=true->true=true/\
  (aq L/\aw m.data)/\(jx L k i m.data=false->jY L k m=false/\0=(cB L k m).code/\ByteArray.mk (Array.mk [])=(cB L k m).data/\void=(cB L k m).k0/\void=(cB L k
  m).k1/\void=(cB L k m).k2/\cq L k i m.data=(dP L k m).fst)/\(jx L k i m.data=true->jY L k m=true/\(0=(cB L k m).code/\ByteArray.mk (Array.mk [])=(cB L k m).data
  /\void=(cB L k m).k0/\void=(cB L k m).k1/\void=(cB L k m).k2/\cq L k i m.data=(dP L k m).fst)/\eg L k i m.data=(dP L k m).snd.snd))/\(decide (m.code=2)=false->
  (decide (m.code=3)=true->true=true/\aq L/\(k8 L k=false->jY L k m=false/\0=(cB L k m).code/\ByteArray.mk (Array.mk [])=(cB L k m).data/\void=(cB L k m).k0/\
  void=(cB L k m).k1/\void=(cB L k m).k2/\aS L k true=(dP L k m).fst)/\(k8 L k=true->jY L k m=true/\(0=(cB L k m).code/\ByteArray.mk (Array.mk [])=(cB L k
  m).data/\void=(cB L k m).k0/\void=(cB L k m).k1/\void=(cB L k m).k2/\aS L k true=(dP L k m).fst)/\eD L k=(dP L k m).snd.snd))/\(decide (m.code=3)=false->
  (decide (m.code=4)=true->true=true/\aq L/\(lC L k m.k0=false->jY L k m=false/\0=(cB L k m).code/\ByteArray.mk (Array.mk [])=(cB L k m).data/\void=(cB L k m).k0
  /\void=(cB L k m).k1/\void=(cB L k m).k2/\cx L k m.k0=(dP L k m).fst)/\(lC L k m.k0=true->jY L k m=true/\(0=(cB L k m).code/\ByteArray.mk (Array.mk [])=(cB
  L k m).data/\void=(cB L k m).k0/\void=(cB L k m).k1/\void=(cB L k m).k2/\cx L k m.k0=(dP L k m).fst)/\eX L k m.k0=(dP L k m).snd.snd))/\(decide (m.code=4)=false
  ->((decide (i<0)||decide (7<i))=true->jY L k m=false/\0=(cB L k m).code/\ByteArray.mk (Array.mk [])=(cB L k m).data/\void=(cB L k m).k0/\void=(cB L k m).k1/\void
  =(cB L k m).k2/\2=(dP L k m).fst)/\((decide (i<0)||decide (7<i))=false->gz k i/\true=true/\jY L k m=false/\0=(cB L k m).code/\ByteArray.mk (Array.mk [])=(cB
  L k m).data/\iB k i=(cB L k m).k0/\void=(cB L k m).k1/\void=(cB L k m).k2/\0=(dP L k m).fst))))):=by
 obtain⟨hL,hs,hk,rfl⟩:=hq;have hlq:gz k (aO m)↔(0<=aO m/\aO m<=7):=by unfold gz;simp[hk]
 have h8:=Nr (m:=m);have hin:=AW (m:=m);have hr:aG IntKind.i64 (64-aO m):=by unfold aG bY;omega
 have hr4:aG IntKind.i64 (aO m+4):=by unfold aG bY;omega
 repeat' (first|with_reducible assumption|with_reducible rfl|with_reducible apply And.intro|with_reducible intro _)
 all_goals(first| (simp_all[jY,cB,dP,pw,ec,e9,fA,dD,cI,dg,void];done)| (simp_all[jY,cB,dP,pw,ec,e9,fA,dD,cI,dg,void];omega)| (by_cases hz:0<=m.k2.value/\m.k2.value<=7<;>first| (simp_all[jY,cB,dP,pw,ec,e9,fA,dD,cI,dg,void];done)| (simp_all[jY,cB,dP,pw,ec,e9,fA,dD,cI,dg,void];omega)))
theorem Ie (L:List Sx.Obj) (k:Key) (m:bm) (i:Int) (hq:lj L k m i):ai Tryz.prog 51 [.sa 0,.key k,jS m,.it .i64 i] [.ro (.arr none 163 (.ob L))] (yV (jY L k m) ((dP L k m).2.2) [jS (cB L k m),.it .i64 (dP L k m).1]) (fun _ _=>False):=
 bp (inl:=(fun f=>f==112||f==47||f==54||f==110)) (ann:=aP) (ab HF (ab Dk ak)) (aD Mq (aD M6 (aD P5 aC))) (L6 L k m i hq) (by kernel_rfl)
theorem Lf:lG Tryz.prog 51 Rw:=
 iw (m:=fun x=>A7.cn x 0) (gh wH (fun _=>rfl)) (fun _=>rfl) (fun _ _=>rfl) fun L x hq=>Ie L x.1 x.2.1 x.2.2.1 hq
theorem GF (L:List Sx.Obj) (k:Key) (m:bm) (i:Int) (hq:lj L k m i):
 (decide (m.code=1)=true->(decide (m.code=1)=true->true=true/\aq L/\(fN L k m.code=false->true=true/\fT L k m=false/\0=(ba L k m).code/\ByteArray.mk (Array.mk [])
  =(ba L k m).data/\cN L k m.code=(ba L k m).k0/\void=(ba L k m).k1/\void=(ba L k m).k2/\bX L k m.code=(cY L k m).fst)/\(fN L k m.code=true->true=true/\fT
  L k m=true/\(0=(ba L k m).code/\ByteArray.mk (Array.mk [])=(ba L k m).data/\cN L k m.code=(ba L k m).k0/\void=(ba L k m).k1/\void=(ba L k m).k2/\bX L k m.code=
  (cY L k m).fst)/\eI L k m.code=(cY L k m).snd.snd))/\(decide (m.code=1)=false->(decide (m.code=3)=true->true=true/\aq L/\(iU L k m.k0=false->fT L k m=false/\0
  =(ba L k m).code/\ByteArray.mk (Array.mk [])=(ba L k m).data/\void=(ba L k m).k0/\void=(ba L k m).k1/\void=(ba L k m).k2/\b8 L k m.k0=(cY L k m).fst)/\(iU L k
  m.k0=true->fT L k m=true/\(0=(ba L k m).code/\ByteArray.mk (Array.mk [])=(ba L k m).data/\void=(ba L k m).k0/\void=(ba L k m).k1/\void=(ba L k m).k2/\b8 L k
  m.k0=(cY L k m).fst)/\fM L k m.k0=(cY L k m).snd.snd))/\(decide (m.code=3)=false->(decide (m.code=4)=true->true=true/\aq L/\(jX L k i=false->true=true/\fT L k
  m=false/\0=(ba L k m).code/\ByteArray.mk (Array.mk [])=(ba L k m).data/\bO L k i=(ba L k m).k0/\void=(ba L k m).k1/\void=(ba L k m).k2/\bM L k i=(cY L k
  m).fst)/\(jX L k i=true->true=true/\fT L k m=true/\(0=(ba L k m).code/\ByteArray.mk (Array.mk [])=(ba L k m).data/\bO L k i=(ba L k m).k0/\void=(ba L k m).k1/\
  void=(ba L k m).k2/\bM L k i=(cY L k m).fst)/\bu L k i=(cY L k m).snd.snd))/\(decide (m.code=4)=false->(decide (m.code=5)=true->true=true/\(iL L k m.k0=true->
  true=true/\true=true/\fT L k m=false/\0=(ba L k m).code/\ByteArray.mk (Array.mk [])=(ba L k m).data/\void=(ba L k m).k0/\void=(ba L k m).k1/\Key.mk 1 void.oid
  void.count void.call void.rights 1=(ba L k m).k2/\aK L k=(cY L k m).fst)/\(iL L k m.k0=false->true=true/\true=true/\fT L k m=false/\0=(ba L k m).code/\
  ByteArray.mk (Array.mk [])=(ba L k m).data/\void=(ba L k m).k0/\void=(ba L k m).k1/\Key.mk 1 void.oid void.count void.call void.rights 0=(ba L k m).k2/\aK L k=(cY L k
  m).fst))/\(decide (m.code=5)=false->true=true/\aq L/\(jR L k=false->true=true/\true=true/\fT L k m=false/\0=(ba L k m).code/\ByteArray.mk (Array.mk [])=(ba L
  k m).data/\void=(ba L k m).k0/\void=(ba L k m).k1/\Key.mk 1 void.oid void.count void.call void.rights (eJ L k)=(ba L k m).k2/\aK L k=(cY L k m).fst)/\(jR L k=true
  ->true=true/\true=true/\fT L k m=true/\(0=(ba L k m).code/\ByteArray.mk (Array.mk [])=(ba L k m).data/\void=(ba L k m).k0/\void=(ba L k m).k1/\Key.mk 1 void.oid
  void.count void.call void.rights (eJ L k)=(ba L k m).k2/\aK L k=(cY L k m).fst)/\gf L k=(cY L k m).snd.snd))))))/\(decide (m.code=1)=false->(decide (m.code=2)=true
  ->true=true/\aq L/\(fN L k m.code=false->true=true/\fT L k m=false/\0=(ba L k m).code/\ByteArray.mk (Array.mk [])=(ba L k m).data/\cN L k m.code=(ba L k
  m).k0/\void=(ba L k m).k1/\void=(ba L k m).k2/\bX L k m.code=(cY L k m).fst)/\(fN L k m.code=true->true=true/\fT L k m=true/\(0=(ba L k m).code/\ByteArray.mk
  (Array.mk [])=(ba L k m).data/\cN L k m.code=(ba L k m).k0/\void=(ba L k m).k1/\void=(ba L k m).k2/\bX L k m.code=(cY L k m).fst)/\eI L k m.code=(cY L k
  m).snd.snd))/\(decide (m.code=2)=false->(decide (m.code=3)=true->true=true/\aq L/\(iU L k m.k0=false->fT L k m=false/\0=(ba L k m).code/\ByteArray.mk (Array.mk [])
  =(ba L k m).data/\void=(ba L k m).k0/\void=(ba L k m).k1/\void=(ba L k m).k2/\b8 L k m.k0=(cY L k m).fst)/\(iU L k m.k0=true->fT L k m=true/\(0=(ba L k
  m).code/\ByteArray.mk (Array.mk [])=(ba L k m).data/\void=(ba L k m).k0/\void=(ba L k m).k1/\void=(ba L k m).k2/\b8 L k m.k0=(cY L k m).fst)/\fM L k m.k0=(cY L
  k m).snd.snd))/\(decide (m.code=3)=false->(decide (m.code=4)=true->true=true/\aq L/\(jX L k i=false->true=true/\fT L k m=false/\0=(ba L k m).code/\ByteArray.mk
  (Array.mk [])=(ba L k m).data/\bO L k i=(ba L k m).k0/\void=(ba L k m).k1/\void=(ba L k m).k2/\bM L k i=(cY L k m).fst)/\(jX L k i=true->true=true/\fT L k
  m=true/\(0=(ba L k m).code/\ByteArray.mk (Array.mk [])=(ba L k m).data/\bO L k i=(ba L k m).k0/\void=(ba L k m).k1/\void=(ba L k m).k2/\bM L k i=(cY L k
  m).fst)/\bu L k i=(cY L k m).snd.snd))/\(decide (m.code=4)=false->(decide (m.code=5)=true->true=true/\(iL L k m.k0=true->true=true/\true=true/\fT L k m=false/\0
  =(ba L k m).code/\ByteArray.mk (Array.mk [])=(ba L k m).data/\void=(ba L k m).k0/\void=(ba L k m).k1/\Key.mk 1 void.oid void.count void.call void.rights 1=(ba L k m).k2/\
  aK L k=(cY L k m).fst)/\(iL L k m.k0=false->true=true/\true=true/\fT L k m=false/\0=(ba L k m).code/\ByteArray.mk (Array.mk [])=(ba L k m).data/\void=(ba L k
  m).k0/\void=(ba L k m).k1/\Key.mk 1 void.oid void.count void.call void.rights 0=(ba L k m).k2/\aK L k=(cY L k m).fst))/\(decide (m.code=5)=false->true=true/\aq L/\
  (jR L k=false->true=true/\true=true/\fT L k m=false/\0=(ba L k m).code/\ByteArray.mk (Array.mk [])=(ba L k m).data/\void=(ba L k m).k0/\void=(ba L k m).k1/\
  Key.mk 1 void.oid void.count void.call void.rights (eJ L k)=(ba L k m).k2/\aK L k=(cY L k m).fst)/\(jR L k=true->true=true/\true=true/\fT L k m=true/\(0=(ba L
  k m).code/\ByteArray.mk (Array.mk [])=(ba L k m).data/\void=(ba L k m).k0/\void=(ba L k m).k1/\Key.mk 1 void.oid void.count void.call void.rights (eJ L k)=(ba L k m).k2/\
  aK L k=(cY L k m).fst)/\gf L k=(cY L k m).snd.snd)))))):=by
 obtain⟨hL,hs,hk,rfl⟩:=hq;have hlq:gz k (aO m)↔(0<=aO m/\aO m<=7):=by unfold gz;simp[hk]
 have h8:=Nr (m:=m);have hin:=AW (m:=m);have hr:aG IntKind.i64 (64-aO m):=by unfold aG bY;omega
 have hr4:aG IntKind.i64 (aO m+4):=by unfold aG bY;omega
 repeat' (first|with_reducible assumption|with_reducible rfl|with_reducible apply And.intro|with_reducible intro _)
 all_goals(first| (simp_all[fT,ba,cY,ec,e9,fA,dD,cI,dg,void];done)| (simp_all[fT,ba,cY,ec,e9,fA,dD,cI,dg,void];omega)| (by_cases hz:0<=m.k2.value/\m.k2.value<=7<;>first| (simp_all[fT,ba,cY,ec,e9,fA,dD,cI,dg,void];done)| (simp_all[fT,ba,cY,ec,e9,fA,dD,cI,dg,void];omega)))
theorem HM (L:List Sx.Obj) (k:Key) (m:bm) (i:Int) (hq:lj L k m i):ai Tryz.prog 52 [.sa 0,.key k,jS m,.it .i64 i] [.ro (.arr none 163 (.ob L))] (yV (fT L k m) ((cY L k m).2.2) [jS (ba L k m),.it .i64 (cY L k m).1]) (fun _ _=>False):=
 bp (inl:=(fun f=>f==112||f==47||f==54||f==110)) (ann:=aP) (ab IQ ak) (aD ND (aD Q8 (aD Hr (aD LJ aC)))) (GF L k m i hq) (by kernel_rfl)
theorem Hy:lG Tryz.prog 52 KI:=
 iw (m:=fun x=>A7.cn x 0) (gh wH (fun _=>rfl)) (fun _=>rfl) (fun _ _=>rfl) fun L x hq=>HM L x.1 x.2.1 x.2.2.1 hq
theorem LI (L:List Sx.Obj) (k:Key) (m:bm) (i:Int) (hq:lj L k m i):
 (((decide (m.code=1)||decide (m.code=2))&&(decide (i<0)||decide (11<i)))=true->gq L k m=false/\0=(bx L k m).code/\ByteArray.mk (Array.mk [])=(bx L k m).data/\void=
   (bx L k m).k0/\void=(bx L k m).k1/\void=(bx L k m).k2/\4=(cU L k m).fst)/\(((decide (m.code=1)||decide (m.code=2))&&(decide (i<0)||decide (11<i)))=false->(decide
   (m.code=1)=true->aG IntKind.i64 (i+4)/\true=true/\gq L k m=false/\0=(bx L k m).code/\ByteArray.mk (Array.mk [])=(bx L k m).data/\aF L (Key.mk 2 k.oid k.count
   void.call void.rights void.value) (i+4)=(bx L k m).k0/\void=(bx L k m).k1/\void=(bx L k m).k2/\bJ L (Key.mk 2 k.oid k.count void.call void.rights void.value) (i+4)=(cU L
   k m).fst)/\(decide (m.code=1)=false->(decide (m.code=2)=true->aG IntKind.i64 (i+4)/\true=true/\aq L/\(gA L (Key.mk 2 k.oid k.count void.call void.rights void.value) (i+4)
   m.k0=false->true=true/\gq L k m=false/\0=(bx L k m).code/\ByteArray.mk (Array.mk [])=(bx L k m).data/\cA L (Key.mk 2 k.oid k.count void.call void.rights void.value) (i+4)
   m.k0=(bx L k m).k0/\void=(bx L k m).k1/\void=(bx L k m).k2/\bc L (Key.mk 2 k.oid k.count void.call void.rights void.value) (i+4) m.k0=(cU L k m).fst)/\(gA L (Key.mk 2
   k.oid k.count void.call void.rights void.value) (i+4) m.k0=true->true=true/\gq L k m=true/\(0=(bx L k m).code/\ByteArray.mk (Array.mk [])=(bx L k m).data/\cA L (Key.mk 2
   k.oid k.count void.call void.rights void.value) (i+4) m.k0=(bx L k m).k0/\void=(bx L k m).k1/\void=(bx L k m).k2/\bc L (Key.mk 2 k.oid k.count void.call void.rights void.value)
   (i+4) m.k0=(cU L k m).fst)/\b7 L (Key.mk 2 k.oid k.count void.call void.rights void.value) (i+4) m.k0=(cU L k m).snd.snd))/\(decide (m.code=2)=false->(decide (m.code=3)=true
   ->true=true/\gq L k m=false/\0=(bx L k m).code/\ByteArray.mk (Array.mk [])=(bx L k m).data/\Key.mk 6 k.oid k.count void.call void.rights m.k2.value=(bx L k m).k0/\void=
   (bx L k m).k1/\void=(bx L k m).k2/\0=(cU L k m).fst)/\(decide (m.code=3)=false->(decide (m.code=4)=true->true=true/\true=true/\gq L k m=false/\0=(bx L k
   m).code/\ByteArray.mk (Array.mk [])=(bx L k m).data/\void=(bx L k m).k0/\void=(bx L k m).k1/\Key.mk 1 void.oid void.count void.call void.rights (qx L k.oid)=(bx L k m).k2/\0
   =(cU L k m).fst)/\(decide (m.code=4)=false->(decide (m.code=5)=true->true=true/\aq L/\(my L k.oid i=false->gq L k m=false/\0=(bx L k m).code/\ByteArray.mk
   (Array.mk [])=(bx L k m).data/\void=(bx L k m).k0/\void=(bx L k m).k1/\void=(bx L k m).k2/\ea L k.oid i=(cU L k m).fst)/\(my L k.oid i=true->gq L k m=true/\
   (0=(bx L k m).code/\ByteArray.mk (Array.mk [])=(bx L k m).data/\void=(bx L k m).k0/\void=(bx L k m).k1/\void=(bx L k m).k2/\ea L k.oid i=(cU L k m).fst)/\iK L
   k.oid i=(cU L k m).snd.snd))/\(decide (m.code=5)=false->(decide (m.code=6)=true->aq L/\((decide (bR L (aF L (Key.mk 2 k.oid k.count void.call void.rights void.value) 0)
   m.k2.value 32=0)&& !decide (bH L (aF L (Key.mk 2 k.oid k.count void.call void.rights void.value) 0) m.k2.value 32 false=0))=true->aG IntKind.i64 (1000+bH L (aF L (Key.mk 2 k.oid
   k.count void.call void.rights void.value) 0) m.k2.value 32 false)/\gq L k m=false/\0=(bx L k m).code/\jA L (aF L (Key.mk 2 k.oid k.count void.call void.rights void.value) 0)
   m.k2.value 32=(bx L k m).data/\void=(bx L k m).k0/\void=(bx L k m).k1/\void=(bx L k m).k2/\1000+bH L (aF L (Key.mk 2 k.oid k.count void.call void.rights void.value) 0)
   m.k2.value 32 false=(cU L k m).fst)/\((decide (bR L (aF L (Key.mk 2 k.oid k.count void.call void.rights void.value) 0) m.k2.value 32=0)&& !decide (bH L (aF L (Key.mk 2 k.oid k.count
   void.call void.rights void.value) 0) m.k2.value 32 false=0))=false->gq L k m=false/\0=(bx L k m).code/\jA L (aF L (Key.mk 2 k.oid k.count void.call void.rights void.value) 0)
   m.k2.value 32=(bx L k m).data/\void=(bx L k m).k0/\void=(bx L k m).k1/\void=(bx L k m).k2/\bR L (aF L (Key.mk 2 k.oid k.count void.call void.rights void.value) 0)
   m.k2.value 32=(cU L k m).fst))/\(decide (m.code=6)=false->true=true/\(aq L/\aw m.data)/\(k7 L (aF L (Key.mk 2 k.oid k.count void.call void.rights void.value) 0) m.k2.value
   (bW m.data) true=false->((decide (bR L (aF L (Key.mk 2 k.oid k.count void.call void.rights void.value) 0) m.k2.value (bW m.data)=0)&& !decide (bH L (aF L (Key.mk 2 k.oid k.count
   void.call void.rights void.value) 0) m.k2.value (bW m.data) true=0))=true->aG IntKind.i64 (1000+bH L (aF L (Key.mk 2 k.oid k.count void.call void.rights void.value) 0) m.k2.value (bW
   m.data) true)/\gq L k m=false/\0=(bx L k m).code/\ByteArray.mk (Array.mk [])=(bx L k m).data/\void=(bx L k m).k0/\void=(bx L k m).k1/\void=(bx L k m).k2/\1000+
   bH L (aF L (Key.mk 2 k.oid k.count void.call void.rights void.value) 0) m.k2.value (bW m.data) true=(cU L k m).fst)/\((decide (bR L (aF L (Key.mk 2 k.oid k.count void.call void.rights
   void.value) 0) m.k2.value (bW m.data)=0)&& !decide (bH L (aF L (Key.mk 2 k.oid k.count void.call void.rights void.value) 0) m.k2.value (bW m.data) true=0))=false->gq L k m=false/\
   0=(bx L k m).code/\ByteArray.mk (Array.mk [])=(bx L k m).data/\void=(bx L k m).k0/\void=(bx L k m).k1/\void=(bx L k m).k2/\bR L (aF L (Key.mk 2 k.oid k.count
   void.call void.rights void.value) 0) m.k2.value (bW m.data)=(cU L k m).fst))/\(k7 L (aF L (Key.mk 2 k.oid k.count void.call void.rights void.value) 0) m.k2.value (bW m.data) true=true->
   ((decide (bR L (aF L (Key.mk 2 k.oid k.count void.call void.rights void.value) 0) m.k2.value (bW m.data)=0)&& !decide (bH L (aF L (Key.mk 2 k.oid k.count void.call void.rights
   void.value) 0) m.k2.value (bW m.data) true=0))=true->aG IntKind.i64 (1000+bH L (aF L (Key.mk 2 k.oid k.count void.call void.rights void.value) 0) m.k2.value (bW m.data) true)/\gq L
   k m=true/\(0=(bx L k m).code/\ByteArray.mk (Array.mk [])=(bx L k m).data/\void=(bx L k m).k0/\void=(bx L k m).k1/\void=(bx L k m).k2/\1000+bH L (aF L (Key.mk 2
   k.oid k.count void.call void.rights void.value) 0) m.k2.value (bW m.data) true=(cU L k m).fst)/\jy L (aF L (Key.mk 2 k.oid k.count void.call void.rights void.value) 0) m.k2.value m.data=
   (cU L k m).snd.snd)/\((decide (bR L (aF L (Key.mk 2 k.oid k.count void.call void.rights void.value) 0) m.k2.value (bW m.data)=0)&& !decide (bH L (aF L (Key.mk 2 k.oid k.count
   void.call void.rights void.value) 0) m.k2.value (bW m.data) true=0))=false->gq L k m=true/\(0=(bx L k m).code/\ByteArray.mk (Array.mk [])=(bx L k m).data/\void=(bx L k
   m).k0/\void=(bx L k m).k1/\void=(bx L k m).k2/\bR L (aF L (Key.mk 2 k.oid k.count void.call void.rights void.value) 0) m.k2.value (bW m.data)=(cU L k m).fst)/\jy L (aF L
   (Key.mk 2 k.oid k.count void.call void.rights void.value) 0) m.k2.value m.data=(cU L k m).snd.snd))))))))):=by
 obtain⟨hL,hs,hk,rfl⟩:=hq;have hlq:gz k (aO m)↔(0<=aO m/\aO m<=7):=by unfold gz;simp[hk]
 have hin:=AW (m:=m);have hr:aG IntKind.i64 (64-aO m):=by unfold aG bY;omega
 have hr4:aG IntKind.i64 (aO m+4):=by unfold aG bY;omega
 have hw:Key.mk 2 k.oid k.count void.call void.rights void.value=ey k:=rfl;have hro:aF L (ey k) 0=eZ L k:=rfl;have f1:=Gm (L:=L) (k:=eZ L k) (a:=m.k2.value) (n:=32) (w:=false);have f2:=Gm (L:=L) (k:=eZ L k) (a:=m.k2.value) (n:=bW m.data) (w:=true);have g1:aG IntKind.i64 (1000+bH L (eZ L k) m.k2.value 32 false):=by unfold aG bY;omega
 have g2:aG IntKind.i64 (1000+bH L (eZ L k) m.k2.value (bW m.data) true):=by unfold aG bY;omega
 rw[hw,hro];refine⟨fun h=>?_,fun h=>⟨fun h1=>?_,fun h1=>⟨fun h2=>?_,fun h2=>?_⟩⟩⟩
 ·simp only[Yo,Bool.or_eq_true,Yp]at h;obtain⟨h1|h1,h2⟩:=h
  ·simp[gq,bx,cU,h1,h2,dg]
  ·simp[gq,bx,cU,h1,h2,dg]
 ·have h1:=Ys h1;have hz:¬(aO m<0\/11<aO m):=by rw[h1]at h;simpa using h
  have e1:cU L k m=(bJ L (ey k) (aO m+4),ec (aF L (ey k) (aO m+4)),L):=by unfold cU;rw[Yv h1,Yu hz]
  have e2:bx L k m=ec (aF L (ey k) (aO m+4)):=by unfold bx;rw[Yu (fun hh=>hz hh.2),e1]
  have e3:gq L k m=false:=by unfold gq;rw[Yv h1]
  rw[e1,e2,e3];exact⟨hr4,rfl,rfl,rfl,rfl,rfl,rfl,rfl,rfl⟩
 ·have h1:=Yr h1;have h2:=Ys h2;have hz:¬(aO m<0\/11<aO m):=by rw[h2]at h;simpa using h
  have e1:cU L k m=(bc L (ey k) (aO m+4) m.k0,ec (cA L (ey k) (aO m+4) m.k0),b7 L (ey k) (aO m+4) m.k0):=by unfold cU;rw[Yu h1,Yv h2,Yu hz,Yu hz]
  have e2:bx L k m=ec (cA L (ey k) (aO m+4) m.k0):=by unfold bx;rw[Yu (fun hh=>hz hh.2),e1]
  have e3:gq L k m=gA L (ey k) (aO m+4) m.k0:=by unfold gq;rw[Yu h1,Yv h2,Yu hz]
  rw[e1,e2,e3];exact⟨hr4,rfl,hL,fun h=>⟨rfl,h,rfl,rfl,rfl,rfl,rfl,rfl⟩,fun h=>⟨rfl,h,⟨rfl,rfl,rfl,rfl,rfl,rfl⟩,rfl⟩⟩
 have h1:=Yr h1;have h2:=Yr h2;clear h;repeat' (first|with_reducible assumption|with_reducible rfl|with_reducible apply And.intro|with_reducible intro _)
 all_goals(first| (simp_all[gq,bx,cU,ec,e9,fA,dD,cI,dg,void];done)| (simp_all[gq,bx,cU,ec,e9,fA,dD,cI,dg,void];omega))
theorem Kv (L:List Sx.Obj) (k:Key) (m:bm) (i:Int) (hq:lj L k m i):ai Tryz.prog 53 [.sa 0,.key k,jS m,.it .i64 i] [.ro (.arr none 163 (.ob L))] (yV (gq L k m) ((cU L k m).2.2) [jS (bx L k m),.it .i64 (cU L k m).1]) (fun _ _=>False):=
 bp (inl:=(fun f=>f==112||f==47||f==54||f==110)) (ann:=aP) (ab Cw (ab QC (ab TC ak))) (aD Dw (aD Po (aD Tz aC))) (LI L k m i hq) (by kernel_rfl)
theorem Lj:lG Tryz.prog 53 O5:=
 iw (m:=fun x=>A7.cn x 0) (gh wH (fun _=>rfl)) (fun _=>rfl) (fun _ _=>rfl) fun L x hq=>Kv L x.1 x.2.1 x.2.2.1 hq
theorem Ug (L:List Sx.Obj) (n:Int) (k:Key) (m:bm) (hL:aq L) (hs:aw m.data):
 (decide (b9 (aj L)=0)=true->eC L n k m=false/\0=(aB L n k m).code/\ByteArray.mk (Array.mk [])=(aB L n k m).data/\void=(aB L n k m).k0/\void=(aB L n k m).k1/\void=
  (aB L n k m).k2/\false=cz L n k m/\1=bI L n k m)/\(decide (b9 (aj L)=0)=false->((!(decide (n<0)|| !cZ L k))=true->aw m.data)/\((decide (n<0)|| !cZ L k||
  !rH L m)=true->eC L n k m=false/\0=(aB L n k m).code/\ByteArray.mk (Array.mk [])=(aB L n k m).data/\void=(aB L n k m).k0/\void=(aB L n k m).k1/\void=(aB L n k
  m).k2/\false=cz L n k m/\2=bI L n k m)/\((decide (n<0)|| !cZ L k|| !rH L m)=false->((decide ((ae L k).kind=6)||decide ((ae L k).kind=7))=true->eC L n k m=
  false/\0=(aB L n k m).code/\ByteArray.mk (Array.mk [])=(aB L n k m).data/\void=(aB L n k m).k0/\void=(aB L n k m).k1/\void=(aB L n k m).k2/\false=cz L n k m/\241=
  bI L n k m)/\((decide ((ae L k).kind=6)||decide ((ae L k).kind=7))=false->(decide ((ae L k).kind=0)=true->true=true/\eC L n k m=false/\190=(aB L n k m).code
  /\ByteArray.mk (Array.mk [])=(aB L n k m).data/\void=(aB L n k m).k0/\void=(aB L n k m).k1/\void=(aB L n k m).k2/\false=cz L n k m/\0=bI L n k m)/\(decide ((ae L
  k).kind=0)=false->(decide ((aL L m).code=0)=true->true=true/\true=true/\eC L n k m=false/\0=(aB L n k m).code/\ByteArray.mk (Array.mk [])=(aB L n k m).data/\void=
  (aB L n k m).k0/\void=(aB L n k m).k1/\Key.mk 1 void.oid void.count void.call void.rights (ae L k).kind=(aB L n k m).k2/\false=cz L n k m/\0=bI L n k m)/\(decide ((aL
  L m).code=0)=false->((!decide ((aL L m).code<1))=true->wi (ae L k).kind)/\((decide ((aL L m).code<1)||decide (cH (ae L k).kind<(aL L m).code)||cD (ae
  L k).kind (aL L m).code&& !decide ((aL L m).k2.kind=1))=true->true=true/\eC L n k m=false/\240=(aB L n k m).code/\ByteArray.mk (Array.mk [])=(aB L n k m).data/\void=
  (aB L n k m).k0/\void=(aB L n k m).k1/\void=(aB L n k m).k2/\false=cz L n k m/\0=bI L n k m)/\((decide ((aL L m).code<1)||decide (cH (ae L k).kind<(aL L
  m).code)||cD (ae L k).kind (aL L m).code&& !decide ((aL L m).k2.kind=1))=false->(((decide (0<=(aL L m).k2.value)&&decide ((aL L m).k2.value<=2147483647))=true->∃g:
  Unit,vA L n k m/\n=n/\(ae L k).kind=(ae L k).kind/\(aL L m).k2.value=aO (aL L m)/\L=L/\ae L k=ae L k/\(aL L m).code=(aL L m).code/\(aL L m).data
  =(aL L m).data/\(aL L m).k0=(aL L m).k0/\(aL L m).k1=(aL L m).k1/\(aL L m).k2=(aL L m).k2/\ByteArray.mk (Array.mk [])=ByteArray.mk (Array.mk [])/\void=void/\void=
  void/\void=void)/\((decide (0<=(aL L m).k2.value)&&decide ((aL L m).k2.value<=2147483647))=false->∃g:Unit,vA L n k m/\n=n/\(ae L k).kind=(ae L k).kind/\ -1=aO
  (aL L m)/\L=L/\ae L k=ae L k/\(aL L m).code=(aL L m).code/\(aL L m).data=(aL L m).data/\(aL L m).k0=(aL L m).k0/\(aL L m).k1=(aL L m).k1/\(aL L
  m).k2=(aL L m).k2/\ByteArray.mk (Array.mk [])=ByteArray.mk (Array.mk [])/\void=void/\void=void/\void=void))/\∀(g:Unit),vA L n k m->(decide ((ae L k).kind=1)=true->
  true=true/\true=true/\eC L n k m=false/\0=(aB L n k m).code/\ByteArray.mk (Array.mk [])=(aB L n k m).data/\void=(aB L n k m).k0/\void=(aB L n k m).k1/\Key.mk 1
  void.oid void.count void.call void.rights (ae L k).value=(aB L n k m).k2/\decide ((ae L k).kind=10)=cz L n k m/\0=bI L n k m)/\(decide ((ae L k).kind=1)=false->
  (decide ((ae L k).kind=2)=true->true=true/\lj L (ae L k) (aL L m) (aO (aL L m))/\(jq L (ae L k) (aL L m)=false->((!decide ((dQ L (ae L k) (aL L
  m)).fst=0))=true->true=true/\eC L n k m=false/\(dQ L (ae L k) (aL L m)).fst=(aB L n k m).code/\ByteArray.mk (Array.mk [])=(aB L n k m).data/\void=(aB L n k m).k0
  /\void=(aB L n k m).k1/\void=(aB L n k m).k2/\decide ((ae L k).kind=10)=cz L n k m/\0=bI L n k m)/\((!decide ((dQ L (ae L k) (aL L m)).fst=0))=false->eC L
  n k m=false/\(bS L (ae L k) (aL L m)).code=(aB L n k m).code/\(bS L (ae L k) (aL L m)).data=(aB L n k m).data/\(bS L (ae L k) (aL L m)).k0=(aB L n k
  m).k0/\(bS L (ae L k) (aL L m)).k1=(aB L n k m).k1/\(bS L (ae L k) (aL L m)).k2=(aB L n k m).k2/\decide ((ae L k).kind=10)=cz L n k m/\0=bI L n k m))/\
  (jq L (ae L k) (aL L m)=true->((!decide ((dQ L (ae L k) (aL L m)).fst=0))=true->true=true/\eC L n k m=true/\((dQ L (ae L k) (aL L m)).fst=(aB L n k
  m).code/\ByteArray.mk (Array.mk [])=(aB L n k m).data/\void=(aB L n k m).k0/\void=(aB L n k m).k1/\void=(aB L n k m).k2/\decide ((ae L k).kind=10)=cz L n k m/\0=
  bI L n k m)/\(dQ L (ae L k) (aL L m)).snd.snd=fo L n k m)/\((!decide ((dQ L (ae L k) (aL L m)).fst=0))=false->eC L n k m=true/\((bS L (ae L k) (aL L
  m)).code=(aB L n k m).code/\(bS L (ae L k) (aL L m)).data=(aB L n k m).data/\(bS L (ae L k) (aL L m)).k0=(aB L n k m).k0/\(bS L (ae L k) (aL L m)).k1=
  (aB L n k m).k1/\(bS L (ae L k) (aL L m)).k2=(aB L n k m).k2/\decide ((ae L k).kind=10)=cz L n k m/\0=bI L n k m)/\(dQ L (ae L k) (aL L m)).snd.snd=
  fo L n k m)))/\(decide ((ae L k).kind=2)=false->(decide ((ae L k).kind=3)=true->true=true/\lj L (ae L k) (aL L m) (aO (aL L m))/\(jY L (ae L k) (aL L
  m)=false->((!decide ((dP L (ae L k) (aL L m)).fst=0))=true->true=true/\eC L n k m=false/\(dP L (ae L k) (aL L m)).fst=(aB L n k m).code/\ByteArray.mk (Array.mk
  [])=(aB L n k m).data/\void=(aB L n k m).k0/\void=(aB L n k m).k1/\void=(aB L n k m).k2/\decide ((ae L k).kind=10)=cz L n k m/\0=bI L n k m)/\((!decide ((dP
  L (ae L k) (aL L m)).fst=0))=false->eC L n k m=false/\(cB L (ae L k) (aL L m)).code=(aB L n k m).code/\(cB L (ae L k) (aL L m)).data=(aB L n k m).data/\
  (cB L (ae L k) (aL L m)).k0=(aB L n k m).k0/\(cB L (ae L k) (aL L m)).k1=(aB L n k m).k1/\(cB L (ae L k) (aL L m)).k2=(aB L n k m).k2/\decide ((ae L
  k).kind=10)=cz L n k m/\0=bI L n k m))/\(jY L (ae L k) (aL L m)=true->((!decide ((dP L (ae L k) (aL L m)).fst=0))=true->true=true/\eC L n k m=true/\
  ((dP L (ae L k) (aL L m)).fst=(aB L n k m).code/\ByteArray.mk (Array.mk [])=(aB L n k m).data/\void=(aB L n k m).k0/\void=(aB L n k m).k1/\void=(aB L n k m).k2/\
  decide ((ae L k).kind=10)=cz L n k m/\0=bI L n k m)/\(dP L (ae L k) (aL L m)).snd.snd=fo L n k m)/\((!decide ((dP L (ae L k) (aL L m)).fst=0))=false->
  eC L n k m=true/\((cB L (ae L k) (aL L m)).code=(aB L n k m).code/\(cB L (ae L k) (aL L m)).data=(aB L n k m).data/\(cB L (ae L k) (aL L m)).k0=(aB
  L n k m).k0/\(cB L (ae L k) (aL L m)).k1=(aB L n k m).k1/\(cB L (ae L k) (aL L m)).k2=(aB L n k m).k2/\decide ((ae L k).kind=10)=cz L n k m/\0=bI L n k
  m)/\(dP L (ae L k) (aL L m)).snd.snd=fo L n k m)))/\(decide ((ae L k).kind=3)=false->(decide ((ae L k).kind=4)=true->true=true/\lj L (ae L k) (aL L m)
  (aO (aL L m))/\(fT L (ae L k) (aL L m)=false->((!decide ((cY L (ae L k) (aL L m)).fst=0))=true->true=true/\eC L n k m=false/\(cY L (ae L k) (aL L
  m)).fst=(aB L n k m).code/\ByteArray.mk (Array.mk [])=(aB L n k m).data/\void=(aB L n k m).k0/\void=(aB L n k m).k1/\void=(aB L n k m).k2/\decide ((ae L k).kind=10)
  =cz L n k m/\0=bI L n k m)/\((!decide ((cY L (ae L k) (aL L m)).fst=0))=false->eC L n k m=false/\(ba L (ae L k) (aL L m)).code=(aB L n k m).code/\(ba L
  (ae L k) (aL L m)).data=(aB L n k m).data/\(ba L (ae L k) (aL L m)).k0=(aB L n k m).k0/\(ba L (ae L k) (aL L m)).k1=(aB L n k m).k1/\(ba L (ae L k)
  (aL L m)).k2=(aB L n k m).k2/\decide ((ae L k).kind=10)=cz L n k m/\0=bI L n k m))/\(fT L (ae L k) (aL L m)=true->((!decide ((cY L (ae L k) (aL L
  m)).fst=0))=true->true=true/\eC L n k m=true/\((cY L (ae L k) (aL L m)).fst=(aB L n k m).code/\ByteArray.mk (Array.mk [])=(aB L n k m).data/\void=(aB L n k m).k0
  /\void=(aB L n k m).k1/\void=(aB L n k m).k2/\decide ((ae L k).kind=10)=cz L n k m/\0=bI L n k m)/\(cY L (ae L k) (aL L m)).snd.snd=fo L n k m)/\((!decide
  ((cY L (ae L k) (aL L m)).fst=0))=false->eC L n k m=true/\((ba L (ae L k) (aL L m)).code=(aB L n k m).code/\(ba L (ae L k) (aL L m)).data=(aB L n k
  m).data/\(ba L (ae L k) (aL L m)).k0=(aB L n k m).k0/\(ba L (ae L k) (aL L m)).k1=(aB L n k m).k1/\(ba L (ae L k) (aL L m)).k2=(aB L n k m).k2/\decide
  ((ae L k).kind=10)=cz L n k m/\0=bI L n k m)/\(cY L (ae L k) (aL L m)).snd.snd=fo L n k m)))/\(decide ((ae L k).kind=4)=false->(decide ((ae L k).kind=5)
  =true->true=true/\lj L (ae L k) (aL L m) (aO (aL L m))/\(gq L (ae L k) (aL L m)=false->((!decide ((cU L (ae L k) (aL L m)).fst=0))=true->true=true/\
  eC L n k m=false/\(cU L (ae L k) (aL L m)).fst=(aB L n k m).code/\ByteArray.mk (Array.mk [])=(aB L n k m).data/\void=(aB L n k m).k0/\void=(aB L n k m).k1/\void=
  (aB L n k m).k2/\decide ((ae L k).kind=10)=cz L n k m/\0=bI L n k m)/\((!decide ((cU L (ae L k) (aL L m)).fst=0))=false->eC L n k m=false/\(bx L (ae L
  k) (aL L m)).code=(aB L n k m).code/\(bx L (ae L k) (aL L m)).data=(aB L n k m).data/\(bx L (ae L k) (aL L m)).k0=(aB L n k m).k0/\(bx L (ae L k) (aL
  L m)).k1=(aB L n k m).k1/\(bx L (ae L k) (aL L m)).k2=(aB L n k m).k2/\decide ((ae L k).kind=10)=cz L n k m/\0=bI L n k m))/\(gq L (ae L k) (aL L m)=
  true->((!decide ((cU L (ae L k) (aL L m)).fst=0))=true->true=true/\eC L n k m=true/\((cU L (ae L k) (aL L m)).fst=(aB L n k m).code/\ByteArray.mk (Array.mk [])=
  (aB L n k m).data/\void=(aB L n k m).k0/\void=(aB L n k m).k1/\void=(aB L n k m).k2/\decide ((ae L k).kind=10)=cz L n k m/\0=bI L n k m)/\(cU L (ae L k)
  (aL L m)).snd.snd=fo L n k m)/\((!decide ((cU L (ae L k) (aL L m)).fst=0))=false->eC L n k m=true/\((bx L (ae L k) (aL L m)).code=(aB L n k m).code/\(bx
  L (ae L k) (aL L m)).data=(aB L n k m).data/\(bx L (ae L k) (aL L m)).k0=(aB L n k m).k0/\(bx L (ae L k) (aL L m)).k1=(aB L n k m).k1/\(bx L (ae L k)
  (aL L m)).k2=(aB L n k m).k2/\decide ((ae L k).kind=10)=cz L n k m/\0=bI L n k m)/\(cU L (ae L k) (aL L m)).snd.snd=fo L n k m)))/\(decide ((ae L k).kind=
  5)=false->(decide ((ae L k).kind=8)=true->(decide ((aL L m).code=1)=true->true=true/\true=true/\eC L n k m=false/\0=(aB L n k m).code/\ByteArray.mk (Array.mk [])=
  (aB L n k m).data/\void=(aB L n k m).k0/\void=(aB L n k m).k1/\Key.mk 1 void.oid void.count void.call void.rights (aL L m).k0.kind=(aB L n k m).k2/\decide ((ae L k).kind=
  10)=cz L n k m/\0=bI L n k m)/\(decide ((aL L m).code=1)=false->(decide ((aL L m).code=2)=true->true=true/\(kq (aL L m).k0 (aL L m).k1=true->true=true/\
  true=true/\eC L n k m=false/\0=(aB L n k m).code/\ByteArray.mk (Array.mk [])=(aB L n k m).data/\void=(aB L n k m).k0/\void=(aB L n k m).k1/\Key.mk 1 void.oid void.count
  void.call void.rights 1=(aB L n k m).k2/\decide ((ae L k).kind=10)=cz L n k m/\0=bI L n k m)/\(kq (aL L m).k0 (aL L m).k1=false->true=true/\true=true/\eC L
  n k m=false/\0=(aB L n k m).code/\ByteArray.mk (Array.mk [])=(aB L n k m).data/\void=(aB L n k m).k0/\void=(aB L n k m).k1/\Key.mk 1 void.oid void.count void.call void.rights
  0=(aB L n k m).k2/\decide ((ae L k).kind=10)=cz L n k m/\0=bI L n k m))/\(decide ((aL L m).code=2)=false->true=true/\true=true/\eC L n k m=false/\0=(aB
  L n k m).code/\ByteArray.mk (Array.mk [])=(aB L n k m).data/\void=(aB L n k m).k0/\void=(aB L n k m).k1/\Key.mk 1 void.oid void.count void.call void.rights (aL L m).k0.rights=
  (aB L n k m).k2/\decide ((ae L k).kind=10)=cz L n k m/\0=bI L n k m)))/\(decide ((ae L k).kind=8)=false->(decide ((ae L k).kind=9)=true->true=true/\true=
  true/\eC L n k m=false/\0=(aB L n k m).code/\ByteArray.mk (Array.mk [])=(aB L n k m).data/\void=(aB L n k m).k0/\void=(aB L n k m).k1/\Key.mk 1 void.oid void.count
  void.call void.rights n=(aB L n k m).k2/\decide ((ae L k).kind=10)=cz L n k m/\0=bI L n k m)/\(decide ((ae L k).kind=9)=false->eC L n k m=false/\0=(aB L n k
  m).code/\ByteArray.mk (Array.mk [])=(aB L n k m).data/\void=(aB L n k m).k0/\void=(aB L n k m).k1/\void=(aB L n k m).k2/\decide ((ae L k).kind=10)=cz L n k m/\0=
  bI L n k m))))))))))))):=by
 have hd:(aL L m).data=m.data:=rfl;have hcd:(aL L m).code=m.code:=rfl;have hsz:b9 (aj L)=0↔aj L=0:=by simp[b9]
 refine⟨fun h=>?_,fun h=>⟨fun _=>hs,fun h2=>?_,fun h2=>⟨fun h3=>?_,fun h3=>⟨fun h4=>?_,fun h4=>⟨fun h5=>?_,fun h5=>⟨fun _=>?_,fun h6=>?_,fun h6=>?_⟩⟩⟩⟩⟩⟩
 ·obtain⟨a,b,c,d⟩:=Io (n:=n) (k:=k) (m:=m) (L:=L) (e:=1) (by unfold bI;rw[Yv (hsz.1 (Ys h))]) (by omega)
  rw[a,b,c];exact⟨rfl,rfl,rfl,rfl,rfl,rfl,rfl,d⟩
 all_goals have h0:¬aj L=0:=fun e=>Yr h (hsz.2 e)
 ·have hf:ph L n k m=false:=Pq h2;obtain⟨a,b,c,d⟩:=Io (n:=n) (k:=k) (m:=m) (L:=L) (e:=2) (by unfold bI;rw[Yu h0,Yv hf]) (by omega)
  rw[a,b,c];exact⟨rfl,rfl,rfl,rfl,rfl,rfl,rfl,d⟩
 all_goals have hf:¬ph L n k m=false:=K2 h2
 ·have h3:(ae L k).kind=6\/(ae L k).kind=7:=by simpa using h3
  obtain⟨a,b,c,d⟩:=Io (n:=n) (k:=k) (m:=m) (L:=L) (e:=241) (by unfold bI;rw[Yu h0,Yu hf,Yv h3]) (by omega)
  rw[a,b,c];exact⟨rfl,rfl,rfl,rfl,rfl,rfl,rfl,d⟩
 all_goals have h3:¬((ae L k).kind=6\/(ae L k).kind=7):=by simpa using h3
 all_goals have hE:bI L n k m=0:=by unfold bI;rw[Yu h0,Yu hf,Yu h3]
 ·have h4:=Ys h4;obtain⟨a,b,c,d,e⟩:=BP (c:=false) (r:=(190,dg,L)) hE (by unfold dq;rw[Yv h4]) (by unfold th;rw[Yv h4])
  rw[a,b,d,h4];exact⟨rfl,rfl,rfl,rfl,rfl,rfl,rfl,rfl,e⟩
 all_goals have h4:=Yr h4
 ·have h5:=Ys h5;obtain⟨a,b,c,d,e⟩:=BP (c:=false) (r:=(0,e9 (ae L k).kind,L)) hE (by unfold dq;rw[Yu h4,Yv h5]) (by unfold th;rw[Yu h4,Yv h5])
  rw[hcd]at h5;rw[a,b,d,h5];refine⟨rfl,rfl,rfl,rfl,rfl,rfl,rfl,rfl,?_,e⟩;simp
 all_goals have h5:=Yr h5
 ·unfold wi;have:=rT (L:=L) (k:=k);unfold aT at this;simp only[Yo,Yp]at this;omega
 ·have h6':(aL L m).code<1\/cH (ae L k).kind<(aL L m).code\/(cD (ae L k).kind (aL L m).code=true/\(aL L m).k2.kind≠1):=by
   simp only[Bool.or_eq_true,Yo,Yp,Bool.not_eq_true',decide_eq_false_iff_not]at h6;rcases h6 with(h6|h6)|h6
   ·exact .inl h6
   ·exact .inr (.inl h6)
   ·exact .inr (.inr h6)
  obtain⟨a,b,c,d,e⟩:=BP (c:=false) (r:=(240,dg,L)) hE (by unfold dq;rw[Yu h4,Yu h5,Yv h6']) (by unfold th;rw[Yu h4,Yu h5,Yv h6'])
  have hw:(decide ((ae L k).kind=10)&&decide (m.code=1))=false:=by
   by_cases hk:(ae L k).kind=10
   ·have h1:cH (ae L k).kind=1:=by rw[hk];rfl
    have h2:cD (ae L k).kind (aL L m).code=false:=by rw[hk];rfl
    rw[h2,h1,hcd]at h6';have:¬m.code=1:=fun hm=>by rw[hm]at h6';simp at h6'
    simp[this]
   ·simp[hk]
  rw[a,b,d,hw];exact⟨rfl,rfl,rfl,rfl,rfl,rfl,rfl,rfl,e⟩
 have h6':¬((aL L m).code<1\/cH (ae L k).kind<(aL L m).code\/(cD (ae L k).kind (aL L m).code=true/\(aL L m).k2.kind≠1)):=fun hh=>by
  simp only[Bool.or_eq_false_iff,Bool.and_eq_false_iff,decide_eq_false_iff_not,Bool.not_eq_false',Yp]at h6;obtain⟨⟨h6a,h6b⟩,h6c⟩:=h6;rcases hh with hh|hh|hh
  ·exact h6a hh
  ·exact h6b hh
  ·rcases h6c with h6c|h6c
   ·rw[h6c]at hh;simp at hh
   ·exact hh.2 h6c
 have hZ:vA L n k m:=⟨⟨hL,hs⟩,hE,h4,h5,h6'⟩;refine⟨⟨fun h7=>⟨(),hZ,?_⟩,fun h7=>⟨(),hZ,?_⟩⟩,fun _ _=>?_⟩
 ·have h7:0<=(aL L m).k2.value/\(aL L m).k2.value<=2147483647:=by simpa using h7
  have:(aL L m).k2.value=aO (aL L m):=by unfold aO;rw[Yv h7]
  exact⟨rfl,rfl,this,rfl,rfl,rfl,rfl,rfl,rfl,rfl,rfl,rfl,rfl,rfl⟩
 ·have h7:¬(0<=(aL L m).k2.value/\(aL L m).k2.value<=2147483647):=by simpa using h7
  have: -1=aO (aL L m):=by unfold aO;rw[Yu h7]
  exact⟨rfl,rfl,this,rfl,rfl,rfl,rfl,rfl,rfl,rfl,rfl,rfl,rfl,rfl⟩
 obtain⟨e1,e2,e3,e4,e5⟩:=QG hZ rfl rfl;have hro:lj L (ae L k) (aL L m) (aO (aL L m)):=⟨hL,hs,rT,rfl⟩;clear hZ h6' h6 h5 h4 hE h3 hf h0 h2 h hsz hcd hd hL hs;rw[e1,e2,e3,e4,<-e5];clear e1 e2 e3 e4 e5;generalize ae L k=k' at *
 generalize aL L m=m' at *
 repeat' (first|with_reducible assumption|with_reducible rfl|with_reducible apply And.intro|with_reducible intro _)
 all_goals(first| (simp_all[rU,ee,Nq,Mu,LN,ba,fx,e9,dD,cI,dg,void];done)| (simp_all[rU,ee,Nq,Mu,LN,ba,fx,e9,dD,cI,dg,void];omega))
theorem Sp (L:List Sx.Obj) (n:Int) (k:Key) (m:bm) (hL:aq L) (hs:aw m.data):ai Tryz.prog 30 [.sa 0,.it .i64 n,.key k,jS m] [.ro (.arr none 163 (.ob L))] (yV (eC L n k m) (fo L n k m) [jS (aB L n k m),.bo (cz L n k m),.it .i64 (bI L n k m)]) (fun _ _=>False):=
 bp (inl:=(fun f=>f==112||f==47||f==54||f==110||f==46)) (ann:=(iz [(30,2000019,X9 [0,1,6,7,9,12] (fun(_:Unit)=> [(13,.it .i64 (aO (aL L m)))]) (fun _=> []) (fun _=> []) (fun _=>vA L n k m))])) (ab BT (ab Py (ab OJ (ab pC (ab Qq (ab Na (ab Iq ak))))))) (aD LQ (aD Lf (aD Hy (aD Lj aC)))) (Ug L n k m hL hs) (by kernel_rfl)
theorem SP:lG Tryz.prog 30 Vs:=
 iw (m:=fun x=>Mp.cn x 0) (gh GB (fun _=>rfl)) (fun _=>rfl) (fun _ _=>rfl) fun L x hq=>Sp L x.1 x.2.1 x.2.2.1 hq.1 hq.2
end Go.Proofs.YtghpaegglbbocaaGreat
