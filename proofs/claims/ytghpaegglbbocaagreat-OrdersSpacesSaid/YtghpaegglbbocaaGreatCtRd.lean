import Derived.Test.YtghpaegglbbocaaGreatCtRa
import Derived.Test.YtghpaegglbbocaaGreatSpRd
set_option linter.unusedSimpArgs false
set_option linter.unusedVariables false
namespace Go.Proofs.YtghpaegglbbocaaGreat
open Go.Sx
set_option maxRecDepth 100000
theorem Ma (L:List Sx.Obj) (k:Key) (i:Int):
 ((decide (aw L k 2 false=0)&&(decide (i<0)||decide (15<i)))=true->void=aE L k i/\4=bI L k i)/\((decide (aw L k 2 false=0)&&(decide (i<0)||decide (15<i)))
   =false->((!decide (aw L k 2 false=0))=true->void=aE L k i/\aw L k 2 false=bI L k i)/\((!decide (aw L k 2 false=0))=false->mZ L k i/\cN L k i=aE
   L k i/\0=bI L k i)):=by
 refine⟨fun h=>?_,fun h=>⟨fun h'=>?_,fun h'=>?_⟩⟩
 ·simp only[XK,Bool.or_eq_true,XL]at h;obtain⟨e1,e2⟩:=Ij h.1 h.2;rw[e1,e2];exact⟨rfl,rfl⟩
 ·have h':aw L k 2 false≠0:=by simpa using h'
  obtain⟨e1,e2⟩:=ME (i:=i) h';rw[e1,e2];exact⟨rfl,rfl⟩
 ·have h':aw L k 2 false=0:=by simpa using h'
  have hr:¬(i<0\/15<i):=by rw[h']at h;simpa using h
  obtain⟨_,b2,b3,_⟩:=dB (fD h').1;obtain⟨e1,e2⟩:=NK h' hr;rw[e1,e2];exact⟨⟨by omega,by omega,b2,b3⟩,rfl,rfl⟩
theorem Ce:cj Tryz.prog 111 Pr:=
 eY (aJ jo (aJ gM (aJ fl cK))) (fun _=>rfl) fun a hq hok=>by
  obtain⟨L,k,i,_⟩:=a;exact aW (inl:=bn) (ann:=aP) (ae nI (ae vO an)) (Ma L k i) (by kernel_rfl)
theorem LG (L:List Sx.Obj) (k:Key) (i:Int) (v:Key) (hL:aq L):
 ((decide (aw L k 2 true=0)&&(decide (i<0)||decide (15<i)))=true->gx L k i v=false/\void=cA L k i v/\4=bc L k i v)/\((decide (aw L k 2 true=0)&&(decide
   (i<0)||decide (15<i)))=false->((decide (aw L k 2 true=0)&& !cZ L v)=true->gx L k i v=false/\void=cA L k i v/\2=bc L k i v)/\((decide (aw L k 2 true=
   0)&& !cZ L v)=false->((!decide (aw L k 2 true=0))=true->gx L k i v=false/\void=cA L k i v/\aw L k 2 true=bc L k i v)/\((!decide (aw L k 2 true=0))=
   false->mZ L k i/\(0<=k.oid/\k.oid< ↑(aj L))/\k.oid.toNat<aj L/\(0<=i/\i< ↑16)/\dN L k.oid/\gx L k i v=true/\(cN L k i=cA L k i v/\0=bc L k i v)/\
   cx L k.oid.toNat (Obj.mk (ah L k.oid.toNat free).kind (ah L k.oid.toNat free).count (ah L k.oid.toNat free).calls ((ah L k.oid.toNat free).slots.put i.toNat (ab L v)) (ah L k.oid.toNat
   free).bytes)=bZ L k i v))):=by
 unfold gx;refine⟨fun h=>?_,fun h=>⟨fun h'=>?_,fun h'=>⟨fun h''=>?_,fun h''=>?_⟩⟩⟩
 ·simp only[XK,Bool.or_eq_true,XL]at h;obtain⟨e1,e2,e3⟩:=LJ (v:=v) h.1 h.2;rw[e1,e2];exact⟨rfl,rfl,rfl⟩
 ·simp only[XK,Bool.not_eq_true',XL]at h';have hr:¬(i<0\/15<i):=by rw[h'.1]at h;simpa using h
  obtain⟨e1,e2,e3⟩:=Li h'.1 hr h'.2;rw[e1,e2];exact⟨rfl,rfl,rfl⟩
 ·have h'':aw L k 2 true≠0:=by simpa using h''
  obtain⟨e1,e2,e3⟩:=Lr (i:=i) (v:=v) h'';rw[e1,e2];exact⟨by simpa using h'',rfl,rfl⟩
 ·have h'':aw L k 2 true=0:=by simpa using h''
  have hr:¬(i<0\/15<i):=by rw[h'']at h;simpa using h
  have hm:cZ L v=true:=by rw[h'']at h';simpa using h'
  obtain⟨e1,e2,e3⟩:=Oj h'' hr hm;obtain⟨r1,r2,r3,r4⟩:=sQ hL (fD h'').1;rw[e1,e2,e3];exact⟨⟨by omega,by omega,r2,r3⟩,⟨r2,r3⟩,r4,⟨by omega,by omega⟩,r1,rfl,⟨rfl,rfl⟩,rfl⟩
theorem M4 (L:List Sx.Obj) (k:Key) (i:Int) (v:Key) (hL:aq L):ai Tryz.prog 113 [.sa 0,.key k,.it .i64 i,.key v] [.ro (.arr none 163 (.ob L))] (yr (gx L k i v) (bZ L k i v) [.key (cA L k i v),.it .i64 (bc L k i v)]) (fun _ _=>False):=
 br (inl:=bn) (ann:=aP) (ae nI (ae vO (ae AW (ae pH (ae j7 an))))) aC (LG L k i v hL) (by kernel_rfl)
theorem B9:ll Tryz.prog 113 Pg:=
 iq (m:=fun x=>SC.cn x 0) (gg Pz (fun _=>rfl)) (fun _=>rfl) (fun _ _=>rfl) fun L x hq=>M4 L x.1 x.2.1 x.2.2.1 hq
theorem Ia (L:List Sx.Obj) (k:Key) (hL:aq L):
 ((!decide (aw L k 2 true=0))=true->k7 L k=false/\aw L k 2 true=aw L k 2 true)/\((!decide (aw L k 2 true=0))=false->(0<=k.oid/\k.oid< ↑(aj L))/\k.oid.toNat
   <aj L/\dN L k.oid/\k7 L k=true/\0=aw L k 2 true/\cx L k.oid.toNat (Obj.mk (ah L k.oid.toNat free).kind (ah L k.oid.toNat free).count (ah L k.oid.toNat free).calls
   fV (ah L k.oid.toNat free).bytes)=eM L k):=by
 unfold k7;refine⟨fun h=>?_,fun h=>?_⟩
 ·have h:aw L k 2 true≠0:=by simpa using h
  exact⟨by simpa using h,rfl⟩
 ·have h:aw L k 2 true=0:=by simpa using h
  obtain⟨r1,r2,r3,r4⟩:=sQ hL (fD h).1;exact⟨⟨r2,r3⟩,r4,r1,by simpa using h,h.symm,by unfold eM;rw[XR h];rfl⟩
theorem Mk (L:List Sx.Obj) (k:Key) (hL:aq L):ai Tryz.prog 114 [.sa 0,.key k] [.ro (.arr none 163 (.ob L))] (yr (k7 L k) (eM L k) [.it .i64 (aw L k 2 true)]) (fun _ _=>False):=
 br (inl:=bn) (ann:=aP) (ae nI (ae j7 an)) aC (Ia L k hL) (by kernel_rfl)
theorem Iv:ll Tryz.prog 114 Pd:=
 iq (m:=fun x=>kB.cn x 0) (gg BM (fun _=>rfl)) (fun _=>rfl) (fun _ _=>rfl) fun L x hq=>Mk L x.1 hq
theorem Ie (L:List Sx.Obj) (t f:Key) (hL:aq L):
 (decide (aw L t 2 true=0)=true->((!decide (aw L f 2 false=0))=true->jF L t f=false/\aw L f 2 false=bG L t f)/\((!decide (aw L f 2 false=0))=false->(0
  <=t.oid/\t.oid< ↑(aj L))/\t.oid.toNat<aj L/\(∃g,j6 g/\t=t/\f=f/\Value.slice none 0 0=Value.slice none 0 0/\aw L f 2 false=aw L f 2 false/\0=g/\L=L/\t=t/\
  f=f/\ah L t.oid.toNat free=en (ah L t.oid.toNat free) (cY L t f g))/\∀(g:Int),j6 g->(decide (g<16)=true->mZ L f g/\(0<=g/\g< ↑16)/\aI IntKind.i64 (g+1)/\∃
  g',j6 g'/\ni g'<ni g/\t=t/\f=f/\Value.slice none 0 0=Value.slice none 0 0/\aw L f 2 false=aw L f 2 false/\g+1=g'/\L=L/\t=t/\f=f/\Obj.mk (en
  (ah L t.oid.toNat free) (cY L t f g)).kind (en (ah L t.oid.toNat free) (cY L t f g)).count (en (ah L t.oid.toNat free) (cY L t f g)).calls ((en (ah L t.oid.toNat free)
  (cY L t f g)).slots.put g.toNat (cN L f g)) (en (ah L t.oid.toNat free) (cY L t f g)).bytes=en (ah L t.oid.toNat free) (cY L t f g'))/\(decide (g<16)=false->dN L
  t.oid/\jF L t f=true/\0=bG L t f/\cx L t.oid.toNat (en (ah L t.oid.toNat free) (cY L t f g))=dZ L t f)))/\(decide (aw L t 2 true=0)=false->((!decide
  (aw L t 2 true=0))=true->jF L t f=false/\aw L t 2 true=bG L t f)/\((!decide (aw L t 2 true=0))=false->(0<=t.oid/\t.oid< ↑(aj L))/\t.oid.toNat<aj L/\
  (∃g,j6 g/\t=t/\f=f/\Value.slice none 0 0=Value.slice none 0 0/\aw L t 2 true=aw L t 2 true/\0=g/\L=L/\t=t/\f=f/\ah L t.oid.toNat free=en (ah L
  t.oid.toNat free) (cY L t f g))/\∀(g:Int),j6 g->(decide (g<16)=true->mZ L f g/\(0<=g/\g< ↑16)/\aI IntKind.i64 (g+1)/\∃g',j6 g'/\ni g'<ni g/\t=t/\
  f=f/\Value.slice none 0 0=Value.slice none 0 0/\aw L t 2 true=aw L t 2 true/\g+1=g'/\L=L/\t=t/\f=f/\Obj.mk (en (ah L t.oid.toNat free) (cY L t f g)).kind
  (en (ah L t.oid.toNat free) (cY L t f g)).count (en (ah L t.oid.toNat free) (cY L t f g)).calls ((en (ah L t.oid.toNat free) (cY L t f g)).slots.put g.toNat (cN L f g))
  (en (ah L t.oid.toNat free) (cY L t f g)).bytes=en (ah L t.oid.toNat free) (cY L t f g'))/\(decide (g<16)=false->dN L t.oid/\jF L t f=true/\0=bG L t f/\
  cx L t.oid.toNat (en (ah L t.oid.toNat free) (cY L t f g))=dZ L t f))):=by
 unfold jF;have no:∀e,bG L t f=e->e≠0->decide (bG L t f=0)=false/\e=bG L t f:=fun e h h0=>⟨by rw[h];simpa using h0,h.symm⟩
 refine⟨fun h=>⟨fun h'=>?_,fun h'=>?_⟩,fun h=>⟨fun h'=>?_,fun h'=>?_⟩⟩
 ·have h:=XO h;have h':aw L f 2 false≠0:=by simpa using h'
  exact no _ (by unfold bG;rw[XR h]) h'
 ·have h:=XO h;have h':aw L f 2 false=0:=by simpa using h'
  have hE:bG L t f=0:=by unfold bG;rw[XR h];exact h'
  obtain⟨r1,r2,r3,r4⟩:=sQ hL (fD h).1;obtain⟨_,s2,s3,_⟩:=sQ hL (fD h').1;have hk:=(dB (fD h).1).2.2.2.1;have ho:=(dB (fD h').1).2.2.2.1;refine⟨⟨r2,r3⟩,r4,⟨0,⟨by omega,by omega⟩,?_⟩,fun g hg=>⟨fun hlt=>?_,fun hge=>?_⟩⟩
  ·have hz:=CE (f:=f) hk;rw[hk]at hz;repeat' apply And.intro
   all_goals first|rfl|exact hz
  ·obtain⟨g0,g1⟩:=hg;have hlt:=XO hlt;have hs:=CA (t:=t) g0 ho (ah L t.oid.toNat free) fV;rw[ho]at hs;refine⟨⟨g0,by omega,s2,s3⟩,⟨g0,by omega⟩,by simp only[aI,cg];omega,g+1,⟨by omega,by omega⟩,by unfold ni;omega,?_⟩
   repeat' apply And.intro
   all_goals first|rfl|exact hs
  ·obtain⟨g0,g1⟩:=hg;have hge:=XN hge;have:g=16:=by omega
   subst this;exact⟨r1,by simpa using hE,hE.symm,by unfold dZ;rw[hE,XR rfl];rfl⟩
 ·have h:=XN h;exact no _ (by unfold bG;rw[XQ h]) h
 ·rw[h]at h';simp at h'
theorem LS (L:List Sx.Obj) (t f:Key) (hL:aq L):ai Tryz.prog 115 [.sa 0,.key t,.key f] [.ro (.arr none 163 (.ob L))] (yr (jF L t f) (dZ L t f) [.it .i64 (bG L t f)]) (fun _ _=>False):=
 br (inl:=bn) (ann:=(jC [(115,8,U7 [0,1,2,3,4,5,6,7,8,9] (fun g=> [(10,.it .i64 g)]) 9 (fun g=> .blk tO (.ob (en (ah L (ot t.oid) free) (cY L t f g)))) j6 ni)])) (ae nI (ae vO (ae j7 an))) aC (Ie L t f hL) (by kernel_rfl)
theorem JC:ll Tryz.prog 115 QF:=
 iq (m:=fun x=>J4.cn x 0) (gg uX (fun _=>rfl)) (fun _=>rfl) (fun _ _=>rfl) fun L x hq=>LS L x.1 x.2.1 hq
theorem GU (L:List Sx.Obj) (k:Key) (i n:Int) (hL:aq L):
 ((decide (aS L k false=0)&& !bY i n)=true->ByteArray.mk (Array.mk [])=dO L k i n/\4=bX L k i n)/\((decide (aS L k false=0)&& !bY i n)=false->((!decide
   (aS L k false=0))=true->ByteArray.mk (Array.mk [])=dO L k i n/\aS L k false=bX L k i n)/\((!decide (aS L k false=0))=false->(0<=k.oid/\k.oid< ↑(aj L))/\aI
   IntKind.i64 (i+n)/\BL i (i+n) 64/\k.oid.toNat<aj L/\Ab (ah L k.oid.toNat free).bytes i.toNat (i+n).toNat=dO L k i n/\0=bX L k i n)):=by
 refine⟨fun h=>?_,fun h=>⟨fun h'=>?_,fun h'=>?_⟩⟩
 ·rw[XK,XL]at h;obtain⟨e1,e2⟩:=wB h.1 h.2;rw[<-e1,<-e2];exact⟨rfl,rfl⟩
 ·have h':aS L k false≠0:=by simpa using h'
  obtain⟨e1,e2⟩:=pB (i:=i) (n:=n) rfl h';rw[<-e1,<-e2];exact⟨rfl,rfl⟩
 ·have h':aS L k false=0:=by simpa using h'
  have hi:(!bY i n)=false:=by rw[h']at h;simpa using h
  obtain⟨r1,r2,r3,r4⟩:=nR hL (lO h').1;obtain⟨e1,e2,e3,e4⟩:=vK h' hi;exact⟨⟨r2,r3⟩,e1,e2,r4,e3,e4⟩
theorem Hq:cj Tryz.prog 117 HX:=
 eY (aJ jo (aJ gM (aJ fl (aJ fl cK)))) (fun _=>rfl) fun a hq hok=>by
  obtain⟨L,k,i,n,_⟩:=a;exact aW (inl:=bn) (ann:=aP) (ae tz (ae rR an)) (GU L k i n hq) (by kernel_rfl)
theorem MG (L:List Sx.Obj) (k:Key) (hL:aq L):
 ((!decide (aS L k true=0))=true->kW L k=false/\aS L k true=aS L k true)/\((!decide (aS L k true=0))=false->(0<=k.oid/\k.oid< ↑(aj L))/\k.oid.toNat<aj L/\
   dN L k.oid/\kW L k=true/\0=aS L k true/\cx L k.oid.toNat (Obj.mk (ah L k.oid.toNat free).kind (ah L k.oid.toNat free).count (ah L k.oid.toNat free).calls (ah L
   k.oid.toNat free).slots fT)=eC L k):=by
 unfold kW;refine⟨fun h=>?_,fun h=>?_⟩
 ·have h:aS L k true≠0:=by simpa using h
  exact⟨by simpa using h,rfl⟩
 ·have h:aS L k true=0:=by simpa using h
  obtain⟨r1,r2,r3,r4⟩:=nR hL (lO h).1;exact⟨⟨r2,r3⟩,r4,r1,by simpa using h,h.symm,by unfold eC;rw[XR h];rfl⟩
theorem Is (L:List Sx.Obj) (k:Key) (hL:aq L):ai Tryz.prog 119 [.sa 0,.key k] [.ro (.arr none 163 (.ob L))] (yr (kW L k) (eC L k) [.it .i64 (aS L k true)]) (fun _ _=>False):=
 br (inl:=bn) (ann:=aP) (ae tz (ae j7 an)) aC (MG L k hL) (by kernel_rfl)
theorem M8:ll Tryz.prog 119 Qc:=
 iq (m:=fun x=>kB.cn x 0) (gg BM (fun _=>rfl)) (fun _=>rfl) (fun _ _=>rfl) fun L x hq=>Is L x.1 hq
theorem OQ (L:List Sx.Obj) (t f:Key) (hL:aq L):
 (decide (aS L t true=0)=true->((!decide (aS L f false=0))=true->lk L t f=false/\aS L f false=cy L t f)/\((!decide (aS L f false=0))=false->(0<=t.oid/\
  t.oid< ↑(aj L))/\t.oid.toNat<aj L/\(0<=f.oid/\f.oid< ↑(aj L))/\f.oid.toNat<aj L/\dN L t.oid/\lk L t f=true/\0=cy L t f/\cx L t.oid.toNat (Obj.mk (ah L
  t.oid.toNat free).kind (ah L t.oid.toNat free).count (ah L t.oid.toNat free).calls (ah L t.oid.toNat free).slots (ah L f.oid.toNat free).bytes)=eQ L t f))/\(decide (aS L t true=0)
  =false->((!decide (aS L t true=0))=true->lk L t f=false/\aS L t true=cy L t f)/\((!decide (aS L t true=0))=false->(0<=t.oid/\t.oid< ↑(aj L))/\t.oid.toNat<
  aj L/\(0<=f.oid/\f.oid< ↑(aj L))/\f.oid.toNat<aj L/\dN L t.oid/\lk L t f=true/\0=cy L t f/\cx L t.oid.toNat (Obj.mk (ah L t.oid.toNat free).kind (ah L
  t.oid.toNat free).count (ah L t.oid.toNat free).calls (ah L t.oid.toNat free).slots (ah L f.oid.toNat free).bytes)=eQ L t f)):=by
 unfold lk;refine⟨fun h=>⟨fun h'=>?_,fun h'=>?_⟩,fun h=>⟨fun h'=>?_,fun h'=>?_⟩⟩
 ·have h:=XO h;have h':aS L f false≠0:=by simpa using h'
  obtain⟨e1,e2⟩:=Fb h rfl h';rw[<-e1];exact⟨by simpa using h',rfl⟩
 ·have h:=XO h;have h':aS L f false=0:=by simpa using h'
  have hE:cy L t f=0:=by unfold cy;rw[XR h];exact h'
  obtain⟨r1,r2,r3,r4⟩:=nR hL (lO h).1;obtain⟨_,s2,s3,s4⟩:=nR hL (lO h').1;exact⟨⟨r2,r3⟩,r4,⟨s2,s3⟩,s4,r1,by simpa using hE,hE.symm,by unfold eQ;rw[hE,XR rfl];rfl⟩
 ·have h:=XN h;obtain⟨e1,e2⟩:=uR (f:=f) rfl h;rw[<-e1];exact⟨by simpa using h,rfl⟩
 ·rw[h]at h';simp at h'
theorem Ql (L:List Sx.Obj) (t f:Key) (hL:aq L):ai Tryz.prog 120 [.sa 0,.key t,.key f] [.ro (.arr none 163 (.ob L))] (yr (lk L t f) (eQ L t f) [.it .i64 (cy L t f)]) (fun _ _=>False):=
 br (inl:=bn) (ann:=aP) (ae tz (ae j7 an)) aC (OQ L t f hL) (by kernel_rfl)
theorem Pb:ll Tryz.prog 120 RI:=
 iq (m:=fun x=>J4.cn x 0) (gg uX (fun _=>rfl)) (fun _=>rfl) (fun _ _=>rfl) fun L x hq=>Ql L x.1 x.2.1 hq
theorem K5 (d:Int) (hq:wc d):
 (0<=d/\d< ↑11)/\ah [0,1,6,5,6,7,0,0,3,1,1] d.toNat 0=cF d:=by
 obtain⟨h0,h1⟩:=hq;refine⟨⟨h0,by omega⟩,?_⟩
 have:d=0\/d=1\/d=2\/d=3\/d=4\/d=5\/d=6\/d=7\/d=8\/d=9\/d=10:=by omega
 rcases this with rfl|rfl|rfl|rfl|rfl|rfl|rfl|rfl|rfl|rfl|rfl<;>rfl
theorem MP:cj Tryz.prog 48 PE:=
 eY (aJ fl cK) (fun _=>rfl) fun a hq hok=>by
  obtain⟨d,_⟩:=a;exact aW (inl:=bn) (ann:=aP) an (K5 d hq) (by kernel_rfl)
theorem Jy (a b:Int):
 (decide (a=2)=true->(decide (a=2)=true->(decide (b=1)||decide (b=2)||decide (b=5))=cC a b)/\(decide (a=2)=false->(decide (a=4)=true->decide (b=4)=cC a b)/\
  (decide (a=4)=false->(decide (a=5)=true->(decide (1<=b)&&decide (b<=3)||decide (5<=b)&&decide (b<=7))=cC a b)/\(decide (a=5)=false->false=cC a b))))/\(decide (a=
  2)=false->(decide (a=3)=true->(decide (b=1)||decide (b=2)||decide (b=5))=cC a b)/\(decide (a=3)=false->(decide (a=4)=true->decide (b=4)=cC a b)/\(decide (a=
  4)=false->(decide (a=5)=true->(decide (1<=b)&&decide (b<=3)||decide (5<=b)&&decide (b<=7))=cC a b)/\(decide (a=5)=false->false=cC a b)))):=by
 unfold cC;grind
theorem Ix:cj Tryz.prog 49 N9:=
 mz (fy .i64) (fy .i64) (fun _ _=>rfl) fun a b ha hb=>aW (inl:=bn) (ann:=aP) an (Jy a b) (by kernel_rfl)
theorem M7 (L:List Sx.Obj) (k:Key) (m:bm) (i:Int) (hq:la L k m i):
 (decide (m.code=1)=true->true=true/\jk L k m=false/\0=(bS L k m).code/\ByteArray.mk (Array.mk [])=(bS L k m).data/\aE L k i=(bS L k m).k0/\void=(bS L k m).k1/\
  void=(bS L k m).k2/\bI L k i=(dP L k m).fst)/\(decide (m.code=1)=false->(decide (m.code=2)=true->true=true/\aq L/\(gx L k i m.k0=false->true=true/\jk L k
  m=false/\0=(bS L k m).code/\ByteArray.mk (Array.mk [])=(bS L k m).data/\cA L k i m.k0=(bS L k m).k0/\void=(bS L k m).k1/\void=(bS L k m).k2/\bc L k i m.k0=
  (dP L k m).fst)/\(gx L k i m.k0=true->true=true/\jk L k m=true/\(0=(bS L k m).code/\ByteArray.mk (Array.mk [])=(bS L k m).data/\cA L k i m.k0=(bS L k m).k0/\
  void=(bS L k m).k1/\void=(bS L k m).k2/\bc L k i m.k0=(dP L k m).fst)/\bZ L k i m.k0=(dP L k m).snd.snd))/\(decide (m.code=2)=false->(decide (m.code=3)=true->
  true=true/\aq L/\(k7 L k=false->jk L k m=false/\0=(bS L k m).code/\ByteArray.mk (Array.mk [])=(bS L k m).data/\void=(bS L k m).k0/\void=(bS L k m).k1/\void
  =(bS L k m).k2/\aw L k 2 true=(dP L k m).fst)/\(k7 L k=true->jk L k m=true/\(0=(bS L k m).code/\ByteArray.mk (Array.mk [])=(bS L k m).data/\void=(bS L k
  m).k0/\void=(bS L k m).k1/\void=(bS L k m).k2/\aw L k 2 true=(dP L k m).fst)/\eM L k=(dP L k m).snd.snd))/\(decide (m.code=3)=false->(decide (m.code=4)=true->
  true=true/\aq L/\(jF L k m.k0=false->jk L k m=false/\0=(bS L k m).code/\ByteArray.mk (Array.mk [])=(bS L k m).data/\void=(bS L k m).k0/\void=(bS L k m).k1/\
  void=(bS L k m).k2/\bG L k m.k0=(dP L k m).fst)/\(jF L k m.k0=true->jk L k m=true/\(0=(bS L k m).code/\ByteArray.mk (Array.mk [])=(bS L k m).data/\void=
  (bS L k m).k0/\void=(bS L k m).k1/\void=(bS L k m).k2/\bG L k m.k0=(dP L k m).fst)/\dZ L k m.k0=(dP L k m).snd.snd))/\(decide (m.code=4)=false->(decide (m.code
  =5)=true->((decide (i<0)||decide (7<i))=true->jk L k m=false/\0=(bS L k m).code/\ByteArray.mk (Array.mk [])=(bS L k m).data/\void=(bS L k m).k0/\void=(bS L k
  m).k1/\void=(bS L k m).k2/\2=(dP L k m).fst)/\((decide (i<0)||decide (7<i))=false->gz k i/\true=true/\jk L k m=false/\0=(bS L k m).code/\ByteArray.mk (Array.mk
  [])=(bS L k m).data/\iv k i=(bS L k m).k0/\void=(bS L k m).k1/\void=(bS L k m).k2/\0=(dP L k m).fst))/\(decide (m.code=5)=false->((!decide (k.rights=0))=true->
  jk L k m=false/\0=(bS L k m).code/\ByteArray.mk (Array.mk [])=(bS L k m).data/\void=(bS L k m).k0/\void=(bS L k m).k1/\void=(bS L k m).k2/\191=(dP L k m).fst)/\
  ((!decide (k.rights=0))=false->true=true/\jk L k m=false/\0=(bS L k m).code/\ByteArray.mk (Array.mk [])=(bS L k m).data/\Key.mk 5 k.oid k.count void.call void.rights
  void.value=(bS L k m).k0/\void=(bS L k m).k1/\void=(bS L k m).k2/\0=(dP L k m).fst)))))):=by
 obtain⟨hL,hs,hk,rfl⟩:=hq;have hlq:gz k (aO m)↔(0<=aO m/\aO m<=7):=by unfold gz;simp[hk]
 have h8:=Ms (m:=m);have hin:=Bb (m:=m);have hr:aI IntKind.i64 (64-aO m):=by unfold aI cg;omega
 have hr4:aI IntKind.i64 (aO m+4):=by unfold aI cg;omega
 repeat' (first|with_reducible assumption|with_reducible rfl|with_reducible apply And.intro|with_reducible intro _)
 all_goals(first| (simp_all[jk,bS,dP,eh,eW,fB,dD,cG,dz,void];done)| (simp_all[jk,bS,dP,eh,eW,fB,dD,cG,dz,void];omega)| (by_cases hz:0<=m.k2.value/\m.k2.value<=7<;>first| (simp_all[jk,bS,dP,eh,eW,fB,dD,cG,dz,void];done)| (simp_all[jk,bS,dP,eh,eW,fB,dD,cG,dz,void];omega)))
theorem LZ (L:List Sx.Obj) (k:Key) (m:bm) (i:Int) (hq:la L k m i):ai Tryz.prog 50 [.sa 0,.key k,kJ m,.it .i64 i] [.ro (.arr none 163 (.ob L))] (yr (jk L k m) ((dP L k m).2.2) [kJ (bS L k m),.it .i64 (dP L k m).1]) (fun _ _=>False):=
 br (inl:=(fun f=>f==112||f==47||f==54||f==110)) (ann:=aP) (ae Ce (ae Bv an)) (aF B9 (aF Iv (aF JC aC))) (M7 L k m i hq) (by kernel_rfl)
theorem LM:ll Tryz.prog 50 QP:=
 iq (m:=fun x=>Bn.cn x 0) (gg wg (fun _=>rfl)) (fun _=>rfl) (fun _ _=>rfl) fun L x hq=>LZ L x.1 x.2.1 x.2.2.1 hq
theorem LI (L:List Sx.Obj) (k:Key) (m:bm) (i:Int) (hq:la L k m i):
 (decide (m.code=1)=true->aI IntKind.i64 (64-i)/\aq L/\jT L k m=false/\0=(cB L k m).code/\dO L k i (imax 0 (kD 32 (64-i)))=(cB L k m).data/\void=(cB L k
  m).k0/\void=(cB L k m).k1/\void=(cB L k m).k2/\bX L k i (imax 0 (kD 32 (64-i)))=(dQ L k m).fst)/\(decide (m.code=1)=false->(decide (m.code=2)=true->true=true/\
  (aq L/\aA m.data)/\(jl L k i m.data=false->jT L k m=false/\0=(cB L k m).code/\ByteArray.mk (Array.mk [])=(cB L k m).data/\void=(cB L k m).k0/\void=(cB L k
  m).k1/\void=(cB L k m).k2/\cm L k i m.data=(dQ L k m).fst)/\(jl L k i m.data=true->jT L k m=true/\(0=(cB L k m).code/\ByteArray.mk (Array.mk [])=(cB L k m).data
  /\void=(cB L k m).k0/\void=(cB L k m).k1/\void=(cB L k m).k2/\cm L k i m.data=(dQ L k m).fst)/\ea L k i m.data=(dQ L k m).snd.snd))/\(decide (m.code=2)=false->
  (decide (m.code=3)=true->true=true/\aq L/\(kW L k=false->jT L k m=false/\0=(cB L k m).code/\ByteArray.mk (Array.mk [])=(cB L k m).data/\void=(cB L k m).k0/\
  void=(cB L k m).k1/\void=(cB L k m).k2/\aS L k true=(dQ L k m).fst)/\(kW L k=true->jT L k m=true/\(0=(cB L k m).code/\ByteArray.mk (Array.mk [])=(cB L k
  m).data/\void=(cB L k m).k0/\void=(cB L k m).k1/\void=(cB L k m).k2/\aS L k true=(dQ L k m).fst)/\eC L k=(dQ L k m).snd.snd))/\(decide (m.code=3)=false->
  (decide (m.code=4)=true->true=true/\aq L/\(lk L k m.k0=false->jT L k m=false/\0=(cB L k m).code/\ByteArray.mk (Array.mk [])=(cB L k m).data/\void=(cB L k m).k0
  /\void=(cB L k m).k1/\void=(cB L k m).k2/\cy L k m.k0=(dQ L k m).fst)/\(lk L k m.k0=true->jT L k m=true/\(0=(cB L k m).code/\ByteArray.mk (Array.mk [])=(cB
  L k m).data/\void=(cB L k m).k0/\void=(cB L k m).k1/\void=(cB L k m).k2/\cy L k m.k0=(dQ L k m).fst)/\eQ L k m.k0=(dQ L k m).snd.snd))/\(decide (m.code=4)=false
  ->((decide (i<0)||decide (7<i))=true->jT L k m=false/\0=(cB L k m).code/\ByteArray.mk (Array.mk [])=(cB L k m).data/\void=(cB L k m).k0/\void=(cB L k m).k1/\void
  =(cB L k m).k2/\2=(dQ L k m).fst)/\((decide (i<0)||decide (7<i))=false->gz k i/\true=true/\jT L k m=false/\0=(cB L k m).code/\ByteArray.mk (Array.mk [])=(cB
  L k m).data/\iv k i=(cB L k m).k0/\void=(cB L k m).k1/\void=(cB L k m).k2/\0=(dQ L k m).fst))))):=by
 obtain⟨hL,hs,hk,rfl⟩:=hq;have hlq:gz k (aO m)↔(0<=aO m/\aO m<=7):=by unfold gz;simp[hk]
 have h8:=Ms (m:=m);have hin:=Bb (m:=m);have hr:aI IntKind.i64 (64-aO m):=by unfold aI cg;omega
 have hr4:aI IntKind.i64 (aO m+4):=by unfold aI cg;omega
 repeat' (first|with_reducible assumption|with_reducible rfl|with_reducible apply And.intro|with_reducible intro _)
 all_goals(first| (simp_all[jT,cB,dQ,o0,eh,eW,fB,dD,cG,dz,void];done)| (simp_all[jT,cB,dQ,o0,eh,eW,fB,dD,cG,dz,void];omega)| (by_cases hz:0<=m.k2.value/\m.k2.value<=7<;>first| (simp_all[jT,cB,dQ,o0,eh,eW,fB,dD,cG,dz,void];done)| (simp_all[jT,cB,dQ,o0,eh,eW,fB,dD,cG,dz,void];omega)))
theorem MX (L:List Sx.Obj) (k:Key) (m:bm) (i:Int) (hq:la L k m i):ai Tryz.prog 51 [.sa 0,.key k,kJ m,.it .i64 i] [.ro (.arr none 163 (.ob L))] (yr (jT L k m) ((dQ L k m).2.2) [kJ (cB L k m),.it .i64 (dQ L k m).1]) (fun _ _=>False):=
 br (inl:=(fun f=>f==112||f==47||f==54||f==110)) (ann:=aP) (ae Hq (ae Bv an)) (aF Kr (aF M8 (aF Pb aC))) (LI L k m i hq) (by kernel_rfl)
theorem JV:ll Tryz.prog 51 NY:=
 iq (m:=fun x=>Bn.cn x 0) (gg wg (fun _=>rfl)) (fun _=>rfl) (fun _ _=>rfl) fun L x hq=>MX L x.1 x.2.1 x.2.2.1 hq
theorem Gr (L:List Sx.Obj) (k:Key) (m:bm) (i:Int) (hq:la L k m i):
 (decide (m.code=1)=true->(decide (m.code=1)=true->true=true/\aq L/\(fL L k m.code=false->true=true/\fR L k m=false/\0=(ba L k m).code/\ByteArray.mk (Array.mk [])
  =(ba L k m).data/\cH L k m.code=(ba L k m).k0/\void=(ba L k m).k1/\void=(ba L k m).k2/\bW L k m.code=(c8 L k m).fst)/\(fL L k m.code=true->true=true/\fR
  L k m=true/\(0=(ba L k m).code/\ByteArray.mk (Array.mk [])=(ba L k m).data/\cH L k m.code=(ba L k m).k0/\void=(ba L k m).k1/\void=(ba L k m).k2/\bW L k m.code=
  (c8 L k m).fst)/\eF L k m.code=(c8 L k m).snd.snd))/\(decide (m.code=1)=false->(decide (m.code=3)=true->true=true/\aq L/\(iP L k m.k0=false->fR L k m=false/\0
  =(ba L k m).code/\ByteArray.mk (Array.mk [])=(ba L k m).data/\void=(ba L k m).k0/\void=(ba L k m).k1/\void=(ba L k m).k2/\b6 L k m.k0=(c8 L k m).fst)/\(iP L k
  m.k0=true->fR L k m=true/\(0=(ba L k m).code/\ByteArray.mk (Array.mk [])=(ba L k m).data/\void=(ba L k m).k0/\void=(ba L k m).k1/\void=(ba L k m).k2/\b6 L k
  m.k0=(c8 L k m).fst)/\fK L k m.k0=(c8 L k m).snd.snd))/\(decide (m.code=3)=false->(decide (m.code=4)=true->true=true/\aq L/\(jU L k i=false->true=true/\fR L k
  m=false/\0=(ba L k m).code/\ByteArray.mk (Array.mk [])=(ba L k m).data/\bQ L k i=(ba L k m).k0/\void=(ba L k m).k1/\void=(ba L k m).k2/\bL L k i=(c8 L k
  m).fst)/\(jU L k i=true->true=true/\fR L k m=true/\(0=(ba L k m).code/\ByteArray.mk (Array.mk [])=(ba L k m).data/\bQ L k i=(ba L k m).k0/\void=(ba L k m).k1/\
  void=(ba L k m).k2/\bL L k i=(c8 L k m).fst)/\bq L k i=(c8 L k m).snd.snd))/\(decide (m.code=4)=false->(decide (m.code=5)=true->true=true/\(iD L k m.k0=true->
  true=true/\true=true/\fR L k m=false/\0=(ba L k m).code/\ByteArray.mk (Array.mk [])=(ba L k m).data/\void=(ba L k m).k0/\void=(ba L k m).k1/\Key.mk 1 void.oid
  void.count void.call void.rights 1=(ba L k m).k2/\aK L k=(c8 L k m).fst)/\(iD L k m.k0=false->true=true/\true=true/\fR L k m=false/\0=(ba L k m).code/\
  ByteArray.mk (Array.mk [])=(ba L k m).data/\void=(ba L k m).k0/\void=(ba L k m).k1/\Key.mk 1 void.oid void.count void.call void.rights 0=(ba L k m).k2/\aK L k=(c8 L k
  m).fst))/\(decide (m.code=5)=false->true=true/\aq L/\(jI L k=false->true=true/\true=true/\fR L k m=false/\0=(ba L k m).code/\ByteArray.mk (Array.mk [])=(ba L
  k m).data/\void=(ba L k m).k0/\void=(ba L k m).k1/\Key.mk 1 void.oid void.count void.call void.rights (eO L k)=(ba L k m).k2/\aK L k=(c8 L k m).fst)/\(jI L k=true
  ->true=true/\true=true/\fR L k m=true/\(0=(ba L k m).code/\ByteArray.mk (Array.mk [])=(ba L k m).data/\void=(ba L k m).k0/\void=(ba L k m).k1/\Key.mk 1 void.oid
  void.count void.call void.rights (eO L k)=(ba L k m).k2/\aK L k=(c8 L k m).fst)/\ga L k=(c8 L k m).snd.snd))))))/\(decide (m.code=1)=false->(decide (m.code=2)=true
  ->true=true/\aq L/\(fL L k m.code=false->true=true/\fR L k m=false/\0=(ba L k m).code/\ByteArray.mk (Array.mk [])=(ba L k m).data/\cH L k m.code=(ba L k
  m).k0/\void=(ba L k m).k1/\void=(ba L k m).k2/\bW L k m.code=(c8 L k m).fst)/\(fL L k m.code=true->true=true/\fR L k m=true/\(0=(ba L k m).code/\ByteArray.mk
  (Array.mk [])=(ba L k m).data/\cH L k m.code=(ba L k m).k0/\void=(ba L k m).k1/\void=(ba L k m).k2/\bW L k m.code=(c8 L k m).fst)/\eF L k m.code=(c8 L k
  m).snd.snd))/\(decide (m.code=2)=false->(decide (m.code=3)=true->true=true/\aq L/\(iP L k m.k0=false->fR L k m=false/\0=(ba L k m).code/\ByteArray.mk (Array.mk [])
  =(ba L k m).data/\void=(ba L k m).k0/\void=(ba L k m).k1/\void=(ba L k m).k2/\b6 L k m.k0=(c8 L k m).fst)/\(iP L k m.k0=true->fR L k m=true/\(0=(ba L k
  m).code/\ByteArray.mk (Array.mk [])=(ba L k m).data/\void=(ba L k m).k0/\void=(ba L k m).k1/\void=(ba L k m).k2/\b6 L k m.k0=(c8 L k m).fst)/\fK L k m.k0=(c8 L
  k m).snd.snd))/\(decide (m.code=3)=false->(decide (m.code=4)=true->true=true/\aq L/\(jU L k i=false->true=true/\fR L k m=false/\0=(ba L k m).code/\ByteArray.mk
  (Array.mk [])=(ba L k m).data/\bQ L k i=(ba L k m).k0/\void=(ba L k m).k1/\void=(ba L k m).k2/\bL L k i=(c8 L k m).fst)/\(jU L k i=true->true=true/\fR L k
  m=true/\(0=(ba L k m).code/\ByteArray.mk (Array.mk [])=(ba L k m).data/\bQ L k i=(ba L k m).k0/\void=(ba L k m).k1/\void=(ba L k m).k2/\bL L k i=(c8 L k
  m).fst)/\bq L k i=(c8 L k m).snd.snd))/\(decide (m.code=4)=false->(decide (m.code=5)=true->true=true/\(iD L k m.k0=true->true=true/\true=true/\fR L k m=false/\0
  =(ba L k m).code/\ByteArray.mk (Array.mk [])=(ba L k m).data/\void=(ba L k m).k0/\void=(ba L k m).k1/\Key.mk 1 void.oid void.count void.call void.rights 1=(ba L k m).k2/\
  aK L k=(c8 L k m).fst)/\(iD L k m.k0=false->true=true/\true=true/\fR L k m=false/\0=(ba L k m).code/\ByteArray.mk (Array.mk [])=(ba L k m).data/\void=(ba L k
  m).k0/\void=(ba L k m).k1/\Key.mk 1 void.oid void.count void.call void.rights 0=(ba L k m).k2/\aK L k=(c8 L k m).fst))/\(decide (m.code=5)=false->true=true/\aq L/\
  (jI L k=false->true=true/\true=true/\fR L k m=false/\0=(ba L k m).code/\ByteArray.mk (Array.mk [])=(ba L k m).data/\void=(ba L k m).k0/\void=(ba L k m).k1/\
  Key.mk 1 void.oid void.count void.call void.rights (eO L k)=(ba L k m).k2/\aK L k=(c8 L k m).fst)/\(jI L k=true->true=true/\true=true/\fR L k m=true/\(0=(ba L
  k m).code/\ByteArray.mk (Array.mk [])=(ba L k m).data/\void=(ba L k m).k0/\void=(ba L k m).k1/\Key.mk 1 void.oid void.count void.call void.rights (eO L k)=(ba L k m).k2/\
  aK L k=(c8 L k m).fst)/\ga L k=(c8 L k m).snd.snd)))))):=by
 obtain⟨hL,hs,hk,rfl⟩:=hq;have hlq:gz k (aO m)↔(0<=aO m/\aO m<=7):=by unfold gz;simp[hk]
 have h8:=Ms (m:=m);have hin:=Bb (m:=m);have hr:aI IntKind.i64 (64-aO m):=by unfold aI cg;omega
 have hr4:aI IntKind.i64 (aO m+4):=by unfold aI cg;omega
 repeat' (first|with_reducible assumption|with_reducible rfl|with_reducible apply And.intro|with_reducible intro _)
 all_goals(first| (simp_all[fR,ba,c8,eh,eW,fB,dD,cG,dz,void];done)| (simp_all[fR,ba,c8,eh,eW,fB,dD,cG,dz,void];omega)| (by_cases hz:0<=m.k2.value/\m.k2.value<=7<;>first| (simp_all[fR,ba,c8,eh,eW,fB,dD,cG,dz,void];done)| (simp_all[fR,ba,c8,eh,eW,fB,dD,cG,dz,void];omega)))
theorem G5 (L:List Sx.Obj) (k:Key) (m:bm) (i:Int) (hq:la L k m i):ai Tryz.prog 52 [.sa 0,.key k,kJ m,.it .i64 i] [.ro (.arr none 163 (.ob L))] (yr (fR L k m) ((c8 L k m).2.2) [kJ (ba L k m),.it .i64 (c8 L k m).1]) (fun _ _=>False):=
 br (inl:=(fun f=>f==112||f==47||f==54||f==110)) (ann:=aP) (ae I7 an) (aF MZ (aF Q4 (aF Gv (aF Io aC)))) (Gr L k m i hq) (by kernel_rfl)
theorem Hg:ll Tryz.prog 52 HL:=
 iq (m:=fun x=>Bn.cn x 0) (gg wg (fun _=>rfl)) (fun _=>rfl) (fun _ _=>rfl) fun L x hq=>G5 L x.1 x.2.1 x.2.2.1 hq
theorem Jv (L:List Sx.Obj) (k:Key) (m:bm) (i:Int) (hq:la L k m i):
 (((decide (m.code=1)||decide (m.code=2))&&(decide (i<0)||decide (11<i)))=true->gm L k m=false/\0=(bx L k m).code/\ByteArray.mk (Array.mk [])=(bx L k m).data/\void=
   (bx L k m).k0/\void=(bx L k m).k1/\void=(bx L k m).k2/\4=(cT L k m).fst)/\(((decide (m.code=1)||decide (m.code=2))&&(decide (i<0)||decide (11<i)))=false->(decide
   (m.code=1)=true->aI IntKind.i64 (i+4)/\true=true/\gm L k m=false/\0=(bx L k m).code/\ByteArray.mk (Array.mk [])=(bx L k m).data/\aE L (Key.mk 2 k.oid k.count
   void.call void.rights void.value) (i+4)=(bx L k m).k0/\void=(bx L k m).k1/\void=(bx L k m).k2/\bI L (Key.mk 2 k.oid k.count void.call void.rights void.value) (i+4)=(cT L
   k m).fst)/\(decide (m.code=1)=false->(decide (m.code=2)=true->aI IntKind.i64 (i+4)/\true=true/\aq L/\(gx L (Key.mk 2 k.oid k.count void.call void.rights void.value) (i+4)
   m.k0=false->true=true/\gm L k m=false/\0=(bx L k m).code/\ByteArray.mk (Array.mk [])=(bx L k m).data/\cA L (Key.mk 2 k.oid k.count void.call void.rights void.value) (i+4)
   m.k0=(bx L k m).k0/\void=(bx L k m).k1/\void=(bx L k m).k2/\bc L (Key.mk 2 k.oid k.count void.call void.rights void.value) (i+4) m.k0=(cT L k m).fst)/\(gx L (Key.mk 2
   k.oid k.count void.call void.rights void.value) (i+4) m.k0=true->true=true/\gm L k m=true/\(0=(bx L k m).code/\ByteArray.mk (Array.mk [])=(bx L k m).data/\cA L (Key.mk 2
   k.oid k.count void.call void.rights void.value) (i+4) m.k0=(bx L k m).k0/\void=(bx L k m).k1/\void=(bx L k m).k2/\bc L (Key.mk 2 k.oid k.count void.call void.rights void.value)
   (i+4) m.k0=(cT L k m).fst)/\bZ L (Key.mk 2 k.oid k.count void.call void.rights void.value) (i+4) m.k0=(cT L k m).snd.snd))/\(decide (m.code=2)=false->(decide (m.code=3)=true
   ->true=true/\gm L k m=false/\0=(bx L k m).code/\ByteArray.mk (Array.mk [])=(bx L k m).data/\Key.mk 6 k.oid k.count void.call void.rights m.k2.value=(bx L k m).k0/\void=
   (bx L k m).k1/\void=(bx L k m).k2/\0=(cT L k m).fst)/\(decide (m.code=3)=false->(decide (m.code=4)=true->true=true/\true=true/\gm L k m=false/\0=(bx L k
   m).code/\ByteArray.mk (Array.mk [])=(bx L k m).data/\void=(bx L k m).k0/\void=(bx L k m).k1/\Key.mk 1 void.oid void.count void.call void.rights (pV L k.oid)=(bx L k m).k2/\0
   =(cT L k m).fst)/\(decide (m.code=4)=false->(decide (m.code=5)=true->true=true/\aq L/\(mE L k.oid i=false->gm L k m=false/\0=(bx L k m).code/\ByteArray.mk
   (Array.mk [])=(bx L k m).data/\void=(bx L k m).k0/\void=(bx L k m).k1/\void=(bx L k m).k2/\dU L k.oid i=(cT L k m).fst)/\(mE L k.oid i=true->gm L k m=true/\
   (0=(bx L k m).code/\ByteArray.mk (Array.mk [])=(bx L k m).data/\void=(bx L k m).k0/\void=(bx L k m).k1/\void=(bx L k m).k2/\dU L k.oid i=(cT L k m).fst)/\iw L
   k.oid i=(cT L k m).snd.snd))/\(decide (m.code=5)=false->(decide (m.code=6)=true->aq L/\((decide (bR L (aE L (Key.mk 2 k.oid k.count void.call void.rights void.value) 0)
   m.k2.value 32=0)&& !decide (bH L (aE L (Key.mk 2 k.oid k.count void.call void.rights void.value) 0) m.k2.value 32 false=0))=true->aI IntKind.i64 (1000+bH L (aE L (Key.mk 2 k.oid
   k.count void.call void.rights void.value) 0) m.k2.value 32 false)/\gm L k m=false/\0=(bx L k m).code/\jz L (aE L (Key.mk 2 k.oid k.count void.call void.rights void.value) 0)
   m.k2.value 32=(bx L k m).data/\void=(bx L k m).k0/\void=(bx L k m).k1/\void=(bx L k m).k2/\1000+bH L (aE L (Key.mk 2 k.oid k.count void.call void.rights void.value) 0)
   m.k2.value 32 false=(cT L k m).fst)/\((decide (bR L (aE L (Key.mk 2 k.oid k.count void.call void.rights void.value) 0) m.k2.value 32=0)&& !decide (bH L (aE L (Key.mk 2 k.oid k.count
   void.call void.rights void.value) 0) m.k2.value 32 false=0))=false->gm L k m=false/\0=(bx L k m).code/\jz L (aE L (Key.mk 2 k.oid k.count void.call void.rights void.value) 0)
   m.k2.value 32=(bx L k m).data/\void=(bx L k m).k0/\void=(bx L k m).k1/\void=(bx L k m).k2/\bR L (aE L (Key.mk 2 k.oid k.count void.call void.rights void.value) 0)
   m.k2.value 32=(cT L k m).fst))/\(decide (m.code=6)=false->true=true/\(aq L/\aA m.data)/\(kH L (aE L (Key.mk 2 k.oid k.count void.call void.rights void.value) 0) m.k2.value
   (cc m.data) true=false->((decide (bR L (aE L (Key.mk 2 k.oid k.count void.call void.rights void.value) 0) m.k2.value (cc m.data)=0)&& !decide (bH L (aE L (Key.mk 2 k.oid k.count
   void.call void.rights void.value) 0) m.k2.value (cc m.data) true=0))=true->aI IntKind.i64 (1000+bH L (aE L (Key.mk 2 k.oid k.count void.call void.rights void.value) 0) m.k2.value (cc
   m.data) true)/\gm L k m=false/\0=(bx L k m).code/\ByteArray.mk (Array.mk [])=(bx L k m).data/\void=(bx L k m).k0/\void=(bx L k m).k1/\void=(bx L k m).k2/\1000+
   bH L (aE L (Key.mk 2 k.oid k.count void.call void.rights void.value) 0) m.k2.value (cc m.data) true=(cT L k m).fst)/\((decide (bR L (aE L (Key.mk 2 k.oid k.count void.call void.rights
   void.value) 0) m.k2.value (cc m.data)=0)&& !decide (bH L (aE L (Key.mk 2 k.oid k.count void.call void.rights void.value) 0) m.k2.value (cc m.data) true=0))=false->gm L k m=false/\
   0=(bx L k m).code/\ByteArray.mk (Array.mk [])=(bx L k m).data/\void=(bx L k m).k0/\void=(bx L k m).k1/\void=(bx L k m).k2/\bR L (aE L (Key.mk 2 k.oid k.count
   void.call void.rights void.value) 0) m.k2.value (cc m.data)=(cT L k m).fst))/\(kH L (aE L (Key.mk 2 k.oid k.count void.call void.rights void.value) 0) m.k2.value (cc m.data) true=true->
   ((decide (bR L (aE L (Key.mk 2 k.oid k.count void.call void.rights void.value) 0) m.k2.value (cc m.data)=0)&& !decide (bH L (aE L (Key.mk 2 k.oid k.count void.call void.rights
   void.value) 0) m.k2.value (cc m.data) true=0))=true->aI IntKind.i64 (1000+bH L (aE L (Key.mk 2 k.oid k.count void.call void.rights void.value) 0) m.k2.value (cc m.data) true)/\gm L
   k m=true/\(0=(bx L k m).code/\ByteArray.mk (Array.mk [])=(bx L k m).data/\void=(bx L k m).k0/\void=(bx L k m).k1/\void=(bx L k m).k2/\1000+bH L (aE L (Key.mk 2
   k.oid k.count void.call void.rights void.value) 0) m.k2.value (cc m.data) true=(cT L k m).fst)/\ju L (aE L (Key.mk 2 k.oid k.count void.call void.rights void.value) 0) m.k2.value m.data=
   (cT L k m).snd.snd)/\((decide (bR L (aE L (Key.mk 2 k.oid k.count void.call void.rights void.value) 0) m.k2.value (cc m.data)=0)&& !decide (bH L (aE L (Key.mk 2 k.oid k.count
   void.call void.rights void.value) 0) m.k2.value (cc m.data) true=0))=false->gm L k m=true/\(0=(bx L k m).code/\ByteArray.mk (Array.mk [])=(bx L k m).data/\void=(bx L k
   m).k0/\void=(bx L k m).k1/\void=(bx L k m).k2/\bR L (aE L (Key.mk 2 k.oid k.count void.call void.rights void.value) 0) m.k2.value (cc m.data)=(cT L k m).fst)/\ju L (aE L
   (Key.mk 2 k.oid k.count void.call void.rights void.value) 0) m.k2.value m.data=(cT L k m).snd.snd))))))))):=by
 obtain⟨hL,hs,hk,rfl⟩:=hq;have hlq:gz k (aO m)↔(0<=aO m/\aO m<=7):=by unfold gz;simp[hk]
 have hin:=Bb (m:=m);have hr:aI IntKind.i64 (64-aO m):=by unfold aI cg;omega
 have hr4:aI IntKind.i64 (aO m+4):=by unfold aI cg;omega
 have hw:Key.mk 2 k.oid k.count void.call void.rights void.value=ew k:=rfl;have hro:aE L (ew k) 0=eX L k:=rfl;have f1:=EU (L:=L) (k:=eX L k) (a:=m.k2.value) (n:=32) (w:=false);have f2:=EU (L:=L) (k:=eX L k) (a:=m.k2.value) (n:=cc m.data) (w:=true);have g1:aI IntKind.i64 (1000+bH L (eX L k) m.k2.value 32 false):=by unfold aI cg;omega
 have g2:aI IntKind.i64 (1000+bH L (eX L k) m.k2.value (cc m.data) true):=by unfold aI cg;omega
 rw[hw,hro];refine⟨fun h=>?_,fun h=>⟨fun h1=>?_,fun h1=>⟨fun h2=>?_,fun h2=>?_⟩⟩⟩
 ·simp only[XK,Bool.or_eq_true,XL]at h;obtain⟨h1|h1,h2⟩:=h
  ·simp[gm,bx,cT,h1,h2,dz]
  ·simp[gm,bx,cT,h1,h2,dz]
 ·have h1:=XO h1;have hz:¬(aO m<0\/11<aO m):=by rw[h1]at h;simpa using h
  have e1:cT L k m=(bI L (ew k) (aO m+4),eh (aE L (ew k) (aO m+4)),L):=by unfold cT;rw[XR h1,XQ hz]
  have e2:bx L k m=eh (aE L (ew k) (aO m+4)):=by unfold bx;rw[XQ (fun hh=>hz hh.2),e1]
  have e3:gm L k m=false:=by unfold gm;rw[XR h1]
  rw[e1,e2,e3];exact⟨hr4,rfl,rfl,rfl,rfl,rfl,rfl,rfl,rfl⟩
 ·have h1:=XN h1;have h2:=XO h2;have hz:¬(aO m<0\/11<aO m):=by rw[h2]at h;simpa using h
  have e1:cT L k m=(bc L (ew k) (aO m+4) m.k0,eh (cA L (ew k) (aO m+4) m.k0),bZ L (ew k) (aO m+4) m.k0):=by unfold cT;rw[XQ h1,XR h2,XQ hz,XQ hz]
  have e2:bx L k m=eh (cA L (ew k) (aO m+4) m.k0):=by unfold bx;rw[XQ (fun hh=>hz hh.2),e1]
  have e3:gm L k m=gx L (ew k) (aO m+4) m.k0:=by unfold gm;rw[XQ h1,XR h2,XQ hz]
  rw[e1,e2,e3];exact⟨hr4,rfl,hL,fun h=>⟨rfl,h,rfl,rfl,rfl,rfl,rfl,rfl⟩,fun h=>⟨rfl,h,⟨rfl,rfl,rfl,rfl,rfl,rfl⟩,rfl⟩⟩
 have h1:=XN h1;have h2:=XN h2;clear h;repeat' (first|with_reducible assumption|with_reducible rfl|with_reducible apply And.intro|with_reducible intro _)
 all_goals(first| (simp_all[gm,bx,cT,eh,eW,fB,dD,cG,dz,void];done)| (simp_all[gm,bx,cT,eh,eW,fB,dD,cG,dz,void];omega))
theorem MD (L:List Sx.Obj) (k:Key) (m:bm) (i:Int) (hq:la L k m i):ai Tryz.prog 53 [.sa 0,.key k,kJ m,.it .i64 i] [.ro (.arr none 163 (.ob L))] (yr (gm L k m) ((cT L k m).2.2) [kJ (bx L k m),.it .i64 (cT L k m).1]) (fun _ _=>False):=
 br (inl:=(fun f=>f==112||f==47||f==54||f==110)) (ann:=aP) (ae Ce (ae PR (ae SF an))) (aF B9 (aF Oz (aF S5 aC))) (Jv L k m i hq) (by kernel_rfl)
theorem HY:ll Tryz.prog 53 OS:=
 iq (m:=fun x=>Bn.cn x 0) (gg wg (fun _=>rfl)) (fun _=>rfl) (fun _ _=>rfl) fun L x hq=>MD L x.1 x.2.1 x.2.2.1 hq
theorem R7 (L:List Sx.Obj) (n:Int) (k:Key) (m:bm) (hL:aq L) (hs:aA m.data):
 (decide (cw (aj L)=0)=true->ey L n k m=false/\0=(aB L n k m).code/\ByteArray.mk (Array.mk [])=(aB L n k m).data/\void=(aB L n k m).k0/\void=(aB L n k m).k1/\void=
  (aB L n k m).k2/\false=cM L n k m/\1=bP L n k m)/\(decide (cw (aj L)=0)=false->((!(decide (n<0)|| !cZ L k))=true->aA m.data)/\((decide (n<0)|| !cZ L k||
  !qZ L m)=true->ey L n k m=false/\0=(aB L n k m).code/\ByteArray.mk (Array.mk [])=(aB L n k m).data/\void=(aB L n k m).k0/\void=(aB L n k m).k1/\void=(aB L n k
  m).k2/\false=cM L n k m/\2=bP L n k m)/\((decide (n<0)|| !cZ L k|| !qZ L m)=false->((decide ((ab L k).kind=6)||decide ((ab L k).kind=7))=true->ey L n k m=
  false/\0=(aB L n k m).code/\ByteArray.mk (Array.mk [])=(aB L n k m).data/\void=(aB L n k m).k0/\void=(aB L n k m).k1/\void=(aB L n k m).k2/\false=cM L n k m/\241=
  bP L n k m)/\((decide ((ab L k).kind=6)||decide ((ab L k).kind=7))=false->(decide ((ab L k).kind=0)=true->true=true/\ey L n k m=false/\190=(aB L n k m).code
  /\ByteArray.mk (Array.mk [])=(aB L n k m).data/\void=(aB L n k m).k0/\void=(aB L n k m).k1/\void=(aB L n k m).k2/\false=cM L n k m/\0=bP L n k m)/\(decide ((ab L
  k).kind=0)=false->(decide ((aL L m).code=0)=true->true=true/\true=true/\ey L n k m=false/\0=(aB L n k m).code/\ByteArray.mk (Array.mk [])=(aB L n k m).data/\void=
  (aB L n k m).k0/\void=(aB L n k m).k1/\Key.mk 1 void.oid void.count void.call void.rights (ab L k).kind=(aB L n k m).k2/\false=cM L n k m/\0=bP L n k m)/\(decide ((aL
  L m).code=0)=false->((!decide ((aL L m).code<1))=true->wc (ab L k).kind)/\((decide ((aL L m).code<1)||decide (cF (ab L k).kind<(aL L m).code)||cC (ab
  L k).kind (aL L m).code&& !decide ((aL L m).k2.kind=1))=true->true=true/\ey L n k m=false/\240=(aB L n k m).code/\ByteArray.mk (Array.mk [])=(aB L n k m).data/\void=
  (aB L n k m).k0/\void=(aB L n k m).k1/\void=(aB L n k m).k2/\false=cM L n k m/\0=bP L n k m)/\((decide ((aL L m).code<1)||decide (cF (ab L k).kind<(aL L
  m).code)||cC (ab L k).kind (aL L m).code&& !decide ((aL L m).k2.kind=1))=false->(((decide (0<=(aL L m).k2.value)&&decide ((aL L m).k2.value<=2147483647))=true->∃g:
  Unit,vt L n k m/\n=n/\(ab L k).kind=(ab L k).kind/\(aL L m).k2.value=aO (aL L m)/\L=L/\ab L k=ab L k/\(aL L m).code=(aL L m).code/\(aL L m).data
  =(aL L m).data/\(aL L m).k0=(aL L m).k0/\(aL L m).k1=(aL L m).k1/\(aL L m).k2=(aL L m).k2/\ByteArray.mk (Array.mk [])=ByteArray.mk (Array.mk [])/\void=void/\void=
  void/\void=void)/\((decide (0<=(aL L m).k2.value)&&decide ((aL L m).k2.value<=2147483647))=false->∃g:Unit,vt L n k m/\n=n/\(ab L k).kind=(ab L k).kind/\ -1=aO
  (aL L m)/\L=L/\ab L k=ab L k/\(aL L m).code=(aL L m).code/\(aL L m).data=(aL L m).data/\(aL L m).k0=(aL L m).k0/\(aL L m).k1=(aL L m).k1/\(aL L
  m).k2=(aL L m).k2/\ByteArray.mk (Array.mk [])=ByteArray.mk (Array.mk [])/\void=void/\void=void/\void=void))/\∀(g:Unit),vt L n k m->(decide ((ab L k).kind=1)=true->
  true=true/\true=true/\ey L n k m=false/\0=(aB L n k m).code/\ByteArray.mk (Array.mk [])=(aB L n k m).data/\void=(aB L n k m).k0/\void=(aB L n k m).k1/\Key.mk 1
  void.oid void.count void.call void.rights (ab L k).value=(aB L n k m).k2/\decide ((ab L k).kind=10)=cM L n k m/\0=bP L n k m)/\(decide ((ab L k).kind=1)=false->
  (decide ((ab L k).kind=2)=true->true=true/\la L (ab L k) (aL L m) (aO (aL L m))/\(jk L (ab L k) (aL L m)=false->((!decide ((dP L (ab L k) (aL L
  m)).fst=0))=true->true=true/\ey L n k m=false/\(dP L (ab L k) (aL L m)).fst=(aB L n k m).code/\ByteArray.mk (Array.mk [])=(aB L n k m).data/\void=(aB L n k m).k0
  /\void=(aB L n k m).k1/\void=(aB L n k m).k2/\decide ((ab L k).kind=10)=cM L n k m/\0=bP L n k m)/\((!decide ((dP L (ab L k) (aL L m)).fst=0))=false->ey L
  n k m=false/\(bS L (ab L k) (aL L m)).code=(aB L n k m).code/\(bS L (ab L k) (aL L m)).data=(aB L n k m).data/\(bS L (ab L k) (aL L m)).k0=(aB L n k
  m).k0/\(bS L (ab L k) (aL L m)).k1=(aB L n k m).k1/\(bS L (ab L k) (aL L m)).k2=(aB L n k m).k2/\decide ((ab L k).kind=10)=cM L n k m/\0=bP L n k m))/\
  (jk L (ab L k) (aL L m)=true->((!decide ((dP L (ab L k) (aL L m)).fst=0))=true->true=true/\ey L n k m=true/\((dP L (ab L k) (aL L m)).fst=(aB L n k
  m).code/\ByteArray.mk (Array.mk [])=(aB L n k m).data/\void=(aB L n k m).k0/\void=(aB L n k m).k1/\void=(aB L n k m).k2/\decide ((ab L k).kind=10)=cM L n k m/\0=
  bP L n k m)/\(dP L (ab L k) (aL L m)).snd.snd=fq L n k m)/\((!decide ((dP L (ab L k) (aL L m)).fst=0))=false->ey L n k m=true/\((bS L (ab L k) (aL L
  m)).code=(aB L n k m).code/\(bS L (ab L k) (aL L m)).data=(aB L n k m).data/\(bS L (ab L k) (aL L m)).k0=(aB L n k m).k0/\(bS L (ab L k) (aL L m)).k1=
  (aB L n k m).k1/\(bS L (ab L k) (aL L m)).k2=(aB L n k m).k2/\decide ((ab L k).kind=10)=cM L n k m/\0=bP L n k m)/\(dP L (ab L k) (aL L m)).snd.snd=
  fq L n k m)))/\(decide ((ab L k).kind=2)=false->(decide ((ab L k).kind=3)=true->true=true/\la L (ab L k) (aL L m) (aO (aL L m))/\(jT L (ab L k) (aL L
  m)=false->((!decide ((dQ L (ab L k) (aL L m)).fst=0))=true->true=true/\ey L n k m=false/\(dQ L (ab L k) (aL L m)).fst=(aB L n k m).code/\ByteArray.mk (Array.mk
  [])=(aB L n k m).data/\void=(aB L n k m).k0/\void=(aB L n k m).k1/\void=(aB L n k m).k2/\decide ((ab L k).kind=10)=cM L n k m/\0=bP L n k m)/\((!decide ((dQ
  L (ab L k) (aL L m)).fst=0))=false->ey L n k m=false/\(cB L (ab L k) (aL L m)).code=(aB L n k m).code/\(cB L (ab L k) (aL L m)).data=(aB L n k m).data/\
  (cB L (ab L k) (aL L m)).k0=(aB L n k m).k0/\(cB L (ab L k) (aL L m)).k1=(aB L n k m).k1/\(cB L (ab L k) (aL L m)).k2=(aB L n k m).k2/\decide ((ab L
  k).kind=10)=cM L n k m/\0=bP L n k m))/\(jT L (ab L k) (aL L m)=true->((!decide ((dQ L (ab L k) (aL L m)).fst=0))=true->true=true/\ey L n k m=true/\
  ((dQ L (ab L k) (aL L m)).fst=(aB L n k m).code/\ByteArray.mk (Array.mk [])=(aB L n k m).data/\void=(aB L n k m).k0/\void=(aB L n k m).k1/\void=(aB L n k m).k2/\
  decide ((ab L k).kind=10)=cM L n k m/\0=bP L n k m)/\(dQ L (ab L k) (aL L m)).snd.snd=fq L n k m)/\((!decide ((dQ L (ab L k) (aL L m)).fst=0))=false->
  ey L n k m=true/\((cB L (ab L k) (aL L m)).code=(aB L n k m).code/\(cB L (ab L k) (aL L m)).data=(aB L n k m).data/\(cB L (ab L k) (aL L m)).k0=(aB
  L n k m).k0/\(cB L (ab L k) (aL L m)).k1=(aB L n k m).k1/\(cB L (ab L k) (aL L m)).k2=(aB L n k m).k2/\decide ((ab L k).kind=10)=cM L n k m/\0=bP L n k
  m)/\(dQ L (ab L k) (aL L m)).snd.snd=fq L n k m)))/\(decide ((ab L k).kind=3)=false->(decide ((ab L k).kind=4)=true->true=true/\la L (ab L k) (aL L m)
  (aO (aL L m))/\(fR L (ab L k) (aL L m)=false->((!decide ((c8 L (ab L k) (aL L m)).fst=0))=true->true=true/\ey L n k m=false/\(c8 L (ab L k) (aL L
  m)).fst=(aB L n k m).code/\ByteArray.mk (Array.mk [])=(aB L n k m).data/\void=(aB L n k m).k0/\void=(aB L n k m).k1/\void=(aB L n k m).k2/\decide ((ab L k).kind=10)
  =cM L n k m/\0=bP L n k m)/\((!decide ((c8 L (ab L k) (aL L m)).fst=0))=false->ey L n k m=false/\(ba L (ab L k) (aL L m)).code=(aB L n k m).code/\(ba L
  (ab L k) (aL L m)).data=(aB L n k m).data/\(ba L (ab L k) (aL L m)).k0=(aB L n k m).k0/\(ba L (ab L k) (aL L m)).k1=(aB L n k m).k1/\(ba L (ab L k)
  (aL L m)).k2=(aB L n k m).k2/\decide ((ab L k).kind=10)=cM L n k m/\0=bP L n k m))/\(fR L (ab L k) (aL L m)=true->((!decide ((c8 L (ab L k) (aL L
  m)).fst=0))=true->true=true/\ey L n k m=true/\((c8 L (ab L k) (aL L m)).fst=(aB L n k m).code/\ByteArray.mk (Array.mk [])=(aB L n k m).data/\void=(aB L n k m).k0
  /\void=(aB L n k m).k1/\void=(aB L n k m).k2/\decide ((ab L k).kind=10)=cM L n k m/\0=bP L n k m)/\(c8 L (ab L k) (aL L m)).snd.snd=fq L n k m)/\((!decide
  ((c8 L (ab L k) (aL L m)).fst=0))=false->ey L n k m=true/\((ba L (ab L k) (aL L m)).code=(aB L n k m).code/\(ba L (ab L k) (aL L m)).data=(aB L n k
  m).data/\(ba L (ab L k) (aL L m)).k0=(aB L n k m).k0/\(ba L (ab L k) (aL L m)).k1=(aB L n k m).k1/\(ba L (ab L k) (aL L m)).k2=(aB L n k m).k2/\decide
  ((ab L k).kind=10)=cM L n k m/\0=bP L n k m)/\(c8 L (ab L k) (aL L m)).snd.snd=fq L n k m)))/\(decide ((ab L k).kind=4)=false->(decide ((ab L k).kind=5)
  =true->true=true/\la L (ab L k) (aL L m) (aO (aL L m))/\(gm L (ab L k) (aL L m)=false->((!decide ((cT L (ab L k) (aL L m)).fst=0))=true->true=true/\
  ey L n k m=false/\(cT L (ab L k) (aL L m)).fst=(aB L n k m).code/\ByteArray.mk (Array.mk [])=(aB L n k m).data/\void=(aB L n k m).k0/\void=(aB L n k m).k1/\void=
  (aB L n k m).k2/\decide ((ab L k).kind=10)=cM L n k m/\0=bP L n k m)/\((!decide ((cT L (ab L k) (aL L m)).fst=0))=false->ey L n k m=false/\(bx L (ab L
  k) (aL L m)).code=(aB L n k m).code/\(bx L (ab L k) (aL L m)).data=(aB L n k m).data/\(bx L (ab L k) (aL L m)).k0=(aB L n k m).k0/\(bx L (ab L k) (aL
  L m)).k1=(aB L n k m).k1/\(bx L (ab L k) (aL L m)).k2=(aB L n k m).k2/\decide ((ab L k).kind=10)=cM L n k m/\0=bP L n k m))/\(gm L (ab L k) (aL L m)=
  true->((!decide ((cT L (ab L k) (aL L m)).fst=0))=true->true=true/\ey L n k m=true/\((cT L (ab L k) (aL L m)).fst=(aB L n k m).code/\ByteArray.mk (Array.mk [])=
  (aB L n k m).data/\void=(aB L n k m).k0/\void=(aB L n k m).k1/\void=(aB L n k m).k2/\decide ((ab L k).kind=10)=cM L n k m/\0=bP L n k m)/\(cT L (ab L k)
  (aL L m)).snd.snd=fq L n k m)/\((!decide ((cT L (ab L k) (aL L m)).fst=0))=false->ey L n k m=true/\((bx L (ab L k) (aL L m)).code=(aB L n k m).code/\(bx
  L (ab L k) (aL L m)).data=(aB L n k m).data/\(bx L (ab L k) (aL L m)).k0=(aB L n k m).k0/\(bx L (ab L k) (aL L m)).k1=(aB L n k m).k1/\(bx L (ab L k)
  (aL L m)).k2=(aB L n k m).k2/\decide ((ab L k).kind=10)=cM L n k m/\0=bP L n k m)/\(cT L (ab L k) (aL L m)).snd.snd=fq L n k m)))/\(decide ((ab L k).kind=
  5)=false->(decide ((ab L k).kind=8)=true->(decide ((aL L m).code=1)=true->true=true/\true=true/\ey L n k m=false/\0=(aB L n k m).code/\ByteArray.mk (Array.mk [])=
  (aB L n k m).data/\void=(aB L n k m).k0/\void=(aB L n k m).k1/\Key.mk 1 void.oid void.count void.call void.rights (aL L m).k0.kind=(aB L n k m).k2/\decide ((ab L k).kind=
  10)=cM L n k m/\0=bP L n k m)/\(decide ((aL L m).code=1)=false->(decide ((aL L m).code=2)=true->true=true/\(ky (aL L m).k0 (aL L m).k1=true->true=true/\
  true=true/\ey L n k m=false/\0=(aB L n k m).code/\ByteArray.mk (Array.mk [])=(aB L n k m).data/\void=(aB L n k m).k0/\void=(aB L n k m).k1/\Key.mk 1 void.oid void.count
  void.call void.rights 1=(aB L n k m).k2/\decide ((ab L k).kind=10)=cM L n k m/\0=bP L n k m)/\(ky (aL L m).k0 (aL L m).k1=false->true=true/\true=true/\ey L
  n k m=false/\0=(aB L n k m).code/\ByteArray.mk (Array.mk [])=(aB L n k m).data/\void=(aB L n k m).k0/\void=(aB L n k m).k1/\Key.mk 1 void.oid void.count void.call void.rights
  0=(aB L n k m).k2/\decide ((ab L k).kind=10)=cM L n k m/\0=bP L n k m))/\(decide ((aL L m).code=2)=false->true=true/\true=true/\ey L n k m=false/\0=(aB
  L n k m).code/\ByteArray.mk (Array.mk [])=(aB L n k m).data/\void=(aB L n k m).k0/\void=(aB L n k m).k1/\Key.mk 1 void.oid void.count void.call void.rights (aL L m).k0.rights=
  (aB L n k m).k2/\decide ((ab L k).kind=10)=cM L n k m/\0=bP L n k m)))/\(decide ((ab L k).kind=8)=false->(decide ((ab L k).kind=9)=true->true=true/\true=
  true/\ey L n k m=false/\0=(aB L n k m).code/\ByteArray.mk (Array.mk [])=(aB L n k m).data/\void=(aB L n k m).k0/\void=(aB L n k m).k1/\Key.mk 1 void.oid void.count
  void.call void.rights n=(aB L n k m).k2/\decide ((ab L k).kind=10)=cM L n k m/\0=bP L n k m)/\(decide ((ab L k).kind=9)=false->ey L n k m=false/\0=(aB L n k
  m).code/\ByteArray.mk (Array.mk [])=(aB L n k m).data/\void=(aB L n k m).k0/\void=(aB L n k m).k1/\void=(aB L n k m).k2/\decide ((ab L k).kind=10)=cM L n k m/\0=
  bP L n k m))))))))))))):=by
 have hd:(aL L m).data=m.data:=rfl;have hcd:(aL L m).code=m.code:=rfl;have hsz:cw (aj L)=0↔aj L=0:=by simp[cw]
 refine⟨fun h=>?_,fun h=>⟨fun _=>hs,fun h2=>?_,fun h2=>⟨fun h3=>?_,fun h3=>⟨fun h4=>?_,fun h4=>⟨fun h5=>?_,fun h5=>⟨fun _=>?_,fun h6=>?_,fun h6=>?_⟩⟩⟩⟩⟩⟩
 ·obtain⟨a,b,c,d⟩:=HT (n:=n) (k:=k) (m:=m) (L:=L) (e:=1) (by unfold bP;rw[XR (hsz.1 (XO h))]) (by omega)
  rw[a,b,c];exact⟨rfl,rfl,rfl,rfl,rfl,rfl,rfl,d⟩
 all_goals have h0:¬aj L=0:=fun e=>XN h (hsz.2 e)
 ·have hf:pc L n k m=false:=OA h2;obtain⟨a,b,c,d⟩:=HT (n:=n) (k:=k) (m:=m) (L:=L) (e:=2) (by unfold bP;rw[XQ h0,XR hf]) (by omega)
  rw[a,b,c];exact⟨rfl,rfl,rfl,rfl,rfl,rfl,rfl,d⟩
 all_goals have hf:¬pc L n k m=false:=HK h2
 ·have h3:(ab L k).kind=6\/(ab L k).kind=7:=by simpa using h3
  obtain⟨a,b,c,d⟩:=HT (n:=n) (k:=k) (m:=m) (L:=L) (e:=241) (by unfold bP;rw[XQ h0,XQ hf,XR h3]) (by omega)
  rw[a,b,c];exact⟨rfl,rfl,rfl,rfl,rfl,rfl,rfl,d⟩
 all_goals have h3:¬((ab L k).kind=6\/(ab L k).kind=7):=by simpa using h3
 all_goals have hE:bP L n k m=0:=by unfold bP;rw[XQ h0,XQ hf,XQ h3]
 ·have h4:=XO h4;obtain⟨a,b,c,d,e⟩:=Ao (c:=false) (r:=(190,dz,L)) hE (by unfold dq;rw[XR h4]) (by unfold tc;rw[XR h4])
  rw[a,b,d,h4];exact⟨rfl,rfl,rfl,rfl,rfl,rfl,rfl,rfl,e⟩
 all_goals have h4:=XN h4
 ·have h5:=XO h5;obtain⟨a,b,c,d,e⟩:=Ao (c:=false) (r:=(0,eW (ab L k).kind,L)) hE (by unfold dq;rw[XQ h4,XR h5]) (by unfold tc;rw[XQ h4,XR h5])
  rw[hcd]at h5;rw[a,b,d,h5];refine⟨rfl,rfl,rfl,rfl,rfl,rfl,rfl,rfl,?_,e⟩;simp
 all_goals have h5:=XN h5
 ·unfold wc;have:=rV (L:=L) (k:=k);unfold aT at this;simp only[XK,XL]at this;omega
 ·have h6':(aL L m).code<1\/cF (ab L k).kind<(aL L m).code\/(cC (ab L k).kind (aL L m).code=true/\(aL L m).k2.kind≠1):=by
   simp only[Bool.or_eq_true,XK,XL,Bool.not_eq_true',decide_eq_false_iff_not]at h6;rcases h6 with(h6|h6)|h6
   ·exact .inl h6
   ·exact .inr (.inl h6)
   ·exact .inr (.inr h6)
  obtain⟨a,b,c,d,e⟩:=Ao (c:=false) (r:=(240,dz,L)) hE (by unfold dq;rw[XQ h4,XQ h5,XR h6']) (by unfold tc;rw[XQ h4,XQ h5,XR h6'])
  have hw:(decide ((ab L k).kind=10)&&decide (m.code=1))=false:=by
   by_cases hk:(ab L k).kind=10
   ·have h1:cF (ab L k).kind=1:=by rw[hk];rfl
    have h2:cC (ab L k).kind (aL L m).code=false:=by rw[hk];rfl
    rw[h2,h1,hcd]at h6';have:¬m.code=1:=fun hm=>by rw[hm]at h6';simp at h6'
    simp[this]
   ·simp[hk]
  rw[a,b,d,hw];exact⟨rfl,rfl,rfl,rfl,rfl,rfl,rfl,rfl,e⟩
 have h6':¬((aL L m).code<1\/cF (ab L k).kind<(aL L m).code\/(cC (ab L k).kind (aL L m).code=true/\(aL L m).k2.kind≠1)):=fun hh=>by
  simp only[Bool.or_eq_false_iff,Bool.and_eq_false_iff,decide_eq_false_iff_not,Bool.not_eq_false',XL]at h6;obtain⟨⟨h6a,h6b⟩,h6c⟩:=h6;rcases hh with hh|hh|hh
  ·exact h6a hh
  ·exact h6b hh
  ·rcases h6c with h6c|h6c
   ·rw[h6c]at hh;simp at hh
   ·exact hh.2 h6c
 have hZ:vt L n k m:=⟨⟨hL,hs⟩,hE,h4,h5,h6'⟩;refine⟨⟨fun h7=>⟨(),hZ,?_⟩,fun h7=>⟨(),hZ,?_⟩⟩,fun _ _=>?_⟩
 ·have h7:0<=(aL L m).k2.value/\(aL L m).k2.value<=2147483647:=by simpa using h7
  have:(aL L m).k2.value=aO (aL L m):=by unfold aO;rw[XR h7]
  exact⟨rfl,rfl,this,rfl,rfl,rfl,rfl,rfl,rfl,rfl,rfl,rfl,rfl,rfl⟩
 ·have h7:¬(0<=(aL L m).k2.value/\(aL L m).k2.value<=2147483647):=by simpa using h7
  have: -1=aO (aL L m):=by unfold aO;rw[XQ h7]
  exact⟨rfl,rfl,this,rfl,rfl,rfl,rfl,rfl,rfl,rfl,rfl,rfl,rfl,rfl⟩
 obtain⟨e1,e2,e3,e4,e5⟩:=Oy hZ rfl rfl;have hro:la L (ab L k) (aL L m) (aO (aL L m)):=⟨hL,hs,rV,rfl⟩;clear hZ h6' h6 h5 h4 hE h3 hf h0 h2 h hsz hcd hd hL hs;rw[e1,e2,e3,e4,<-e5];clear e1 e2 e3 e4 e5;generalize ab L k=k' at *
 generalize aL L m=m' at *
 repeat' (first|with_reducible assumption|with_reducible rfl|with_reducible apply And.intro|with_reducible intro _)
 all_goals(first| (simp_all[rF,ef,Nb,HD,MS,ba,fu,eW,dD,cG,dz,void];done)| (simp_all[rF,ef,Nb,HD,MS,ba,fu,eW,dD,cG,dz,void];omega))
theorem Sd (L:List Sx.Obj) (n:Int) (k:Key) (m:bm) (hL:aq L) (hs:aA m.data):ai Tryz.prog 30 [.sa 0,.it .i64 n,.key k,kJ m] [.ro (.arr none 163 (.ob L))] (yr (ey L n k m) (fq L n k m) [kJ (aB L n k m),.bo (cM L n k m),.it .i64 (bP L n k m)]) (fun _ _=>False):=
 br (inl:=(fun f=>f==112||f==47||f==54||f==110||f==46)) (ann:=(jC [(30,2000019,XC [0,1,6,7,9,12] (fun(_:Unit)=> [(13,.it .i64 (aO (aL L m)))]) (fun _=> []) (fun _=> []) (fun _=>vt L n k m))])) (ae AW (ae Oa (ae Pt (ae pH (ae Ok (ae MP (ae Ix an))))))) (aF LM (aF JV (aF Hg (aF HY aC)))) (R7 L n k m hL hs) (by kernel_rfl)
theorem SR:ll Tryz.prog 30 VL:=
 iq (m:=fun x=>Ji.cn x 0) (gg Fi (fun _=>rfl)) (fun _=>rfl) (fun _ _=>rfl) fun L x hq=>Sd L x.1 x.2.1 x.2.2.1 hq.1 hq.2
end Go.Proofs.YtghpaegglbbocaaGreat
