import Derived.Test.YtghpaegglbbocaaGreatCtRa
import Derived.Test.YtghpaegglbbocaaGreatSpRd
namespace Go.Proofs.YtghpaegglbbocaaGreat
open Go.Sx
set_option maxRecDepth 100000
theorem M8 (L:List Sx.Obj) (k:Key) (i:Int):
 ((decide (ay L k 2 false=0)&&(decide (i<0)||decide (15<i)))=true->void=aF L k i/\4=bI L k i)/\((decide (ay L k 2 false=0)&&(decide (i<0)||decide (15<i)))
   =false->((!decide (ay L k 2 false=0))=true->void=aF L k i/\ay L k 2 false=bI L k i)/\((!decide (ay L k 2 false=0))=false->m9 L k i/\cK L k i=aF
   L k i/\0=bI L k i)):=by
 refine⟨fun h=>?_,fun h=>⟨fun h'=>?_,fun h'=>?_⟩⟩
 ·simp only[Yj,Bool.or_eq_true,Yk]at h;obtain⟨e1,e2⟩:=JF h.1 h.2;rw[e1,e2];exact⟨rfl,rfl⟩
 ·have h':ay L k 2 false≠0:=by simpa using h'
  obtain⟨e1,e2⟩:=MV (i:=i) h';rw[e1,e2];exact⟨rfl,rfl⟩
 ·have h':ay L k 2 false=0:=by simpa using h'
  have hr:¬(i<0\/15<i):=by rw[h']at h;simpa using h
  obtain⟨_,b2,b3,_⟩:=dz (fH h').1;obtain⟨e1,e2⟩:=N6 h' hr;rw[e1,e2];exact⟨⟨by omega,by omega,b2,b3⟩,rfl,rfl⟩
theorem CA:ck Tryz.prog 111 QU:=
 eW (aJ js (aJ gQ (aJ fm cF))) (fun _=>rfl) fun a hq hok=>by
  obtain⟨L,k,i,_⟩:=a;exact aV (inl:=bp) (ann:=aP) (ab nP (ab wD ak)) (M8 L k i) (by kernel_rfl)
theorem Nr (L:List Sx.Obj) (k:Key) (i:Int) (v:Key) (hL:aq L):
 ((decide (ay L k 2 true=0)&&(decide (i<0)||decide (15<i)))=true->gy L k i v=false/\void=cy L k i v/\4=ba L k i v)/\((decide (ay L k 2 true=0)&&(decide
   (i<0)||decide (15<i)))=false->((decide (ay L k 2 true=0)&& !cZ L v)=true->gy L k i v=false/\void=cy L k i v/\2=ba L k i v)/\((decide (ay L k 2 true=
   0)&& !cZ L v)=false->((!decide (ay L k 2 true=0))=true->gy L k i v=false/\void=cy L k i v/\ay L k 2 true=ba L k i v)/\((!decide (ay L k 2 true=0))=
   false->m9 L k i/\(0<=k.oid/\k.oid< ↑(ai L))/\k.oid.toNat<ai L/\(0<=i/\i< ↑16)/\dR L k.oid/\gy L k i v=true/\(cK L k i=cy L k i v/\0=ba L k i v)/\
   cB L k.oid.toNat (Obj.mk (ah L k.oid.toNat free).kind (ah L k.oid.toNat free).count (ah L k.oid.toNat free).calls ((ah L k.oid.toNat free).slots.put i.toNat (ae L v)) (ah L k.oid.toNat
   free).bytes)=b6 L k i v))):=by
 unfold gy;refine⟨fun h=>?_,fun h=>⟨fun h'=>?_,fun h'=>⟨fun h''=>?_,fun h''=>?_⟩⟩⟩
 ·simp only[Yj,Bool.or_eq_true,Yk]at h;obtain⟨e1,e2,e3⟩:=IZ (v:=v) h.1 h.2;rw[e1,e2];exact⟨rfl,rfl,rfl⟩
 ·simp only[Yj,Bool.not_eq_true',Yk]at h';have hr:¬(i<0\/15<i):=by rw[h'.1]at h;simpa using h
  obtain⟨e1,e2,e3⟩:=Nc h'.1 hr h'.2;rw[e1,e2];exact⟨rfl,rfl,rfl⟩
 ·have h'':ay L k 2 true≠0:=by simpa using h''
  obtain⟨e1,e2,e3⟩:=Jw (i:=i) (v:=v) h'';rw[e1,e2];exact⟨by simpa using h'',rfl,rfl⟩
 ·have h'':ay L k 2 true=0:=by simpa using h''
  have hr:¬(i<0\/15<i):=by rw[h'']at h;simpa using h
  have hm:cZ L v=true:=by rw[h'']at h';simpa using h'
  obtain⟨e1,e2,e3⟩:=Qj h'' hr hm;obtain⟨r1,r2,r3,r4⟩:=tJ hL (fH h'').1;rw[e1,e2,e3];exact⟨⟨by omega,by omega,r2,r3⟩,⟨r2,r3⟩,r4,⟨by omega,by omega⟩,r1,rfl,⟨rfl,rfl⟩,rfl⟩
theorem Mw (L:List Sx.Obj) (k:Key) (i:Int) (v:Key) (hL:aq L):aj Tryz.prog 113 [.sa 0,.key k,.it .i64 i,.key v] [.ro (.arr none 163 (.ob L))] (yT (gy L k i v) (b6 L k i v) [.key (cy L k i v),.it .i64 (ba L k i v)]) (fun _ _=>False):=
 bn (inl:=bp) (ann:=aP) (ab nP (ab wD (ab A5 (ab qo (ab kC ak))))) aC (Nr L k i v hL) (by kernel_rfl)
theorem Ca:lA Tryz.prog 113 QM:=
 iy (m:=fun x=>Uq.cn x 0) (gf Qh (fun _=>rfl)) (fun _=>rfl) (fun _ _=>rfl) fun L x hq=>Mw L x.1 x.2.1 x.2.2.1 hq
theorem Jd (L:List Sx.Obj) (k:Key) (hL:aq L):
 ((!decide (ay L k 2 true=0))=true->k9 L k=false/\ay L k 2 true=ay L k 2 true)/\((!decide (ay L k 2 true=0))=false->(0<=k.oid/\k.oid< ↑(ai L))/\k.oid.toNat
   <ai L/\dR L k.oid/\k9 L k=true/\0=ay L k 2 true/\cB L k.oid.toNat (Obj.mk (ah L k.oid.toNat free).kind (ah L k.oid.toNat free).count (ah L k.oid.toNat free).calls
   fY (ah L k.oid.toNat free).bytes)=eT L k):=by
 unfold k9;refine⟨fun h=>?_,fun h=>?_⟩
 ·have h:ay L k 2 true≠0:=by simpa using h
  exact⟨by simpa using h,rfl⟩
 ·have h:ay L k 2 true=0:=by simpa using h
  obtain⟨r1,r2,r3,r4⟩:=tJ hL (fH h).1;exact⟨⟨r2,r3⟩,r4,r1,by simpa using h,h.symm,by unfold eT;rw[Yq h];rfl⟩
theorem LN (L:List Sx.Obj) (k:Key) (hL:aq L):aj Tryz.prog 114 [.sa 0,.key k] [.ro (.arr none 163 (.ob L))] (yT (k9 L k) (eT L k) [.it .i64 (ay L k 2 true)]) (fun _ _=>False):=
 bn (inl:=bp) (ann:=aP) (ab nP (ab kC ak)) aC (Jd L k hL) (by kernel_rfl)
theorem Lt:lA Tryz.prog 114 RA:=
 iy (m:=fun x=>kB.cn x 0) (gf Dv (fun _=>rfl)) (fun _=>rfl) (fun _ _=>rfl) fun L x hq=>LN L x.1 hq
theorem K3 (L:List Sx.Obj) (t f:Key) (hL:aq L):
 (decide (ay L t 2 true=0)=true->((!decide (ay L f 2 false=0))=true->jM L t f=false/\ay L f 2 false=bG L t f)/\((!decide (ay L f 2 false=0))=false->(0
  <=t.oid/\t.oid< ↑(ai L))/\t.oid.toNat<ai L/\(∃g,kx g/\t=t/\f=f/\Value.slice none 0 0=Value.slice none 0 0/\ay L f 2 false=ay L f 2 false/\0=g/\L=L/\t=t/\
  f=f/\ah L t.oid.toNat free=ep (ah L t.oid.toNat free) (cX L t f g))/\∀(g:Int),kx g->(decide (g<16)=true->m9 L f g/\(0<=g/\g< ↑16)/\aG IntKind.i64 (g+1)/\∃
  g',kx g'/\nI g'<nI g/\t=t/\f=f/\Value.slice none 0 0=Value.slice none 0 0/\ay L f 2 false=ay L f 2 false/\g+1=g'/\L=L/\t=t/\f=f/\Obj.mk (ep
  (ah L t.oid.toNat free) (cX L t f g)).kind (ep (ah L t.oid.toNat free) (cX L t f g)).count (ep (ah L t.oid.toNat free) (cX L t f g)).calls ((ep (ah L t.oid.toNat free)
  (cX L t f g)).slots.put g.toNat (cK L f g)) (ep (ah L t.oid.toNat free) (cX L t f g)).bytes=ep (ah L t.oid.toNat free) (cX L t f g'))/\(decide (g<16)=false->dR L
  t.oid/\jM L t f=true/\0=bG L t f/\cB L t.oid.toNat (ep (ah L t.oid.toNat free) (cX L t f g))=dZ L t f)))/\(decide (ay L t 2 true=0)=false->((!decide
  (ay L t 2 true=0))=true->jM L t f=false/\ay L t 2 true=bG L t f)/\((!decide (ay L t 2 true=0))=false->(0<=t.oid/\t.oid< ↑(ai L))/\t.oid.toNat<ai L/\
  (∃g,kx g/\t=t/\f=f/\Value.slice none 0 0=Value.slice none 0 0/\ay L t 2 true=ay L t 2 true/\0=g/\L=L/\t=t/\f=f/\ah L t.oid.toNat free=ep (ah L
  t.oid.toNat free) (cX L t f g))/\∀(g:Int),kx g->(decide (g<16)=true->m9 L f g/\(0<=g/\g< ↑16)/\aG IntKind.i64 (g+1)/\∃g',kx g'/\nI g'<nI g/\t=t/\
  f=f/\Value.slice none 0 0=Value.slice none 0 0/\ay L t 2 true=ay L t 2 true/\g+1=g'/\L=L/\t=t/\f=f/\Obj.mk (ep (ah L t.oid.toNat free) (cX L t f g)).kind
  (ep (ah L t.oid.toNat free) (cX L t f g)).count (ep (ah L t.oid.toNat free) (cX L t f g)).calls ((ep (ah L t.oid.toNat free) (cX L t f g)).slots.put g.toNat (cK L f g))
  (ep (ah L t.oid.toNat free) (cX L t f g)).bytes=ep (ah L t.oid.toNat free) (cX L t f g'))/\(decide (g<16)=false->dR L t.oid/\jM L t f=true/\0=bG L t f/\
  cB L t.oid.toNat (ep (ah L t.oid.toNat free) (cX L t f g))=dZ L t f))):=by
 unfold jM;have no:∀e,bG L t f=e->e≠0->decide (bG L t f=0)=false/\e=bG L t f:=fun e h h0=>⟨by rw[h];simpa using h0,h.symm⟩
 refine⟨fun h=>⟨fun h'=>?_,fun h'=>?_⟩,fun h=>⟨fun h'=>?_,fun h'=>?_⟩⟩
 ·have h:=Yn h;have h':ay L f 2 false≠0:=by simpa using h'
  exact no _ (by unfold bG;rw[Yq h]) h'
 ·have h:=Yn h;have h':ay L f 2 false=0:=by simpa using h'
  have hE:bG L t f=0:=by unfold bG;rw[Yq h];exact h'
  obtain⟨r1,r2,r3,r4⟩:=tJ hL (fH h).1;obtain⟨_,s2,s3,_⟩:=tJ hL (fH h').1;have hk:=(dz (fH h).1).2.2.2.1;have ho:=(dz (fH h').1).2.2.2.1;refine⟨⟨r2,r3⟩,r4,⟨0,⟨by omega,by omega⟩,?_⟩,fun g hg=>⟨fun hlt=>?_,fun hge=>?_⟩⟩
  ·have hz:=Di (f:=f) hk;rw[hk]at hz;repeat' apply And.intro
   all_goals first|rfl|exact hz
  ·obtain⟨g0,g1⟩:=hg;have hlt:=Yn hlt;have hs:=CE (t:=t) g0 ho (ah L t.oid.toNat free) fY;rw[ho]at hs;refine⟨⟨g0,by omega,s2,s3⟩,⟨g0,by omega⟩,by simp only[aG,bY];omega,g+1,⟨by omega,by omega⟩,by unfold nI;omega,?_⟩
   repeat' apply And.intro
   all_goals first|rfl|exact hs
  ·obtain⟨g0,g1⟩:=hg;have hge:=Ym hge;have:g=16:=by omega
   subst this;exact⟨r1,by simpa using hE,hE.symm,by unfold dZ;rw[hE,Yq rfl];rfl⟩
 ·have h:=Ym h;exact no _ (by unfold bG;rw[Yp h]) h
 ·rw[h]at h';simp at h'
theorem Kt (L:List Sx.Obj) (t f:Key) (hL:aq L):aj Tryz.prog 115 [.sa 0,.key t,.key f] [.ro (.arr none 163 (.ob L))] (yT (jM L t f) (dZ L t f) [.it .i64 (bG L t f)]) (fun _ _=>False):=
 bn (inl:=bp) (ann:=(iB [(115,8,RL [0,1,2,3,4,5,6,7,8,9] (fun g=> [(10,.it .i64 g)]) 9 (fun g=> .blk tO (.ob (ep (ah L (oY t.oid) free) (cX L t f g)))) kx nI)])) (ab nP (ab wD (ab kC ak))) aC (K3 L t f hL) (by kernel_rfl)
theorem Nd:lA Tryz.prog 115 PU:=
 iy (m:=fun x=>LY.cn x 0) (gf uB (fun _=>rfl)) (fun _=>rfl) (fun _ _=>rfl) fun L x hq=>Kt L x.1 x.2.1 hq
theorem Hy (L:List Sx.Obj) (k:Key) (i n:Int) (hL:aq L):
 ((decide (aS L k false=0)&& !bZ i n)=true->ByteArray.mk (Array.mk [])=dP L k i n/\4=b7 L k i n)/\((decide (aS L k false=0)&& !bZ i n)=false->((!decide
   (aS L k false=0))=true->ByteArray.mk (Array.mk [])=dP L k i n/\aS L k false=b7 L k i n)/\((!decide (aS L k false=0))=false->(0<=k.oid/\k.oid< ↑(ai L))/\aG
   IntKind.i64 (i+n)/\C5 i (i+n) 64/\k.oid.toNat<ai L/\BH (ah L k.oid.toNat free).bytes i.toNat (i+n).toNat=dP L k i n/\0=b7 L k i n)):=by
 refine⟨fun h=>?_,fun h=>⟨fun h'=>?_,fun h'=>?_⟩⟩
 ·rw[Yj,Yk]at h;obtain⟨e1,e2⟩:=xY h.1 h.2;rw[<-e1,<-e2];exact⟨rfl,rfl⟩
 ·have h':aS L k false≠0:=by simpa using h'
  obtain⟨e1,e2⟩:=p6 (i:=i) (n:=n) rfl h';rw[<-e1,<-e2];exact⟨rfl,rfl⟩
 ·have h':aS L k false=0:=by simpa using h'
  have hi:(!bZ i n)=false:=by rw[h']at h;simpa using h
  obtain⟨r1,r2,r3,r4⟩:=nS hL (lK h').1;obtain⟨e1,e2,e3,e4⟩:=wj h' hi;exact⟨⟨r2,r3⟩,e1,e2,r4,e3,e4⟩
theorem Hl:ck Tryz.prog 117 LU:=
 eW (aJ js (aJ gQ (aJ fm (aJ fm cF)))) (fun _=>rfl) fun a hq hok=>by
  obtain⟨L,k,i,n,_⟩:=a;exact aV (inl:=bp) (ann:=aP) (ab sS (ab r8 ak)) (Hy L k i n hq) (by kernel_rfl)
theorem J3 (L:List Sx.Obj) (k:Key) (hL:aq L):
 ((!decide (aS L k true=0))=true->la L k=false/\aS L k true=aS L k true)/\((!decide (aS L k true=0))=false->(0<=k.oid/\k.oid< ↑(ai L))/\k.oid.toNat<ai L/\
   dR L k.oid/\la L k=true/\0=aS L k true/\cB L k.oid.toNat (Obj.mk (ah L k.oid.toNat free).kind (ah L k.oid.toNat free).count (ah L k.oid.toNat free).calls (ah L
   k.oid.toNat free).slots fX)=eD L k):=by
 unfold la;refine⟨fun h=>?_,fun h=>?_⟩
 ·have h:aS L k true≠0:=by simpa using h
  exact⟨by simpa using h,rfl⟩
 ·have h:aS L k true=0:=by simpa using h
  obtain⟨r1,r2,r3,r4⟩:=nS hL (lK h).1;exact⟨⟨r2,r3⟩,r4,r1,by simpa using h,h.symm,by unfold eD;rw[Yq h];rfl⟩
theorem MH (L:List Sx.Obj) (k:Key) (hL:aq L):aj Tryz.prog 119 [.sa 0,.key k] [.ro (.arr none 163 (.ob L))] (yT (la L k) (eD L k) [.it .i64 (aS L k true)]) (fun _ _=>False):=
 bn (inl:=bp) (ann:=aP) (ab sS (ab kC ak)) aC (J3 L k hL) (by kernel_rfl)
theorem L8:lA Tryz.prog 119 N7:=
 iy (m:=fun x=>kB.cn x 0) (gf Dv (fun _=>rfl)) (fun _=>rfl) (fun _ _=>rfl) fun L x hq=>MH L x.1 hq
theorem QZ (L:List Sx.Obj) (t f:Key) (hL:aq L):
 (decide (aS L t true=0)=true->((!decide (aS L f false=0))=true->lC L t f=false/\aS L f false=cz L t f)/\((!decide (aS L f false=0))=false->(0<=t.oid/\
  t.oid< ↑(ai L))/\t.oid.toNat<ai L/\(0<=f.oid/\f.oid< ↑(ai L))/\f.oid.toNat<ai L/\dR L t.oid/\lC L t f=true/\0=cz L t f/\cB L t.oid.toNat (Obj.mk (ah L
  t.oid.toNat free).kind (ah L t.oid.toNat free).count (ah L t.oid.toNat free).calls (ah L t.oid.toNat free).slots (ah L f.oid.toNat free).bytes)=eV L t f))/\(decide (aS L t true=0)
  =false->((!decide (aS L t true=0))=true->lC L t f=false/\aS L t true=cz L t f)/\((!decide (aS L t true=0))=false->(0<=t.oid/\t.oid< ↑(ai L))/\t.oid.toNat<
  ai L/\(0<=f.oid/\f.oid< ↑(ai L))/\f.oid.toNat<ai L/\dR L t.oid/\lC L t f=true/\0=cz L t f/\cB L t.oid.toNat (Obj.mk (ah L t.oid.toNat free).kind (ah L
  t.oid.toNat free).count (ah L t.oid.toNat free).calls (ah L t.oid.toNat free).slots (ah L f.oid.toNat free).bytes)=eV L t f)):=by
 unfold lC;refine⟨fun h=>⟨fun h'=>?_,fun h'=>?_⟩,fun h=>⟨fun h'=>?_,fun h'=>?_⟩⟩
 ·have h:=Yn h;have h':aS L f false≠0:=by simpa using h'
  obtain⟨e1,e2⟩:=Ge h rfl h';rw[<-e1];exact⟨by simpa using h',rfl⟩
 ·have h:=Yn h;have h':aS L f false=0:=by simpa using h'
  have hE:cz L t f=0:=by unfold cz;rw[Yq h];exact h'
  obtain⟨r1,r2,r3,r4⟩:=nS hL (lK h).1;obtain⟨_,s2,s3,s4⟩:=nS hL (lK h').1;exact⟨⟨r2,r3⟩,r4,⟨s2,s3⟩,s4,r1,by simpa using hE,hE.symm,by unfold eV;rw[hE,Yq rfl];rfl⟩
 ·have h:=Ym h;obtain⟨e1,e2⟩:=uz (f:=f) rfl h;rw[<-e1];exact⟨by simpa using h,rfl⟩
 ·rw[h]at h';simp at h'
theorem Rd (L:List Sx.Obj) (t f:Key) (hL:aq L):aj Tryz.prog 120 [.sa 0,.key t,.key f] [.ro (.arr none 163 (.ob L))] (yT (lC L t f) (eV L t f) [.it .i64 (cz L t f)]) (fun _ _=>False):=
 bn (inl:=bp) (ann:=aP) (ab sS (ab kC ak)) aC (QZ L t f hL) (by kernel_rfl)
theorem Pc:lA Tryz.prog 120 Tr:=
 iy (m:=fun x=>LY.cn x 0) (gf uB (fun _=>rfl)) (fun _=>rfl) (fun _ _=>rfl) fun L x hq=>Rd L x.1 x.2.1 hq
theorem Jg (d:Int) (hq:wO d):
 (0<=d/\d< ↑11)/\ah [0,1,6,5,6,7,0,0,3,1,1] d.toNat 0=cI d:=by
 obtain⟨h0,h1⟩:=hq;refine⟨⟨h0,by omega⟩,?_⟩
 have:d=0\/d=1\/d=2\/d=3\/d=4\/d=5\/d=6\/d=7\/d=8\/d=9\/d=10:=by omega
 rcases this with rfl|rfl|rfl|rfl|rfl|rfl|rfl|rfl|rfl|rfl|rfl<;>rfl
theorem Ib:ck Tryz.prog 48 O0:=
 eW (aJ fm cF) (fun _=>rfl) fun a hq hok=>by
  obtain⟨d,_⟩:=a;exact aV (inl:=bp) (ann:=aP) ak (Jg d hq) (by kernel_rfl)
theorem Jn (a b:Int):
 (decide (a=2)=true->(decide (a=2)=true->(decide (b=1)||decide (b=2)||decide (b=5))=cD a b)/\(decide (a=2)=false->(decide (a=4)=true->decide (b=4)=cD a b)/\
  (decide (a=4)=false->(decide (a=5)=true->(decide (1<=b)&&decide (b<=3)||decide (5<=b)&&decide (b<=7))=cD a b)/\(decide (a=5)=false->false=cD a b))))/\(decide (a=
  2)=false->(decide (a=3)=true->(decide (b=1)||decide (b=2)||decide (b=5))=cD a b)/\(decide (a=3)=false->(decide (a=4)=true->decide (b=4)=cD a b)/\(decide (a=
  4)=false->(decide (a=5)=true->(decide (1<=b)&&decide (b<=3)||decide (5<=b)&&decide (b<=7))=cD a b)/\(decide (a=5)=false->false=cD a b)))):=by
 unfold cD;grind
theorem JD:ck Tryz.prog 49 Ql:=
 mj (fy .i64) (fy .i64) (fun _ _=>rfl) fun a b ha hb=>aV (inl:=bp) (ann:=aP) ak (Jn a b) (by kernel_rfl)
theorem KN (L:List Sx.Obj) (k:Key) (m:bm) (i:Int) (hq:lk L k m i):
 (decide (m.code=1)=true->true=true/\jo L k m=false/\0=(bS L k m).code/\ByteArray.mk (Array.mk [])=(bS L k m).data/\aF L k i=(bS L k m).k0/\void=(bS L k m).k1/\
  void=(bS L k m).k2/\bI L k i=(dL L k m).fst)/\(decide (m.code=1)=false->(decide (m.code=2)=true->true=true/\aq L/\(gy L k i m.k0=false->true=true/\jo L k
  m=false/\0=(bS L k m).code/\ByteArray.mk (Array.mk [])=(bS L k m).data/\cy L k i m.k0=(bS L k m).k0/\void=(bS L k m).k1/\void=(bS L k m).k2/\ba L k i m.k0=
  (dL L k m).fst)/\(gy L k i m.k0=true->true=true/\jo L k m=true/\(0=(bS L k m).code/\ByteArray.mk (Array.mk [])=(bS L k m).data/\cy L k i m.k0=(bS L k m).k0/\
  void=(bS L k m).k1/\void=(bS L k m).k2/\ba L k i m.k0=(dL L k m).fst)/\b6 L k i m.k0=(dL L k m).snd.snd))/\(decide (m.code=2)=false->(decide (m.code=3)=true->
  true=true/\aq L/\(k9 L k=false->jo L k m=false/\0=(bS L k m).code/\ByteArray.mk (Array.mk [])=(bS L k m).data/\void=(bS L k m).k0/\void=(bS L k m).k1/\void
  =(bS L k m).k2/\ay L k 2 true=(dL L k m).fst)/\(k9 L k=true->jo L k m=true/\(0=(bS L k m).code/\ByteArray.mk (Array.mk [])=(bS L k m).data/\void=(bS L k
  m).k0/\void=(bS L k m).k1/\void=(bS L k m).k2/\ay L k 2 true=(dL L k m).fst)/\eT L k=(dL L k m).snd.snd))/\(decide (m.code=3)=false->(decide (m.code=4)=true->
  true=true/\aq L/\(jM L k m.k0=false->jo L k m=false/\0=(bS L k m).code/\ByteArray.mk (Array.mk [])=(bS L k m).data/\void=(bS L k m).k0/\void=(bS L k m).k1/\
  void=(bS L k m).k2/\bG L k m.k0=(dL L k m).fst)/\(jM L k m.k0=true->jo L k m=true/\(0=(bS L k m).code/\ByteArray.mk (Array.mk [])=(bS L k m).data/\void=
  (bS L k m).k0/\void=(bS L k m).k1/\void=(bS L k m).k2/\bG L k m.k0=(dL L k m).fst)/\dZ L k m.k0=(dL L k m).snd.snd))/\(decide (m.code=4)=false->(decide (m.code
  =5)=true->((decide (i<0)||decide (7<i))=true->jo L k m=false/\0=(bS L k m).code/\ByteArray.mk (Array.mk [])=(bS L k m).data/\void=(bS L k m).k0/\void=(bS L k
  m).k1/\void=(bS L k m).k2/\2=(dL L k m).fst)/\((decide (i<0)||decide (7<i))=false->gz k i/\true=true/\jo L k m=false/\0=(bS L k m).code/\ByteArray.mk (Array.mk
  [])=(bS L k m).data/\iz k i=(bS L k m).k0/\void=(bS L k m).k1/\void=(bS L k m).k2/\0=(dL L k m).fst))/\(decide (m.code=5)=false->((!decide (k.rights=0))=true->
  jo L k m=false/\0=(bS L k m).code/\ByteArray.mk (Array.mk [])=(bS L k m).data/\void=(bS L k m).k0/\void=(bS L k m).k1/\void=(bS L k m).k2/\191=(dL L k m).fst)/\
  ((!decide (k.rights=0))=false->true=true/\jo L k m=false/\0=(bS L k m).code/\ByteArray.mk (Array.mk [])=(bS L k m).data/\Key.mk 5 k.oid k.count void.call void.rights
  void.value=(bS L k m).k0/\void=(bS L k m).k1/\void=(bS L k m).k2/\0=(dL L k m).fst)))))):=by
 obtain⟨hL,hs,hk,rfl⟩:=hq;have hlq:gz k (aO m)↔(0<=aO m/\aO m<=7):=by unfold gz;simp[hk]
 have h8:=Ms (m:=m);have hin:=AP (m:=m);have hr:aG IntKind.i64 (64-aO m):=by unfold aG bY;omega
 have hr4:aG IntKind.i64 (aO m+4):=by unfold aG bY;omega
 repeat' (first|with_reducible assumption|with_reducible rfl|with_reducible apply And.intro|with_reducible intro _)
 all_goals(first| (simp_all[jo,bS,dL,ei,eZ,fC,dC,cH,dg,void];done)| (simp_all[jo,bS,dL,ei,eZ,fC,dC,cH,dg,void];omega)| (by_cases hz:0<=m.k2.value/\m.k2.value<=7<;>first| (simp_all[jo,bS,dL,ei,eZ,fC,dC,cH,dg,void];done)| (simp_all[jo,bS,dL,ei,eZ,fC,dC,cH,dg,void];omega)))
theorem Ka (L:List Sx.Obj) (k:Key) (m:bm) (i:Int) (hq:lk L k m i):aj Tryz.prog 50 [.sa 0,.key k,jP m,.it .i64 i] [.ro (.arr none 163 (.ob L))] (yT (jo L k m) ((dL L k m).2.2) [jP (bS L k m),.it .i64 (dL L k m).1]) (fun _ _=>False):=
 bn (inl:=(fun f=>f==112||f==47||f==54||f==110)) (ann:=aP) (ab CA (ab B9 ak)) (aD Ca (aD Lt (aD Nd aC))) (KN L k m i hq) (by kernel_rfl)
theorem II:lA Tryz.prog 50 Ou:=
 iy (m:=fun x=>AE.cn x 0) (gf wS (fun _=>rfl)) (fun _=>rfl) (fun _ _=>rfl) fun L x hq=>Ka L x.1 x.2.1 x.2.2.1 hq
theorem Nh (L:List Sx.Obj) (k:Key) (m:bm) (i:Int) (hq:lk L k m i):
 (decide (m.code=1)=true->aG IntKind.i64 (64-i)/\aq L/\jW L k m=false/\0=(cx L k m).code/\dP L k i (imax 0 (kI 32 (64-i)))=(cx L k m).data/\void=(cx L k
  m).k0/\void=(cx L k m).k1/\void=(cx L k m).k2/\b7 L k i (imax 0 (kI 32 (64-i)))=(dN L k m).fst)/\(decide (m.code=1)=false->(decide (m.code=2)=true->true=true/\
  (aq L/\aw m.data)/\(jt L k i m.data=false->jW L k m=false/\0=(cx L k m).code/\ByteArray.mk (Array.mk [])=(cx L k m).data/\void=(cx L k m).k0/\void=(cx L k
  m).k1/\void=(cx L k m).k2/\cq L k i m.data=(dN L k m).fst)/\(jt L k i m.data=true->jW L k m=true/\(0=(cx L k m).code/\ByteArray.mk (Array.mk [])=(cx L k m).data
  /\void=(cx L k m).k0/\void=(cx L k m).k1/\void=(cx L k m).k2/\cq L k i m.data=(dN L k m).fst)/\eh L k i m.data=(dN L k m).snd.snd))/\(decide (m.code=2)=false->
  (decide (m.code=3)=true->true=true/\aq L/\(la L k=false->jW L k m=false/\0=(cx L k m).code/\ByteArray.mk (Array.mk [])=(cx L k m).data/\void=(cx L k m).k0/\
  void=(cx L k m).k1/\void=(cx L k m).k2/\aS L k true=(dN L k m).fst)/\(la L k=true->jW L k m=true/\(0=(cx L k m).code/\ByteArray.mk (Array.mk [])=(cx L k
  m).data/\void=(cx L k m).k0/\void=(cx L k m).k1/\void=(cx L k m).k2/\aS L k true=(dN L k m).fst)/\eD L k=(dN L k m).snd.snd))/\(decide (m.code=3)=false->
  (decide (m.code=4)=true->true=true/\aq L/\(lC L k m.k0=false->jW L k m=false/\0=(cx L k m).code/\ByteArray.mk (Array.mk [])=(cx L k m).data/\void=(cx L k m).k0
  /\void=(cx L k m).k1/\void=(cx L k m).k2/\cz L k m.k0=(dN L k m).fst)/\(lC L k m.k0=true->jW L k m=true/\(0=(cx L k m).code/\ByteArray.mk (Array.mk [])=(cx
  L k m).data/\void=(cx L k m).k0/\void=(cx L k m).k1/\void=(cx L k m).k2/\cz L k m.k0=(dN L k m).fst)/\eV L k m.k0=(dN L k m).snd.snd))/\(decide (m.code=4)=false
  ->((decide (i<0)||decide (7<i))=true->jW L k m=false/\0=(cx L k m).code/\ByteArray.mk (Array.mk [])=(cx L k m).data/\void=(cx L k m).k0/\void=(cx L k m).k1/\void
  =(cx L k m).k2/\2=(dN L k m).fst)/\((decide (i<0)||decide (7<i))=false->gz k i/\true=true/\jW L k m=false/\0=(cx L k m).code/\ByteArray.mk (Array.mk [])=(cx
  L k m).data/\iz k i=(cx L k m).k0/\void=(cx L k m).k1/\void=(cx L k m).k2/\0=(dN L k m).fst))))):=by
 obtain⟨hL,hs,hk,rfl⟩:=hq;have hlq:gz k (aO m)↔(0<=aO m/\aO m<=7):=by unfold gz;simp[hk]
 have h8:=Ms (m:=m);have hin:=AP (m:=m);have hr:aG IntKind.i64 (64-aO m):=by unfold aG bY;omega
 have hr4:aG IntKind.i64 (aO m+4):=by unfold aG bY;omega
 repeat' (first|with_reducible assumption|with_reducible rfl|with_reducible apply And.intro|with_reducible intro _)
 all_goals(first| (simp_all[jW,cx,dN,ph,ei,eZ,fC,dC,cH,dg,void];done)| (simp_all[jW,cx,dN,ph,ei,eZ,fC,dC,cH,dg,void];omega)| (by_cases hz:0<=m.k2.value/\m.k2.value<=7<;>first| (simp_all[jW,cx,dN,ph,ei,eZ,fC,dC,cH,dg,void];done)| (simp_all[jW,cx,dN,ph,ei,eZ,fC,dC,cH,dg,void];omega)))
theorem J6 (L:List Sx.Obj) (k:Key) (m:bm) (i:Int) (hq:lk L k m i):aj Tryz.prog 51 [.sa 0,.key k,jP m,.it .i64 i] [.ro (.arr none 163 (.ob L))] (yT (jW L k m) ((dN L k m).2.2) [jP (cx L k m),.it .i64 (dN L k m).1]) (fun _ _=>False):=
 bn (inl:=(fun f=>f==112||f==47||f==54||f==110)) (ann:=aP) (ab Hl (ab B9 ak)) (aD My (aD L8 (aD Pc aC))) (Nh L k m i hq) (by kernel_rfl)
theorem JS:lA Tryz.prog 51 QI:=
 iy (m:=fun x=>AE.cn x 0) (gf wS (fun _=>rfl)) (fun _=>rfl) (fun _ _=>rfl) fun L x hq=>J6 L x.1 x.2.1 x.2.2.1 hq
theorem GN (L:List Sx.Obj) (k:Key) (m:bm) (i:Int) (hq:lk L k m i):
 (decide (m.code=1)=true->(decide (m.code=1)=true->true=true/\aq L/\(fN L k m.code=false->true=true/\fT L k m=false/\0=(aZ L k m).code/\ByteArray.mk (Array.mk [])
  =(aZ L k m).data/\cJ L k m.code=(aZ L k m).k0/\void=(aZ L k m).k1/\void=(aZ L k m).k2/\bX L k m.code=(cY L k m).fst)/\(fN L k m.code=true->true=true/\fT
  L k m=true/\(0=(aZ L k m).code/\ByteArray.mk (Array.mk [])=(aZ L k m).data/\cJ L k m.code=(aZ L k m).k0/\void=(aZ L k m).k1/\void=(aZ L k m).k2/\bX L k m.code=
  (cY L k m).fst)/\eH L k m.code=(cY L k m).snd.snd))/\(decide (m.code=1)=false->(decide (m.code=3)=true->true=true/\aq L/\(iR L k m.k0=false->fT L k m=false/\0
  =(aZ L k m).code/\ByteArray.mk (Array.mk [])=(aZ L k m).data/\void=(aZ L k m).k0/\void=(aZ L k m).k1/\void=(aZ L k m).k2/\b8 L k m.k0=(cY L k m).fst)/\(iR L k
  m.k0=true->fT L k m=true/\(0=(aZ L k m).code/\ByteArray.mk (Array.mk [])=(aZ L k m).data/\void=(aZ L k m).k0/\void=(aZ L k m).k1/\void=(aZ L k m).k2/\b8 L k
  m.k0=(cY L k m).fst)/\fL L k m.k0=(cY L k m).snd.snd))/\(decide (m.code=3)=false->(decide (m.code=4)=true->true=true/\aq L/\(jV L k i=false->true=true/\fT L k
  m=false/\0=(aZ L k m).code/\ByteArray.mk (Array.mk [])=(aZ L k m).data/\bP L k i=(aZ L k m).k0/\void=(aZ L k m).k1/\void=(aZ L k m).k2/\bM L k i=(cY L k
  m).fst)/\(jV L k i=true->true=true/\fT L k m=true/\(0=(aZ L k m).code/\ByteArray.mk (Array.mk [])=(aZ L k m).data/\bP L k i=(aZ L k m).k0/\void=(aZ L k m).k1/\
  void=(aZ L k m).k2/\bM L k i=(cY L k m).fst)/\br L k i=(cY L k m).snd.snd))/\(decide (m.code=4)=false->(decide (m.code=5)=true->true=true/\(iG L k m.k0=true->
  true=true/\true=true/\fT L k m=false/\0=(aZ L k m).code/\ByteArray.mk (Array.mk [])=(aZ L k m).data/\void=(aZ L k m).k0/\void=(aZ L k m).k1/\Key.mk 1 void.oid
  void.count void.call void.rights 1=(aZ L k m).k2/\aK L k=(cY L k m).fst)/\(iG L k m.k0=false->true=true/\true=true/\fT L k m=false/\0=(aZ L k m).code/\
  ByteArray.mk (Array.mk [])=(aZ L k m).data/\void=(aZ L k m).k0/\void=(aZ L k m).k1/\Key.mk 1 void.oid void.count void.call void.rights 0=(aZ L k m).k2/\aK L k=(cY L k
  m).fst))/\(decide (m.code=5)=false->true=true/\aq L/\(jN L k=false->true=true/\true=true/\fT L k m=false/\0=(aZ L k m).code/\ByteArray.mk (Array.mk [])=(aZ L
  k m).data/\void=(aZ L k m).k0/\void=(aZ L k m).k1/\Key.mk 1 void.oid void.count void.call void.rights (eX L k)=(aZ L k m).k2/\aK L k=(cY L k m).fst)/\(jN L k=true
  ->true=true/\true=true/\fT L k m=true/\(0=(aZ L k m).code/\ByteArray.mk (Array.mk [])=(aZ L k m).data/\void=(aZ L k m).k0/\void=(aZ L k m).k1/\Key.mk 1 void.oid
  void.count void.call void.rights (eX L k)=(aZ L k m).k2/\aK L k=(cY L k m).fst)/\gi L k=(cY L k m).snd.snd))))))/\(decide (m.code=1)=false->(decide (m.code=2)=true
  ->true=true/\aq L/\(fN L k m.code=false->true=true/\fT L k m=false/\0=(aZ L k m).code/\ByteArray.mk (Array.mk [])=(aZ L k m).data/\cJ L k m.code=(aZ L k
  m).k0/\void=(aZ L k m).k1/\void=(aZ L k m).k2/\bX L k m.code=(cY L k m).fst)/\(fN L k m.code=true->true=true/\fT L k m=true/\(0=(aZ L k m).code/\ByteArray.mk
  (Array.mk [])=(aZ L k m).data/\cJ L k m.code=(aZ L k m).k0/\void=(aZ L k m).k1/\void=(aZ L k m).k2/\bX L k m.code=(cY L k m).fst)/\eH L k m.code=(cY L k
  m).snd.snd))/\(decide (m.code=2)=false->(decide (m.code=3)=true->true=true/\aq L/\(iR L k m.k0=false->fT L k m=false/\0=(aZ L k m).code/\ByteArray.mk (Array.mk [])
  =(aZ L k m).data/\void=(aZ L k m).k0/\void=(aZ L k m).k1/\void=(aZ L k m).k2/\b8 L k m.k0=(cY L k m).fst)/\(iR L k m.k0=true->fT L k m=true/\(0=(aZ L k
  m).code/\ByteArray.mk (Array.mk [])=(aZ L k m).data/\void=(aZ L k m).k0/\void=(aZ L k m).k1/\void=(aZ L k m).k2/\b8 L k m.k0=(cY L k m).fst)/\fL L k m.k0=(cY L
  k m).snd.snd))/\(decide (m.code=3)=false->(decide (m.code=4)=true->true=true/\aq L/\(jV L k i=false->true=true/\fT L k m=false/\0=(aZ L k m).code/\ByteArray.mk
  (Array.mk [])=(aZ L k m).data/\bP L k i=(aZ L k m).k0/\void=(aZ L k m).k1/\void=(aZ L k m).k2/\bM L k i=(cY L k m).fst)/\(jV L k i=true->true=true/\fT L k
  m=true/\(0=(aZ L k m).code/\ByteArray.mk (Array.mk [])=(aZ L k m).data/\bP L k i=(aZ L k m).k0/\void=(aZ L k m).k1/\void=(aZ L k m).k2/\bM L k i=(cY L k
  m).fst)/\br L k i=(cY L k m).snd.snd))/\(decide (m.code=4)=false->(decide (m.code=5)=true->true=true/\(iG L k m.k0=true->true=true/\true=true/\fT L k m=false/\0
  =(aZ L k m).code/\ByteArray.mk (Array.mk [])=(aZ L k m).data/\void=(aZ L k m).k0/\void=(aZ L k m).k1/\Key.mk 1 void.oid void.count void.call void.rights 1=(aZ L k m).k2/\
  aK L k=(cY L k m).fst)/\(iG L k m.k0=false->true=true/\true=true/\fT L k m=false/\0=(aZ L k m).code/\ByteArray.mk (Array.mk [])=(aZ L k m).data/\void=(aZ L k
  m).k0/\void=(aZ L k m).k1/\Key.mk 1 void.oid void.count void.call void.rights 0=(aZ L k m).k2/\aK L k=(cY L k m).fst))/\(decide (m.code=5)=false->true=true/\aq L/\
  (jN L k=false->true=true/\true=true/\fT L k m=false/\0=(aZ L k m).code/\ByteArray.mk (Array.mk [])=(aZ L k m).data/\void=(aZ L k m).k0/\void=(aZ L k m).k1/\
  Key.mk 1 void.oid void.count void.call void.rights (eX L k)=(aZ L k m).k2/\aK L k=(cY L k m).fst)/\(jN L k=true->true=true/\true=true/\fT L k m=true/\(0=(aZ L
  k m).code/\ByteArray.mk (Array.mk [])=(aZ L k m).data/\void=(aZ L k m).k0/\void=(aZ L k m).k1/\Key.mk 1 void.oid void.count void.call void.rights (eX L k)=(aZ L k m).k2/\
  aK L k=(cY L k m).fst)/\gi L k=(cY L k m).snd.snd)))))):=by
 obtain⟨hL,hs,hk,rfl⟩:=hq;have hlq:gz k (aO m)↔(0<=aO m/\aO m<=7):=by unfold gz;simp[hk]
 have h8:=Ms (m:=m);have hin:=AP (m:=m);have hr:aG IntKind.i64 (64-aO m):=by unfold aG bY;omega
 have hr4:aG IntKind.i64 (aO m+4):=by unfold aG bY;omega
 repeat' (first|with_reducible assumption|with_reducible rfl|with_reducible apply And.intro|with_reducible intro _)
 all_goals(first| (simp_all[fT,aZ,cY,ei,eZ,fC,dC,cH,dg,void];done)| (simp_all[fT,aZ,cY,ei,eZ,fC,dC,cH,dg,void];omega)| (by_cases hz:0<=m.k2.value/\m.k2.value<=7<;>first| (simp_all[fT,aZ,cY,ei,eZ,fC,dC,cH,dg,void];done)| (simp_all[fT,aZ,cY,ei,eZ,fC,dC,cH,dg,void];omega)))
theorem G8 (L:List Sx.Obj) (k:Key) (m:bm) (i:Int) (hq:lk L k m i):aj Tryz.prog 52 [.sa 0,.key k,jP m,.it .i64 i] [.ro (.arr none 163 (.ob L))] (yT (fT L k m) ((cY L k m).2.2) [jP (aZ L k m),.it .i64 (cY L k m).1]) (fun _ _=>False):=
 bn (inl:=(fun f=>f==112||f==47||f==54||f==110)) (ann:=aP) (ab IJ ak) (aD Lz (aD OT (aD Hq (aD M4 aC)))) (GN L k m i hq) (by kernel_rfl)
theorem H3:lA Tryz.prog 52 Mi:=
 iy (m:=fun x=>AE.cn x 0) (gf wS (fun _=>rfl)) (fun _=>rfl) (fun _ _=>rfl) fun L x hq=>G8 L x.1 x.2.1 x.2.2.1 hq
theorem I9 (L:List Sx.Obj) (k:Key) (m:bm) (i:Int) (hq:lk L k m i):
 (((decide (m.code=1)||decide (m.code=2))&&(decide (i<0)||decide (11<i)))=true->gu L k m=false/\0=(bw L k m).code/\ByteArray.mk (Array.mk [])=(bw L k m).data/\void=
   (bw L k m).k0/\void=(bw L k m).k1/\void=(bw L k m).k2/\4=(cT L k m).fst)/\(((decide (m.code=1)||decide (m.code=2))&&(decide (i<0)||decide (11<i)))=false->(decide
   (m.code=1)=true->aG IntKind.i64 (i+4)/\true=true/\gu L k m=false/\0=(bw L k m).code/\ByteArray.mk (Array.mk [])=(bw L k m).data/\aF L (Key.mk 2 k.oid k.count
   void.call void.rights void.value) (i+4)=(bw L k m).k0/\void=(bw L k m).k1/\void=(bw L k m).k2/\bI L (Key.mk 2 k.oid k.count void.call void.rights void.value) (i+4)=(cT L
   k m).fst)/\(decide (m.code=1)=false->(decide (m.code=2)=true->aG IntKind.i64 (i+4)/\true=true/\aq L/\(gy L (Key.mk 2 k.oid k.count void.call void.rights void.value) (i+4)
   m.k0=false->true=true/\gu L k m=false/\0=(bw L k m).code/\ByteArray.mk (Array.mk [])=(bw L k m).data/\cy L (Key.mk 2 k.oid k.count void.call void.rights void.value) (i+4)
   m.k0=(bw L k m).k0/\void=(bw L k m).k1/\void=(bw L k m).k2/\ba L (Key.mk 2 k.oid k.count void.call void.rights void.value) (i+4) m.k0=(cT L k m).fst)/\(gy L (Key.mk 2
   k.oid k.count void.call void.rights void.value) (i+4) m.k0=true->true=true/\gu L k m=true/\(0=(bw L k m).code/\ByteArray.mk (Array.mk [])=(bw L k m).data/\cy L (Key.mk 2
   k.oid k.count void.call void.rights void.value) (i+4) m.k0=(bw L k m).k0/\void=(bw L k m).k1/\void=(bw L k m).k2/\ba L (Key.mk 2 k.oid k.count void.call void.rights void.value)
   (i+4) m.k0=(cT L k m).fst)/\b6 L (Key.mk 2 k.oid k.count void.call void.rights void.value) (i+4) m.k0=(cT L k m).snd.snd))/\(decide (m.code=2)=false->(decide (m.code=3)=true
   ->true=true/\gu L k m=false/\0=(bw L k m).code/\ByteArray.mk (Array.mk [])=(bw L k m).data/\Key.mk 6 k.oid k.count void.call void.rights m.k2.value=(bw L k m).k0/\void=
   (bw L k m).k1/\void=(bw L k m).k2/\0=(cT L k m).fst)/\(decide (m.code=3)=false->(decide (m.code=4)=true->true=true/\true=true/\gu L k m=false/\0=(bw L k
   m).code/\ByteArray.mk (Array.mk [])=(bw L k m).data/\void=(bw L k m).k0/\void=(bw L k m).k1/\Key.mk 1 void.oid void.count void.call void.rights (qh L k.oid)=(bw L k m).k2/\0
   =(cT L k m).fst)/\(decide (m.code=4)=false->(decide (m.code=5)=true->true=true/\aq L/\(mn L k.oid i=false->gu L k m=false/\0=(bw L k m).code/\ByteArray.mk
   (Array.mk [])=(bw L k m).data/\void=(bw L k m).k0/\void=(bw L k m).k1/\void=(bw L k m).k2/\dW L k.oid i=(cT L k m).fst)/\(mn L k.oid i=true->gu L k m=true/\
   (0=(bw L k m).code/\ByteArray.mk (Array.mk [])=(bw L k m).data/\void=(bw L k m).k0/\void=(bw L k m).k1/\void=(bw L k m).k2/\dW L k.oid i=(cT L k m).fst)/\iJ L
   k.oid i=(cT L k m).snd.snd))/\(decide (m.code=5)=false->(decide (m.code=6)=true->aq L/\((decide (bR L (aF L (Key.mk 2 k.oid k.count void.call void.rights void.value) 0)
   m.k2.value 32=0)&& !decide (bH L (aF L (Key.mk 2 k.oid k.count void.call void.rights void.value) 0) m.k2.value 32 false=0))=true->aG IntKind.i64 (1000+bH L (aF L (Key.mk 2 k.oid
   k.count void.call void.rights void.value) 0) m.k2.value 32 false)/\gu L k m=false/\0=(bw L k m).code/\jC L (aF L (Key.mk 2 k.oid k.count void.call void.rights void.value) 0)
   m.k2.value 32=(bw L k m).data/\void=(bw L k m).k0/\void=(bw L k m).k1/\void=(bw L k m).k2/\1000+bH L (aF L (Key.mk 2 k.oid k.count void.call void.rights void.value) 0)
   m.k2.value 32 false=(cT L k m).fst)/\((decide (bR L (aF L (Key.mk 2 k.oid k.count void.call void.rights void.value) 0) m.k2.value 32=0)&& !decide (bH L (aF L (Key.mk 2 k.oid k.count
   void.call void.rights void.value) 0) m.k2.value 32 false=0))=false->gu L k m=false/\0=(bw L k m).code/\jC L (aF L (Key.mk 2 k.oid k.count void.call void.rights void.value) 0)
   m.k2.value 32=(bw L k m).data/\void=(bw L k m).k0/\void=(bw L k m).k1/\void=(bw L k m).k2/\bR L (aF L (Key.mk 2 k.oid k.count void.call void.rights void.value) 0)
   m.k2.value 32=(cT L k m).fst))/\(decide (m.code=6)=false->true=true/\(aq L/\aw m.data)/\(kW L (aF L (Key.mk 2 k.oid k.count void.call void.rights void.value) 0) m.k2.value
   (bW m.data) true=false->((decide (bR L (aF L (Key.mk 2 k.oid k.count void.call void.rights void.value) 0) m.k2.value (bW m.data)=0)&& !decide (bH L (aF L (Key.mk 2 k.oid k.count
   void.call void.rights void.value) 0) m.k2.value (bW m.data) true=0))=true->aG IntKind.i64 (1000+bH L (aF L (Key.mk 2 k.oid k.count void.call void.rights void.value) 0) m.k2.value (bW
   m.data) true)/\gu L k m=false/\0=(bw L k m).code/\ByteArray.mk (Array.mk [])=(bw L k m).data/\void=(bw L k m).k0/\void=(bw L k m).k1/\void=(bw L k m).k2/\1000+
   bH L (aF L (Key.mk 2 k.oid k.count void.call void.rights void.value) 0) m.k2.value (bW m.data) true=(cT L k m).fst)/\((decide (bR L (aF L (Key.mk 2 k.oid k.count void.call void.rights
   void.value) 0) m.k2.value (bW m.data)=0)&& !decide (bH L (aF L (Key.mk 2 k.oid k.count void.call void.rights void.value) 0) m.k2.value (bW m.data) true=0))=false->gu L k m=false/\
   0=(bw L k m).code/\ByteArray.mk (Array.mk [])=(bw L k m).data/\void=(bw L k m).k0/\void=(bw L k m).k1/\void=(bw L k m).k2/\bR L (aF L (Key.mk 2 k.oid k.count
   void.call void.rights void.value) 0) m.k2.value (bW m.data)=(cT L k m).fst))/\(kW L (aF L (Key.mk 2 k.oid k.count void.call void.rights void.value) 0) m.k2.value (bW m.data) true=true->
   ((decide (bR L (aF L (Key.mk 2 k.oid k.count void.call void.rights void.value) 0) m.k2.value (bW m.data)=0)&& !decide (bH L (aF L (Key.mk 2 k.oid k.count void.call void.rights
   void.value) 0) m.k2.value (bW m.data) true=0))=true->aG IntKind.i64 (1000+bH L (aF L (Key.mk 2 k.oid k.count void.call void.rights void.value) 0) m.k2.value (bW m.data) true)/\gu L
   k m=true/\(0=(bw L k m).code/\ByteArray.mk (Array.mk [])=(bw L k m).data/\void=(bw L k m).k0/\void=(bw L k m).k1/\void=(bw L k m).k2/\1000+bH L (aF L (Key.mk 2
   k.oid k.count void.call void.rights void.value) 0) m.k2.value (bW m.data) true=(cT L k m).fst)/\jD L (aF L (Key.mk 2 k.oid k.count void.call void.rights void.value) 0) m.k2.value m.data=
   (cT L k m).snd.snd)/\((decide (bR L (aF L (Key.mk 2 k.oid k.count void.call void.rights void.value) 0) m.k2.value (bW m.data)=0)&& !decide (bH L (aF L (Key.mk 2 k.oid k.count
   void.call void.rights void.value) 0) m.k2.value (bW m.data) true=0))=false->gu L k m=true/\(0=(bw L k m).code/\ByteArray.mk (Array.mk [])=(bw L k m).data/\void=(bw L k
   m).k0/\void=(bw L k m).k1/\void=(bw L k m).k2/\bR L (aF L (Key.mk 2 k.oid k.count void.call void.rights void.value) 0) m.k2.value (bW m.data)=(cT L k m).fst)/\jD L (aF L
   (Key.mk 2 k.oid k.count void.call void.rights void.value) 0) m.k2.value m.data=(cT L k m).snd.snd))))))))):=by
 obtain⟨hL,hs,hk,rfl⟩:=hq;have hlq:gz k (aO m)↔(0<=aO m/\aO m<=7):=by unfold gz;simp[hk]
 have hin:=AP (m:=m);have hr:aG IntKind.i64 (64-aO m):=by unfold aG bY;omega
 have hr4:aG IntKind.i64 (aO m+4):=by unfold aG bY;omega
 have hw:Key.mk 2 k.oid k.count void.call void.rights void.value=eA k:=rfl;have hro:aF L (eA k) 0=e9 L k:=rfl;have f1:=FI (L:=L) (k:=e9 L k) (a:=m.k2.value) (n:=32) (w:=false);have f2:=FI (L:=L) (k:=e9 L k) (a:=m.k2.value) (n:=bW m.data) (w:=true);have g1:aG IntKind.i64 (1000+bH L (e9 L k) m.k2.value 32 false):=by unfold aG bY;omega
 have g2:aG IntKind.i64 (1000+bH L (e9 L k) m.k2.value (bW m.data) true):=by unfold aG bY;omega
 rw[hw,hro];refine⟨fun h=>?_,fun h=>⟨fun h1=>?_,fun h1=>⟨fun h2=>?_,fun h2=>?_⟩⟩⟩
 ·simp only[Yj,Bool.or_eq_true,Yk]at h;obtain⟨h1|h1,h2⟩:=h
  ·simp[gu,bw,cT,h1,h2,dg]
  ·simp[gu,bw,cT,h1,h2,dg]
 ·have h1:=Yn h1;have hz:¬(aO m<0\/11<aO m):=by rw[h1]at h;simpa using h
  have e1:cT L k m=(bI L (eA k) (aO m+4),ei (aF L (eA k) (aO m+4)),L):=by unfold cT;rw[Yq h1,Yp hz]
  have e2:bw L k m=ei (aF L (eA k) (aO m+4)):=by unfold bw;rw[Yp (fun hh=>hz hh.2),e1]
  have e3:gu L k m=false:=by unfold gu;rw[Yq h1]
  rw[e1,e2,e3];exact⟨hr4,rfl,rfl,rfl,rfl,rfl,rfl,rfl,rfl⟩
 ·have h1:=Ym h1;have h2:=Yn h2;have hz:¬(aO m<0\/11<aO m):=by rw[h2]at h;simpa using h
  have e1:cT L k m=(ba L (eA k) (aO m+4) m.k0,ei (cy L (eA k) (aO m+4) m.k0),b6 L (eA k) (aO m+4) m.k0):=by unfold cT;rw[Yp h1,Yq h2,Yp hz,Yp hz]
  have e2:bw L k m=ei (cy L (eA k) (aO m+4) m.k0):=by unfold bw;rw[Yp (fun hh=>hz hh.2),e1]
  have e3:gu L k m=gy L (eA k) (aO m+4) m.k0:=by unfold gu;rw[Yp h1,Yq h2,Yp hz]
  rw[e1,e2,e3];exact⟨hr4,rfl,hL,fun h=>⟨rfl,h,rfl,rfl,rfl,rfl,rfl,rfl⟩,fun h=>⟨rfl,h,⟨rfl,rfl,rfl,rfl,rfl,rfl⟩,rfl⟩⟩
 have h1:=Ym h1;have h2:=Ym h2;clear h;repeat' (first|with_reducible assumption|with_reducible rfl|with_reducible apply And.intro|with_reducible intro _)
 all_goals(first| (simp_all[gu,bw,cT,ei,eZ,fC,dC,cH,dg,void];done)| (simp_all[gu,bw,cT,ei,eZ,fC,dC,cH,dg,void];omega))
theorem Mk (L:List Sx.Obj) (k:Key) (m:bm) (i:Int) (hq:lk L k m i):aj Tryz.prog 53 [.sa 0,.key k,jP m,.it .i64 i] [.ro (.arr none 163 (.ob L))] (yT (gu L k m) ((cT L k m).2.2) [jP (bw L k m),.it .i64 (cT L k m).1]) (fun _ _=>False):=
 bn (inl:=(fun f=>f==112||f==47||f==54||f==110)) (ann:=aP) (ab CA (ab Ph (ab Th ak))) (aD Ca (aD OV (aD UH aC))) (I9 L k m i hq) (by kernel_rfl)
theorem Lu:lA Tryz.prog 53 OB:=
 iy (m:=fun x=>AE.cn x 0) (gf wS (fun _=>rfl)) (fun _=>rfl) (fun _ _=>rfl) fun L x hq=>Mk L x.1 x.2.1 x.2.2.1 hq
theorem TR (L:List Sx.Obj) (n:Int) (k:Key) (m:bm) (hL:aq L) (hs:aw m.data):
 (decide (b9 (ai L)=0)=true->ey L n k m=false/\0=(aB L n k m).code/\ByteArray.mk (Array.mk [])=(aB L n k m).data/\void=(aB L n k m).k0/\void=(aB L n k m).k1/\void=
  (aB L n k m).k2/\false=cA L n k m/\1=bJ L n k m)/\(decide (b9 (ai L)=0)=false->((!(decide (n<0)|| !cZ L k))=true->aw m.data)/\((decide (n<0)|| !cZ L k||
  !rE L m)=true->ey L n k m=false/\0=(aB L n k m).code/\ByteArray.mk (Array.mk [])=(aB L n k m).data/\void=(aB L n k m).k0/\void=(aB L n k m).k1/\void=(aB L n k
  m).k2/\false=cA L n k m/\2=bJ L n k m)/\((decide (n<0)|| !cZ L k|| !rE L m)=false->((decide ((ae L k).kind=6)||decide ((ae L k).kind=7))=true->ey L n k m=
  false/\0=(aB L n k m).code/\ByteArray.mk (Array.mk [])=(aB L n k m).data/\void=(aB L n k m).k0/\void=(aB L n k m).k1/\void=(aB L n k m).k2/\false=cA L n k m/\241=
  bJ L n k m)/\((decide ((ae L k).kind=6)||decide ((ae L k).kind=7))=false->(decide ((ae L k).kind=0)=true->true=true/\ey L n k m=false/\190=(aB L n k m).code
  /\ByteArray.mk (Array.mk [])=(aB L n k m).data/\void=(aB L n k m).k0/\void=(aB L n k m).k1/\void=(aB L n k m).k2/\false=cA L n k m/\0=bJ L n k m)/\(decide ((ae L
  k).kind=0)=false->(decide ((aL L m).code=0)=true->true=true/\true=true/\ey L n k m=false/\0=(aB L n k m).code/\ByteArray.mk (Array.mk [])=(aB L n k m).data/\void=
  (aB L n k m).k0/\void=(aB L n k m).k1/\Key.mk 1 void.oid void.count void.call void.rights (ae L k).kind=(aB L n k m).k2/\false=cA L n k m/\0=bJ L n k m)/\(decide ((aL
  L m).code=0)=false->((!decide ((aL L m).code<1))=true->wO (ae L k).kind)/\((decide ((aL L m).code<1)||decide (cI (ae L k).kind<(aL L m).code)||cD (ae
  L k).kind (aL L m).code&& !decide ((aL L m).k2.kind=1))=true->true=true/\ey L n k m=false/\240=(aB L n k m).code/\ByteArray.mk (Array.mk [])=(aB L n k m).data/\void=
  (aB L n k m).k0/\void=(aB L n k m).k1/\void=(aB L n k m).k2/\false=cA L n k m/\0=bJ L n k m)/\((decide ((aL L m).code<1)||decide (cI (ae L k).kind<(aL L
  m).code)||cD (ae L k).kind (aL L m).code&& !decide ((aL L m).k2.kind=1))=false->(((decide (0<=(aL L m).k2.value)&&decide ((aL L m).k2.value<=2147483647))=true->∃g:
  Unit,vD L n k m/\n=n/\(ae L k).kind=(ae L k).kind/\(aL L m).k2.value=aO (aL L m)/\L=L/\ae L k=ae L k/\(aL L m).code=(aL L m).code/\(aL L m).data
  =(aL L m).data/\(aL L m).k0=(aL L m).k0/\(aL L m).k1=(aL L m).k1/\(aL L m).k2=(aL L m).k2/\ByteArray.mk (Array.mk [])=ByteArray.mk (Array.mk [])/\void=void/\void=
  void/\void=void)/\((decide (0<=(aL L m).k2.value)&&decide ((aL L m).k2.value<=2147483647))=false->∃g:Unit,vD L n k m/\n=n/\(ae L k).kind=(ae L k).kind/\ -1=aO
  (aL L m)/\L=L/\ae L k=ae L k/\(aL L m).code=(aL L m).code/\(aL L m).data=(aL L m).data/\(aL L m).k0=(aL L m).k0/\(aL L m).k1=(aL L m).k1/\(aL L
  m).k2=(aL L m).k2/\ByteArray.mk (Array.mk [])=ByteArray.mk (Array.mk [])/\void=void/\void=void/\void=void))/\∀(g:Unit),vD L n k m->(decide ((ae L k).kind=1)=true->
  true=true/\true=true/\ey L n k m=false/\0=(aB L n k m).code/\ByteArray.mk (Array.mk [])=(aB L n k m).data/\void=(aB L n k m).k0/\void=(aB L n k m).k1/\Key.mk 1
  void.oid void.count void.call void.rights (ae L k).value=(aB L n k m).k2/\decide ((ae L k).kind=10)=cA L n k m/\0=bJ L n k m)/\(decide ((ae L k).kind=1)=false->
  (decide ((ae L k).kind=2)=true->true=true/\lk L (ae L k) (aL L m) (aO (aL L m))/\(jo L (ae L k) (aL L m)=false->((!decide ((dL L (ae L k) (aL L
  m)).fst=0))=true->true=true/\ey L n k m=false/\(dL L (ae L k) (aL L m)).fst=(aB L n k m).code/\ByteArray.mk (Array.mk [])=(aB L n k m).data/\void=(aB L n k m).k0
  /\void=(aB L n k m).k1/\void=(aB L n k m).k2/\decide ((ae L k).kind=10)=cA L n k m/\0=bJ L n k m)/\((!decide ((dL L (ae L k) (aL L m)).fst=0))=false->ey L
  n k m=false/\(bS L (ae L k) (aL L m)).code=(aB L n k m).code/\(bS L (ae L k) (aL L m)).data=(aB L n k m).data/\(bS L (ae L k) (aL L m)).k0=(aB L n k
  m).k0/\(bS L (ae L k) (aL L m)).k1=(aB L n k m).k1/\(bS L (ae L k) (aL L m)).k2=(aB L n k m).k2/\decide ((ae L k).kind=10)=cA L n k m/\0=bJ L n k m))/\
  (jo L (ae L k) (aL L m)=true->((!decide ((dL L (ae L k) (aL L m)).fst=0))=true->true=true/\ey L n k m=true/\((dL L (ae L k) (aL L m)).fst=(aB L n k
  m).code/\ByteArray.mk (Array.mk [])=(aB L n k m).data/\void=(aB L n k m).k0/\void=(aB L n k m).k1/\void=(aB L n k m).k2/\decide ((ae L k).kind=10)=cA L n k m/\0=
  bJ L n k m)/\(dL L (ae L k) (aL L m)).snd.snd=fo L n k m)/\((!decide ((dL L (ae L k) (aL L m)).fst=0))=false->ey L n k m=true/\((bS L (ae L k) (aL L
  m)).code=(aB L n k m).code/\(bS L (ae L k) (aL L m)).data=(aB L n k m).data/\(bS L (ae L k) (aL L m)).k0=(aB L n k m).k0/\(bS L (ae L k) (aL L m)).k1=
  (aB L n k m).k1/\(bS L (ae L k) (aL L m)).k2=(aB L n k m).k2/\decide ((ae L k).kind=10)=cA L n k m/\0=bJ L n k m)/\(dL L (ae L k) (aL L m)).snd.snd=
  fo L n k m)))/\(decide ((ae L k).kind=2)=false->(decide ((ae L k).kind=3)=true->true=true/\lk L (ae L k) (aL L m) (aO (aL L m))/\(jW L (ae L k) (aL L
  m)=false->((!decide ((dN L (ae L k) (aL L m)).fst=0))=true->true=true/\ey L n k m=false/\(dN L (ae L k) (aL L m)).fst=(aB L n k m).code/\ByteArray.mk (Array.mk
  [])=(aB L n k m).data/\void=(aB L n k m).k0/\void=(aB L n k m).k1/\void=(aB L n k m).k2/\decide ((ae L k).kind=10)=cA L n k m/\0=bJ L n k m)/\((!decide ((dN
  L (ae L k) (aL L m)).fst=0))=false->ey L n k m=false/\(cx L (ae L k) (aL L m)).code=(aB L n k m).code/\(cx L (ae L k) (aL L m)).data=(aB L n k m).data/\
  (cx L (ae L k) (aL L m)).k0=(aB L n k m).k0/\(cx L (ae L k) (aL L m)).k1=(aB L n k m).k1/\(cx L (ae L k) (aL L m)).k2=(aB L n k m).k2/\decide ((ae L
  k).kind=10)=cA L n k m/\0=bJ L n k m))/\(jW L (ae L k) (aL L m)=true->((!decide ((dN L (ae L k) (aL L m)).fst=0))=true->true=true/\ey L n k m=true/\
  ((dN L (ae L k) (aL L m)).fst=(aB L n k m).code/\ByteArray.mk (Array.mk [])=(aB L n k m).data/\void=(aB L n k m).k0/\void=(aB L n k m).k1/\void=(aB L n k m).k2/\
  decide ((ae L k).kind=10)=cA L n k m/\0=bJ L n k m)/\(dN L (ae L k) (aL L m)).snd.snd=fo L n k m)/\((!decide ((dN L (ae L k) (aL L m)).fst=0))=false->
  ey L n k m=true/\((cx L (ae L k) (aL L m)).code=(aB L n k m).code/\(cx L (ae L k) (aL L m)).data=(aB L n k m).data/\(cx L (ae L k) (aL L m)).k0=(aB
  L n k m).k0/\(cx L (ae L k) (aL L m)).k1=(aB L n k m).k1/\(cx L (ae L k) (aL L m)).k2=(aB L n k m).k2/\decide ((ae L k).kind=10)=cA L n k m/\0=bJ L n k
  m)/\(dN L (ae L k) (aL L m)).snd.snd=fo L n k m)))/\(decide ((ae L k).kind=3)=false->(decide ((ae L k).kind=4)=true->true=true/\lk L (ae L k) (aL L m)
  (aO (aL L m))/\(fT L (ae L k) (aL L m)=false->((!decide ((cY L (ae L k) (aL L m)).fst=0))=true->true=true/\ey L n k m=false/\(cY L (ae L k) (aL L
  m)).fst=(aB L n k m).code/\ByteArray.mk (Array.mk [])=(aB L n k m).data/\void=(aB L n k m).k0/\void=(aB L n k m).k1/\void=(aB L n k m).k2/\decide ((ae L k).kind=10)
  =cA L n k m/\0=bJ L n k m)/\((!decide ((cY L (ae L k) (aL L m)).fst=0))=false->ey L n k m=false/\(aZ L (ae L k) (aL L m)).code=(aB L n k m).code/\(aZ L
  (ae L k) (aL L m)).data=(aB L n k m).data/\(aZ L (ae L k) (aL L m)).k0=(aB L n k m).k0/\(aZ L (ae L k) (aL L m)).k1=(aB L n k m).k1/\(aZ L (ae L k)
  (aL L m)).k2=(aB L n k m).k2/\decide ((ae L k).kind=10)=cA L n k m/\0=bJ L n k m))/\(fT L (ae L k) (aL L m)=true->((!decide ((cY L (ae L k) (aL L
  m)).fst=0))=true->true=true/\ey L n k m=true/\((cY L (ae L k) (aL L m)).fst=(aB L n k m).code/\ByteArray.mk (Array.mk [])=(aB L n k m).data/\void=(aB L n k m).k0
  /\void=(aB L n k m).k1/\void=(aB L n k m).k2/\decide ((ae L k).kind=10)=cA L n k m/\0=bJ L n k m)/\(cY L (ae L k) (aL L m)).snd.snd=fo L n k m)/\((!decide
  ((cY L (ae L k) (aL L m)).fst=0))=false->ey L n k m=true/\((aZ L (ae L k) (aL L m)).code=(aB L n k m).code/\(aZ L (ae L k) (aL L m)).data=(aB L n k
  m).data/\(aZ L (ae L k) (aL L m)).k0=(aB L n k m).k0/\(aZ L (ae L k) (aL L m)).k1=(aB L n k m).k1/\(aZ L (ae L k) (aL L m)).k2=(aB L n k m).k2/\decide
  ((ae L k).kind=10)=cA L n k m/\0=bJ L n k m)/\(cY L (ae L k) (aL L m)).snd.snd=fo L n k m)))/\(decide ((ae L k).kind=4)=false->(decide ((ae L k).kind=5)
  =true->true=true/\lk L (ae L k) (aL L m) (aO (aL L m))/\(gu L (ae L k) (aL L m)=false->((!decide ((cT L (ae L k) (aL L m)).fst=0))=true->true=true/\
  ey L n k m=false/\(cT L (ae L k) (aL L m)).fst=(aB L n k m).code/\ByteArray.mk (Array.mk [])=(aB L n k m).data/\void=(aB L n k m).k0/\void=(aB L n k m).k1/\void=
  (aB L n k m).k2/\decide ((ae L k).kind=10)=cA L n k m/\0=bJ L n k m)/\((!decide ((cT L (ae L k) (aL L m)).fst=0))=false->ey L n k m=false/\(bw L (ae L
  k) (aL L m)).code=(aB L n k m).code/\(bw L (ae L k) (aL L m)).data=(aB L n k m).data/\(bw L (ae L k) (aL L m)).k0=(aB L n k m).k0/\(bw L (ae L k) (aL
  L m)).k1=(aB L n k m).k1/\(bw L (ae L k) (aL L m)).k2=(aB L n k m).k2/\decide ((ae L k).kind=10)=cA L n k m/\0=bJ L n k m))/\(gu L (ae L k) (aL L m)=
  true->((!decide ((cT L (ae L k) (aL L m)).fst=0))=true->true=true/\ey L n k m=true/\((cT L (ae L k) (aL L m)).fst=(aB L n k m).code/\ByteArray.mk (Array.mk [])=
  (aB L n k m).data/\void=(aB L n k m).k0/\void=(aB L n k m).k1/\void=(aB L n k m).k2/\decide ((ae L k).kind=10)=cA L n k m/\0=bJ L n k m)/\(cT L (ae L k)
  (aL L m)).snd.snd=fo L n k m)/\((!decide ((cT L (ae L k) (aL L m)).fst=0))=false->ey L n k m=true/\((bw L (ae L k) (aL L m)).code=(aB L n k m).code/\(bw
  L (ae L k) (aL L m)).data=(aB L n k m).data/\(bw L (ae L k) (aL L m)).k0=(aB L n k m).k0/\(bw L (ae L k) (aL L m)).k1=(aB L n k m).k1/\(bw L (ae L k)
  (aL L m)).k2=(aB L n k m).k2/\decide ((ae L k).kind=10)=cA L n k m/\0=bJ L n k m)/\(cT L (ae L k) (aL L m)).snd.snd=fo L n k m)))/\(decide ((ae L k).kind=
  5)=false->(decide ((ae L k).kind=8)=true->(decide ((aL L m).code=1)=true->true=true/\true=true/\ey L n k m=false/\0=(aB L n k m).code/\ByteArray.mk (Array.mk [])=
  (aB L n k m).data/\void=(aB L n k m).k0/\void=(aB L n k m).k1/\Key.mk 1 void.oid void.count void.call void.rights (aL L m).k0.kind=(aB L n k m).k2/\decide ((ae L k).kind=
  10)=cA L n k m/\0=bJ L n k m)/\(decide ((aL L m).code=1)=false->(decide ((aL L m).code=2)=true->true=true/\(ku (aL L m).k0 (aL L m).k1=true->true=true/\
  true=true/\ey L n k m=false/\0=(aB L n k m).code/\ByteArray.mk (Array.mk [])=(aB L n k m).data/\void=(aB L n k m).k0/\void=(aB L n k m).k1/\Key.mk 1 void.oid void.count
  void.call void.rights 1=(aB L n k m).k2/\decide ((ae L k).kind=10)=cA L n k m/\0=bJ L n k m)/\(ku (aL L m).k0 (aL L m).k1=false->true=true/\true=true/\ey L
  n k m=false/\0=(aB L n k m).code/\ByteArray.mk (Array.mk [])=(aB L n k m).data/\void=(aB L n k m).k0/\void=(aB L n k m).k1/\Key.mk 1 void.oid void.count void.call void.rights
  0=(aB L n k m).k2/\decide ((ae L k).kind=10)=cA L n k m/\0=bJ L n k m))/\(decide ((aL L m).code=2)=false->true=true/\true=true/\ey L n k m=false/\0=(aB
  L n k m).code/\ByteArray.mk (Array.mk [])=(aB L n k m).data/\void=(aB L n k m).k0/\void=(aB L n k m).k1/\Key.mk 1 void.oid void.count void.call void.rights (aL L m).k0.rights=
  (aB L n k m).k2/\decide ((ae L k).kind=10)=cA L n k m/\0=bJ L n k m)))/\(decide ((ae L k).kind=8)=false->(decide ((ae L k).kind=9)=true->true=true/\true=
  true/\ey L n k m=false/\0=(aB L n k m).code/\ByteArray.mk (Array.mk [])=(aB L n k m).data/\void=(aB L n k m).k0/\void=(aB L n k m).k1/\Key.mk 1 void.oid void.count
  void.call void.rights n=(aB L n k m).k2/\decide ((ae L k).kind=10)=cA L n k m/\0=bJ L n k m)/\(decide ((ae L k).kind=9)=false->ey L n k m=false/\0=(aB L n k
  m).code/\ByteArray.mk (Array.mk [])=(aB L n k m).data/\void=(aB L n k m).k0/\void=(aB L n k m).k1/\void=(aB L n k m).k2/\decide ((ae L k).kind=10)=cA L n k m/\0=
  bJ L n k m))))))))))))):=by
 have hd:(aL L m).data=m.data:=rfl;have hcd:(aL L m).code=m.code:=rfl;have hsz:b9 (ai L)=0↔ai L=0:=by simp[b9]
 refine⟨fun h=>?_,fun h=>⟨fun _=>hs,fun h2=>?_,fun h2=>⟨fun h3=>?_,fun h3=>⟨fun h4=>?_,fun h4=>⟨fun h5=>?_,fun h5=>⟨fun _=>?_,fun h6=>?_,fun h6=>?_⟩⟩⟩⟩⟩⟩
 ·obtain⟨a,b,c,d⟩:=JA (n:=n) (k:=k) (m:=m) (L:=L) (e:=1) (by unfold bJ;rw[Yq (hsz.1 (Yn h))]) (by omega)
  rw[a,b,c];exact⟨rfl,rfl,rfl,rfl,rfl,rfl,rfl,d⟩
 all_goals have h0:¬ai L=0:=fun e=>Ym h (hsz.2 e)
 ·have hf:pq L n k m=false:=Rw h2;obtain⟨a,b,c,d⟩:=JA (n:=n) (k:=k) (m:=m) (L:=L) (e:=2) (by unfold bJ;rw[Yp h0,Yq hf]) (by omega)
  rw[a,b,c];exact⟨rfl,rfl,rfl,rfl,rfl,rfl,rfl,d⟩
 all_goals have hf:¬pq L n k m=false:=Iy h2
 ·have h3:(ae L k).kind=6\/(ae L k).kind=7:=by simpa using h3
  obtain⟨a,b,c,d⟩:=JA (n:=n) (k:=k) (m:=m) (L:=L) (e:=241) (by unfold bJ;rw[Yp h0,Yp hf,Yq h3]) (by omega)
  rw[a,b,c];exact⟨rfl,rfl,rfl,rfl,rfl,rfl,rfl,d⟩
 all_goals have h3:¬((ae L k).kind=6\/(ae L k).kind=7):=by simpa using h3
 all_goals have hE:bJ L n k m=0:=by unfold bJ;rw[Yp h0,Yp hf,Yp h3]
 ·have h4:=Yn h4;obtain⟨a,b,c,d,e⟩:=Av (c:=false) (r:=(190,dg,L)) hE (by unfold di;rw[Yq h4]) (by unfold tF;rw[Yq h4])
  rw[a,b,d,h4];exact⟨rfl,rfl,rfl,rfl,rfl,rfl,rfl,rfl,e⟩
 all_goals have h4:=Ym h4
 ·have h5:=Yn h5;obtain⟨a,b,c,d,e⟩:=Av (c:=false) (r:=(0,eZ (ae L k).kind,L)) hE (by unfold di;rw[Yp h4,Yq h5]) (by unfold tF;rw[Yp h4,Yq h5])
  rw[hcd]at h5;rw[a,b,d,h5];refine⟨rfl,rfl,rfl,rfl,rfl,rfl,rfl,rfl,?_,e⟩;simp
 all_goals have h5:=Ym h5
 ·unfold wO;have:=r9 (L:=L) (k:=k);unfold aT at this;simp only[Yj,Yk]at this;omega
 ·have h6':(aL L m).code<1\/cI (ae L k).kind<(aL L m).code\/(cD (ae L k).kind (aL L m).code=true/\(aL L m).k2.kind≠1):=by
   simp only[Bool.or_eq_true,Yj,Yk,Bool.not_eq_true',decide_eq_false_iff_not]at h6;rcases h6 with(h6|h6)|h6
   ·exact .inl h6
   ·exact .inr (.inl h6)
   ·exact .inr (.inr h6)
  obtain⟨a,b,c,d,e⟩:=Av (c:=false) (r:=(240,dg,L)) hE (by unfold di;rw[Yp h4,Yp h5,Yq h6']) (by unfold tF;rw[Yp h4,Yp h5,Yq h6'])
  have hw:(decide ((ae L k).kind=10)&&decide (m.code=1))=false:=by
   by_cases hk:(ae L k).kind=10
   ·have h1:cI (ae L k).kind=1:=by rw[hk];rfl
    have h2:cD (ae L k).kind (aL L m).code=false:=by rw[hk];rfl
    rw[h2,h1,hcd]at h6';have:¬m.code=1:=fun hm=>by rw[hm]at h6';simp at h6'
    simp[this]
   ·simp[hk]
  rw[a,b,d,hw];exact⟨rfl,rfl,rfl,rfl,rfl,rfl,rfl,rfl,e⟩
 have h6':¬((aL L m).code<1\/cI (ae L k).kind<(aL L m).code\/(cD (ae L k).kind (aL L m).code=true/\(aL L m).k2.kind≠1)):=fun hh=>by
  simp only[Bool.or_eq_false_iff,Bool.and_eq_false_iff,decide_eq_false_iff_not,Bool.not_eq_false',Yk]at h6;obtain⟨⟨h6a,h6b⟩,h6c⟩:=h6;rcases hh with hh|hh|hh
  ·exact h6a hh
  ·exact h6b hh
  ·rcases h6c with h6c|h6c
   ·rw[h6c]at hh;simp at hh
   ·exact hh.2 h6c
 have hZ:vD L n k m:=⟨⟨hL,hs⟩,hE,h4,h5,h6'⟩;refine⟨⟨fun h7=>⟨(),hZ,?_⟩,fun h7=>⟨(),hZ,?_⟩⟩,fun _ _=>?_⟩
 ·have h7:0<=(aL L m).k2.value/\(aL L m).k2.value<=2147483647:=by simpa using h7
  have:(aL L m).k2.value=aO (aL L m):=by unfold aO;rw[Yq h7]
  exact⟨rfl,rfl,this,rfl,rfl,rfl,rfl,rfl,rfl,rfl,rfl,rfl,rfl,rfl⟩
 ·have h7:¬(0<=(aL L m).k2.value/\(aL L m).k2.value<=2147483647):=by simpa using h7
  have: -1=aO (aL L m):=by unfold aO;rw[Yp h7]
  exact⟨rfl,rfl,this,rfl,rfl,rfl,rfl,rfl,rfl,rfl,rfl,rfl,rfl,rfl⟩
 obtain⟨e1,e2,e3,e4,e5⟩:=Rj hZ rfl rfl;have hro:lk L (ae L k) (aL L m) (aO (aL L m)):=⟨hL,hs,r9,rfl⟩;clear hZ h6' h6 h5 h4 hE h3 hf h0 h2 h hsz hcd hd hL hs;rw[e1,e2,e3,e4,<-e5];clear e1 e2 e3 e4 e5;generalize ae L k=k' at *
 generalize aL L m=m' at *
 repeat' (first|with_reducible assumption|with_reducible rfl|with_reducible apply And.intro|with_reducible intro _)
 all_goals(first| (simp_all[sf,ec,Ja,K7,Lq,aZ,fx,eZ,dC,cH,dg,void];done)| (simp_all[sf,ec,Ja,K7,Lq,aZ,fx,eZ,dC,cH,dg,void];omega))
theorem Sh (L:List Sx.Obj) (n:Int) (k:Key) (m:bm) (hL:aq L) (hs:aw m.data):aj Tryz.prog 30 [.sa 0,.it .i64 n,.key k,jP m] [.ro (.arr none 163 (.ob L))] (yT (ey L n k m) (fo L n k m) [jP (aB L n k m),.bo (cA L n k m),.it .i64 (bJ L n k m)]) (fun _ _=>False):=
 bn (inl:=(fun f=>f==112||f==47||f==54||f==110||f==46)) (ann:=(iB [(30,2000019,X8 [0,1,6,7,9,12] (fun(_:Unit)=> [(13,.it .i64 (aO (aL L m)))]) (fun _=> []) (fun _=> []) (fun _=>vD L n k m))])) (ab A5 (ab Q5 (ab QG (ab qo (ab OP (ab Ib (ab JD ak))))))) (aD II (aD JS (aD H3 (aD Lu aC)))) (TR L n k m hL hs) (by kernel_rfl)
theorem Uk:lA Tryz.prog 30 Vh:=
 iy (m:=fun x=>KM.cn x 0) (gf Fp (fun _=>rfl)) (fun _=>rfl) (fun _ _=>rfl) fun L x hq=>Sh L x.1 x.2.1 x.2.2.1 hq.1 hq.2
end Go.Proofs.YtghpaegglbbocaaGreat
