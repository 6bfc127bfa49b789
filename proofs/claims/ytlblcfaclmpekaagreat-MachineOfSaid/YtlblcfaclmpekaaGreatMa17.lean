import Derived.Test.YtlblcfaclmpekaaGreatMa16
set_option linter.unusedSimpArgs false
set_option linter.unusedVariables false
set_option maxRecDepth 100000
namespace Go.Proofs.YtlblcfaclmpekaaGreat
open Go.Sx
theorem Lt (L:List Sx.Obj) (k:Key) (i:Int):
 aba (decide (aC L k 2 false=0)&&(decide (i<0)||decide (15<i))) (void=aJ L k i/\4=bW L k i) (aba (!decide (aC L k 2 false=0)) (void=aJ L k i/\aC L k 2 false=bW L k i) (oG L k i/\dh L k i=aJ L k i/\0=bW L k i)):=by
 delta aba
 refine⟨fun h=>?_,fun h=>⟨fun h'=>?_,fun h'=>?_⟩⟩
 ·simp only[aa2,Bool.or_eq_true,aa3]at h;obtain⟨e1,e2⟩:=Mt h.1 h.2;rw[e1,e2];exact⟨rfl,rfl⟩
 ·have h':aC L k 2 false≠0:=by simpa using h'
  obtain⟨e1,e2⟩:=MF (i:=i) h';rw[e1,e2];exact⟨rfl,rfl⟩
 ·have h':aC L k 2 false=0:=by simpa using h'
  have hr:¬(i<0\/15<i):=by rw[h']at h;simpa using h
  obtain⟨_,b2,b3,_⟩:=eg (gr h').1;obtain⟨e1,e2⟩:=Rr h' hr;rw[e1,e2];exact⟨⟨by omega,by omega,b2,b3⟩,rfl,rfl⟩
theorem DK:cq Tryz.prog 108 RL:=
 eW (aA jb (aA iF (aA dN bV))) (fun _=>rfl) fun a hq hok=>by
  obtain⟨L,k,i,_⟩:=a;exact ba (inl:=bx) (ann:=aQ) (ae pq (ae xX aq)) (Lt L k i) (by kernel_rfl)
theorem OR (L:List Sx.Obj) (k:Key) (i:Int) (v:Key) (hL:ar L):
 aba (decide (aC L k 2 true=0)&&(decide (i<0)||decide (15<i))) (iH L k i v=false/\void=cR L k i v/\4=bk L k i v) (aba (decide (aC L k 2 true=0)&& !bJ L v) (iH L k i v=false/\void=cR L k i v/\2=bk L k i v) (aba (!decide (aC L k 2 true=0)) (iH L k i v=false/\void=cR L k i v/\aC L k 2 true=bk L k i v) (oG L k i/\(0<=k.oid/\k.oid< ↑(ai L))/\k.oid.toNat<ai L/\(0<=i/\i< ↑16)/\dI L k.oid/\iH L k i v=true/\(dh L k i=cR L k i v/\0=bk L k i v)/\cA L k.oid.toNat (Obj.mk (aj L k.oid.toNat free).kind (aj L k.oid.toNat free).count (aj L k.oid.toNat free).calls ((aj L k.oid.toNat free).slots.put i.toNat (ah L v)) (aj L k.oid.toNat free).bytes)=cB L k i v))):=by
 delta aba
 unfold iH;refine⟨fun h=>?_,fun h=>⟨fun h'=>?_,fun h'=>⟨fun h''=>?_,fun h''=>?_⟩⟩⟩
 ·simp only[aa2,Bool.or_eq_true,aa3]at h;obtain⟨e1,e2,e3⟩:=PL (v:=v) h.1 h.2;rw[e1,e2];exact⟨rfl,rfl,rfl⟩
 ·simp only[aa2,Bool.not_eq_true',aa3]at h';have hr:¬(i<0\/15<i):=by rw[h'.1]at h;simpa using h
  obtain⟨e1,e2,e3⟩:=PU h'.1 hr h'.2;rw[e1,e2];exact⟨rfl,rfl,rfl⟩
 ·have h'':aC L k 2 true≠0:=by simpa using h''
  obtain⟨e1,e2,e3⟩:=NA (i:=i) (v:=v) h'';rw[e1,e2];exact⟨by simpa using h'',rfl,rfl⟩
 ·have h'':aC L k 2 true=0:=by simpa using h''
  have hr:¬(i<0\/15<i):=by rw[h'']at h;simpa using h
  have hm:bJ L v=true:=by rw[h'']at h';simpa using h'
  obtain⟨e1,e2,e3⟩:=RW h'' hr hm;obtain⟨r1,r2,r3,r4⟩:=uM hL (gr h'').1;rw[e1,e2,e3];exact⟨⟨by omega,by omega,r2,r3⟩,⟨r2,r3⟩,r4,⟨by omega,by omega⟩,r1,rfl,⟨rfl,rfl⟩,rfl⟩
theorem KR (L:List Sx.Obj) (k:Key) (i:Int) (v:Key) (hL:ar L):an Tryz.prog 110 [.sa 0,.key k,.it .i64 i,.key v] [.ro (.arr none 163 (.ob L))] (xS (iH L k i v) (cB L k i v) [.key (cR L k i v),.it .i64 (bk L k i v)]) (fun _ _=>False):=
 bj (inl:=bx) (ann:=aQ) (ae pq (ae xX (ae zy (ae ph (ae jz aq))))) aD (OR L k i v hL) (by kernel_rfl)
theorem EB:kL Tryz.prog 110 UK:=
 iM (m:=fun x=>WJ.cn x 0) (fL SV (fun _=>rfl)) (fun _=>rfl) (fun _ _=>rfl) fun L x hq=>KR L x.1 x.2.1 x.2.2.1 hq
theorem KY (L:List Sx.Obj) (k:Key) (hL:ar L):
 aba (!decide (aC L k 2 true=0)) (mh L k=false/\aC L k 2 true=aC L k 2 true) ((0<=k.oid/\k.oid< ↑(ai L))/\k.oid.toNat<ai L/\dI L k.oid/\mh L k=true/\0=aC L k 2 true/\cA L k.oid.toNat (Obj.mk (aj L k.oid.toNat free).kind (aj L k.oid.toNat free).count (aj L k.oid.toNat free).calls gV (aj L k.oid.toNat free).bytes)=fD L k):=by
 delta aba
 unfold mh;refine⟨fun h=>?_,fun h=>?_⟩
 ·have h:aC L k 2 true≠0:=by simpa using h
  exact⟨by simpa using h,rfl⟩
 ·have h:aC L k 2 true=0:=by simpa using h
  obtain⟨r1,r2,r3,r4⟩:=uM hL (gr h).1;exact⟨⟨r2,r3⟩,r4,r1,by simpa using h,h.symm,by unfold fD;rw[aa9 h];rfl⟩
theorem ND (L:List Sx.Obj) (k:Key) (hL:ar L):an Tryz.prog 111 [.sa 0,.key k] [.ro (.arr none 163 (.ob L))] (xS (mh L k) (fD L k) [.it .i64 (aC L k 2 true)]) (fun _ _=>False):=
 bj (inl:=bx) (ann:=aQ) (ae pq (ae jz aq)) aD (KY L k hL) (by kernel_rfl)
theorem Pu:kL Tryz.prog 111 Tk:=
 iM (m:=fun x=>kB.cn x 0) (fL Fm (fun _=>rfl)) (fun _=>rfl) (fun _ _=>rfl) fun L x hq=>ND L x.1 hq
abbrev abI(L:List Sx.Obj)(t:Key)(f:Key)(g:Int):=eo (aj L t.oid.toNat free) (dF L t f g)
theorem MN (L:List Sx.Obj) (t f:Key) (hL:ar L):
 aba (decide (aC L t 2 true=0)) (aba (!decide (aC L f 2 false=0)) (kM L t f=false/\aC L f 2 false=bS L t f) ((0<=t.oid/\t.oid< ↑(ai L))/\t.oid.toNat<ai L/\(∃g,lz g/\t=t/\f=f/\Value.slice none 0 0=Value.slice none 0 0/\aC L f 2 false=aC L f 2 false/\0=g/\L=L/\t=t/\f=f/\aj L t.oid.toNat free=eo (aj L t.oid.toNat free) (dF L t f g))/\∀(g:Int),lz g->aba (decide (g<16)) (oG L f g/\(0<=g/\g< ↑16)/\abd (g+1)/\∃ g',lz g'/\oU g'<oU g/\t=t/\f=f/\Value.slice none 0 0=Value.slice none 0 0/\aC L f 2 false=aC L f 2 false/\g+1=g'/\L=L/\t=t/\f=f/\Obj.mk (abI L t f g).kind (abI L t f g).count (abI L t f g).calls ((abI L t f g).slots.put g.toNat (dh L f g)) (abI L t f g).bytes=eo (aj L t.oid.toNat free) (dF L t f g')) (dI L t.oid/\kM L t f=true/\0=bS L t f/\cA L t.oid.toNat (abI L t f g)=eT L t f))) (aba (!decide (aC L t 2 true=0)) (kM L t f=false/\aC L t 2 true=bS L t f) ((0<=t.oid/\t.oid< ↑(ai L))/\t.oid.toNat<ai L/\(∃g,lz g/\t=t/\f=f/\Value.slice none 0 0=Value.slice none 0 0/\aC L t 2 true=aC L t 2 true/\0=g/\L=L/\t=t/\f=f/\aj L t.oid.toNat free=eo (aj L t.oid.toNat free) (dF L t f g))/\∀(g:Int),lz g->aba (decide (g<16)) (oG L f g/\(0<=g/\g< ↑16)/\abd (g+1)/\∃g',lz g'/\oU g'<oU g/\t=t/\f=f/\Value.slice none 0 0=Value.slice none 0 0/\aC L t 2 true=aC L t 2 true/\g+1=g'/\L=L/\t=t/\f=f/\Obj.mk (abI L t f g).kind (abI L t f g).count (abI L t f g).calls ((abI L t f g).slots.put g.toNat (dh L f g)) (abI L t f g).bytes=eo (aj L t.oid.toNat free) (dF L t f g')) (dI L t.oid/\kM L t f=true/\0=bS L t f/\cA L t.oid.toNat (abI L t f g)=eT L t f))):=by
 delta aba abI abd
 unfold kM;have no:∀e,bS L t f=e->e≠0->decide (bS L t f=0)=false/\e=bS L t f:=fun e h h0=>⟨by rw[h];simpa using h0,h.symm⟩
 refine⟨fun h=>⟨fun h'=>?_,fun h'=>?_⟩,fun h=>⟨fun h'=>?_,fun h'=>?_⟩⟩
 ·have h:=aa6 h;have h':aC L f 2 false≠0:=by simpa using h'
  exact no _ (by unfold bS;rw[aa9 h]) h'
 ·have h:=aa6 h;have h':aC L f 2 false=0:=by simpa using h'
  have hE:bS L t f=0:=by unfold bS;rw[aa9 h];exact h'
  obtain⟨r1,r2,r3,r4⟩:=uM hL (gr h).1;obtain⟨_,s2,s3,_⟩:=uM hL (gr h').1;have hk:=(eg (gr h).1).2.2.2.1;have ho:=(eg (gr h').1).2.2.2.1;refine⟨⟨r2,r3⟩,r4,⟨0,⟨by omega,by omega⟩,?_⟩,fun g hg=>⟨fun hlt=>?_,fun hge=>?_⟩⟩
  ·have hz:=Et (f:=f) hk;rw[hk]at hz;repeat' apply And.intro
   all_goals first|rfl|exact hz
  ·obtain⟨g0,g1⟩:=hg;have hlt:=aa6 hlt;have hs:=Ef (t:=t) g0 ho (aj L t.oid.toNat free) gV;rw[ho]at hs;refine⟨⟨g0,by omega,s2,s3⟩,⟨g0,by omega⟩,by simp only[aF,bY];omega,g+1,⟨by omega,by omega⟩,by unfold oU;omega,?_⟩
   repeat' apply And.intro
   all_goals first|rfl|exact hs
  ·obtain⟨g0,g1⟩:=hg;have hge:=aa5 hge;have:g=16:=by omega
   subst this;exact⟨r1,by simpa using hE,hE.symm,by unfold eT;rw[hE,aa9 rfl];rfl⟩
 ·have h:=aa5 h;exact no _ (by unfold bS;rw[aa8 h]) h
 ·rw[h]at h';simp at h'
theorem NM (L:List Sx.Obj) (t f:Key) (hL:ar L):an Tryz.prog 112 [.sa 0,.key t,.key f] [.ro (.arr none 163 (.ob L))] (xS (kM L t f) (eT L t f) [.it .i64 (bS L t f)]) (fun _ _=>False):=
 bj (inl:=bx) (ann:=(iv [(112,8,YK [0,1,2,3,4,5,6,7,8,9] (fun g=> [(10,.it .i64 g)]) 9 (fun g=> .blk tO (.ob (eo (aj L (pH t.oid) free) (dF L t f g)))) lz oU)])) (ae pq (ae xX (ae jz aq))) aD (MN L t f hL) (by kernel_rfl)
theorem LQ:kL Tryz.prog 112 Uy:=
 iM (m:=fun x=>Oc.cn x 0) (fL wq (fun _=>rfl)) (fun _=>rfl) (fun _ _=>rfl) fun L x hq=>NM L x.1 x.2.1 hq
theorem I4 (L:List Sx.Obj) (k:Key) (i n:Int) (hL:ar L):
 aba (decide (aW L k false=0)&& !cz i n) (abG=ec L k i n/\4=cy L k i n) (aba (!decide (aW L k false=0)) (abG=ec L k i n/\aW L k false=cy L k i n) ((0<=k.oid/\k.oid< ↑(ai L))/\aF IntKind.i64 (i+n)/\Cr i (i+n) 64/\k.oid.toNat<ai L/\xB (aj L k.oid.toNat free).bytes i.toNat (i+n).toNat=ec L k i n/\0=cy L k i n)):=by
 delta aba abG
 refine⟨fun h=>?_,fun h=>⟨fun h'=>?_,fun h'=>?_⟩⟩
 ·rw[aa2,aa3]at h;obtain⟨e1,e2⟩:=yG h.1 h.2;rw[<-e1,<-e2];exact⟨rfl,rfl⟩
 ·have h':aW L k false≠0:=by simpa using h'
  obtain⟨e1,e2⟩:=qM (i:=i) (n:=n) rfl h';rw[<-e1,<-e2];exact⟨rfl,rfl⟩
 ·have h':aW L k false=0:=by simpa using h'
  have hi:(!cz i n)=false:=by rw[h']at h;simpa using h
  obtain⟨r1,r2,r3,r4⟩:=pc hL (na h').1;obtain⟨e1,e2,e3,e4⟩:=xN h' hi;exact⟨⟨r2,r3⟩,e1,e2,r4,e3,e4⟩
theorem Je:cq Tryz.prog 114 K3:=
 eW (aA jb (aA iF (aA dN (aA dN bV)))) (fun _=>rfl) fun a hq hok=>by
  obtain⟨L,k,i,n,_⟩:=a;exact ba (inl:=bx) (ann:=aQ) (ae uO (ae tY aq)) (I4 L k i n hq) (by kernel_rfl)
theorem PD (L:List Sx.Obj) (k:Key) (hL:ar L):
 aba (!decide (aW L k true=0)) (my L k=false/\aW L k true=aW L k true) ((0<=k.oid/\k.oid< ↑(ai L))/\k.oid.toNat<ai L/\dI L k.oid/\my L k=true/\0=aW L k true/\cA L k.oid.toNat (Obj.mk (aj L k.oid.toNat free).kind (aj L k.oid.toNat free).count (aj L k.oid.toNat free).calls (aj L k.oid.toNat free).slots fa)=fl L k):=by
 delta aba
 unfold my;refine⟨fun h=>?_,fun h=>?_⟩
 ·have h:aW L k true≠0:=by simpa using h
  exact⟨by simpa using h,rfl⟩
 ·have h:aW L k true=0:=by simpa using h
  obtain⟨r1,r2,r3,r4⟩:=pc hL (na h).1;exact⟨⟨r2,r3⟩,r4,r1,by simpa using h,h.symm,by unfold fl;rw[aa9 h];rfl⟩
theorem Le (L:List Sx.Obj) (k:Key) (hL:ar L):an Tryz.prog 116 [.sa 0,.key k] [.ro (.arr none 163 (.ob L))] (xS (my L k) (fl L k) [.it .i64 (aW L k true)]) (fun _ _=>False):=
 bj (inl:=bx) (ann:=aQ) (ae uO (ae jz aq)) aD (PD L k hL) (by kernel_rfl)
theorem LO:kL Tryz.prog 116 Ti:=
 iM (m:=fun x=>kB.cn x 0) (fL Fm (fun _=>rfl)) (fun _=>rfl) (fun _ _=>rfl) fun L x hq=>Le L x.1 hq
abbrev abJ(t:Key)(L:List Sx.Obj)(f:Key):=(0<=t.oid/\t.oid< ↑(ai L))/\t.oid.toNat<ai L/\(0<=f.oid/\f.oid< ↑(ai L))/\f.oid.toNat<ai L/\dI L t.oid/\mH L t f=true/\0=cV L t f/\cA L t.oid.toNat (Obj.mk (aj L t.oid.toNat free).kind (aj L t.oid.toNat free).count (aj L t.oid.toNat free).calls (aj L t.oid.toNat free).slots (aj L f.oid.toNat free).bytes)=fA L t f
theorem Rb (L:List Sx.Obj) (t f:Key) (hL:ar L):
 aba (decide (aW L t true=0)) (aba (!decide (aW L f false=0)) (mH L t f=false/\aW L f false=cV L t f) (abJ t L f)) (aba (!decide (aW L t true=0)) (mH L t f=false/\aW L t true=cV L t f) (abJ t L f)):=by
 delta aba abJ
 unfold mH;refine⟨fun h=>⟨fun h'=>?_,fun h'=>?_⟩,fun h=>⟨fun h'=>?_,fun h'=>?_⟩⟩
 ·have h:=aa6 h;have h':aW L f false≠0:=by simpa using h'
  obtain⟨e1,e2⟩:=Iv h rfl h';rw[<-e1];exact⟨by simpa using h',rfl⟩
 ·have h:=aa6 h;have h':aW L f false=0:=by simpa using h'
  have hE:cV L t f=0:=by unfold cV;rw[aa9 h];exact h'
  obtain⟨r1,r2,r3,r4⟩:=pc hL (na h).1;obtain⟨_,s2,s3,s4⟩:=pc hL (na h').1;exact⟨⟨r2,r3⟩,r4,⟨s2,s3⟩,s4,r1,by simpa using hE,hE.symm,by unfold fA;rw[hE,aa9 rfl];rfl⟩
 ·have h:=aa5 h;obtain⟨e1,e2⟩:=wD (f:=f) rfl h;rw[<-e1];exact⟨by simpa using h,rfl⟩
 ·rw[h]at h';simp at h'
theorem TM (L:List Sx.Obj) (t f:Key) (hL:ar L):an Tryz.prog 117 [.sa 0,.key t,.key f] [.ro (.arr none 163 (.ob L))] (xS (mH L t f) (fA L t f) [.it .i64 (cV L t f)]) (fun _ _=>False):=
 bj (inl:=bx) (ann:=aQ) (ae uO (ae jz aq)) aD (Rb L t f hL) (by kernel_rfl)
theorem UA:kL Tryz.prog 117 Wd:=
 iM (m:=fun x=>Oc.cn x 0) (fL wq (fun _=>rfl)) (fun _=>rfl) (fun _ _=>rfl) fun L x hq=>TM L x.1 x.2.1 hq
theorem Po (d:Int) (hq:yd d):
 (0<=d/\d< ↑11)/\aj [0,1,6,5,6,7,0,0,3,1,1] d.toNat 0=c9 d:=by
 obtain⟨h0,h1⟩:=hq;refine⟨⟨h0,by omega⟩,?_⟩
 have:d=0\/d=1\/d=2\/d=3\/d=4\/d=5\/d=6\/d=7\/d=8\/d=9\/d=10:=by omega
 rcases this with rfl|rfl|rfl|rfl|rfl|rfl|rfl|rfl|rfl|rfl|rfl<;>rfl
theorem Ny:cq Tryz.prog 80 Ra:=
 eW (aA dN bV) (fun _=>rfl) fun a hq hok=>by
  obtain⟨d,_⟩:=a;exact ba (inl:=bx) (ann:=aQ) aq (Po d hq) (by kernel_rfl)
abbrev abK(a:Int)(b:Int):=aba (decide (a=4)) (decide (b=4)=cX a b) (aba (decide (a=5)) ((decide (1<=b)&&decide (b<=3)||decide (5<=b)&&decide (b<=7))=cX a b) (false=cX a b))
theorem LC (a b:Int):
 aba (decide (a=2)) (aba (decide (a=2)) ((decide (b=1)||decide (b=2)||decide (b=5))=cX a b) (abK a b)) (aba (decide (a=3)) ((decide (b=1)||decide (b=2)||decide (b=5))=cX a b) (abK a b)):=by
 delta aba abK
 unfold cX;grind
theorem Ol:cq Tryz.prog 81 S2:=
 nQ (gi .i64) (gi .i64) (fun _ _=>rfl) fun a b ha hb=>ba (inl:=bx) (ann:=aQ) aq (LC a b) (by kernel_rfl)
theorem KA (L:List Sx.Obj) (k:Key) (m:br) (i:Int) (hq:mG L k m i):
 aba (decide (m.code=1)) (abb (kg L k m=false/\0=(cj L k m).code/\abG=(cj L k m).data/\aJ L k i=(cj L k m).k0/\void=(cj L k m).k1/\void=(cj L k m).k2/\bW L k i=(ep L k m).fst)) (aba (decide (m.code=2)) (abb (ar L/\(iH L k i m.k0=false->abb (kg L k m=false/\0=(cj L k m).code/\abG=(cj L k m).data/\cR L k i m.k0=(cj L k m).k0/\void=(cj L k m).k1/\void=(cj L k m).k2/\bk L k i m.k0=(ep L k m).fst))/\(iH L k i m.k0=true->abb (kg L k m=true/\(0=(cj L k m).code/\abG=(cj L k m).data/\cR L k i m.k0=(cj L k m).k0/\void=(cj L k m).k1/\void=(cj L k m).k2/\bk L k i m.k0=(ep L k m).fst)/\cB L k i m.k0=(ep L k m).snd.snd)))) (aba (decide (m.code=3)) (abb (ar L/\(mh L k=false->kg L k m=false/\0=(cj L k m).code/\abG=(cj L k m).data/\void=(cj L k m).k0/\void=(cj L k m).k1/\void=(cj L k m).k2/\aC L k 2 true=(ep L k m).fst)/\(mh L k=true->kg L k m=true/\(0=(cj L k m).code/\abG=(cj L k m).data/\void=(cj L k m).k0/\void=(cj L k m).k1/\void=(cj L k m).k2/\aC L k 2 true=(ep L k m).fst)/\fD L k=(ep L k m).snd.snd))) (aba (decide (m.code=4)) (abb (ar L/\(kM L k m.k0=false->kg L k m=false/\0=(cj L k m).code/\abG=(cj L k m).data/\void=(cj L k m).k0/\void=(cj L k m).k1/\void=(cj L k m).k2/\bS L k m.k0=(ep L k m).fst)/\(kM L k m.k0=true->kg L k m=true/\(0=(cj L k m).code/\abG=(cj L k m).data/\void=(cj L k m).k0/\void=(cj L k m).k1/\void=(cj L k m).k2/\bS L k m.k0=(ep L k m).fst)/\eT L k m.k0=(ep L k m).snd.snd))) (aba (decide (m.code=5)) (aba (decide (i<0)||decide (7<i)) (kg L k m=false/\0=(cj L k m).code/\abG=(cj L k m).data/\void=(cj L k m).k0/\void=(cj L k m).k1/\void=(cj L k m).k2/\2=(ep L k m).fst) (iI k i/\abb (kg L k m=false/\0=(cj L k m).code/\abG=(cj L k m).data/\jx k i=(cj L k m).k0/\void=(cj L k m).k1/\void=(cj L k m).k2/\0=(ep L k m).fst))) (aba (!decide (k.rights=0)) (kg L k m=false/\0=(cj L k m).code/\abG=(cj L k m).data/\void=(cj L k m).k0/\void=(cj L k m).k1/\void=(cj L k m).k2/\191=(ep L k m).fst) (abb (kg L k m=false/\0=(cj L k m).code/\abG=(cj L k m).data/\abA 5 k void.value=(cj L k m).k0/\void=(cj L k m).k1/\void=(cj L k m).k2/\0=(ep L k m).fst))))))):=by
 delta aba abG abA abb
 obtain⟨hL,hs,hk,rfl⟩:=hq;have hlq:iI k (aS m)↔(0<=aS m/\aS m<=7):=by unfold iI;simp[hk]
 have h8:=L6 (m:=m);have hin:=Dh (m:=m);have hr:aF IntKind.i64 (64-aS m):=by unfold aF bY;omega
 have hr4:aF IntKind.i64 (aS m+4):=by unfold aF bY;omega
 repeat' (first|with_reducible assumption|with_reducible rfl|with_reducible apply And.intro|with_reducible intro _)
 all_goals(first| (simp_all[kg,cj,ep,eV,fm,gq,ea,cK,cY,void];done)| (simp_all[kg,cj,ep,eV,fm,gq,ea,cK,cY,void];omega)| (by_cases hz:0<=m.k2.value/\m.k2.value<=7<;>first| (simp_all[kg,cj,ep,eV,fm,gq,ea,cK,cY,void];done)| (simp_all[kg,cj,ep,eV,fm,gq,ea,cK,cY,void];omega)))
theorem PM (L:List Sx.Obj) (k:Key) (m:br) (i:Int) (hq:mG L k m i):an Tryz.prog 82 [.sa 0,.key k,jG m,.it .i64 i] [.ro (.arr none 163 (.ob L))] (xS (kg L k m) ((ep L k m).2.2) [jG (cj L k m),.it .i64 (ep L k m).1]) (fun _ _=>False):=
 bj (inl:=(fun f=>f==109||f==79||f==86||f==31)) (ann:=aQ) (ae DK (ae D6 aq)) (aB EB (aB Pu (aB LQ aD))) (KA L k m i hq) (by kernel_rfl)
theorem Qy:kL Tryz.prog 82 Q0:=
 iM (m:=fun x=>Co.cn x 0) (fL yb (fun _=>rfl)) (fun _=>rfl) (fun _ _=>rfl) fun L x hq=>PM L x.1 x.2.1 x.2.2.1 hq
theorem Oh (L:List Sx.Obj) (k:Key) (m:br) (i:Int) (hq:mG L k m i):
 aba (decide (m.code=1)) (aF IntKind.i64 (64-i)/\ar L/\kY L k m=false/\0=(cU L k m).code/\ec L k i (imax 0 (lQ 32 (64-i)))=(cU L k m).data/\void=(cU L k m).k0/\void=(cU L k m).k1/\void=(cU L k m).k2/\cy L k i (imax 0 (lQ 32 (64-i)))=(ev L k m).fst) (aba (decide (m.code=2)) (abb ((ar L/\aw m.data)/\(km L k i m.data=false->kY L k m=false/\0=(cU L k m).code/\abG=(cU L k m).data/\void=(cU L k m).k0/\void=(cU L k m).k1/\void=(cU L k m).k2/\cM L k i m.data=(ev L k m).fst)/\(km L k i m.data=true->kY L k m=true/\(0=(cU L k m).code/\abG=(cU L k m).data/\void=(cU L k m).k0/\void=(cU L k m).k1/\void=(cU L k m).k2/\cM L k i m.data=(ev L k m).fst)/\eX L k i m.data=(ev L k m).snd.snd))) (aba (decide (m.code=3)) (abb (ar L/\(my L k=false->kY L k m=false/\0=(cU L k m).code/\abG=(cU L k m).data/\void=(cU L k m).k0/\void=(cU L k m).k1/\void=(cU L k m).k2/\aW L k true=(ev L k m).fst)/\(my L k=true->kY L k m=true/\(0=(cU L k m).code/\abG=(cU L k m).data/\void=(cU L k m).k0/\void=(cU L k m).k1/\void=(cU L k m).k2/\aW L k true=(ev L k m).fst)/\fl L k=(ev L k m).snd.snd))) (aba (decide (m.code=4)) (abb (ar L/\(mH L k m.k0=false->kY L k m=false/\0=(cU L k m).code/\abG=(cU L k m).data/\void=(cU L k m).k0/\void=(cU L k m).k1/\void=(cU L k m).k2/\cV L k m.k0=(ev L k m).fst)/\(mH L k m.k0=true->kY L k m=true/\(0=(cU L k m).code/\abG=(cU L k m).data/\void=(cU L k m).k0/\void=(cU L k m).k1/\void=(cU L k m).k2/\cV L k m.k0=(ev L k m).fst)/\fA L k m.k0=(ev L k m).snd.snd))) (aba (decide (i<0)||decide (7<i)) (kY L k m=false/\0=(cU L k m).code/\abG=(cU L k m).data/\void=(cU L k m).k0/\void=(cU L k m).k1/\void=(cU L k m).k2/\2=(ev L k m).fst) (iI k i/\abb (kY L k m=false/\0=(cU L k m).code/\abG=(cU L k m).data/\jx k i=(cU L k m).k0/\void=(cU L k m).k1/\void=(cU L k m).k2/\0=(ev L k m).fst)))))):=by
 delta aba abG abb
 obtain⟨hL,hs,hk,rfl⟩:=hq;have hlq:iI k (aS m)↔(0<=aS m/\aS m<=7):=by unfold iI;simp[hk]
 have h8:=L6 (m:=m);have hin:=Dh (m:=m);have hr:aF IntKind.i64 (64-aS m):=by unfold aF bY;omega
 have hr4:aF IntKind.i64 (aS m+4):=by unfold aF bY;omega
 repeat' (first|with_reducible assumption|with_reducible rfl|with_reducible apply And.intro|with_reducible intro _)
 all_goals(first| (simp_all[kY,cU,ev,qw,eV,fm,gq,ea,cK,cY,void];done)| (simp_all[kY,cU,ev,qw,eV,fm,gq,ea,cK,cY,void];omega)| (by_cases hz:0<=m.k2.value/\m.k2.value<=7<;>first| (simp_all[kY,cU,ev,qw,eV,fm,gq,ea,cK,cY,void];done)| (simp_all[kY,cU,ev,qw,eV,fm,gq,ea,cK,cY,void];omega)))
theorem MU (L:List Sx.Obj) (k:Key) (m:br) (i:Int) (hq:mG L k m i):an Tryz.prog 83 [.sa 0,.key k,jG m,.it .i64 i] [.ro (.arr none 163 (.ob L))] (xS (kY L k m) ((ev L k m).2.2) [jG (cU L k m),.it .i64 (ev L k m).1]) (fun _ _=>False):=
 bj (inl:=(fun f=>f==109||f==79||f==86||f==31)) (ann:=aQ) (ae Je (ae D6 aq)) (aB M8 (aB LO (aB UA aD))) (Oh L k m i hq) (by kernel_rfl)
theorem PC:kL Tryz.prog 83 T6:=
 iM (m:=fun x=>Co.cn x 0) (fL yb (fun _=>rfl)) (fun _=>rfl) (fun _ _=>rfl) fun L x hq=>MU L x.1 x.2.1 x.2.2.1 hq
abbrev abL(m:br)(L:List Sx.Obj)(k:Key)(i:Int):=aba (decide (m.code=4)) (true=true/\ar L/\(kZ L k i=false->true=true/\gT L k m=false/\0=(bh L k m).code/\abG=(bh L k m).data/\cc L k i=(bh L k m).k0/\void=(bh L k m).k1/\void=(bh L k m).k2/\bZ L k i=(dA L k m).fst)/\(kZ L k i=true->true=true/\gT L k m=true/\(0=(bh L k m).code/\abG=(bh L k m).data/\cc L k i=(bh L k m).k0/\void=(bh L k m).k1/\void=(bh L k m).k2/\bZ L k i=(dA L k m).fst)/\bF L k i=(dA L k m).snd.snd)) (aba (decide (m.code=5)) (true=true/\aba (jy L k m.k0) (true=true/\true=true/\gT L k m=false/\0=(bh L k m).code/\abG=(bh L k m).data/\void=(bh L k m).k0/\void=(bh L k m).k1/\abg 1=(bh L k m).k2/\aN L k=(dA L k m).fst) (true=true/\true=true/\gT L k m=false/\0=(bh L k m).code/\abG=(bh L k m).data/\void=(bh L k m).k0/\void=(bh L k m).k1/\abg 0=(bh L k m).k2/\aN L k=(dA L k m).fst)) (true=true/\ar L/\(kR L k=false->true=true/\true=true/\gT L k m=false/\0=(bh L k m).code/\abG=(bh L k m).data/\void=(bh L k m).k0/\void=(bh L k m).k1/\abg (fG L k)=(bh L k m).k2/\aN L k=(dA L k m).fst)/\(kR L k=true->true=true/\true=true/\gT L k m=true/\(0=(bh L k m).code/\abG=(bh L k m).data/\void=(bh L k m).k0/\void=(bh L k m).k1/\abg (fG L k)=(bh L k m).k2/\aN L k=(dA L k m).fst)/\gZ L k=(dA L k m).snd.snd)))
abbrev abM(L:List Sx.Obj)(k:Key)(m:br):=true=true/\ar L/\(gD L k m.code=false->true=true/\gT L k m=false/\0=(bh L k m).code/\abG=(bh L k m).data/\de L k m.code=(bh L k m).k0/\void=(bh L k m).k1/\void=(bh L k m).k2/\cx L k m.code=(dA L k m).fst)/\(gD L k m.code=true->true=true/\gT L k m=true/\(0=(bh L k m).code/\abG=(bh L k m).data/\de L k m.code=(bh L k m).k0/\void=(bh L k m).k1/\void=(bh L k m).k2/\cx L k m.code=(dA L k m).fst)/\fu L k m.code=(dA L k m).snd.snd)
abbrev abN(m:br)(L:List Sx.Obj)(k:Key)(i:Int):=aba (decide (m.code=3)) (true=true/\ar L/\(jK L k m.k0=false->gT L k m=false/\0=(bh L k m).code/\abG=(bh L k m).data/\void=(bh L k m).k0/\void=(bh L k m).k1/\void=(bh L k m).k2/\cD L k m.k0=(dA L k m).fst)/\(jK L k m.k0=true->gT L k m=true/\(0=(bh L k m).code/\abG=(bh L k m).data/\void=(bh L k m).k0/\void=(bh L k m).k1/\void=(bh L k m).k2/\cD L k m.k0=(dA L k m).fst)/\gE L k m.k0=(dA L k m).snd.snd)) (abL m L k i)
theorem Jc (L:List Sx.Obj) (k:Key) (m:br) (i:Int) (hq:mG L k m i):
 aba (decide (m.code=1)) (aba (decide (m.code=1)) (abM L k m) (abN m L k i)) (aba (decide (m.code=2)) (abM L k m) (abN m L k i)):=by
 delta aba abG abg abN abM abL
 obtain⟨hL,hs,hk,rfl⟩:=hq;have hlq:iI k (aS m)↔(0<=aS m/\aS m<=7):=by unfold iI;simp[hk]
 have h8:=L6 (m:=m);have hin:=Dh (m:=m);have hr:aF IntKind.i64 (64-aS m):=by unfold aF bY;omega
 have hr4:aF IntKind.i64 (aS m+4):=by unfold aF bY;omega
 repeat' (first|with_reducible assumption|with_reducible rfl|with_reducible apply And.intro|with_reducible intro _)
 all_goals(first| (simp_all[gT,bh,dA,eV,fm,gq,ea,cK,cY,void];done)| (simp_all[gT,bh,dA,eV,fm,gq,ea,cK,cY,void];omega)| (by_cases hz:0<=m.k2.value/\m.k2.value<=7<;>first| (simp_all[gT,bh,dA,eV,fm,gq,ea,cK,cY,void];done)| (simp_all[gT,bh,dA,eV,fm,gq,ea,cK,cY,void];omega)))
theorem JV (L:List Sx.Obj) (k:Key) (m:br) (i:Int) (hq:mG L k m i):an Tryz.prog 84 [.sa 0,.key k,jG m,.it .i64 i] [.ro (.arr none 163 (.ob L))] (xS (gT L k m) ((dA L k m).2.2) [jG (bh L k m),.it .i64 (dA L k m).1]) (fun _ _=>False):=
 bj (inl:=(fun f=>f==109||f==79||f==86||f==31)) (ann:=aQ) (ae Qp aq) (aB NK (aB Uj (aB JY (aB Ku aD)))) (Jc L k m i hq) (by kernel_rfl)
theorem JL:kL Tryz.prog 84 Pv:=
 iM (m:=fun x=>Co.cn x 0) (fL yb (fun _=>rfl)) (fun _=>rfl) (fun _ _=>rfl) fun L x hq=>JV L x.1 x.2.1 x.2.2.1 hq
abbrev abO(L:List Sx.Obj)(k:Key):=aJ L (abA 2 k void.value) 0
abbrev abP(k:Key):=abA 2 k void.value
abbrev abQ(L:List Sx.Obj)(k:Key)(m:br):=decide (cg L (abO L k) m.k2.value (bN m.data)=0)&& !decide (bU L (abO L k) m.k2.value (bN m.data) true=0)
theorem MH (L:List Sx.Obj) (k:Key) (m:br) (i:Int) (hq:mG L k m i):
 aba ((decide (m.code=1)||decide (m.code=2))&&(decide (i<0)||decide (11<i))) (ie L k m=false/\0=(bH L k m).code/\abG=(bH L k m).data/\void=(bH L k m).k0/\void=(bH L k m).k1/\void=(bH L k m).k2/\4=(dr L k m).fst) (aba (decide (m.code=1)) (abd (i+4)/\abb (ie L k m=false/\0=(bH L k m).code/\abG=(bH L k m).data/\aJ L (abP k) (i+4)=(bH L k m).k0/\void=(bH L k m).k1/\void=(bH L k m).k2/\bW L (abP k) (i+4)=(dr L k m).fst)) (aba (decide (m.code=2)) (abd (i+4)/\abb (ar L/\(iH L (abP k) (i+4) m.k0=false->abb (ie L k m=false/\0=(bH L k m).code/\abG=(bH L k m).data/\cR L (abP k) (i+4) m.k0=(bH L k m).k0/\void=(bH L k m).k1/\void=(bH L k m).k2/\bk L (abP k) (i+4) m.k0=(dr L k m).fst))/\(iH L (abP k) (i+4) m.k0=true->abb (ie L k m=true/\(0=(bH L k m).code/\abG=(bH L k m).data/\cR L (abP k) (i+4) m.k0=(bH L k m).k0/\void=(bH L k m).k1/\void=(bH L k m).k2/\bk L (abP k) (i+4) m.k0=(dr L k m).fst)/\cB L (abP k) (i+4) m.k0=(dr L k m).snd.snd)))) (aba (decide (m.code=3)) (abb (ie L k m=false/\0=(bH L k m).code/\abG=(bH L k m).data/\abA 6 k m.k2.value=(bH L k m).k0/\void=(bH L k m).k1/\void=(bH L k m).k2/\0=(dr L k m).fst)) (aba (decide (m.code=4)) (abb (abb (ie L k m=false/\0=(bH L k m).code/\abG=(bH L k m).data/\void=(bH L k m).k0/\void=(bH L k m).k1/\abg (bz L k.oid)=(bH L k m).k2/\0=(dr L k m).fst))) (aba (decide (m.code=5)) (abb (ar L/\(ko L k.oid i=false->ie L k m=false/\0=(bH L k m).code/\abG=(bH L k m).data/\void=(bH L k m).k0/\void=(bH L k m).k1/\void=(bH L k m).k2/\eu L k.oid i=(dr L k m).fst)/\(ko L k.oid i=true->ie L k m=true/\(0=(bH L k m).code/\abG=(bH L k m).data/\void=(bH L k m).k0/\void=(bH L k m).k1/\void=(bH L k m).k2/\eu L k.oid i=(dr L k m).fst)/\dc L k.oid i=(dr L k m).snd.snd))) (aba (decide (m.code=6)) (ar L/\aba (decide (cg L (abO L k) m.k2.value 32=0)&& !decide (bU L (abO L k) m.k2.value 32 false=0)) (abd (1000+bU L (abO L k) m.k2.value 32 false)/\ie L k m=false/\0=(bH L k m).code/\jM L (abO L k) m.k2.value 32=(bH L k m).data/\void=(bH L k m).k0/\void=(bH L k m).k1/\void=(bH L k m).k2/\1000+bU L (abO L k) m.k2.value 32 false=(dr L k m).fst) (ie L k m=false/\0=(bH L k m).code/\jM L (abO L k) m.k2.value 32=(bH L k m).data/\void=(bH L k m).k0/\void=(bH L k m).k1/\void=(bH L k m).k2/\cg L (abO L k) m.k2.value 32=(dr L k m).fst)) (abb ((ar L/\aw m.data)/\(mf L (abO L k) m.k2.value (bN m.data) true=false->aba (abQ L k m) (abd (1000+bU L (abO L k) m.k2.value (bN m.data) true)/\ie L k m=false/\0=(bH L k m).code/\abG=(bH L k m).data/\void=(bH L k m).k0/\void=(bH L k m).k1/\void=(bH L k m).k2/\1000+bU L (abO L k) m.k2.value (bN m.data) true=(dr L k m).fst) (ie L k m=false/\0=(bH L k m).code/\abG=(bH L k m).data/\void=(bH L k m).k0/\void=(bH L k m).k1/\void=(bH L k m).k2/\cg L (abO L k) m.k2.value (bN m.data)=(dr L k m).fst))/\(mf L (abO L k) m.k2.value (bN m.data) true=true->aba (abQ L k m) (abd (1000+bU L (abO L k) m.k2.value (bN m.data) true)/\ie L k m=true/\(0=(bH L k m).code/\abG=(bH L k m).data/\void=(bH L k m).k0/\void=(bH L k m).k1/\void=(bH L k m).k2/\1000+bU L (abO L k) m.k2.value (bN m.data) true=(dr L k m).fst)/\kz L (abO L k) m.k2.value m.data=(dr L k m).snd.snd) (ie L k m=true/\(0=(bH L k m).code/\abG=(bH L k m).data/\void=(bH L k m).k0/\void=(bH L k m).k1/\void=(bH L k m).k2/\cg L (abO L k) m.k2.value (bN m.data)=(dr L k m).fst)/\kz L (abO L k) m.k2.value m.data=(dr L k m).snd.snd)))))))))):=by
 delta aba abG abg abA abQ abP abO abd abb
 obtain⟨hL,hs,hk,rfl⟩:=hq;have hlq:iI k (aS m)↔(0<=aS m/\aS m<=7):=by unfold iI;simp[hk]
 have hin:=Dh (m:=m);have hr:aF IntKind.i64 (64-aS m):=by unfold aF bY;omega
 have hr4:aF IntKind.i64 (aS m+4):=by unfold aF bY;omega
 have hw:Key.mk 2 k.oid k.count void.call void.rights void.value=fk k:=rfl;have hro:aJ L (fk k) 0=fK L k:=rfl;have f1:=IH (L:=L) (k:=fK L k) (a:=m.k2.value) (n:=32) (w:=false);have f2:=IH (L:=L) (k:=fK L k) (a:=m.k2.value) (n:=bN m.data) (w:=true);have g1:aF IntKind.i64 (1000+bU L (fK L k) m.k2.value 32 false):=by unfold aF bY;omega
 have g2:aF IntKind.i64 (1000+bU L (fK L k) m.k2.value (bN m.data) true):=by unfold aF bY;omega
 rw[hw,hro];refine⟨fun h=>?_,fun h=>⟨fun h1=>?_,fun h1=>⟨fun h2=>?_,fun h2=>?_⟩⟩⟩
 ·simp only[aa2,Bool.or_eq_true,aa3]at h;obtain⟨h1|h1,h2⟩:=h
  ·simp[ie,bH,dr,h1,h2,cY]
  ·simp[ie,bH,dr,h1,h2,cY]
 ·have h1:=aa6 h1;have hz:¬(aS m<0\/11<aS m):=by rw[h1]at h;simpa using h
  have e1:dr L k m=(bW L (fk k) (aS m+4),eV (aJ L (fk k) (aS m+4)),L):=by unfold dr;rw[aa9 h1,aa8 hz]
  have e2:bH L k m=eV (aJ L (fk k) (aS m+4)):=by unfold bH;rw[aa8 (fun hh=>hz hh.2),e1]
  have e3:ie L k m=false:=by unfold ie;rw[aa9 h1]
  rw[e1,e2,e3];exact⟨hr4,rfl,rfl,rfl,rfl,rfl,rfl,rfl,rfl⟩
 ·have h1:=aa5 h1;have h2:=aa6 h2;have hz:¬(aS m<0\/11<aS m):=by rw[h2]at h;simpa using h
  have e1:dr L k m=(bk L (fk k) (aS m+4) m.k0,eV (cR L (fk k) (aS m+4) m.k0),cB L (fk k) (aS m+4) m.k0):=by unfold dr;rw[aa8 h1,aa9 h2,aa8 hz,aa8 hz]
  have e2:bH L k m=eV (cR L (fk k) (aS m+4) m.k0):=by unfold bH;rw[aa8 (fun hh=>hz hh.2),e1]
  have e3:ie L k m=iH L (fk k) (aS m+4) m.k0:=by unfold ie;rw[aa8 h1,aa9 h2,aa8 hz]
  rw[e1,e2,e3];exact⟨hr4,rfl,hL,fun h=>⟨rfl,h,rfl,rfl,rfl,rfl,rfl,rfl⟩,fun h=>⟨rfl,h,⟨rfl,rfl,rfl,rfl,rfl,rfl⟩,rfl⟩⟩
 have h1:=aa5 h1;have h2:=aa5 h2;clear h;repeat' (first|with_reducible assumption|with_reducible rfl|with_reducible apply And.intro|with_reducible intro _)
 all_goals(first| (simp_all[ie,bH,dr,eV,fm,gq,ea,cK,cY,void];done)| (simp_all[ie,bH,dr,eV,fm,gq,ea,cK,cY,void];omega))
theorem Qz (L:List Sx.Obj) (k:Key) (m:br) (i:Int) (hq:mG L k m i):an Tryz.prog 85 [.sa 0,.key k,jG m,.it .i64 i] [.ro (.arr none 163 (.ob L))] (xS (ie L k m) ((dr L k m).2.2) [jG (bH L k m),.it .i64 (dr L k m).1]) (fun _ _=>False):=
 bj (inl:=(fun f=>f==109||f==79||f==86||f==31)) (ann:=aQ) (ae DK (ae vd (ae VS aq))) (aB EB (aB Im (aB Wy aD))) (MH L k m i hq) (by kernel_rfl)
theorem N7:kL Tryz.prog 85 Sf:=
 iM (m:=fun x=>Co.cn x 0) (fL yb (fun _=>rfl)) (fun _=>rfl) (fun _ _=>rfl) fun L x hq=>Qz L x.1 x.2.1 x.2.2.1 hq
abbrev abR(L:List Sx.Obj)(k:Key):=(ah L k).kind=10
abbrev abS(L:List Sx.Obj)(k:Key)(m:br):=cj L (ah L k) (aH L m)
abbrev abT(L:List Sx.Obj)(k:Key)(m:br):=cU L (ah L k) (aH L m)
abbrev abU(L:List Sx.Obj)(k:Key)(m:br):=bh L (ah L k) (aH L m)
abbrev abV(L:List Sx.Obj)(k:Key)(m:br):=bH L (ah L k) (aH L m)
theorem We (L:List Sx.Obj) (n:Int) (k:Key) (m:br) (hL:ar L) (hs:aw m.data):
 aba (decide (bD (ai L)=0)) (fx L n k m=false/\0=(aG L n k m).code/\abG=(aG L n k m).data/\void=(aG L n k m).k0/\void=(aG L n k m).k1/\void=(aG L n k m).k2/\false=cW L n k m/\1=cJ L n k m) (((!(decide (n<0)|| !bJ L k))=true->aw m.data)/\aba (decide (n<0)|| !bJ L k|| !fj L m) (fx L n k m=false/\0=(aG L n k m).code/\abG=(aG L n k m).data/\void=(aG L n k m).k0/\void=(aG L n k m).k1/\void=(aG L n k m).k2/\false=cW L n k m/\2=cJ L n k m) (aba (decide ((ah L k).kind=6)||decide ((ah L k).kind=7)) (fx L n k m=false/\0=(aG L n k m).code/\abG=(aG L n k m).data/\void=(aG L n k m).k0/\void=(aG L n k m).k1/\void=(aG L n k m).k2/\false=cW L n k m/\241=cJ L n k m) (aba (decide ((ah L k).kind=0)) (abb (fx L n k m=false/\190=(aG L n k m).code/\abG=(aG L n k m).data/\void=(aG L n k m).k0/\void=(aG L n k m).k1/\void=(aG L n k m).k2/\false=cW L n k m/\0=cJ L n k m)) (aba (decide ((aH L m).code=0)) (abb (abb (fx L n k m=false/\0=(aG L n k m).code/\abG=(aG L n k m).data/\void=(aG L n k m).k0/\void=(aG L n k m).k1/\abg (ah L k).kind=(aG L n k m).k2/\false=cW L n k m/\0=cJ L n k m))) (((!decide ((aH L m).code<1))=true->yd (ah L k).kind)/\aba (decide ((aH L m).code<1)||decide (c9 (ah L k).kind<(aH L m).code)||cX (ah L k).kind (aH L m).code&& !decide ((aH L m).k2.kind=1)) (abb (fx L n k m=false/\240=(aG L n k m).code/\abG=(aG L n k m).data/\void=(aG L n k m).k0/\void=(aG L n k m).k1/\void=(aG L n k m).k2/\false=cW L n k m/\0=cJ L n k m)) ((aba (decide (0<=(aH L m).k2.value)&&decide ((aH L m).k2.value<=2147483647)) (∃g: Unit,xp L n k m/\n=n/\(ah L k).kind=(ah L k).kind/\(aH L m).k2.value=aS (aH L m)/\L=L/\ah L k=ah L k/\(aH L m).code=(aH L m).code/\(aH L m).data=(aH L m).data/\(aH L m).k0=(aH L m).k0/\(aH L m).k1=(aH L m).k1/\(aH L m).k2=(aH L m).k2/\abG=abG/\void=void/\void=void/\void=void) (∃g:Unit,xp L n k m/\n=n/\(ah L k).kind=(ah L k).kind/\-1=aS (aH L m)/\L=L/\ah L k=ah L k/\(aH L m).code=(aH L m).code/\(aH L m).data=(aH L m).data/\(aH L m).k0=(aH L m).k0/\(aH L m).k1=(aH L m).k1/\(aH L m).k2=(aH L m).k2/\abG=abG/\void=void/\void=void/\void=void))/\∀(g:Unit),xp L n k m->aba (decide ((ah L k).kind=1)) (abb (abb (fx L n k m=false/\0=(aG L n k m).code/\abG=(aG L n k m).data/\void=(aG L n k m).k0/\void=(aG L n k m).k1/\abg (ah L k).value=(aG L n k m).k2/\decide (abR L k)=cW L n k m/\0=cJ L n k m))) (aba (decide ((ah L k).kind=2)) (abb (mG L (ah L k) (aH L m) (aS (aH L m))/\(kg L (ah L k) (aH L m)=false->aba (!decide ((ep L (ah L k) (aH L m)).fst=0)) (abb (fx L n k m=false/\(ep L (ah L k) (aH L m)).fst=(aG L n k m).code/\abG=(aG L n k m).data/\void=(aG L n k m).k0/\void=(aG L n k m).k1/\void=(aG L n k m).k2/\decide (abR L k)=cW L n k m/\0=cJ L n k m)) (fx L n k m=false/\(abS L k m).code=(aG L n k m).code/\(abS L k m).data=(aG L n k m).data/\(abS L k m).k0=(aG L n k m).k0/\(abS L k m).k1=(aG L n k m).k1/\(abS L k m).k2=(aG L n k m).k2/\decide (abR L k)=cW L n k m/\0=cJ L n k m))/\(kg L (ah L k) (aH L m)=true->aba (!decide ((ep L (ah L k) (aH L m)).fst=0)) (abb (fx L n k m=true/\((ep L (ah L k) (aH L m)).fst=(aG L n k m).code/\abG=(aG L n k m).data/\void=(aG L n k m).k0/\void=(aG L n k m).k1/\void=(aG L n k m).k2/\decide (abR L k)=cW L n k m/\0=cJ L n k m)/\(ep L (ah L k) (aH L m)).snd.snd=gX L n k m)) (fx L n k m=true/\((abS L k m).code=(aG L n k m).code/\(abS L k m).data=(aG L n k m).data/\(abS L k m).k0=(aG L n k m).k0/\(abS L k m).k1=(aG L n k m).k1/\(abS L k m).k2=(aG L n k m).k2/\decide (abR L k)=cW L n k m/\0=cJ L n k m)/\(ep L (ah L k) (aH L m)).snd.snd=gX L n k m)))) (aba (decide ((ah L k).kind=3)) (abb (mG L (ah L k) (aH L m) (aS (aH L m))/\(kY L (ah L k) (aH L m)=false->aba (!decide ((ev L (ah L k) (aH L m)).fst=0)) (abb (fx L n k m=false/\(ev L (ah L k) (aH L m)).fst=(aG L n k m).code/\abG=(aG L n k m).data/\void=(aG L n k m).k0/\void=(aG L n k m).k1/\void=(aG L n k m).k2/\decide (abR L k)=cW L n k m/\0=cJ L n k m)) (fx L n k m=false/\(abT L k m).code=(aG L n k m).code/\(abT L k m).data=(aG L n k m).data/\(abT L k m).k0=(aG L n k m).k0/\(abT L k m).k1=(aG L n k m).k1/\(abT L k m).k2=(aG L n k m).k2/\decide (abR L k)=cW L n k m/\0=cJ L n k m))/\(kY L (ah L k) (aH L m)=true->aba (!decide ((ev L (ah L k) (aH L m)).fst=0)) (abb (fx L n k m=true/\((ev L (ah L k) (aH L m)).fst=(aG L n k m).code/\abG=(aG L n k m).data/\void=(aG L n k m).k0/\void=(aG L n k m).k1/\void=(aG L n k m).k2/\decide (abR L k)=cW L n k m/\0=cJ L n k m)/\(ev L (ah L k) (aH L m)).snd.snd=gX L n k m)) (fx L n k m=true/\((abT L k m).code=(aG L n k m).code/\(abT L k m).data=(aG L n k m).data/\(abT L k m).k0=(aG L n k m).k0/\(abT L k m).k1=(aG L n k m).k1/\(abT L k m).k2=(aG L n k m).k2/\decide (abR L k)=cW L n k m/\0=cJ L n k m)/\(ev L (ah L k) (aH L m)).snd.snd=gX L n k m)))) (aba (decide ((ah L k).kind=4)) (abb (mG L (ah L k) (aH L m) (aS (aH L m))/\(gT L (ah L k) (aH L m)=false->aba (!decide ((dA L (ah L k) (aH L m)).fst=0)) (abb (fx L n k m=false/\(dA L (ah L k) (aH L m)).fst=(aG L n k m).code/\abG=(aG L n k m).data/\void=(aG L n k m).k0/\void=(aG L n k m).k1/\void=(aG L n k m).k2/\decide (abR L k)=cW L n k m/\0=cJ L n k m)) (fx L n k m=false/\(abU L k m).code=(aG L n k m).code/\(abU L k m).data=(aG L n k m).data/\(abU L k m).k0=(aG L n k m).k0/\(abU L k m).k1=(aG L n k m).k1/\(abU L k m).k2=(aG L n k m).k2/\decide (abR L k)=cW L n k m/\0=cJ L n k m))/\(gT L (ah L k) (aH L m)=true->aba (!decide ((dA L (ah L k) (aH L m)).fst=0)) (abb (fx L n k m=true/\((dA L (ah L k) (aH L m)).fst=(aG L n k m).code/\abG=(aG L n k m).data/\void=(aG L n k m).k0/\void=(aG L n k m).k1/\void=(aG L n k m).k2/\decide (abR L k)=cW L n k m/\0=cJ L n k m)/\(dA L (ah L k) (aH L m)).snd.snd=gX L n k m)) (fx L n k m=true/\((abU L k m).code=(aG L n k m).code/\(abU L k m).data=(aG L n k m).data/\(abU L k m).k0=(aG L n k m).k0/\(abU L k m).k1=(aG L n k m).k1/\(abU L k m).k2=(aG L n k m).k2/\decide (abR L k)=cW L n k m/\0=cJ L n k m)/\(dA L (ah L k) (aH L m)).snd.snd=gX L n k m)))) (aba (decide ((ah L k).kind=5)) (abb (mG L (ah L k) (aH L m) (aS (aH L m))/\(ie L (ah L k) (aH L m)=false->aba (!decide ((dr L (ah L k) (aH L m)).fst=0)) (abb (fx L n k m=false/\(dr L (ah L k) (aH L m)).fst=(aG L n k m).code/\abG=(aG L n k m).data/\void=(aG L n k m).k0/\void=(aG L n k m).k1/\void=(aG L n k m).k2/\decide (abR L k)=cW L n k m/\0=cJ L n k m)) (fx L n k m=false/\(abV L k m).code=(aG L n k m).code/\(abV L k m).data=(aG L n k m).data/\(abV L k m).k0=(aG L n k m).k0/\(abV L k m).k1=(aG L n k m).k1/\(abV L k m).k2=(aG L n k m).k2/\decide (abR L k)=cW L n k m/\0=cJ L n k m))/\(ie L (ah L k) (aH L m)=true->aba (!decide ((dr L (ah L k) (aH L m)).fst=0)) (abb (fx L n k m=true/\((dr L (ah L k) (aH L m)).fst=(aG L n k m).code/\abG=(aG L n k m).data/\void=(aG L n k m).k0/\void=(aG L n k m).k1/\void=(aG L n k m).k2/\decide (abR L k)=cW L n k m/\0=cJ L n k m)/\(dr L (ah L k) (aH L m)).snd.snd=gX L n k m)) (fx L n k m=true/\((abV L k m).code=(aG L n k m).code/\(abV L k m).data=(aG L n k m).data/\(abV L k m).k0=(aG L n k m).k0/\(abV L k m).k1=(aG L n k m).k1/\(abV L k m).k2=(aG L n k m).k2/\decide (abR L k)=cW L n k m/\0=cJ L n k m)/\(dr L (ah L k) (aH L m)).snd.snd=gX L n k m)))) (aba (decide ((ah L k).kind=8)) (aba (decide ((aH L m).code=1)) (abb (abb (fx L n k m=false/\0=(aG L n k m).code/\abG=(aG L n k m).data/\void=(aG L n k m).k0/\void=(aG L n k m).k1/\abg (aH L m).k0.kind=(aG L n k m).k2/\decide (abR L k)=cW L n k m/\0=cJ L n k m))) (aba (decide ((aH L m).code=2)) (abb (aba (kS (aH L m).k0 (aH L m).k1) (abb (abb (fx L n k m=false/\0=(aG L n k m).code/\abG=(aG L n k m).data/\void=(aG L n k m).k0/\void=(aG L n k m).k1/\abg 1=(aG L n k m).k2/\decide (abR L k)=cW L n k m/\0=cJ L n k m))) (abb (abb (fx L n k m=false/\0=(aG L n k m).code/\abG=(aG L n k m).data/\void=(aG L n k m).k0/\void=(aG L n k m).k1/\abg 0=(aG L n k m).k2/\decide (abR L k)=cW L n k m/\0=cJ L n k m))))) (abb (abb (fx L n k m=false/\0=(aG L n k m).code/\abG=(aG L n k m).data/\void=(aG L n k m).k0/\void=(aG L n k m).k1/\abg (aH L m).k0.rights=(aG L n k m).k2/\decide (abR L k)=cW L n k m/\0=cJ L n k m))))) (aba (decide ((ah L k).kind=9)) (abb (abb (fx L n k m=false/\0=(aG L n k m).code/\abG=(aG L n k m).data/\void=(aG L n k m).k0/\void=(aG L n k m).k1/\abg n=(aG L n k m).k2/\decide (abR L k)=cW L n k m/\0=cJ L n k m))) (fx L n k m=false/\0=(aG L n k m).code/\abG=(aG L n k m).data/\void=(aG L n k m).k0/\void=(aG L n k m).k1/\void=(aG L n k m).k2/\decide (abR L k)=cW L n k m/\0=cJ L n k m))))))))))))):=by
 delta aba abG abg abV abU abT abS abR abb
 have hd:(aH L m).data=m.data:=rfl;have hcd:(aH L m).code=m.code:=rfl;have hsz:bD (ai L)=0↔ai L=0:=by simp[bD]
 refine⟨fun h=>?_,fun h=>⟨fun _=>hs,fun h2=>?_,fun h2=>⟨fun h3=>?_,fun h3=>⟨fun h4=>?_,fun h4=>⟨fun h5=>?_,fun h5=>⟨fun _=>?_,fun h6=>?_,fun h6=>?_⟩⟩⟩⟩⟩⟩
 ·obtain⟨a,b,c,d⟩:=Ll (n:=n) (k:=k) (m:=m) (L:=L) (e:=1) (by unfold cJ;rw[aa9 (hsz.1 (aa6 h))]) (by omega)
  rw[a,b,c];exact⟨rfl,rfl,rfl,rfl,rfl,rfl,rfl,d⟩
 all_goals have h0:¬ai L=0:=fun e=>aa5 h (hsz.2 e)
 ·have hf:qq L n k m=false:=QN h2;obtain⟨a,b,c,d⟩:=Ll (n:=n) (k:=k) (m:=m) (L:=L) (e:=2) (by unfold cJ;rw[aa8 h0,aa9 hf]) (by omega)
  rw[a,b,c];exact⟨rfl,rfl,rfl,rfl,rfl,rfl,rfl,d⟩
 all_goals have hf:¬qq L n k m=false:=M9 h2
 ·have h3:(ah L k).kind=6\/(ah L k).kind=7:=by simpa using h3
  obtain⟨a,b,c,d⟩:=Ll (n:=n) (k:=k) (m:=m) (L:=L) (e:=241) (by unfold cJ;rw[aa8 h0,aa8 hf,aa9 h3]) (by omega)
  rw[a,b,c];exact⟨rfl,rfl,rfl,rfl,rfl,rfl,rfl,d⟩
 all_goals have h3:¬((ah L k).kind=6\/(ah L k).kind=7):=by simpa using h3
 all_goals have hE:cJ L n k m=0:=by unfold cJ;rw[aa8 h0,aa8 hf,aa8 h3]
 ·have h4:=aa6 h4;obtain⟨a,b,c,d,e⟩:=Cu (c:=false) (r:=(190,cY,L)) hE (by unfold dG;rw[aa9 h4]) (by unfold vN;rw[aa9 h4])
  rw[a,b,d,h4];exact⟨rfl,rfl,rfl,rfl,rfl,rfl,rfl,rfl,e⟩
 all_goals have h4:=aa5 h4
 ·have h5:=aa6 h5;obtain⟨a,b,c,d,e⟩:=Cu (c:=false) (r:=(0,fm (ah L k).kind,L)) hE (by unfold dG;rw[aa8 h4,aa9 h5]) (by unfold vN;rw[aa8 h4,aa9 h5])
  rw[hcd]at h5;rw[a,b,d,h5];refine⟨rfl,rfl,rfl,rfl,rfl,rfl,rfl,rfl,?_,e⟩;simp
 all_goals have h5:=aa5 h5
 ·unfold yd;have:=uf (L:=L) (k:=k);unfold aV at this;simp only[aa2,aa3]at this;omega
 ·have h6':(aH L m).code<1\/c9 (ah L k).kind<(aH L m).code\/(cX (ah L k).kind (aH L m).code=true/\(aH L m).k2.kind≠1):=by
   simp only[Bool.or_eq_true,aa2,aa3,Bool.not_eq_true',decide_eq_false_iff_not]at h6;rcases h6 with(h6|h6)|h6
   ·exact .inl h6
   ·exact .inr (.inl h6)
   ·exact .inr (.inr h6)
  obtain⟨a,b,c,d,e⟩:=Cu (c:=false) (r:=(240,cY,L)) hE (by unfold dG;rw[aa8 h4,aa8 h5,aa9 h6']) (by unfold vN;rw[aa8 h4,aa8 h5,aa9 h6'])
  have hw:(decide ((ah L k).kind=10)&&decide (m.code=1))=false:=by
   by_cases hk:(ah L k).kind=10
   ·have h1:c9 (ah L k).kind=1:=by rw[hk];rfl
    have h2:cX (ah L k).kind (aH L m).code=false:=by rw[hk];rfl
    rw[h2,h1,hcd]at h6';have:¬m.code=1:=fun hm=>by rw[hm]at h6';simp at h6'
    simp[this]
   ·simp[hk]
  rw[a,b,d,hw];exact⟨rfl,rfl,rfl,rfl,rfl,rfl,rfl,rfl,e⟩
 have h6':¬((aH L m).code<1\/c9 (ah L k).kind<(aH L m).code\/(cX (ah L k).kind (aH L m).code=true/\(aH L m).k2.kind≠1)):=fun hh=>by
  simp only[Bool.or_eq_false_iff,Bool.and_eq_false_iff,decide_eq_false_iff_not,Bool.not_eq_false',aa3]at h6;obtain⟨⟨h6a,h6b⟩,h6c⟩:=h6;rcases hh with hh|hh|hh
  ·exact h6a hh
  ·exact h6b hh
  ·rcases h6c with h6c|h6c
   ·rw[h6c]at hh;simp at hh
   ·exact hh.2 h6c
 have hZ:xp L n k m:=⟨⟨hL,hs⟩,hE,h4,h5,h6'⟩;refine⟨⟨fun h7=>⟨(),hZ,?_⟩,fun h7=>⟨(),hZ,?_⟩⟩,fun _ _=>?_⟩
 ·have h7:0<=(aH L m).k2.value/\(aH L m).k2.value<=2147483647:=by simpa using h7
  have:(aH L m).k2.value=aS (aH L m):=by unfold aS;rw[aa9 h7]
  exact⟨rfl,rfl,this,rfl,rfl,rfl,rfl,rfl,rfl,rfl,rfl,rfl,rfl,rfl⟩
 ·have h7:¬(0<=(aH L m).k2.value/\(aH L m).k2.value<=2147483647):=by simpa using h7
  have: -1=aS (aH L m):=by unfold aS;rw[aa8 h7]
  exact⟨rfl,rfl,this,rfl,rfl,rfl,rfl,rfl,rfl,rfl,rfl,rfl,rfl,rfl⟩
 obtain⟨e1,e2,e3,e4,e5⟩:=Sw hZ rfl rfl;have hro:mG L (ah L k) (aH L m) (aS (aH L m)):=⟨hL,hs,uf,rfl⟩;clear hZ h6' h6 h5 h4 hE h3 hf h0 h2 h hsz hcd hd hL hs;rw[e1,e2,e3,e4,<-e5];clear e1 e2 e3 e4 e5;generalize ah L k=k' at *
 generalize aH L m=m' at *
 repeat' (first|with_reducible assumption|with_reducible rfl|with_reducible apply And.intro|with_reducible intro _)
 all_goals(first| (simp_all[tr,eH,NG,KS,Nr,bh,gf,fm,ea,cK,cY,void];done)| (simp_all[tr,eH,NG,KS,Nr,bh,gf,fm,ea,cK,cY,void];omega))
theorem Wi (L:List Sx.Obj) (n:Int) (k:Key) (m:br) (hL:ar L) (hs:aw m.data):an Tryz.prog 52 [.sa 0,.it .i64 n,.key k,jG m] [.ro (.arr none 163 (.ob L))] (xS (fx L n k m) (gX L n k m) [jG (aG L n k m),.bo (cW L n k m),.it .i64 (cJ L n k m)]) (fun _ _=>False):=
 bj (inl:=(fun f=>f==109||f==79||f==86||f==31||f==78)) (ann:=(iv [(52,2000019,QJ [0,1,6,7,9,12] (fun(_:Unit)=> [(13,.it .i64 (aS (aH L m)))]) (fun _=> []) (fun _=> []) (fun _=>xp L n k m))])) (ae zy (ae C9 (ae De (ae ph (ae Tl (ae Ny (ae Ol aq))))))) (aB Qy (aB PC (aB JL (aB N7 aD)))) (We L n k m hL hs) (by kernel_rfl)
theorem V6:kL Tryz.prog 52 Zm:=
 iM (m:=fun x=>OQ.cn x 0) (fL Ie (fun _=>rfl)) (fun _=>rfl) (fun _ _=>rfl) fun L x hq=>Wi L x.1 x.2.1 x.2.2.1 hq.1 hq.2
end Go.Proofs.YtlblcfaclmpekaaGreat
namespace Go.Sx
theorem Tw {L:List Obj} {i:Int} {m:br} (hL:ar L):ar (gw L i m):=by
 unfold gw;split
 ·rename_i hE
  have hm:fj L m=true/\bz L i=1:=by
   unfold gd at hE;split at hE
   ·omega
   ·split at hE
    ·omega
    ·split at hE
     ·omega
     ·rename_i h1 h2;exact⟨by simpa using h1,by omega⟩
  obtain⟨a,b,c,d⟩:=oM (qs.1.1 (by omega:0<=bz L i))
  obtain⟨f0,f1,f2⟩:=CT (by have:=gA hL;omega:0<L.length) m
  exact lH hL (Gj (dq hL i.toNat (by omega)) d f0 f1 f2 (zo (by omega)))
 ·exact hL
theorem W5 {L:List Obj} {n:Int} {p:iW} (hL:ar L):ar (dO L n p):=by
 unfold dO;split
 ·split
  ·exact Wj hL
  ·unfold xi;have h1:ar (iE L n p):=GA hL;split
   ·split
    ·exact Tw h1
    ·split
     ·exact FM h1
     ·exact h1
   ·exact h1
 ·exact hL
theorem Yu {n:Int} {p:iW} (hn:gQ n):gQ (jj n p):=by
 unfold jj;split
 ·rename_i h;obtain⟨hr,hk⟩:=h;unfold er at hr;rw[aa9 hk]at hr;simp only[aa2,aa3]at hr;unfold gQ at hn⊢;omega
 ·exact hn
def BC (l:TL) (L:List Obj) (n:Int):Prop:=ar L/\gQ n/\∃x:List iW,l=ly x/\vX x/\ai x<=40
def lR (p:iW):Prop:=True
def qo (L:List Obj) (p:iW) (g:Int):Prop:=0<=g/\g<(ai (b6 L):Int)/\aj (b6 L) g.toNat 0=aX L p
def U2 (o:Obj) (p:iW):br:=⟨p.code,p.data,ow o p.s0,ow o p.s1,ow o p.s2⟩
def mw (L:List Obj) (p:iW):br:=U2 (aL L (aX L p)) p
def ya (L:List Obj) (p:iW):Key:=ah L ((aj L (aX L p).toNat free).slots.at (4+p.reg).toNat)
def stM (L:List Obj) (n:Int) (p:iW):br:=aG L n (ya L p) (bL L p)
def Vy (L:List Obj) (n:Int) (p:iW):List Obj:=gX L n (ya L p) (bL L p)
def IX (L:List Obj) (p:iW) (s:Int):Key:=(aj L (aX L p).toNat free).slots.at (4+s).toNat
def Vk (L:List Obj) (p:iW) (s:Int) (r:Prop):Prop:=aF .i64 (4+s)/\(0<=aX L p/\aX L p< ↑(ai L))/\(0<=4+s/\4+s< ↑16)/\(aX L p).toNat<ai L/\r
def xz (L:List Obj) (n:Int) (p:iW) (r:Prop):Prop:=L=L/\n=n/\p.kind=p.kind/\p.proc=p.proc/\p.reg=p.reg/\p.mode=p.mode/\p.code=p.code/\p.data=p.data/\p.s0=p.s0/\p.s1=p.s1/\p.s2=p.s2/\p.num=p.num/\p.val=p.val/\Value.slice none 0 0=Value.slice none 0 0/\ByteArray.mk (Array.mk [])=ByteArray.mk (Array.mk [])/\void=void/\void=void/\void=void/\false=false/\b6 L=b6 L/\r
def He (L:List Obj) (n:Int) (p:iW):Prop:=L=L/\n=n/\p.kind=p.kind/\p.proc=p.proc/\p.reg=p.reg/\p.mode=p.mode/\p.code=p.code/\p.data=p.data/\p.s0=p.s0/\p.s1=p.s1/\p.s2=p.s2/\p.num=p.num/\p.val=p.val/\Value.slice none 0 0=Value.slice none 0 0/\ByteArray.mk (Array.mk [])=ByteArray.mk (Array.mk [])/\void=void/\void=void/\void=void/\false=false/\b6 L=b6 L
theorem CO {L:List Obj} {n:Int} {p:iW}:He L n p:=⟨rfl,rfl,rfl,rfl,rfl,rfl,rfl,rfl,rfl,rfl,rfl,rfl,rfl,rfl,rfl,rfl,rfl,rfl,rfl,rfl⟩
theorem Gu {L:List Obj} {n:Int} {p:iW} {r:Prop} (h:r):xz L n p r:=⟨rfl,rfl,rfl,rfl,rfl,rfl,rfl,rfl,rfl,rfl,rfl,rfl,rfl,rfl,rfl,rfl,rfl,rfl,rfl,rfl,h⟩
def QD (L:List Obj) (n:Int) (p:iW) (x o i e:Int) (m:br) (w:Bool):Prop:=x=jj n p/\o=(aT L n p).out/\i=(aT L n p).proc/\e=(aT L n p).err/\m.code=(aT L n p).ans.code/\m.data=(aT L n p).ans.data/\m.k0=(aT L n p).ans.k0/\m.k1=(aT L n p).ans.k1/\m.k2=(aT L n p).ans.k2/\w=(aT L n p).wants
theorem xe {L:List Obj} {n x o i e:Int} {p:iW} {m:br} {w:Bool} (h1:jj n p=x) (h2:aT L n p=⟨o,i,e,m,w⟩):QD L n p x o i e m w:=by
 unfold QD;rw[h1,h2];(repeat' apply And.intro)<;>rfl
theorem Ca {L:List Obj} {p:iW} {s:Int} (h0:0<=aX L p) (h1:aX L p<(ai L:Int)) (hs:gP s=true):(decide (0<=s)=true->(∀r,r->Vk L p s r)/\IX L p s=ow (aL L (aX L p)) s)/\(decide (0<=s)=false->void=ow (aL L (aX L p)) s):=by
 refine⟨fun h=>?_,fun h=>?_⟩
 ·have h:=aa6 h
  have hb:s<12:=by
   unfold gP tC at hs;simp only[Bool.or_eq_true,aa2,aa3]at hs;omega
  refine⟨fun r hr=>⟨by simp only[aF,bY];omega,⟨h0,h1⟩,by omega,by omega,hr⟩,?_⟩
  unfold ow;rw[aa8 (by omega),fF h0 h1]
  rfl
 ·have h:=aa5 h;unfold ow;rw[aa9 (by omega)]
theorem HW (L:List Obj):∀(k:Nat),∀x∈dJ L (k:Int),0<=x/\x<(k:Int)
 |0,x,h=>by rw[show((0:Nat):Int)=0 from rfl,wa]at h;simp at h
 |k+1,x,h=>by
  rw[show((k+1:Nat):Int)=(k:Int)+1 by omega,vU L (by omega)]at h
  have ih:=HW L k x;split at h
  ·unfold jh at h;rcases List.mem_append.1 h with h|h
   ·have:=ih h;omega
   ·simp only[List.mem_singleton]at h;omega
  ·have:=ih h;omega
theorem VG {L:List Obj} {p:iW} (hL:ar L) (h0:¬ai (b6 L)=0):0<=aX L p/\aX L p<(ai L:Int):=by
 obtain⟨_,_,_,f4⟩:=wO (p:=p) hL h0
 have hlt:((p.proc.tmod (ai (b6 L):Int)+(ai (b6 L):Int)).tmod (ai (b6 L):Int)).toNat<(b6 L).length:=by
  have:ai (b6 L)=(b6 L).length:=rfl;omega
 have hm:aX L p∈b6 L:=by
  unfold aX aj;rw[aa7,List.getElem?_eq_getElem hlt];exact List.getElem_mem _
 exact HW L (ai L) _ hm
theorem Wv {L:List Obj} {p:iW} (hL:ar L) (h0:¬ai (b6 L)=0):(p.proc.tmod (ai (b6 L):Int)<0->qo L p (p.proc.tmod (ai (b6 L):Int)+(ai (b6 L):Int)))/\(¬p.proc.tmod (ai (b6 L):Int)<0->qo L p (p.proc.tmod (ai (b6 L):Int))):=by
 have hN:(0:Int)<(ai (b6 L):Int):=by omega
 have hb:=Int.tmod_lt_of_pos p.proc hN;have hb2:=Int.lt_tmod_of_pos p.proc hN;unfold qo aX;generalize p.proc.tmod (ai (b6 L):Int)=x at *
 refine⟨fun h=>⟨by omega,by omega,?_⟩,fun h=>⟨by omega,by omega,?_⟩⟩
 ·rw[Int.tmod_eq_of_lt (by omega) (by omega)]
 ·rw[Int.tmod_eq_emod_of_nonneg (by omega),Int.add_emod_right,Int.emod_eq_of_lt (by omega) hb]
theorem WQ {L:List Obj} {n:Int} {p:iW} {A:List Obj} (hA:iE L n p=A):xi L n p=if bz A (aX L p)=1 then(if p.mode=1 then gw A (aX L p) (aG L n (cT L p) (bL L p))else if p.mode=3 then dc A (aX L p) 0 else A)else A:=by
 unfold xi;rw[hA]
 have:(dP A (aX L p)=true/\iC A (aX L p)=1)↔bz A (aX L p)=1:=by
  unfold iC bz;split<;>simp_all
 simp only[this]
def Hf (L:List Obj) (n:Int) (p:iW) (A:List Obj) (E D:Prop):Prop:=((decide (bz A (aX L p)=1)&&decide (p.mode=1))=true->true=true/\(ar A/\aw (stM L n p).data)/\(pf A (aX L p) (stM L n p)=false->((decide (bz A (aX L p)=1)&&decide (p.mode=3))=true->true=true/\ar A/\(ko A (aX L p) 0=false->D/\E)/\(ko A (aX L p) 0=true->D/\dc A (aX L p) 0=dO L n p))/\((decide (bz A (aX L p)=1)&&decide (p.mode=3))=false->D/\E))/\(pf A (aX L p) (stM L n p)=true->((decide (bz (gw A (aX L p) (stM L n p)) (aX L p)=1)&&decide (p.mode=3))=true->true=true/\ar (gw A (aX L p) (stM L n p))/\(ko (gw A (aX L p) (stM L n p)) (aX L p) 0=false->D/\gw A (aX L p) (stM L n p)=dO L n p)/\(ko (gw A (aX L p) (stM L n p)) (aX L p) 0=true->D/\dc (gw A (aX L p) (stM L n p)) (aX L p) 0=dO L n p))/\((decide (bz (gw A (aX L p) (stM L n p)) (aX L p)=1)&&decide (p.mode=3))=false->D/\gw A (aX L p) (stM L n p)=dO L n p)))/\((decide (bz A (aX L p)=1)&&decide (p.mode=1))=false->((decide (bz A (aX L p)=1)&&decide (p.mode=3))=true->true=true/\ar A/\(ko A (aX L p) 0=false->D/\E)/\(ko A (aX L p) 0=true->D/\dc A (aX L p) 0=dO L n p))/\((decide (bz A (aX L p)=1)&&decide (p.mode=3))=false->D/\E))
theorem G9 {L:List Obj} {n:Int} {p:iW} {A:List Obj} {E D:Prop} (hA:iE L n p=A) (hE:dO L n p=A->E) (hl:dO L n p=xi L n p) (hM:aG L n (cT L p) (bL L p)=stM L n p) (hL:ar A) (d:D):Hf L n p A E D:=by
 rw[WQ hA,hM]at hl;have hs:aw (stM L n p).data:=by rw[<-hM];exact Cj
 simp only[Hf,aa2,Bool.and_eq_false_iff,aa3,decide_eq_false_iff_not];refine⟨fun⟨h1,h2⟩=>?_,fun h=>⟨fun⟨h1,h3⟩=>?_,fun h3=>⟨d,hE ?_⟩⟩⟩
 ·rw[aa9 h1,aa9 h2]at hl;have h3:¬p.mode=3:=by omega
  refine⟨trivial,⟨hL,hs⟩,fun hc=>⟨fun hh=>absurd hh.2 h3,fun _=>⟨d,hE (hl.trans (XS hc))⟩⟩,fun hc=>⟨fun hh=>absurd hh.2 h3,fun _=>⟨d,hl.symm⟩⟩⟩
 ·rw[aa9 h1,aa8 (by omega),aa9 h3]at hl
  exact⟨trivial,hL,fun hc=>⟨d,hE (hl.trans (Hr hc))⟩,fun hc=>⟨d,hl.symm⟩⟩
 ·by_cases h1:bz A (aX L p)=1
  ·rw[aa9 h1,aa8 (by omega),aa8 (by omega)]at hl
   exact hl
  ·rw[aa8 h1]at hl;exact hl
def kRs (L M:List Obj) (n:Int) (D:V) (v:V) (r:List aK):Prop:=
 match v with
 | .tp l=>match l with
   | [a,d]=>match a with
     | .ag m=>match m with
       | [b,y]=>match b with
         | .sa p=>if p==0 then oq (.tp [.it .i64 n,D]) (.tp [y,d]) r/\M=L else if Nat.ble 1 p then match ay r p with
           | .arr own z t=>match own with
             |some e=>match t with
              | .ob N=>if z==163&&e==tO then oq (.tp [.it .i64 n,D]) (.tp [y,d]) r/\N=M else False
              |_=>False
             |none=>False
           |_=>False
           else False
         |_=>False
       |_=>False
     |_=>False
   |_=>False
 |_=>False
theorem T1 {L M:List Obj} {n:Int} {D v:V} {r:List aK} (h:kRs L M n D v r):∃p y d,v= .tp [.ag [.sa p,y],d]/\oq (.tp [.it .i64 n,D]) (.tp [y,d]) r/\((p=0/\M=L)\/(1<=p/\ay r p= .arr (some tO) 163 (.ob M))):=by
 unfold kRs at h;split at h
 case h_2=>exact h.elim
 split at h
 case h_2=>exact h.elim
 split at h
 case h_2=>exact h.elim
 split at h
 case h_2=>exact h.elim
 rename_i d _ _ _ y;split at h
 case h_2=>exact h.elim
 rename_i p;split at h
 ·rename_i e;exact⟨p,y,d,rfl,h.1,.inl ⟨aa4.1 e,h.2⟩⟩
 ·split at h
  case isFalse=>exact h.elim
  rename_i hp;split at h
  case h_2=>exact h.elim
  rename_i hrp;split at h
  case h_2=>exact h.elim
  split at h
  case h_2=>exact h.elim
  split at h
  case isFalse=>exact h.elim
  rename_i hc;simp only[aa2,aa4]at hc;obtain⟨rfl,rfl⟩:=hc;obtain⟨h1,rfl⟩:=h;exact⟨p,y,d,rfl,h1,.inr ⟨by simpa using hp,hrp⟩⟩
def CQ:kc:=fun args res K=>
 match args with
 |a::l=>match uk Jo l with
  |some x=>match a with
   | .ag m=>match m with
     | [b,y]=>match b with
       | .sa j=>match y with
         | .it k n=>match k with
           | .i64=>match cH res j with
             | .arr _ z t=>if z==163 then match t with
               | .ob M=>(Yb M n (wy x.1)/\er (wy x.1) n=true)/\(dO M n (wy x.1)=M->K (.tp [.ag [.sa j,.it .i64 (jj n (wy x.1))],YF (aT M n (wy x.1))]) res)/\
                 K (.tp [.ag [.sa res.length,.it .i64 (jj n (wy x.1))],YF (aT M n (wy x.1))]) (res++ [.arr (some tO) 163 (.ob (dO M n (wy x.1)))])
               |_=>False
               else False
             |_=>False
           |_=>False
         |_=>False
       |_=>False
     |_=>False
   |_=>False
  |none=>False
 |_=>False
theorem DC {κ:Nat->Option Nat} {p j:Nat} {n:Int} {y d F:V} {r:List aK} (hκ:κ p=some j) (hF:ke F=true) (hb:oq (.tp [.it .i64 n,F]) (.tp [y,d]) r):jT κ (.tp [.ag [.sa p,y],d]) (.tp [.ag [.sa j,.it .i64 n],F]):=by
 intro ρ2 ρ3 N N' h1 h2 hv;obtain⟨⟨⟨hp,hy,_⟩,_⟩,hd,_⟩:=hv;obtain⟨e1,e2,_⟩:=dD hb ρ2 N;obtain⟨a1,a2,a3,a4,a5,a6⟩:=h1 p j hκ;have hFN:fM N [.it .i64 n,F]:=e2 ⟨hy,hd,trivial⟩;have hF0:fM (fun _=>False) [V.it .i64 n,F]:=mo _ (by simp[lf,ke,hF]) hFN
 have e3:bB ρ3 [.it .i64 n,F]=bB ρ2 [.it .i64 n,F]:=fT (N:=fun _=>False) (fun _ h=>h.elim) _ hF0
 have hN':fM N' [V.it .i64 n,F]:=mo _ (by simp[lf,ke,hF]) hFN
 have e1:den ρ2 y= .int .i64 n/\den ρ2 d=den ρ2 F:=by simpa[den,bB]using e1
 have e3:den ρ3 F=den ρ2 F:=by simpa[bB,den]using e3
 refine⟨?_,⟨⟨h2 p j hκ hp,hN'.1,trivial⟩,trivial,trivial,trivial⟩,hN'.2⟩;simp only[den,bB,bp,e1.1,e1.2,e3,a2,a4,a5]
theorem XO {P:Program} {f:Nat} (hcl:∀L n p,Yb L n p->er p n=true->an P f [.ag [.sa 0,.it .i64 n],Ks p] [.ro (.arr none 163 (.ob L))] (kRs L (dO L n p) (jj n p) (YF (aT L n p))) (fun _ _=>False)):kL P f CQ:=by
 intro args res K KP h;unfold CQ at h;split at h
 case h_2=>exact h.elim
 split at h
 case h_2=>exact h.elim
 rename_i x hx;refine an.args (fc.jH (fL GS (fun _=>rfl) _ _ hx)) ?_
 split at h
 case h_2=>exact h.elim
 split at h
 case h_2=>exact h.elim
 split at h
 case h_2=>exact h.elim
 rename_i j;split at h
 case h_2=>exact h.elim
 rename_i n;split at h
 case h_2=>exact h.elim
 split at h
 case h_2=>exact h.elim
 rename_i own z t hj;split at h
 case isFalse=>exact h.elim
 rename_i hz;have hz:=aa4.1 hz;subst hz;split at h
 case h_2=>exact h.elim
 rename_i M;obtain⟨⟨hQ,hR⟩,h0,h1⟩:=h;have hkj:=dV hj (by simp)
 have hjl:=aO hkj;have hres:eY (kX 0 (dB [(j,false)])) res [(j,false)]= [.ro (.arr own 163 (.ob M))]:=by simp[eY,hj,gp]
 refine an.frame (pl:= [(j,false)]) (args0:= [.ag [.sa 0,.it .i64 n],Ks (wy x.1)]) (K0:=kRs M (dO M n (wy x.1)) (jj n (wy x.1)) (YF (aT M n (wy x.1)))) (KP0:=fun _ _=>False) (by simp[eI,cC.2 hkj]) (by simpa[iD,dB,nN]using hjl) ?_ ?_ (fun v r hv=>?_) (fun _ _ h=>h.elim)
 ·exact lV (by simp[fS,eJ,kX,idxOf,dB]) (js _ rfl)
 ·rw[hres];exact an.U8 (hcl M n (wy x.1) hQ hR)
 ·obtain⟨p,y,d,rfl,hb,hv⟩:=T1 hv;rcases hv with⟨rfl,hc⟩|⟨hp,hrp⟩
  ·have hm:merge [(j,false)] [] r res=res:=by simp[merge,eZ,fZ]
   refine⟨[],_,rfl,by simp[jO],rfl,DC (j:=j) (by simp[back,vF]) rfl hb,by rw[hm];exact h0 hc⟩
  ·have hpl:p<r.length:=aO (by rw[hrp];simp)
   have hm:merge [(j,false)] [p] r res=res++ [.arr (some tO) 163 (.ob (dO M n (wy x.1)))]:=by simp[merge,eZ,hrp,gp,fZ]
   refine⟨[p],_,by simpa[iD,nN]using⟨hp,hpl⟩,by simp[jO],by simp[m9,hrp,jF],DC (j:=res.length) ?_ rfl hb,by rw[hm];exact h1⟩
   unfold back;rw[sk _ _ (by simpa using hp)]
   simp[idxOf]
def rdM (res:List aK) (a:V):Option (Nat×Nat×Int×List Obj):=
 match a with
 | .lp b off=>match cH res b with
   | .blk t c=>match NV c with
     |some q=>match cH res q.1 with
      | .store ts e L=>if off==0&&t==sD&&ts==tS&&e==eS then some (b,q.1,q.2,L)else none
      |_=>none
     |none=>none
   |_=>none
 |_=>none
theorem Om {res:List aK} {a:V} {b s:Nat} {n:Int} {L:List Obj} (h:rdM res a=some (b,s,n,L)):a= .lp b 0/\(cH res b= .blk sD (oa s n)\/cH res b= .blk sD (.ag [.lp s 0,.ci .i64 n]))/\cH res s= .store tS eS L:=by
 unfold rdM at h;split at h
 case h_2=>simp at h
 split at h
 case h_2=>simp at h
 rename_i hb;split at h
 case h_2=>simp at h
 rename_i q hq;split at h
 case h_2=>simp at h
 rename_i hs;split at h
 case isFalse=>simp at h
 rename_i hc;simp only[aa2,aa4]at hc;obtain⟨⟨⟨rfl,rfl⟩,rfl⟩,rfl⟩:=hc;simp only[aa0,aa1]at h;obtain⟨rfl,rfl,rfl,rfl⟩:=h;obtain⟨y,rfl,hy⟩:=vT (s:=q.1) (n:=q.2) hq;refine⟨rfl,?_,hs⟩;rw[hb];cases y<;>simp[rI,toInt]at hy
 all_goals(obtain⟨rfl,hn⟩:=hy;subst hn;first|exact .inl rfl|exact .inr rfl)
def ctM (Q:List Obj->Option Prop) (x:Int->Nat->V) (new:List Obj->List aK):Ct:=fun res nid args=>match args with
 | [a]=>match rdM res a with
   |some r=>some (Q r.2.2.2,x r.2.2.1 nid,new r.2.2.2)
   |none=>none
 |_=>none
theorem PN {P:Program} {f:Nat} {π:List Nat} {Q:List Obj->Option Prop} {x:Int->Nat->V} {new:List Obj->List aK} (hnd:π.Nodup) (hy:∀L,Yw (new L)=true)
  (h:∀n L,dX (Q L)->an P f [.lp 0 0] [.ro (.blk sD (oa 1 n)),.ro (.store tS eS L)] (fun v r=>xn π (x n) (fun _=>new L) v r) (fun _ _=>False)):cq P f (ctM Q x new):=by
 intro J fps res K w0 F0 w nid args q y new' hH hargs hg hq hfr;unfold ctM at hg;split at hg
 case h_2=>simp at hg
 split at hg<;>simp only[aa0,aa1,reduceCtorEq]at hg
 rename_i r hr;obtain⟨b,s,n,L⟩:=r;obtain⟨rfl,rfl,rfl⟩:=hg;obtain⟨rfl,hb,hs⟩:=Om hr;refine⟨?_,fun k hk=>vI (hy L) k hk⟩
 have hne:b≠s:=fun e=>by rcases hb with hb|hb<;>rw[e,hs]at hb<;>simp at hb
 have hfr:∀b,b<w0.heap.size->¬F0 b->w.heap[b]? =w0.heap[b]? /\¬(fun _:Nat=>False) b:=fun b hb hF=>⟨hH.same b hb hF,fun h=>h⟩
 have hv:Env.via (fun p=>if p=b then some 0 else if p=s then some 1 else none) J (J.pull fun i=>if i=0 then b else s):=qF fun p i hp=>by
  split at hp<;>(try split at hp)<;>simp only[aa0,reduceCtorEq]at hp<;>subst hp<;>simp[*]
 have hkn:∀i,known [.ro (.blk sD (oa 1 n)),.ro (.store tS eS L)] i↔i=0\/i=1:=fun i=>by
  match i with
  |0=>simp[known,ay]
  |1=>simp[known,ay]
  |i+2=>simp[known,ay]
 have hrep:bq (J.pull fun i=>if i=0 then b else s) (fun _ _=>False) [.ro (.blk sD (oa 1 n)),.ro (.store tS eS L)] (known [.ro (.blk sD (oa 1 n)),.ro (.store tS eS L)]) w (fun _=>False) w:=by
  refine⟨fun i hi=>hi,Nat.le_refl _,rfl,rfl,rfl,fun i hi=>?_,fun i b hi h=>h.elim,fun i j b hi hj hne h=>h.elim,fun i b hi h=>h.elim,fun _ _ _=>rfl⟩
  have gen:∀p j r,cH res p=r->r≠ .yet->(fun p=>if p=b then some 0 else if p=s then some 1 else none) p=some j->∃fp:Nat->Prop,(gp (fun p=>if p=b then some 0 else if p=s then some 1 else none) r).holds (known [.ro (.blk sD (oa 1 n)),.ro (.store tS eS L)]) (J.pull fun i=>if i=0 then b else s) j fp w (fun _=>False) w/\∀b,fp b->b<w.heap.size/\¬(fun _=>False) b:=by
   intro p j r hr hy hp;obtain⟨fp,g1,g2⟩:=(o0.look hr hy).2 J fps K w0 F0 w hH;refine⟨fp,iO hv (fun p i hp _=>?_) hp _ _ _ (aK.tR hH.old hfr _ _ g1),fun c hc=>⟨?_,fun h=>h⟩⟩
   ·rw[hkn];split at hp<;>(try split at hp)<;>simp only[aa0,reduceCtorEq]at hp<;>subst hp<;>simp
   ·rcases g2 c hc with⟨j,hj,hf⟩|⟨hl,_⟩
    ·exact hH.lt j c hj hf
    ·exact Nat.lt_of_lt_of_le hl hH.old
  rcases(hkn i).1 hi with rfl|rfl
  ·rcases hb with hb|hb<;>obtain⟨fp,h1,h2⟩:=gen b 0 _ hb (by simp) (by simp)<;>simp only[gp,oa,fS,eJ,if_true,aa8 (Ne.symm hne)]at h1<;>exact⟨fp,h1,h2⟩
  ·obtain⟨fp,h1,h2⟩:=gen s 1 _ hs (by simp) (by simp[Ne.symm hne])
   exact⟨fp,h1,h2⟩
 have hd:bB J [.lp b 0]=bB (J.pull fun i=>if i=0 then b else s) [.lp 0 0]:=by simp[bB,den,Env.pull]
 rw[hd];refine(h n L hq _ _ _ _ _ hrep ⟨(hkn 0).2 (.inl rfl),trivial⟩).mono fun e w' ⟨v,ρ1,fps1,r,g1,g2,g3,g4⟩=>?_
 rcases g4 with⟨rfl,hN⟩|⟨_,hF⟩
 ·exact⟨_,rfl,tx (new:=fun _=>new L) hnd g1 g3 hN⟩
 ·exact hF.elim
def aaA:Ct:=ctM (fun _=>none) (fun n _=> .it .i64 n) fun _=> []
def aas:Ct:=ctM (fun L=>some (ai L<=1000/\bn L=false)) (fun _ nid=> .lp nid 0) fun L=> [.store tS eS L]
abbrev tG:Nat:=31
def aaD (c:Nat) (U:St):Option (List Nat):=
 match ay U.res c with
 | .blk _ v=>match asV v with
   |some p=>some [p.1]
   |none=>none
 |_=>none
def aaY (jH:List Nat) (i c k:Nat) (inv:Int×Int×List Obj->Prop) (μ:Int×Int×List Obj->Nat):dv:=
 {γ:=Int×Int×List Obj,head:=fun U g=> {U with slots:=H8 jH [(i,.it .i64 g.1)] 0 U.slots,res:=Ht [(0,.blk sD (oa 1 g.2.1)),(1,.store tS eS g.2.2),(c,.blk tG (.ag [.sa k,.it .i64 g.2.1]))] U.res++ [.arr none 163 (.ob g.2.2)]},
  inv:=inv,μ:=μ,pre:= [.ab c],ext:=aaD c}
def oy (m:Nat) (g:Int×Int×List Obj):Prop:=0<=g.1/\g.1<=(m:Int)/\gQ g.2.1/\ar g.2.2
def oH (m:Nat) (g:Int×Int×List Obj):Nat:=m-g.1.toNat
def Dj (x:List iW) (g:Int×Int×List Obj):List Obj:=dO g.snd.snd g.snd.fst (aj x g.fst.toNat m5)
def Kr (x:List iW) (g:Int×Int×List Obj):Int:=jj g.snd.fst (aj x g.fst.toNat m5)
def ZN (x:List iW) (g:Int×Int×List Obj):Dn:=aT g.snd.snd g.snd.fst (aj x g.fst.toNat m5)
def Vf (x:List iW) (g:Int×Int×List Obj):Int:=ot g.snd.fst (aj x g.fst.toNat m5)
def U1 (x:List iW) (g:Int×Int×List Obj):Bool:=er (aj x g.fst.toNat m5) g.snd.fst
def dnS (d:Dn):Bool:=(decide (d.out=d.out)&&(decide (d.proc=d.proc)&&(decide (d.err=d.err)&&(decide (d.ans.code=d.ans.code)&&(Ax d.ans.data d.ans.data&&(yf d.ans.k0 d.ans.k0&&(yf d.ans.k1 d.ans.k1&&(yf d.ans.k2 d.ans.k2&&true))&&true))&&(d.wants==d.wants&&true)))))
def dnZ (d:Dn):Bool:=(decide (d.out=0)&&(decide (d.proc=0)&&(decide (d.err=0)&&(decide (d.ans.code=0)&&(Ax d.ans.data (ByteArray.mk (Array.mk []))&&(yf d.ans.k0 void&&(yf d.ans.k1 void&&(yf d.ans.k2 void&&true))&&true))&&(d.wants==false&&true)))))
def Vd (x:List iW) (g:Int×Int×List Obj):Bool:=(!decide (Vf x g=0)|| !dnS (ZN x g)|| !decide (Kr x g=Kr x g))
theorem Zl (d:Dn):dnS d=true:=by simp[dnS,kr,jr]
theorem aap:dnZ dn0=true:=by simp[dnZ,dn0,cY,kr,jr]
theorem rnX {x:List iW} {L:List Obj} {n:Int} (hq:BC (ly x) L n):vX x/\ai x<=40:=by
 obtain⟨_,_,x',hx',hxs,hxl⟩:=hq;have e1:ai x=ai x':=congrArg TL.len hx';refine⟨fun i hi=>?_,by omega⟩
 have e2:(ly x).get i=(ly x').get i:=by rw[hx']
 have e3:Ks (aj x i m5)=Ks (aj x' i m5):=e2
 have e4:(aj x i m5).data=(aj x' i m5).data:=by
  simp only[Ks,V.ag.injEq,List.cons.injEq,V.st.injEq]at e3;exact e3.2.2.2.2.2.1
 rw[e4];exact hxs i (by omega)
theorem YU {x:List iW} {g:Int×Int×List Obj} (h:U1 x g=false):Kr x g=g.snd.fst/\Dj x g=g.snd.snd/\ZN x g=dn0/\Vf x g=2:=by
 unfold U1 at h;refine⟨?_,?_,?_,?_⟩
 ·unfold Kr jj;rw[aa8 (by simp[h])]
 ·unfold Dj dO;rw[aa8 (by simp[h])]
 ·unfold ZN aT;rw[aa8 (by simp[h])]
 ·unfold Vf ot;rw[aa8 (by simp[h])]
theorem W3 {x:List iW} {g:Int×Int×List Obj} (h:U1 x g=true):Vf x g=0/\Vd x g=false:=by
 have e:Vf x g=0:=by unfold U1 at h;unfold Vf ot;rw[aa9 h]
 refine⟨e,?_⟩;unfold Vd;rw[e,Zl];simp
theorem TV {m:Nat} {g:Int×Int×List Obj} (hg:oy m g) (hlt:g.fst<(m:Int)) (n:Int) (M:List Obj) (hn:gQ n) (hM:ar M):oy m (g.fst+1,n,M)/\oH m (g.fst+1,n,M)<oH m g:=by
 obtain⟨g0,g1,_,_⟩:=hg;exact⟨⟨by simp only;omega,by simp only;omega,hn,hM⟩,by unfold oH;simp only;omega⟩
theorem H3 {L:List Obj} (hL:ar L):ai L<=1000/\bn L=false:=by
 have h:=gA hL;refine⟨by unfold ai;omega,?_⟩
 cases hc:bn L with
 |false=>rfl
 |true=>rw[vZ]at hc;subst hc;simp at h
def kPl (v:V) (r:List aK):Prop:=
 match ay r 1 with
 | .store t e L=>if t==tS&&e==eS then match ay r 0 with
   | .blk t c=>match mcX c with
     |some n=>if t==sD then oq (.bo true) v r else False
     |none=>False
   |_=>False
   else False
 |_=>False
theorem QX {v:V} {r:List aK} (h:kPl v r):∃n M,xa (.bo true) v r/\ay r 0= .blk sD (oa 1 n)/\ay r 1= .store tS eS M:=by
 unfold kPl at h;split at h
 case h_2=>exact h.elim
 rename_i hr;split at h
 case isFalse=>exact h.elim
 rename_i hc;simp only[aa2,aa4]at hc;obtain⟨rfl,rfl⟩:=hc;split at h
 case h_2=>exact h.elim
 rename_i h0;split at h
 case h_2=>exact h.elim
 rename_i n hn;split at h
 case isFalse=>exact h.elim
 rename_i ht;have ht:=aa4.1 ht;subst ht;exact⟨n,_,dD h,by rw[h0,DU hn],hr⟩
def plX (y:V):Option (Nat×Int):=
 match y with
 | .ag m=>match m with
   | [x,z]=>match x with
     | .sa j=>match rI .i64 z with
       |some n=>some (j,n)
       |none=>none
     |_=>none
   |_=>none
 |_=>none
theorem Pt {y:V} {j:Nat} {n:Int} (h:plX y=some (j,n)):∃z,y= .ag [.sa j,z]/\rI .i64 z=some n:=by
 unfold plX at h;split at h
 case h_2=>simp at h
 split at h
 case h_2=>simp at h
 split at h
 case h_2=>simp at h
 split at h
 case h_2=>simp at h
 rename_i hn;simp only[aa0,aa1]at h;obtain⟨rfl,rfl⟩:=h;exact⟨_,rfl,hn⟩
def CL:kc:=fun args res K=>
 match args with
 | [a,y,c]=>match a with
   | .lp b off=>if off==0 then match c with
     | .sa k=>match plX y with
       |some (j,m)=>match ay res b with
        | .blk t y=>match NV y with
          |some (s,n)=>match ay res s with
           | .store ts e L=>match cH res k with
             | .arr _ esz l=>match cH res j with
               | .arr _ ez g=>match g with
                 | .ob M=>if t==sD&&ts==tS&&e==eS&&esz==11&&ez==163 then(BC l L n/\L=M/\n=m)/\
                   ∀n' M',K (.bo true) (bO (bO res b (.blk sD (oa s n'))) s (.store tS eS M'))else False
                 |_=>False
               |_=>False
             |_=>False
           |_=>False
          |none=>False
        |_=>False
       |none=>False
     |_=>False
     else False
   |_=>False
 |_=>False
theorem an.WI {P:Program} {f:Nat} {args:List V} {K KP:V->List aK->Prop} {own own':Option Nat} {e e':Nat} {l l':TL} {a b:aK} (h:an P f args [a,b,.ro (.arr none e l),.ro (.arr none e' l')] K KP):an P f args [a,b,.ro (.arr own e l),.ro (.arr own' e' l')] K KP:=by
 have hK:known [a,b,.ro (.arr own e l),.ro (.arr own' e' l')]=known [a,b,.ro (.arr none e l),.ro (.arr none e' l')]:=by
  funext i
  match i with
  |0=>rfl
  |1=>rfl
  |2=>simp[known,ay]
  |3=>simp[known,ay]
  |n+4=>rfl
 refine h.tF fun J fps w0 F0 w hH=>⟨J,fps,hH.weaken fun i hi=>⟨by rw[hK];exact hi,fun fp hh=>?_⟩,Env.bE.refl _ _,fun i hi=>by rw[<-hK];exact hi⟩
 rw[hK]at hh;match i with
 |0=>exact hh
 |1=>exact hh
 |2=>
  obtain⟨fp',g1,g2⟩:=hh;exact⟨fp',uP g1,g2⟩
 |3=>
  obtain⟨fp',g1,g2⟩:=hh;exact⟨fp',uP g1,g2⟩
 |n+4=>exact hh
theorem XL {P:Program} {f:Nat} (h:∀(x:List iW) (L:List Obj) (n:Int),BC (ly x) L n->an P f [.lp 0 0,.ag [.sa 2,.it .i64 n],.sa 3] [.blk sD (oa 1 n),.store tS eS L,.ro (.arr none 163 (.ob L)),.ro (.arr none 11 (ly x))]
  kPl (fun _ _=>False)):kL P f CL:=by
 intro args res K KP hh;unfold CL at hh;split at hh
 case h_2=>exact hh.elim
 split at hh
 case h_2=>exact hh.elim
 rename_i b off;split at hh
 case isFalse=>exact hh.elim
 rename_i ho;have ho:=aa4.1 ho;subst ho;split at hh
 case h_2=>exact hh.elim
 rename_i k;split at hh
 case h_2=>exact hh.elim
 rename_i j m hy;split at hh
 case h_2=>exact hh.elim
 rename_i t c hb;split at hh
 case h_2=>exact hh.elim
 rename_i s n hc;split at hh
 case h_2=>exact hh.elim
 rename_i ts e L hs;split at hh
 case h_2=>exact hh.elim
 rename_i own esz l hk;split at hh
 case h_2=>exact hh.elim
 rename_i own' ez g hj;split at hh
 case h_2=>exact hh.elim
 rename_i M;split at hh
 case isFalse=>exact hh.elim
 rename_i ht;simp only[aa2,aa4]at ht;obtain⟨⟨⟨⟨rfl,rfl⟩,rfl⟩,rfl⟩,rfl⟩:=ht;obtain⟨⟨hq,rfl,rfl⟩,hK⟩:=hh;obtain⟨x,rfl,_⟩:=id hq.2.2;obtain⟨y,rfl,hy'⟩:=vT hc;obtain⟨z,rfl,hz⟩:=Pt hy;have hkb:known res b:=by unfold known;rw[hb];simp
 have hlb:=aO hkb;have hne:b≠s:=fun e=>by rw[e,hs]at hb;simp at hb
 have hnk:b≠k:=fun e=>by unfold cH at hk;rw[<-e,hb]at hk;simp at hk
 have hsk:s≠k:=fun e=>by unfold cH at hk;rw[<-e,hs]at hk;simp at hk
 have hnj:b≠j:=fun e=>by unfold cH at hj;rw[<-e,hb]at hj;simp at hj
 have hsj:s≠j:=fun e=>by unfold cH at hj;rw[<-e,hs]at hj;simp at hj
 have hjk:j≠k:=fun e=>by rw[e,hk]at hj;simp at hj
 refine an.mcN hb hy' ?_;refine an.args (args':= [.lp b 0,.ag [.sa j,.it .i64 n],.sa k]) (fc.jH fun J K hk=>?_) ?_
 ·obtain⟨r1,r2⟩:=gi .i64 z n hz;obtain⟨⟨⟨k1,k2,_⟩,_⟩,k3⟩:=hk;refine⟨?_,⟨⟨⟨k1,fP (r2 K k2),trivial⟩,trivial,trivial,trivial⟩,k3⟩⟩;have e1:=r1 J;simp only[bB,den,bp]at e1⊢;rw[e1]
 have hl1:(bO res b (.blk sD (oa s n))).length=res.length:=cE _ _ _;have hb1:ay (bO res b (.blk sD (oa s n))) b= .blk sD (oa s n):=by rw[bK _ _ _ _ hlb,aa9 rfl]
 have hs1:ay (bO res b (.blk sD (oa s n))) s= .store tS eS L:=by rw[bK _ _ _ _ hlb,aa8 (Ne.symm hne)];exact hs
 have hk1:cH (bO res b (.blk sD (oa s n))) k= .arr own 11 (ly x):=by unfold cH at hk⊢;rw[bK _ _ _ _ hlb,aa8 (Ne.symm hnk)];exact hk
 have hj1:cH (bO res b (.blk sD (oa s n))) j= .arr own' 163 (.ob L):=by unfold cH at hj⊢;rw[bK _ _ _ _ hlb,aa8 (Ne.symm hnj)];exact hj
 have hrr:∀n',bO res b (.blk sD (oa s n'))=bO (bO res b (.blk sD (oa s n))) b (.blk sD (oa s n')):=fun n'=>by rw[kJ,kJ,kJ,List.set_set]
 have hK:∀n' M',K (.bo true) (bO (bO (bO res b (.blk sD (oa s n))) b (.blk sD (oa s n'))) s (.store tS eS M')):=fun n' M'=>by rw[<-hrr];exact hK n' M'
 generalize bO res b (.blk sD (oa s n))=res at *
 have kb:known res b:=by unfold known;rw[hb1];simp
 have ks:known res s:=by unfold known;rw[hs1];simp
 have kk':=dV hk1 (by simp)
 have kj':=dV hj1 (by simp)
 have lb:=aO kb;have ls:=aO ks;have lk:=aO kk';have lj:=aO kj'
 have hres:eY (kX 0 (dB [(b,true),(s,true),(j,false),(k,false)])) res [(b,true),(s,true),(j,false),(k,false)]= [.blk sD (oa 1 n),.store tS eS L,.ro (.arr own' 163 (.ob L)),.ro (.arr own 11 (ly x))]:=by
  simp[eY,hb1,hs1,hk1,hj1,gp,oa,fS,eJ,kX,idxOf,dB,hne,Ne.symm hne,hnk,Ne.symm hnk,hsk,Ne.symm hsk,hnj,Ne.symm hnj,hsj,Ne.symm hsj,hjk,Ne.symm hjk]
 refine an.frame (pl:= [(b,true),(s,true),(j,false),(k,false)]) (args0:= [.lp 0 0,.ag [.sa 2,.it .i64 n],.sa 3]) (K0:=kPl) (KP0:=fun _ _=>False)
  (by simp[eI,cC.2 kb,cC.2 ks,cC.2 kk',cC.2 kj']) (by simp[iD,dB,nN,lb,ls,lk,lj,hne,Ne.symm hne,hnk,Ne.symm hnk,hsk,Ne.symm hsk,hnj,Ne.symm hnj,hsj,Ne.symm hsj,hjk,Ne.symm hjk]) ?_ ?_ (fun v r hv=>?_) (fun _ _ h=>h.elim)
 ·simp[eJ,fS,kX,idxOf,dB,hnk,Ne.symm hnk,hsk,Ne.symm hsk,hnj,Ne.symm hnj,hsj,Ne.symm hsj,hjk,Ne.symm hjk]
 ·rw[hres];exact an.WI (h x L n hq)
 ·obtain⟨n',M',h1,h2,h3⟩:=QX hv
  have hm:merge [(b,true),(s,true),(j,false),(k,false)] [] r res=bO (bO res b (.blk sD (oa s n'))) s (.store tS eS M'):=by
   simp[merge,eZ,h2,h3,gp,fZ,oa,fS,eJ,back,vF]
  exact⟨[],.bo true,rfl,by simp[jO,h2,h3,jF],rfl,jT.ke h1 rfl,by rw[hm];exact hK n' M'⟩
end Go.Sx
namespace Go.Proofs.YtlblcfaclmpekaaGreat
open Go.Sx
theorem IZ (p:iW) (n:Int) (hs:aw p.data) (hn:gQ n):
 aba (decide (p.kind=2)) (((decide (0<=p.val)&&decide (p.val<=1099511627776))=true->abd (n+p.val))/\(decide (0<=p.val)&&decide (p.val<=1099511627776)&&decide (n+p.val<=4611686018427387904))=er p n) (((decide (p.kind=1)&&decide (1<=p.mode)&&decide (p.mode<=3))=true->abd (bN p.data))/\(decide (p.kind=1)&&decide (1<=p.mode)&&decide (p.mode<=3)&&decide (bN p.data<=32)&&decide (0<=p.reg)&&decide (p.reg<=11)&&decide (-1<=p.s0)&&decide (p.s0<=11)&&decide (-1<=p.s1)&&decide (p.s1<=11)&&decide (-1<=p.s2)&&decide (p.s2<=11))=er p n):=by
 delta aba abd
 unfold er;refine⟨fun hk=>⟨fun hv=>?_,?_⟩,fun hk=>⟨fun _=>?_,?_⟩⟩
 ·simp only[aa2,aa3]at hv;unfold gQ at hn;simp only[aF,bY];omega
 ·rw[aa9 (aa6 hk)];congr 1;exact decide_eq_decide.2 (by omega)
 ·unfold aw at hs;simp only[aF,bY,bN];omega
 ·rw[aa8 (aa5 hk)];unfold gP tC;rw[Bool.eq_iff_iff];simp only[aa2,Bool.or_eq_true,aa3];omega
theorem I3:cq Tryz.prog 34 Fq:=
 eW (aA Ga (aA dN bV)) (fun _=>rfl) fun a hq hok=>by
  obtain⟨x,n,_⟩:=a;exact ba (inl:=bx) (ann:=(iv [(34,5,MO 4)])) aq (IZ (wy x) n hq.1 hq.2) (by kernel_rfl)
theorem K6 (L:List Sx.Obj) (n:Int) (p:iW) (hq:Yb L n p) (hr:er p n=true):
 aba (decide (p.kind=2)) (abd (n+p.val)/\QD L n p (n+p.val) (5) (0) (0) cY (false)/\dO L n p=L) (abb (iq L/\(true=false->False)/\(true=true->aba (decide (bD (ai (b6 L))=0)) (QD L n p (n) (1) (0) (0) cY (false)/\dO L n p=L) ((nU (bD (ai (b6 L)))/\abd (p.proc.tmod (bD (ai (b6 L)))))/\(aba (decide (p.proc.tmod (bD (ai (b6 L)))<0)) (abd (p.proc.tmod (bD (ai (b6 L)))+bD (ai (b6 L)))/\∃g,qo L p g/\p.proc.tmod (bD (ai (b6 L)))+bD (ai (b6 L))=g/\He L n p) (∃g,qo L p g/\p.proc.tmod (bD (ai (b6 L)))=g/\He L n p))/\∀(g:Int),qo L p g->((0<=g/\g< ↑(ai (b6 L)))/\g.toNat<ai (b6 L)/\∃g_1:Unit,lR p/\aj (b6 L) g.toNat 0=aX L p/\He L n p)/\∀(g:Unit),lR p->(aba (decide (0<=p.s0)) (Vk L p p.s0 ((decide (0<=p.s1)=true->Vk L p p.s1 ((decide (0<=p.s2)=true->Vk L p p.s2 (∃g:Unit,lR p/\aX L p=aX L p/\xz L n p (p.code=(mw L p).code/\p.data=(mw L p).data/\IX L p p.s0=(mw L p).k0/\IX L p p.s1=(mw L p).k1/\IX L p p.s2=(mw L p).k2)))/\(decide (0<=p.s2)=false->∃g:Unit,lR p/\aX L p=aX L p/\xz L n p (p.code=(mw L p).code/\p.data=(mw L p).data/\IX L p p.s0=(mw L p).k0/\IX L p p.s1=(mw L p).k1/\void=(mw L p).k2))))/\(decide (0<=p.s1)=false->(decide (0<=p.s2)=true->Vk L p p.s2 (∃g:Unit,lR p/\aX L p=aX L p/\xz L n p (p.code=(mw L p).code/\p.data=(mw L p).data/\IX L p p.s0=(mw L p).k0/\void=(mw L p).k1/\IX L p p.s2=(mw L p).k2)))/\(decide (0<=p.s2)=false->∃g:Unit,lR p/\aX L p=aX L p/\xz L n p (p.code=(mw L p).code/\p.data=(mw L p).data/\IX L p p.s0=(mw L p).k0/\void=(mw L p).k1/\void=(mw L p).k2))))) (aba (decide (0<=p.s1)) (Vk L p p.s1 ((decide (0<=p.s2)=true->Vk L p p.s2 (∃g:Unit,lR p/\aX L p=aX L p/\xz L n p (p.code=(mw L p).code/\p.data=(mw L p).data/\void=(mw L p).k0/\IX L p p.s1=(mw L p).k1/\IX L p p.s2=(mw L p).k2)))/\(decide (0<=p.s2)=false->∃g:Unit,lR p/\aX L p=aX L p/\xz L n p (p.code=(mw L p).code/\p.data=(mw L p).data/\void=(mw L p).k0/\IX L p p.s1=(mw L p).k1/\void=(mw L p).k2)))) (aba (decide (0<=p.s2)) (Vk L p p.s2 (∃g:Unit,lR p/\aX L p=aX L p/\xz L n p (p.code=(mw L p).code/\p.data=(mw L p).data/\void=(mw L p).k0/\void=(mw L p).k1/\IX L p p.s2=(mw L p).k2))) (∃g:Unit,lR p/\aX L p=aX L p/\xz L n p (p.code=(mw L p).code/\p.data=(mw L p).data/\void=(mw L p).k0/\void=(mw L p).k1/\void=(mw L p).k2)))))/\∀(g:Unit),lR p->(aba p.num (abb (∃g:Unit,lR p/\aX L p=aX L p/\xz L n p ((mw L p).code=(bL L p).code/\(mw L p).data=(bL L p).data/\(mw L p).k0=(bL L p).k0/\(mw L p).k1=(bL L p).k1/\abg p.val=(bL L p).k2))) (∃g:Unit,lR p/\aX L p=aX L p/\xz L n p ((mw L p).code=(bL L p).code/\(mw L p).data=(bL L p).data/\(mw L p).k0=(bL L p).k0/\(mw L p).k1=(bL L p).k1/\(mw L p).k2=(bL L p).k2)))/\∀(g:Unit),lR p->abd (4+p.reg)/\(0<=aX L p/\aX L p< ↑(ai L))/\(0<=4+p.reg/\4+p.reg< ↑16)/\(aX L p).toNat<ai L/\aba (decide ((ya L p).kind=6)||decide ((ya L p).kind=7)) (abb ((ar L/\aw (bL L p).data)/\(lK L (aX L p) (ya L p) p.mode (bL L p)=false->aba (!decide (b7 L (aX L p) (ya L p) p.mode (bL L p)=0)) (QD L n p (n) (3) (aX L p) (b7 L (aX L p) (ya L p) p.mode (bL L p)) cY (false)/\dO L n p=L) (QD L n p (n) (2) (aX L p) (0) cY (false)/\dO L n p=L))/\(lK L (aX L p) (ya L p) p.mode (bL L p)=true->aba (!decide (b7 L (aX L p) (ya L p) p.mode (bL L p)=0)) (QD L n p (n) (3) (aX L p) (b7 L (aX L p) (ya L p) p.mode (bL L p)) cY (false)/\fe L (aX L p) (ya L p) p.mode (bL L p)=dO L n p) (QD L n p (n) (2) (aX L p) (0) cY (false)/\fe L (aX L p) (ya L p) p.mode (bL L p)=dO L n p)))) (abb ((ar L/\aw (bL L p).data)/\(fx L n (ya L p) (bL L p)=false->Hf L n p L (dO L n p=L) (QD L n p (n) (4) (aX L p) (0) (stM L n p) (cW L n (ya L p) (bL L p))))/\(fx L n (ya L p) (bL L p)=true->Hf L n p (Vy L n p) (Vy L n p=dO L n p) (QD L n p (n) (4) (aX L p) (0) (stM L n p) (cW L n (ya L p) (bL L p)))))))))):=by
 delta aba abg abd abb
 obtain⟨hL,hs,hn⟩:=hq;have hnn:bD (ai (b6 L))=(ai (b6 L):Int):=rfl;refine⟨fun h2=>?_,fun h2=>⟨rfl,BT hL,fun h=>by simp at h,fun _=>⟨fun h0=>?_,fun h0=>?_⟩⟩⟩
 ·have h2:=aa6 h2
  have ht:aF IntKind.i64 (n+p.val):=by
   unfold er at hr;rw[aa9 h2]at hr;simp only[aa2,aa3]at hr;unfold gQ at hn;simp only[aF,bY];omega
  exact⟨ht,xe (by unfold jj;rw[aa9 ⟨hr,h2⟩]) (by unfold aT;rw[aa9 hr,aa9 h2]),by unfold dO;rw[aa8 (fun h=>h.2.1 h2)]⟩
 all_goals
  have h2:=aa5 h2
  have hk:p.kind=1:=by
   unfold er at hr;rw[aa8 h2]at hr;simp only[aa2,aa3]at hr;omega
  have eN:jj n p=n:=by unfold jj;rw[aa8 (fun h=>h2 h.2)]
 ·have h0:ai (b6 L)=0:=by have:=aa6 h0;rw[hnn]at this;omega
  exact⟨xe eN (by unfold aT;rw[aa9 hr,aa8 h2,aa9 h0]),by unfold dO;rw[aa8 (fun h=>h.2.2 h0)]⟩
 have h0:¬ai (b6 L)=0:=by have:=aa5 h0;rw[hnn]at this;omega
 obtain⟨hm,⟨r0,r1⟩,s0,s1,s2⟩:=AM hr hk;obtain⟨f1,f2,f3,_⟩:=wO (p:=p) hL h0;obtain⟨i0,i1⟩:=VG (p:=p) hL h0;obtain⟨a0,a1⟩:=Wv (p:=p) hL h0;have eK:cT L p=ya L p:=by unfold cT ya;rw[fF i0 i1]
 have eM:aG L n (cT L p) (bL L p)=stM L n p:=by rw[eK];rfl
 have eA:iE L n p=Vy L n p:=by unfold iE;rw[eK];rfl
 have eC:rQ L p=(decide ((ya L p).kind=6)||decide ((ya L p).kind=7)):=by unfold rQ;rw[eK]
 have eL:dO L n p=if rQ L p=true then fe L (aX L p) (cT L p) p.mode (bL L p)else xi L n p:=by unfold dO;rw[aa9 ⟨hr,h2,h0⟩]
 have eD:aT L n p=if rQ L p=true then(if b7 L (aX L p) (cT L p) p.mode (bL L p)=0 then⟨2,aX L p,0,cY,false⟩else⟨3,aX L p,b7 L (aX L p) (cT L p) p.mode (bL L p),cY,false⟩)
   else⟨4,aX L p,0,aG L n (cT L p) (bL L p),cW L n (cT L p) (bL L p)⟩:=by unfold aT;rw[aa9 hr,aa8 h2,aa8 h0]
 rw[eC]at eL eD;rw[eM]at eD;rw[eK]at eD eL;rw[hnn];obtain⟨u0,v0⟩:=Ca i0 i1 s0;obtain⟨u1,v1⟩:=Ca i0 i1 s1;obtain⟨u2,v2⟩:=Ca i0 i1 s2
 have leaf:∀k0 k1 k2,k0=ow (aL L (aX L p)) p.s0->k1=ow (aL L (aX L p)) p.s1->k2=ow (aL L (aX L p)) p.s2->∃g:Unit,lR p/\aX L p=aX L p/\xz L n p (p.code=(mw L p).code/\p.data=(mw L p).data/\k0=(mw L p).k0/\k1=(mw L p).k1/\k2=(mw L p).k2):=
  fun _ _ _ e0 e1 e2=>⟨(),trivial,rfl,Gu ⟨rfl,rfl,e0,e1,e2⟩⟩
 have hw:∀e,aF IntKind.i64 e↔(-9223372036854775808<=e/\e<=9223372036854775807):=fun e=>Iff.rfl
 refine⟨⟨f2,by rw[hw];omega⟩,⟨fun h=>⟨by rw[hw];omega,_,a0 (aa6 h),rfl,CO⟩,fun h=>⟨_,a1 (aa5 h),rfl,CO⟩⟩,fun g hg=>⟨⟨⟨hg.1,hg.2.1⟩,by have:=hg.2.1;have:=hg.1;omega,(),trivial,hg.2.2,CO⟩,fun _ _=>⟨?_,fun _ _=>⟨⟨fun hN=>⟨rfl,(),trivial,rfl,Gu ⟨rfl,rfl,rfl,rfl,?_⟩⟩,fun hN=>⟨(),trivial,rfl,Gu ⟨rfl,rfl,rfl,rfl,?_⟩⟩⟩,fun _ _=>⟨by rw[hw];omega,⟨i0,i1⟩,by omega,by omega,fun hC=>⟨rfl,⟨hL,hs⟩,?_,?_⟩,fun hC=>⟨rfl,⟨hL,hs⟩,?_,?_⟩⟩⟩⟩⟩⟩
 ·exact⟨fun h0=>(u0 h0).1 _ ⟨fun h1=>(u1 h1).1 _ ⟨fun h2=>(u2 h2).1 _ (leaf _ _ _ (u0 h0).2 (u1 h1).2 (u2 h2).2),fun h2=>leaf _ _ _ (u0 h0).2 (u1 h1).2 (v2 h2)⟩,fun h1=>⟨fun h2=>(u2 h2).1 _ (leaf _ _ _ (u0 h0).2 (v1 h1) (u2 h2).2),fun h2=>leaf _ _ _ (u0 h0).2 (v1 h1) (v2 h2)⟩⟩,
   fun h0=>⟨fun h1=>(u1 h1).1 _ ⟨fun h2=>(u2 h2).1 _ (leaf _ _ _ (v0 h0) (u1 h1).2 (u2 h2).2),fun h2=>leaf _ _ _ (v0 h0) (u1 h1).2 (v2 h2)⟩,fun h1=>⟨fun h2=>(u2 h2).1 _ (leaf _ _ _ (v0 h0) (v1 h1) (u2 h2).2),fun h2=>leaf _ _ _ (v0 h0) (v1 h1) (v2 h2)⟩⟩⟩
 ·show _=if p.num=true then cK p.val else _
  rw[aa9 hN];rfl
 ·show _=if p.num=true then cK p.val else _
  rw[aa8 (by simp[hN])];rfl
 ·rw[aa9 hC]at eL eD;refine fun hc=>⟨fun he=>⟨xe eN ?_,eL.trans (OD hc)⟩,fun he=>⟨xe eN ?_,eL.trans (OD hc)⟩⟩
  ·rw[eD,aa8 (by simpa using he)]
  ·rw[eD,aa9 (by simpa using he)]
 ·rw[aa9 hC]at eL eD;refine fun hc=>⟨fun he=>⟨xe eN ?_,eL.symm⟩,fun he=>⟨xe eN ?_,eL.symm⟩⟩
  ·rw[eD,aa8 (by simpa using he)]
  ·rw[eD,aa9 (by simpa using he)]
 ·rw[aa8 (by rw[hC];simp)]at eL eD
  exact fun hc=>G9 (eA.trans (Xb hc)) id eL eM hL (xe eN eD)
 ·rw[aa8 (by rw[hC];simp)]at eL eD
  exact fun hc=>G9 eA Eq.symm eL eM (GA hL) (xe eN eD)
theorem Ls:kL Tryz.prog 35 CQ:=XO fun L n p hq hr=>bj (inl:=(fun f=>f==31)) (ann:=(iv [(35,13,MO 4),(35,2000010,QJ [2,3,4,5,6] (fun(g:Int)=> [(7,.it .i64 g)]) (fun _=> []) (fun _=> []) (qo L p)),(35,2000011,QJ [2,3,4,5] (fun(_:Unit)=> [(8,.it .i64 (aX L p))]) (fun _=> []) (fun _=> []) (fun _=>lR p)),(35,2000017,QJ [2,3,4,5,8,9] (fun(_:Unit)=> []) (fun _=> [(9,.blk 47 (jG (U2 (aL L (aX L p)) p)))]) (fun _=> []) (fun _=>lR p)),(35,2000019,QJ [2,3,4,5,8,9] (fun(_:Unit)=> []) (fun _=> [(9,.blk 47 (jG (bL L p)))]) (fun _=> []) (fun _=>lR p))])) (ae vd (ae ph aq)) (aB Tg (aB R0 (aB V6 (aB RQ (aB Im aD))))) (K6 L n p hq hr) (by kernel_rfl)
theorem Pa (M:List Sx.Obj):
 abb (abb (abb (∀(r0:Loop),(∃g,pQ [] M g/\ak []=ak []/\0=g/\M=M/\false=false/\0=g/\Value.pointer none=Value.pointer none/\Value.pointer none=Value.pointer none/\r0=r0)/\∀(g:Int),pQ [] M g->aba (decide (g<ak [])) False (decide (g=bD (ai M))=gO [] M)))):=by
 delta aba abb
 refine⟨rfl,rfl,rfl,fun r0=>⟨⟨0,⟨by omega,by unfold ai;omega,by omega,fun j hj=>by omega⟩,by(repeat' apply And.intro)<;>rfl⟩,fun g hg=>⟨fun hlt=>?_,fun _=>AE hg (by simp only[ai,List.length_nil];exact hg.1)⟩⟩⟩
 have h0:g<0:=aa6 hlt;exact absurd hg.1 (by omega)
theorem Pf (M:List Sx.Obj):an Tryz.prog 15 [jJ,.sa 0] [.ro (.arr none 163 (.ob M))] (oq (.bo (gO [] M))) (fun _ _=>False):=ba (inl:=(fun f=>f==24)) (ann:=(iv [(6000+44,1,YD [0,1,5] (fun g=> [(6,.it .i64 g)]) 3 (fun g=> .blk 3 (.it .i64 g)) (pQ [] M) 0)])) (ae bC aq) (Pa M) (by kernel_rfl)
theorem Kw (L M:List Sx.Obj) (hL:L.length<=9223372036854775807):
 abb (abb (abb (∀(r0:Loop),(∃g,pQ L M g/\ak L=ak L/\0=g/\M=M/\L=L/\false=false/\0=g/\r0=r0)/\∀(g:Int),pQ L M g->aba (decide (g<ak L)) ((0<=g/\g< ↑(ai L))/\g.toNat<ai L/\g.toNat<ai L/\r0=r0/\r0=r0/\((!(!decide (g=g)||decide (bD (ai M)<=g)))=true->0<=g/\g< ↑(ai M))/\((!(!decide (g=g)||decide (bD (ai M)<=g)))=true->g.toNat<ai M)/\aba (!decide (g=g)||decide (bD (ai M)<=g)|| !CR (aj L g.toNat free) (aj M g.toNat free)) (r0=r0/\false=gO L M) (abd (g+1)/\r0=r0/\abd (g+1)/\∃g',pQ L M g'/\(bD (ai L)-g').toNat<(bD (ai L)-g).toNat/\ak L=ak L/\g+1=g'/\M=M/\L=L/\false=false/\g+1=g'/\r0=r0)) (decide (g=bD (ai M))=gO L M)))):=by
 delta aba abd abb
 refine⟨rfl,rfl,rfl,fun r0=>⟨⟨0,⟨by omega,by unfold ai;omega,by omega,fun j hj=>by omega⟩,by(repeat' apply And.intro)<;>rfl⟩,fun g hg=>⟨fun hlt=>?_,fun hge=>?_⟩⟩⟩
 ·have hg':=hg;obtain⟨g0,g1,g2,g3⟩:=hg;have hlt:g<ak L:=aa6 hlt;have hle:=mz L;have hlm:=mz M;have hq:ak L=(L.length:Int):=rfl;rw[hq]at hlt;have hz:∀b:Bool,(!decide (g=g)||b)=b:=by simp
  rw[hz];refine⟨⟨g0,by omega⟩,by omega,by omega,rfl,rfl,fun h=>?_,fun h=>?_,fun h=>⟨rfl,?_⟩,fun h=>?_⟩
  ·have h:¬(bD (ai M)<=g):=by simpa using h
   rw[ij]at h;exact⟨g0,by omega⟩
  ·have h:¬(bD (ai M)<=g):=by simpa using h
   rw[ij]at h;omega
  ·unfold gO;symm
   rw[decide_eq_false_iff_not];rintro rfl
   rw[Bool.or_eq_true,aa3,ij]at h;rcases h with h|h
   ·omega
   ·simp[CR]at h
  ·rw[Bool.or_eq_false_iff,decide_eq_false_iff_not,ij]at h;obtain⟨h1,h2⟩:=h;have h2:aj L g.toNat free=aj M g.toNat free:=by simpa[CR]using h2
   have hr:aF IntKind.i64 (g+1):=by simp only[aF,bY];omega
   refine⟨hr,rfl,hr,g+1,⟨by omega,by omega,by omega,fun j hj=>?_⟩,by rw[ij];omega,by(repeat' apply And.intro)<;>rfl⟩
   by_cases e:(j:Int)<g
   ·exact g3 j e
   ·rw[show j=g.toNat by omega];exact h2
 ·have hge:¬g<ak L:=aa5 hge;exact AE hg (by unfold ak at hge;omega)
theorem Iy:cq Tryz.prog 15 Xf:=
 Sv (fun _ _=>rfl) (fun M _ _=>Pf M) (fun L M _ hL _ _=>ba (inl:=(fun f=>f==24)) (ann:=(iv [(6000+44,1,YD [0,1,5] (fun g=> [(6,.it .i64 g)]) 6 (fun g=> .blk 3 (.it .i64 g)) (pQ L M) (bD (ai L)))])) (ae bC aq) (Kw L M hL) (by kernel_rfl))
end Go.Proofs.YtlblcfaclmpekaaGreat
