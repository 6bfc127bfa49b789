import Derived.Test.YtmfbohanboiklaaCtTc
import Derived.Test.YtmfbohanboiklaaSpHe
set_option linter.unusedSimpArgs false
set_option linter.unusedVariables false
namespace Go.Proofs.Ytmfbohanboiklaa
open Go.Sx
set_option maxRecDepth 100000
theorem Im (L:List Sx.Obj) (oid:Int) (hQ:u5 L oid):
 (∃g,bL g/\oid=oid/\0=g/\L=L/\ []=lb L oid g)/\∀(g:Int),bL g->(decide (g<16)=true->(0<=oid/\oid< ↑(ae L))/\(0<=g/\g< ↑16)/\oid.toNat<ae L/\true=true
  /\true=true/\((!!(decide (2<=(iF L oid g).kind)&&decide ((iF L oid g).kind<=10)))=true->dI (lb L oid g))/\((!(decide (2<=(iF L oid g).kind)&&decide ((iF L oid g).kind<=10))||
  eH (lb L oid g) (a8 (Key.mk (iF L oid g).kind (iF L oid g).oid (iF L oid g).count (iF L oid g).call (iF L oid g).rights 0)))=true->br IntKind.i64 (g+1)/\∃g',bL g'/\(16-
  g').toNat<(16-g).toNat/\oid=oid/\g+1=g'/\L=L/\lb L oid g=lb L oid g')/\((!(decide (2<=(iF L oid g).kind)&&decide ((iF L oid g).kind<=10))||eH (lb L oid g) (a8
  (Key.mk (iF L oid g).kind (iF L oid g).oid (iF L oid g).count (iF L oid g).call (iF L oid g).rights 0)))=false->ja (ae (lb L oid g)) 40/\e9 (ae (lb L oid g)) 40/\br IntKind.i64
  (g+1)/\∃g',bL g'/\(16-g').toNat<(16-g).toNat/\oid=oid/\g+1=g'/\L=L/\bj (lb L oid g) [(iF L oid g).kind,(iF L oid g).oid,(iF L oid g).count,(iF L oid g).call,
  (iF L oid g).rights]=lb L oid g'))/\(decide (g<16)=false->(∃g_1,kH L oid g_1/\oid=oid/\0=g_1/\L=L/\lb L oid g=bm L oid g_1)/\∀(g_1:Int),kH L oid g_1->(decide
  (g_1<aZ (ae (bm L oid g_1)))=true->(0<=g_1/\g_1< ↑(ae (bm L oid g_1)))/\g_1.toNat<ae (bm L oid g_1)/\((decide (bp L oid g_1 0=2)=true->(∃g,bL g/\oid=oid/\g_1=
  g_1/\bp L oid g_1 0=bp L oid g_1 0/\0=g/\L=L/\bp L oid g_1 0=bp L oid g_1 0/\bp L oid g_1 1=bp L oid g_1 1/\bp L oid g_1 2=bp L oid g_1 2/\bp L oid g_1 3=bp L oid g_1 3/\
  bp L oid g_1 4=bp L oid g_1 4/\bm L oid g_1=fl L (bm L oid g_1) (ca L oid g_1) g)/\∀(g_2:Int),bL g_2->(decide (g_2<16)=true->uR L (ca L oid g_1) g_2/\true=true/\
  true=true/\((!!(decide (2<=(cU L (ca L oid g_1) g_2).kind)&&decide ((cU L (ca L oid g_1) g_2).kind<=10)))=true->dI (fl L (bm L oid g_1) (ca L oid g_1) g_2))/\((!(decide (2<=
  (cU L (ca L oid g_1) g_2).kind)&&decide ((cU L (ca L oid g_1) g_2).kind<=10))||eH (fl L (bm L oid g_1) (ca L oid g_1) g_2) (a8 (Key.mk (cU L (ca L oid g_1) g_2).kind (cU L
  (ca L oid g_1) g_2).oid (cU L (ca L oid g_1) g_2).count (cU L (ca L oid g_1) g_2).call (cU L (ca L oid g_1) g_2).rights 0)))=true->br IntKind.i64 (g_2+1)/\∃g',bL g'/\(16-
  g').toNat<(16-g_2).toNat/\oid=oid/\g_1=g_1/\bp L oid g_1 0=bp L oid g_1 0/\g_2+1=g'/\L=L/\bp L oid g_1 0=bp L oid g_1 0/\bp L oid g_1 1=bp L oid g_1 1/\bp L oid g_1 2
  =bp L oid g_1 2/\bp L oid g_1 3=bp L oid g_1 3/\bp L oid g_1 4=bp L oid g_1 4/\fl L (bm L oid g_1) (ca L oid g_1) g_2=fl L (bm L oid g_1) (ca L oid g_1) g')/\((!(decide (2<=
  (cU L (ca L oid g_1) g_2).kind)&&decide ((cU L (ca L oid g_1) g_2).kind<=10))||eH (fl L (bm L oid g_1) (ca L oid g_1) g_2) (a8 (Key.mk (cU L (ca L oid g_1) g_2).kind (cU L
  (ca L oid g_1) g_2).oid (cU L (ca L oid g_1) g_2).count (cU L (ca L oid g_1) g_2).call (cU L (ca L oid g_1) g_2).rights 0)))=false->ja (ae (fl L (bm L oid g_1) (ca L oid g_1)
  g_2)) 40/\e9 (ae (fl L (bm L oid g_1) (ca L oid g_1) g_2)) 40/\br IntKind.i64 (g_2+1)/\∃g',bL g'/\(16-g').toNat<(16-g_2).toNat/\oid=oid/\g_1=g_1/\bp L oid g_1 0=
  bp L oid g_1 0/\g_2+1=g'/\L=L/\bp L oid g_1 0=bp L oid g_1 0/\bp L oid g_1 1=bp L oid g_1 1/\bp L oid g_1 2=bp L oid g_1 2/\bp L oid g_1 3=bp L oid g_1 3/\bp L oid g_1 4
  =bp L oid g_1 4/\bj (fl L (bm L oid g_1) (ca L oid g_1) g_2) [(cU L (ca L oid g_1) g_2).kind,(cU L (ca L oid g_1) g_2).oid,(cU L (ca L oid g_1) g_2).count,(cU L (ca L oid
  g_1) g_2).call,(cU L (ca L oid g_1) g_2).rights]=fl L (bm L oid g_1) (ca L oid g_1) g'))/\(decide (g_2<16)=false->(decide (bp L oid g_1 4=0)=true->true=true/\true=true/\
  ((!!(decide ((2:Int)<=5)&&decide ((5:Int)<=10)))=true->dI (fl L (bm L oid g_1) (ca L oid g_1) g_2))/\((!(decide ((2:Int)<=5)&&decide ((5:Int)<=10))||eH (fl L (bm L
  oid g_1) (ca L oid g_1) g_2) (a8 (Key.mk 5 (bp L oid g_1 1) (bp L oid g_1 2) void.call void.rights 0)))=true->∃g:Unit,True/\oid=oid/\g_1=g_1/\bp L oid g_1 0=bp L oid g_1 0/\L=
  L/\bp L oid g_1 0=bp L oid g_1 0/\bp L oid g_1 1=bp L oid g_1 1/\bp L oid g_1 2=bp L oid g_1 2/\bp L oid g_1 3=bp L oid g_1 3/\bp L oid g_1 4=bp L oid g_1 4/\fl L (bm L
  oid g_1) (ca L oid g_1) g_2=ep L (bm L oid g_1) (ca L oid g_1))/\((!(decide ((2:Int)<=5)&&decide ((5:Int)<=10))||eH (fl L (bm L oid g_1) (ca L oid g_1) g_2) (a8 (Key.mk 5
  (bp L oid g_1 1) (bp L oid g_1 2) void.call void.rights 0)))=false->ja (ae (fl L (bm L oid g_1) (ca L oid g_1) g_2)) 40/\e9 (ae (fl L (bm L oid g_1) (ca L oid g_1) g_2)) 40/\∃
  g:Unit,True/\oid=oid/\g_1=g_1/\bp L oid g_1 0=bp L oid g_1 0/\L=L/\bp L oid g_1 0=bp L oid g_1 0/\bp L oid g_1 1=bp L oid g_1 1/\bp L oid g_1 2=bp L oid g_1 2/\bp L
  oid g_1 3=bp L oid g_1 3/\bp L oid g_1 4=bp L oid g_1 4/\bj (fl L (bm L oid g_1) (ca L oid g_1) g_2) [5,bp L oid g_1 1,bp L oid g_1 2,void.call,void.rights]=ep L (bm L oid
  g_1) (ca L oid g_1)))/\(decide (bp L oid g_1 4=0)=false->∃g:Unit,True/\oid=oid/\g_1=g_1/\bp L oid g_1 0=bp L oid g_1 0/\L=L/\bp L oid g_1 0=bp L oid g_1 0/\bp L oid g_1
  1=bp L oid g_1 1/\bp L oid g_1 2=bp L oid g_1 2/\bp L oid g_1 3=bp L oid g_1 3/\bp L oid g_1 4=bp L oid g_1 4/\fl L (bm L oid g_1) (ca L oid g_1) g_2=ep L (bm L oid g_1)
  (ca L oid g_1))))/\(decide (bp L oid g_1 0=2)=false->∃g:Unit,True/\oid=oid/\g_1=g_1/\bp L oid g_1 0=bp L oid g_1 0/\L=L/\bp L oid g_1 0=bp L oid g_1 0/\bp L oid g_1 1=
  bp L oid g_1 1/\bp L oid g_1 2=bp L oid g_1 2/\bp L oid g_1 3=bp L oid g_1 3/\bp L oid g_1 4=bp L oid g_1 4/\bm L oid g_1=ep L (bm L oid g_1) (ca L oid g_1)))/\∀(g_2:
  Unit),True->(decide (bp L oid g_1 0=5)=true->(∃g,bL g/\oid=oid/\g_1=g_1/\bp L oid g_1 0=bp L oid g_1 0/\0=g/\L=L/\bp L oid g_1 0=bp L oid g_1 0/\bp L oid g_1 1=
  bp L oid g_1 1/\bp L oid g_1 2=bp L oid g_1 2/\bp L oid g_1 3=bp L oid g_1 3/\bp L oid g_1 4=bp L oid g_1 4/\ep L (bm L oid g_1) (ca L oid g_1)=gh L (ep L (bm L oid g_1)
  (ca L oid g_1)) (ca L oid g_1) g)/\∀(g_3:Int),bL g_3->(decide (g_3<16)=true->(0<=bp L oid g_1 1/\bp L oid g_1 1< ↑(ae L))/\(0<=g_3/\g_3< ↑16)/\(bp L oid g_1 1).toNat<
  ae L/\true=true/\true=true/\((!!(decide (2<=(iF L (bp L oid g_1 1) g_3).kind)&&decide ((iF L (bp L oid g_1 1) g_3).kind<=10)))=true->dI (gh L (ep L (bm L oid g_1) (ca L
  oid g_1)) (ca L oid g_1) g_3))/\((!(decide (2<=(iF L (bp L oid g_1 1) g_3).kind)&&decide ((iF L (bp L oid g_1 1) g_3).kind<=10))||eH (gh L (ep L (bm L oid g_1) (ca L oid g_1))
  (ca L oid g_1) g_3) (a8 (Key.mk (iF L (bp L oid g_1 1) g_3).kind (iF L (bp L oid g_1 1) g_3).oid (iF L (bp L oid g_1 1) g_3).count (iF L (bp L oid g_1 1) g_3).call (iF L (bp L oid g_1 1)
  g_3).rights 0)))=true->br IntKind.i64 (g_3+1)/\∃g',bL g'/\(16-g').toNat<(16-g_3).toNat/\oid=oid/\g_1=g_1/\bp L oid g_1 0=bp L oid g_1 0/\g_3+1=g'/\L=L/\bp L
  oid g_1 0=bp L oid g_1 0/\bp L oid g_1 1=bp L oid g_1 1/\bp L oid g_1 2=bp L oid g_1 2/\bp L oid g_1 3=bp L oid g_1 3/\bp L oid g_1 4=bp L oid g_1 4/\gh L (ep L (bm L oid
  g_1) (ca L oid g_1)) (ca L oid g_1) g_3=gh L (ep L (bm L oid g_1) (ca L oid g_1)) (ca L oid g_1) g')/\((!(decide (2<=(iF L (bp L oid g_1 1) g_3).kind)&&decide ((iF L (bp L oid g_1
  1) g_3).kind<=10))||eH (gh L (ep L (bm L oid g_1) (ca L oid g_1)) (ca L oid g_1) g_3) (a8 (Key.mk (iF L (bp L oid g_1 1) g_3).kind (iF L (bp L oid g_1 1) g_3).oid (iF L (bp L oid
  g_1 1) g_3).count (iF L (bp L oid g_1 1) g_3).call (iF L (bp L oid g_1 1) g_3).rights 0)))=false->ja (ae (gh L (ep L (bm L oid g_1) (ca L oid g_1)) (ca L oid g_1) g_3)) 40/\e9
  (ae (gh L (ep L (bm L oid g_1) (ca L oid g_1)) (ca L oid g_1) g_3)) 40/\br IntKind.i64 (g_3+1)/\∃g',bL g'/\(16-g').toNat<(16-g_3).toNat/\oid=oid/\g_1=g_1/\bp L oid
  g_1 0=bp L oid g_1 0/\g_3+1=g'/\L=L/\bp L oid g_1 0=bp L oid g_1 0/\bp L oid g_1 1=bp L oid g_1 1/\bp L oid g_1 2=bp L oid g_1 2/\bp L oid g_1 3=bp L oid g_1 3/\bp L
  oid g_1 4=bp L oid g_1 4/\bj (gh L (ep L (bm L oid g_1) (ca L oid g_1)) (ca L oid g_1) g_3) [(iF L (bp L oid g_1 1) g_3).kind,(iF L (bp L oid g_1 1) g_3).oid,(iF L (bp L oid g_1
  1) g_3).count,(iF L (bp L oid g_1 1) g_3).call,(iF L (bp L oid g_1 1) g_3).rights]=gh L (ep L (bm L oid g_1) (ca L oid g_1)) (ca L oid g_1) g'))/\(decide (g_3<16)=false->true=
  true/\true=true/\((!!(decide ((2:Int)<=6)&&decide ((6:Int)<=10)))=true->dI (gh L (ep L (bm L oid g_1) (ca L oid g_1)) (ca L oid g_1) g_3))/\((!(decide ((2:Int)<=6)&&
  decide ((6:Int)<=10))||eH (gh L (ep L (bm L oid g_1) (ca L oid g_1)) (ca L oid g_1) g_3) (a8 (Key.mk 6 (bp L oid g_1 1) (bp L oid g_1 2) void.call void.rights 0)))=true->br
  IntKind.i64 (g_1+1)/\∃g',kH L oid g'/\(10000-g').toNat<(10000-g_1).toNat/\oid=oid/\g_1+1=g'/\L=L/\gh L (ep L (bm L oid g_1) (ca L oid g_1)) (ca L oid g_1) g_3=bm
  L oid g')/\((!(decide ((2:Int)<=6)&&decide ((6:Int)<=10))||eH (gh L (ep L (bm L oid g_1) (ca L oid g_1)) (ca L oid g_1) g_3) (a8 (Key.mk 6 (bp L oid g_1 1) (bp L oid g_1 2)
  void.call void.rights 0)))=false->ja (ae (gh L (ep L (bm L oid g_1) (ca L oid g_1)) (ca L oid g_1) g_3)) 40/\e9 (ae (gh L (ep L (bm L oid g_1) (ca L oid g_1)) (ca L oid
  g_1) g_3)) 40/\br IntKind.i64 (g_1+1)/\∃g',kH L oid g'/\(10000-g').toNat<(10000-g_1).toNat/\oid=oid/\g_1+1=g'/\L=L/\bj (gh L (ep L (bm L oid g_1) (ca L oid g_1))
  (ca L oid g_1) g_3) [6,bp L oid g_1 1,bp L oid g_1 2,void.call,void.rights]=bm L oid g')))/\(decide (bp L oid g_1 0=5)=false->br IntKind.i64 (g_1+1)/\∃g',kH L oid g'/\
  (10000-g').toNat<(10000-g_1).toNat/\oid=oid/\g_1+1=g'/\L=L/\ep L (bm L oid g_1) (ca L oid g_1)=bm L oid g'))/\(decide (g_1<aZ (ae (bm L oid g_1)))=false->ru
  (bm L oid g_1)/\∀(nid:Nat),some (V.sa nid)=some (V.sa nid)/\some [ah.arr (some 43) 5 (TL.qs 5 (ib (bm L oid g_1)))]=some [ah.arr (some 43) 5 (TL.qs 5 (dq L oid))])):=by
 obtain⟨hL,hh⟩:=hQ;obtain⟨ho0,ho1⟩:=ff.1 hh;refine⟨⟨0,⟨by omega,by omega⟩,rfl,rfl,rfl,rfl⟩,fun g hg=>⟨fun hlt=>?_,fun hge=>?_⟩⟩
 ·have hlt:=My hlt;obtain⟨a1,a2,a3⟩:=Ig (L:=L) (oid:=oid) hg;obtain⟨g0,g1⟩:=hg;have hm:br IntKind.i64 (g+1):=by simp only[br,bJ];omega
  have hi:bL (g+1):=⟨by omega,by omega⟩
  have hnx:=Fj g0 hh;refine⟨⟨ho0,ho1⟩,⟨g0,hlt⟩,by show oid.toNat<L.length;omega,rfl,rfl,fun _=>a1,fun h=>⟨hm,g+1,hi,by omega,rfl,rfl,rfl,?_⟩,fun h=>⟨a2,a3,hm,g+1,hi,by omega,rfl,rfl,rfl,?_⟩⟩
  ·rw[hnx];exact nT h
  ·rw[hnx];exact rV h
 have hge:=Mx hge;have hg16:g=16:=by have:=hg.2;omega
 subst hg16;refine⟨⟨0,⟨by omega,Int.natCast_nonneg _,by omega⟩,rfl,rfl,rfl,rfl⟩,fun n hn=>⟨fun hlt=>?_,fun hge=>?_⟩⟩
 ·have hlt:=My hlt;have hlt:n<((bm L oid n).length:Int):=hlt;obtain⟨e1,e2,e3⟩:=JM hn.1 hlt;obtain⟨b1,b2,b3⟩:=yi hL oid n;obtain⟨i1,i2,i3⟩:=Iv hL hn hlt;have hp:=GI _ (lN _ _ e2);rw[<-e1]at hp;have hn0:=hn.1;clear e1 e2 hge;refine⟨⟨hn0,hlt⟩,by show n.toNat<(bm L oid n).length;omega,⟨fun h2=>?_,fun h2=>?_⟩,fun _ _=>⟨fun h5=>?_,fun h5=>?_⟩⟩
  ·have h2:(ca L oid n).kind=2:=My h2;have hv:=hp (by rw[h2];rfl)
   obtain⟨v0,v1⟩:=ff.1 hv;refine⟨⟨0,⟨by omega,by omega⟩,rfl,rfl,rfl,rfl,rfl,rfl,rfl,rfl,rfl,rfl,rfl⟩,fun i hi=>?_⟩
   obtain⟨c1,c2,c3⟩:=Hp (L:=L) (k:=ca L oid n) b1 (by omega) hi
   refine⟨fun hlt=>?_,fun hge=>?_⟩
   ·have hlt:=My hlt;obtain⟨g0,g1⟩:=hi;have hm:br IntKind.i64 (i+1):=by simp only[br,bJ];omega
    have hi:bL (i+1):=⟨by omega,by omega⟩
    have hnx:=Gy (L:=L) (F:=bm L oid n) (k:=ca L oid n) g0;refine⟨⟨g0,hlt,v0,v1⟩,rfl,rfl,fun _=>c1,fun h=>⟨hm,i+1,hi,by omega,rfl,rfl,rfl,rfl,rfl,rfl,rfl,rfl,rfl,rfl,?_⟩,fun h=>⟨c2,c3,hm,i+1,hi,by omega,rfl,rfl,rfl,rfl,rfl,rfl,rfl,rfl,rfl,rfl,?_⟩⟩
    ·rw[hnx];exact nT h
    ·rw[hnx];exact rV h
   ·have hge:=Mx hge;have hi16:i=16:=by have:=hi.2;omega
    subst hi16;have hw:fl L (bm L oid n) (ca L oid n) 16=pd L (bm L oid n) (ca L oid n).oid (bE (ca L oid n)) 16:=Jb hv
    have hn2:ep L (bm L oid n) (ca L oid n)=if(ca L oid n).rights=0 then qU (fl L (bm L oid n) (ca L oid n) 16) (Da (ca L oid n))else fl L (bm L oid n) (ca L oid n) 16:=by
     rw[hw];unfold ep;rw[MB h2];rfl
    refine⟨fun h4=>?_,fun h4=>?_⟩
    ·have h4:(ca L oid n).rights=0:=My h4;rw[MB h4]at hn2;refine⟨rfl,rfl,fun _=>c1,fun h=>⟨(),trivial,rfl,rfl,rfl,rfl,rfl,rfl,rfl,rfl,rfl,?_⟩,fun h=>⟨c2,c3,(),trivial,rfl,rfl,rfl,rfl,rfl,rfl,rfl,rfl,rfl,?_⟩⟩
     ·rw[hn2];exact nT (k:=Da (ca L oid n)) h
     ·rw[hn2];exact rV (k:=Da (ca L oid n)) h
    ·have h4:¬(ca L oid n).rights=0:=Mx h4;rw[MA h4]at hn2;exact⟨(),trivial,rfl,rfl,rfl,rfl,rfl,rfl,rfl,rfl,rfl,hn2.symm⟩
  ·have h2:¬(ca L oid n).kind=2:=Mx h2;refine⟨(),trivial,rfl,rfl,rfl,rfl,rfl,rfl,rfl,rfl,rfl,?_⟩;unfold ep;rw[MA h2]
  ·have h5:(ca L oid n).kind=5:=My h5;have hv:=hp (by rw[h5];rfl)
   obtain⟨v0,v1⟩:=ff.1 hv;obtain⟨m1,m2⟩:=Ib (L:=L) (k:=ca L oid n) b1 b2;refine⟨⟨0,⟨by omega,by omega⟩,rfl,rfl,rfl,rfl,rfl,rfl,rfl,rfl,rfl,rfl,rfl⟩,fun i hi=>?_⟩
   obtain⟨c1,c2,c3⟩:=H9 (L:=L) (k:=ca L oid n) m1 m2 hi;refine⟨fun hlt=>?_,fun hge=>?_⟩
   ·have hlt:=My hlt;obtain⟨g0,g1⟩:=hi;have hm:br IntKind.i64 (i+1):=by simp only[br,bJ];omega
    have hi:bL (i+1):=⟨by omega,by omega⟩
    have hnx:=yP (L:=L) (F:=ep L (bm L oid n) (ca L oid n)) (k:=ca L oid n) g0 hv;refine⟨⟨v0,v1⟩,⟨g0,hlt⟩,by show(ca L oid n).oid.toNat<L.length;omega,rfl,rfl,fun _=>c1,fun h=>⟨hm,i+1,hi,by omega,rfl,rfl,rfl,rfl,rfl,rfl,rfl,rfl,rfl,rfl,?_⟩,fun h=>⟨c2,c3,hm,i+1,hi,by omega,rfl,rfl,rfl,rfl,rfl,rfl,rfl,rfl,rfl,rfl,?_⟩⟩
    ·rw[hnx];exact nT h
    ·rw[hnx];exact rV h
   ·have hge:=Mx hge;have hi16:i=16:=by have:=hi.2;omega
    subst hi16
    have hn5:Er L (ep L (bm L oid n) (ca L oid n)) (ca L oid n)=qU (gh L (ep L (bm L oid n) (ca L oid n)) (ca L oid n) 16) (Dc (ca L oid n)):=by
     unfold Er;rw[MB h5];rfl
    refine⟨rfl,rfl,fun _=>c1,fun h=>⟨i2,n+1,i1,i3,rfl,rfl,rfl,?_⟩,fun h=>⟨c2,c3,i2,n+1,i1,i3,rfl,rfl,rfl,?_⟩⟩
    ·rw[e3,hn5];exact nT (k:=Dc (ca L oid n)) h
    ·rw[e3,hn5];exact rV (k:=Dc (ca L oid n)) h
  ·have h5:¬(ca L oid n).kind=5:=Mx h5;refine⟨i2,n+1,i1,i3,rfl,rfl,rfl,?_⟩;rw[e3];unfold Er;rw[MA h5]
 ·have hge:=Mx hge;have hge:¬n<((bm L oid n).length:Int):=hge;obtain⟨b1,b2,b3⟩:=yi hL oid n;refine⟨⟨b3,b1,b2⟩,fun nid=>⟨rfl,?_⟩⟩
  have hrc:vN L oid=bm L oid n:=vh (by have:=hn.2.2;omega) (by have:=hn.1;unfold bm at hge;omega)
  unfold dq;rw[hrc]
theorem HW:bW Try.prog 15 KC:=uD (π:=fun _=> [3]) (bh yt (bh mA dJ)) (fun _=>by simp) (fun _ _=>rfl) fun a hq _=>by
  obtain⟨L,oid,_⟩:=a
  exact c8 (inl:=(fun f=>f==28||f==54)) (ann:=(kQ [(15,3,L5 [0,1] (fun g=> [(6,.it .i64 g)]) 5 vm 5 (fun g=> .qs 5 (lb L oid g)) bL 16),(15,7,Hq [0,1] 7 5 (fun _ g=>bm L oid g) (fun _ g=>kH L oid g) 10000),(15,13,Hq [0,1,7,8,9] 10 5 (fun U g=>fl L (Ci U 5) (HD U 8) g) (fun _ g=>bL g) 16),(15,20,Hq [0,1,7,8,9] 11 5 (fun U g=>gh L (Ci U 5) (HD U 8) g) (fun _ g=>bL g) 16),(15,2000018,Lv [0,1,7,8,9] 5 (fun U=>ep L (Ci U 5) (HD U 8)))])) (an wM (an FU (an wP (an Cl (an An az))))) de (Im L oid hq) (by kernel_rfl)
end Go.Proofs.Ytmfbohanboiklaa
