import Derived.Test.YtmfbohanboiklaaCtTc
import Derived.Test.YtmfbohanboiklaaSpHe
set_option linter.unusedSimpArgs false
set_option linter.unusedVariables false
namespace Go.Proofs.Ytmfbohanboiklaa
open Go.Sx
set_option maxRecDepth 100000
theorem IF (L:List Sx.Obj) (oid:Int) (hQ:uQ L oid):
 (∃g,bK g/\oid=oid/\0=g/\L=L/\ []=lg L oid g)/\∀(g:Int),bK g->(decide (g<16)=true->(0<=oid/\oid< ↑(aa L))/\(0<=g/\g< ↑16)/\oid.toNat<aa L/\true=true
  /\true=true/\((!!(decide (2<=(iH L oid g).kind)&&decide ((iH L oid g).kind<=10)))=true->dF (lg L oid g))/\((!(decide (2<=(iH L oid g).kind)&&decide ((iH L oid g).kind<=10))||
  eN (lg L oid g) (bd (Key.mk (iH L oid g).kind (iH L oid g).oid (iH L oid g).count (iH L oid g).call (iH L oid g).rights 0)))=true->aP IntKind.i64 (g+1)/\∃g',bK g'/\(16-
  g').toNat<(16-g).toNat/\oid=oid/\g+1=g'/\L=L/\lg L oid g=lg L oid g')/\((!(decide (2<=(iH L oid g).kind)&&decide ((iH L oid g).kind<=10))||eN (lg L oid g) (bd
  (Key.mk (iH L oid g).kind (iH L oid g).oid (iH L oid g).count (iH L oid g).call (iH L oid g).rights 0)))=false->jg (aa (lg L oid g)) 40/\eh (aa (lg L oid g)) 40/\aP IntKind.i64
  (g+1)/\∃g',bK g'/\(16-g').toNat<(16-g).toNat/\oid=oid/\g+1=g'/\L=L/\ba (lg L oid g) [(iH L oid g).kind,(iH L oid g).oid,(iH L oid g).count,(iH L oid g).call,
  (iH L oid g).rights]=lg L oid g'))/\(decide (g<16)=false->(∃g_1,kZ L oid g_1/\oid=oid/\0=g_1/\L=L/\lg L oid g=bp L oid g_1)/\∀(g_1:Int),kZ L oid g_1->(decide
  (g_1<aK (aa (bp L oid g_1)))=true->(0<=g_1/\g_1< ↑(aa (bp L oid g_1)))/\g_1.toNat<aa (bp L oid g_1)/\((decide (br L oid g_1 0=2)=true->(∃g,bK g/\oid=oid/\g_1=
  g_1/\br L oid g_1 0=br L oid g_1 0/\0=g/\L=L/\br L oid g_1 0=br L oid g_1 0/\br L oid g_1 1=br L oid g_1 1/\br L oid g_1 2=br L oid g_1 2/\br L oid g_1 3=br L oid g_1 3/\
  br L oid g_1 4=br L oid g_1 4/\bp L oid g_1=fm L (bp L oid g_1) (cg L oid g_1) g)/\∀(g_2:Int),bK g_2->(decide (g_2<16)=true->u6 L (cg L oid g_1) g_2/\true=true/\
  true=true/\((!!(decide (2<=(cZ L (cg L oid g_1) g_2).kind)&&decide ((cZ L (cg L oid g_1) g_2).kind<=10)))=true->dF (fm L (bp L oid g_1) (cg L oid g_1) g_2))/\((!(decide (2<=
  (cZ L (cg L oid g_1) g_2).kind)&&decide ((cZ L (cg L oid g_1) g_2).kind<=10))||eN (fm L (bp L oid g_1) (cg L oid g_1) g_2) (bd (Key.mk (cZ L (cg L oid g_1) g_2).kind (cZ L
  (cg L oid g_1) g_2).oid (cZ L (cg L oid g_1) g_2).count (cZ L (cg L oid g_1) g_2).call (cZ L (cg L oid g_1) g_2).rights 0)))=true->aP IntKind.i64 (g_2+1)/\∃g',bK g'/\(16-
  g').toNat<(16-g_2).toNat/\oid=oid/\g_1=g_1/\br L oid g_1 0=br L oid g_1 0/\g_2+1=g'/\L=L/\br L oid g_1 0=br L oid g_1 0/\br L oid g_1 1=br L oid g_1 1/\br L oid g_1 2
  =br L oid g_1 2/\br L oid g_1 3=br L oid g_1 3/\br L oid g_1 4=br L oid g_1 4/\fm L (bp L oid g_1) (cg L oid g_1) g_2=fm L (bp L oid g_1) (cg L oid g_1) g')/\((!(decide (2<=
  (cZ L (cg L oid g_1) g_2).kind)&&decide ((cZ L (cg L oid g_1) g_2).kind<=10))||eN (fm L (bp L oid g_1) (cg L oid g_1) g_2) (bd (Key.mk (cZ L (cg L oid g_1) g_2).kind (cZ L
  (cg L oid g_1) g_2).oid (cZ L (cg L oid g_1) g_2).count (cZ L (cg L oid g_1) g_2).call (cZ L (cg L oid g_1) g_2).rights 0)))=false->jg (aa (fm L (bp L oid g_1) (cg L oid g_1)
  g_2)) 40/\eh (aa (fm L (bp L oid g_1) (cg L oid g_1) g_2)) 40/\aP IntKind.i64 (g_2+1)/\∃g',bK g'/\(16-g').toNat<(16-g_2).toNat/\oid=oid/\g_1=g_1/\br L oid g_1 0=
  br L oid g_1 0/\g_2+1=g'/\L=L/\br L oid g_1 0=br L oid g_1 0/\br L oid g_1 1=br L oid g_1 1/\br L oid g_1 2=br L oid g_1 2/\br L oid g_1 3=br L oid g_1 3/\br L oid g_1 4
  =br L oid g_1 4/\ba (fm L (bp L oid g_1) (cg L oid g_1) g_2) [(cZ L (cg L oid g_1) g_2).kind,(cZ L (cg L oid g_1) g_2).oid,(cZ L (cg L oid g_1) g_2).count,(cZ L (cg L oid
  g_1) g_2).call,(cZ L (cg L oid g_1) g_2).rights]=fm L (bp L oid g_1) (cg L oid g_1) g'))/\(decide (g_2<16)=false->(decide (br L oid g_1 4=0)=true->true=true/\true=true/\
  ((!!(decide ((2:Int)<=5)&&decide ((5:Int)<=10)))=true->dF (fm L (bp L oid g_1) (cg L oid g_1) g_2))/\((!(decide ((2:Int)<=5)&&decide ((5:Int)<=10))||eN (fm L (bp L
  oid g_1) (cg L oid g_1) g_2) (bd (Key.mk 5 (br L oid g_1 1) (br L oid g_1 2) void.call void.rights 0)))=true->∃g:Unit,True/\oid=oid/\g_1=g_1/\br L oid g_1 0=br L oid g_1 0/\L=
  L/\br L oid g_1 0=br L oid g_1 0/\br L oid g_1 1=br L oid g_1 1/\br L oid g_1 2=br L oid g_1 2/\br L oid g_1 3=br L oid g_1 3/\br L oid g_1 4=br L oid g_1 4/\fm L (bp L
  oid g_1) (cg L oid g_1) g_2=eu L (bp L oid g_1) (cg L oid g_1))/\((!(decide ((2:Int)<=5)&&decide ((5:Int)<=10))||eN (fm L (bp L oid g_1) (cg L oid g_1) g_2) (bd (Key.mk 5
  (br L oid g_1 1) (br L oid g_1 2) void.call void.rights 0)))=false->jg (aa (fm L (bp L oid g_1) (cg L oid g_1) g_2)) 40/\eh (aa (fm L (bp L oid g_1) (cg L oid g_1) g_2)) 40/\∃
  g:Unit,True/\oid=oid/\g_1=g_1/\br L oid g_1 0=br L oid g_1 0/\L=L/\br L oid g_1 0=br L oid g_1 0/\br L oid g_1 1=br L oid g_1 1/\br L oid g_1 2=br L oid g_1 2/\br L
  oid g_1 3=br L oid g_1 3/\br L oid g_1 4=br L oid g_1 4/\ba (fm L (bp L oid g_1) (cg L oid g_1) g_2) [5,br L oid g_1 1,br L oid g_1 2,void.call,void.rights]=eu L (bp L oid
  g_1) (cg L oid g_1)))/\(decide (br L oid g_1 4=0)=false->∃g:Unit,True/\oid=oid/\g_1=g_1/\br L oid g_1 0=br L oid g_1 0/\L=L/\br L oid g_1 0=br L oid g_1 0/\br L oid g_1
  1=br L oid g_1 1/\br L oid g_1 2=br L oid g_1 2/\br L oid g_1 3=br L oid g_1 3/\br L oid g_1 4=br L oid g_1 4/\fm L (bp L oid g_1) (cg L oid g_1) g_2=eu L (bp L oid g_1)
  (cg L oid g_1))))/\(decide (br L oid g_1 0=2)=false->∃g:Unit,True/\oid=oid/\g_1=g_1/\br L oid g_1 0=br L oid g_1 0/\L=L/\br L oid g_1 0=br L oid g_1 0/\br L oid g_1 1=
  br L oid g_1 1/\br L oid g_1 2=br L oid g_1 2/\br L oid g_1 3=br L oid g_1 3/\br L oid g_1 4=br L oid g_1 4/\bp L oid g_1=eu L (bp L oid g_1) (cg L oid g_1)))/\∀(g_2:
  Unit),True->(decide (br L oid g_1 0=5)=true->(∃g,bK g/\oid=oid/\g_1=g_1/\br L oid g_1 0=br L oid g_1 0/\0=g/\L=L/\br L oid g_1 0=br L oid g_1 0/\br L oid g_1 1=
  br L oid g_1 1/\br L oid g_1 2=br L oid g_1 2/\br L oid g_1 3=br L oid g_1 3/\br L oid g_1 4=br L oid g_1 4/\eu L (bp L oid g_1) (cg L oid g_1)=gp L (eu L (bp L oid g_1)
  (cg L oid g_1)) (cg L oid g_1) g)/\∀(g_3:Int),bK g_3->(decide (g_3<16)=true->(0<=br L oid g_1 1/\br L oid g_1 1< ↑(aa L))/\(0<=g_3/\g_3< ↑16)/\(br L oid g_1 1).toNat<
  aa L/\true=true/\true=true/\((!!(decide (2<=(iH L (br L oid g_1 1) g_3).kind)&&decide ((iH L (br L oid g_1 1) g_3).kind<=10)))=true->dF (gp L (eu L (bp L oid g_1) (cg L
  oid g_1)) (cg L oid g_1) g_3))/\((!(decide (2<=(iH L (br L oid g_1 1) g_3).kind)&&decide ((iH L (br L oid g_1 1) g_3).kind<=10))||eN (gp L (eu L (bp L oid g_1) (cg L oid g_1))
  (cg L oid g_1) g_3) (bd (Key.mk (iH L (br L oid g_1 1) g_3).kind (iH L (br L oid g_1 1) g_3).oid (iH L (br L oid g_1 1) g_3).count (iH L (br L oid g_1 1) g_3).call (iH L (br L oid g_1 1)
  g_3).rights 0)))=true->aP IntKind.i64 (g_3+1)/\∃g',bK g'/\(16-g').toNat<(16-g_3).toNat/\oid=oid/\g_1=g_1/\br L oid g_1 0=br L oid g_1 0/\g_3+1=g'/\L=L/\br L
  oid g_1 0=br L oid g_1 0/\br L oid g_1 1=br L oid g_1 1/\br L oid g_1 2=br L oid g_1 2/\br L oid g_1 3=br L oid g_1 3/\br L oid g_1 4=br L oid g_1 4/\gp L (eu L (bp L oid
  g_1) (cg L oid g_1)) (cg L oid g_1) g_3=gp L (eu L (bp L oid g_1) (cg L oid g_1)) (cg L oid g_1) g')/\((!(decide (2<=(iH L (br L oid g_1 1) g_3).kind)&&decide ((iH L (br L oid g_1
  1) g_3).kind<=10))||eN (gp L (eu L (bp L oid g_1) (cg L oid g_1)) (cg L oid g_1) g_3) (bd (Key.mk (iH L (br L oid g_1 1) g_3).kind (iH L (br L oid g_1 1) g_3).oid (iH L (br L oid
  g_1 1) g_3).count (iH L (br L oid g_1 1) g_3).call (iH L (br L oid g_1 1) g_3).rights 0)))=false->jg (aa (gp L (eu L (bp L oid g_1) (cg L oid g_1)) (cg L oid g_1) g_3)) 40/\eh
  (aa (gp L (eu L (bp L oid g_1) (cg L oid g_1)) (cg L oid g_1) g_3)) 40/\aP IntKind.i64 (g_3+1)/\∃g',bK g'/\(16-g').toNat<(16-g_3).toNat/\oid=oid/\g_1=g_1/\br L oid
  g_1 0=br L oid g_1 0/\g_3+1=g'/\L=L/\br L oid g_1 0=br L oid g_1 0/\br L oid g_1 1=br L oid g_1 1/\br L oid g_1 2=br L oid g_1 2/\br L oid g_1 3=br L oid g_1 3/\br L
  oid g_1 4=br L oid g_1 4/\ba (gp L (eu L (bp L oid g_1) (cg L oid g_1)) (cg L oid g_1) g_3) [(iH L (br L oid g_1 1) g_3).kind,(iH L (br L oid g_1 1) g_3).oid,(iH L (br L oid g_1
  1) g_3).count,(iH L (br L oid g_1 1) g_3).call,(iH L (br L oid g_1 1) g_3).rights]=gp L (eu L (bp L oid g_1) (cg L oid g_1)) (cg L oid g_1) g'))/\(decide (g_3<16)=false->true=
  true/\true=true/\((!!(decide ((2:Int)<=6)&&decide ((6:Int)<=10)))=true->dF (gp L (eu L (bp L oid g_1) (cg L oid g_1)) (cg L oid g_1) g_3))/\((!(decide ((2:Int)<=6)&&
  decide ((6:Int)<=10))||eN (gp L (eu L (bp L oid g_1) (cg L oid g_1)) (cg L oid g_1) g_3) (bd (Key.mk 6 (br L oid g_1 1) (br L oid g_1 2) void.call void.rights 0)))=true->aP
  IntKind.i64 (g_1+1)/\∃g',kZ L oid g'/\(10000-g').toNat<(10000-g_1).toNat/\oid=oid/\g_1+1=g'/\L=L/\gp L (eu L (bp L oid g_1) (cg L oid g_1)) (cg L oid g_1) g_3=bp
  L oid g')/\((!(decide ((2:Int)<=6)&&decide ((6:Int)<=10))||eN (gp L (eu L (bp L oid g_1) (cg L oid g_1)) (cg L oid g_1) g_3) (bd (Key.mk 6 (br L oid g_1 1) (br L oid g_1 2)
  void.call void.rights 0)))=false->jg (aa (gp L (eu L (bp L oid g_1) (cg L oid g_1)) (cg L oid g_1) g_3)) 40/\eh (aa (gp L (eu L (bp L oid g_1) (cg L oid g_1)) (cg L oid
  g_1) g_3)) 40/\aP IntKind.i64 (g_1+1)/\∃g',kZ L oid g'/\(10000-g').toNat<(10000-g_1).toNat/\oid=oid/\g_1+1=g'/\L=L/\ba (gp L (eu L (bp L oid g_1) (cg L oid g_1))
  (cg L oid g_1) g_3) [6,br L oid g_1 1,br L oid g_1 2,void.call,void.rights]=bp L oid g')))/\(decide (br L oid g_1 0=5)=false->aP IntKind.i64 (g_1+1)/\∃g',kZ L oid g'/\
  (10000-g').toNat<(10000-g_1).toNat/\oid=oid/\g_1+1=g'/\L=L/\eu L (bp L oid g_1) (cg L oid g_1)=bp L oid g'))/\(decide (g_1<aK (aa (bp L oid g_1)))=false->sO
  (bp L oid g_1)/\∀(nid:Nat),some (V.sa nid)=some (V.sa nid)/\some [ah.arr (some 43) 5 (TL.qs 5 (gX (bp L oid g_1)))]=some [ah.arr (some 43) 5 (TL.qs 5 (dt L oid))])):=by
 obtain⟨hL,hh⟩:=hQ;obtain⟨ho0,ho1⟩:=ec.1 hh;refine⟨⟨0,⟨by omega,by omega⟩,rfl,rfl,rfl,rfl⟩,fun g hg=>⟨fun hlt=>?_,fun hge=>?_⟩⟩
 ·have hlt:=Nc hlt;obtain⟨a1,a2,a3⟩:=JB (L:=L) (oid:=oid) hg;obtain⟨g0,g1⟩:=hg;have hm:aP IntKind.i64 (g+1):=by simp only[aP,bC];omega
  have hi:bK (g+1):=⟨by omega,by omega⟩
  have hnx:=Gp g0 hh;refine⟨⟨ho0,ho1⟩,⟨g0,hlt⟩,by show oid.toNat<L.length;omega,rfl,rfl,fun _=>a1,fun h=>⟨hm,g+1,hi,by omega,rfl,rfl,rfl,?_⟩,fun h=>⟨a2,a3,hm,g+1,hi,by omega,rfl,rfl,rfl,?_⟩⟩
  ·rw[hnx];exact oi h
  ·rw[hnx];exact qZ h
 have hge:=Nb hge;have hg16:g=16:=by have:=hg.2;omega
 subst hg16;refine⟨⟨0,⟨by omega,Int.natCast_nonneg _,by omega⟩,rfl,rfl,rfl,rfl⟩,fun n hn=>⟨fun hlt=>?_,fun hge=>?_⟩⟩
 ·have hlt:=Nc hlt;have hlt:n<((bp L oid n).length:Int):=hlt;obtain⟨e1,e2,e3⟩:=Li hn.1 hlt;obtain⟨b1,b2,b3⟩:=yN hL oid n;obtain⟨i1,i2,i3⟩:=II hL hn hlt;have hp:=F2 _ (j9 _ _ e2);rw[<-e1]at hp;have hn0:=hn.1;clear e1 e2 hge;refine⟨⟨hn0,hlt⟩,by show n.toNat<(bp L oid n).length;omega,⟨fun h2=>?_,fun h2=>?_⟩,fun _ _=>⟨fun h5=>?_,fun h5=>?_⟩⟩
  ·have h2:(cg L oid n).kind=2:=Nc h2;have hv:=hp (by rw[h2];rfl)
   obtain⟨v0,v1⟩:=ec.1 hv;refine⟨⟨0,⟨by omega,by omega⟩,rfl,rfl,rfl,rfl,rfl,rfl,rfl,rfl,rfl,rfl,rfl⟩,fun i hi=>?_⟩
   obtain⟨c1,c2,c3⟩:=JJ (L:=L) (k:=cg L oid n) b1 (by omega) hi
   refine⟨fun hlt=>?_,fun hge=>?_⟩
   ·have hlt:=Nc hlt;obtain⟨g0,g1⟩:=hi;have hm:aP IntKind.i64 (i+1):=by simp only[aP,bC];omega
    have hi:bK (i+1):=⟨by omega,by omega⟩
    have hnx:=G3 (L:=L) (F:=bp L oid n) (k:=cg L oid n) g0;refine⟨⟨g0,hlt,v0,v1⟩,rfl,rfl,fun _=>c1,fun h=>⟨hm,i+1,hi,by omega,rfl,rfl,rfl,rfl,rfl,rfl,rfl,rfl,rfl,rfl,?_⟩,fun h=>⟨c2,c3,hm,i+1,hi,by omega,rfl,rfl,rfl,rfl,rfl,rfl,rfl,rfl,rfl,rfl,?_⟩⟩
    ·rw[hnx];exact oi h
    ·rw[hnx];exact qZ h
   ·have hge:=Nb hge;have hi16:i=16:=by have:=hi.2;omega
    subst hi16;have hw:fm L (bp L oid n) (cg L oid n) 16=ou L (bp L oid n) (cg L oid n).oid (bq (cg L oid n)) 16:=Ia hv
    have hn2:eu L (bp L oid n) (cg L oid n)=if(cg L oid n).rights=0 then rJ (fm L (bp L oid n) (cg L oid n) 16) (Eo (cg L oid n))else fm L (bp L oid n) (cg L oid n) 16:=by
     rw[hw];unfold eu;rw[Ng h2];rfl
    refine⟨fun h4=>?_,fun h4=>?_⟩
    ·have h4:(cg L oid n).rights=0:=Nc h4;rw[Ng h4]at hn2;refine⟨rfl,rfl,fun _=>c1,fun h=>⟨(),trivial,rfl,rfl,rfl,rfl,rfl,rfl,rfl,rfl,rfl,?_⟩,fun h=>⟨c2,c3,(),trivial,rfl,rfl,rfl,rfl,rfl,rfl,rfl,rfl,rfl,?_⟩⟩
     ·rw[hn2];exact oi (k:=Eo (cg L oid n)) h
     ·rw[hn2];exact qZ (k:=Eo (cg L oid n)) h
    ·have h4:¬(cg L oid n).rights=0:=Nb h4;rw[Nf h4]at hn2;exact⟨(),trivial,rfl,rfl,rfl,rfl,rfl,rfl,rfl,rfl,rfl,hn2.symm⟩
  ·have h2:¬(cg L oid n).kind=2:=Nb h2;refine⟨(),trivial,rfl,rfl,rfl,rfl,rfl,rfl,rfl,rfl,rfl,?_⟩;unfold eu;rw[Nf h2]
  ·have h5:(cg L oid n).kind=5:=Nc h5;have hv:=hp (by rw[h5];rfl)
   obtain⟨v0,v1⟩:=ec.1 hv;obtain⟨m1,m2⟩:=Iu (L:=L) (k:=cg L oid n) b1 b2;refine⟨⟨0,⟨by omega,by omega⟩,rfl,rfl,rfl,rfl,rfl,rfl,rfl,rfl,rfl,rfl,rfl⟩,fun i hi=>?_⟩
   obtain⟨c1,c2,c3⟩:=I4 (L:=L) (k:=cg L oid n) m1 m2 hi;refine⟨fun hlt=>?_,fun hge=>?_⟩
   ·have hlt:=Nc hlt;obtain⟨g0,g1⟩:=hi;have hm:aP IntKind.i64 (i+1):=by simp only[aP,bC];omega
    have hi:bK (i+1):=⟨by omega,by omega⟩
    have hnx:=As (L:=L) (F:=eu L (bp L oid n) (cg L oid n)) (k:=cg L oid n) g0 hv;refine⟨⟨v0,v1⟩,⟨g0,hlt⟩,by show(cg L oid n).oid.toNat<L.length;omega,rfl,rfl,fun _=>c1,fun h=>⟨hm,i+1,hi,by omega,rfl,rfl,rfl,rfl,rfl,rfl,rfl,rfl,rfl,rfl,?_⟩,fun h=>⟨c2,c3,hm,i+1,hi,by omega,rfl,rfl,rfl,rfl,rfl,rfl,rfl,rfl,rfl,rfl,?_⟩⟩
    ·rw[hnx];exact oi h
    ·rw[hnx];exact qZ h
   ·have hge:=Nb hge;have hi16:i=16:=by have:=hi.2;omega
    subst hi16
    have hn5:Em L (eu L (bp L oid n) (cg L oid n)) (cg L oid n)=rJ (gp L (eu L (bp L oid n) (cg L oid n)) (cg L oid n) 16) (Cx (cg L oid n)):=by
     unfold Em;rw[Ng h5];rfl
    refine⟨rfl,rfl,fun _=>c1,fun h=>⟨i2,n+1,i1,i3,rfl,rfl,rfl,?_⟩,fun h=>⟨c2,c3,i2,n+1,i1,i3,rfl,rfl,rfl,?_⟩⟩
    ·rw[e3,hn5];exact oi (k:=Cx (cg L oid n)) h
    ·rw[e3,hn5];exact qZ (k:=Cx (cg L oid n)) h
  ·have h5:¬(cg L oid n).kind=5:=Nb h5;refine⟨i2,n+1,i1,i3,rfl,rfl,rfl,?_⟩;rw[e3];unfold Em;rw[Nf h5]
 ·have hge:=Nb hge;have hge:¬n<((bp L oid n).length:Int):=hge;obtain⟨b1,b2,b3⟩:=yN hL oid n;refine⟨⟨b3,b1,b2⟩,fun nid=>⟨rfl,?_⟩⟩
  have hrc:nk L oid=bp L oid n:=qO (by have:=hn.2.2;omega) (by have:=hn.1;unfold bp at hge;omega)
  unfold dt;rw[hrc]
theorem I7:bW Try.prog 15 Kt:=vh (π:=fun _=> [3]) (bj vi (bj mJ dv)) (fun _=>by simp) (fun _ _=>rfl) fun a hq _=>by
  obtain⟨L,oid,_⟩:=a
  exact cK (inl:=(fun f=>f==28||f==54)) (ann:=(kg [(15,3,Md [0,1] (fun g=> [(6,.it .i64 g)]) 5 u7 5 (fun g=> .qs 5 (lg L oid g)) bK 16),(15,7,Jn [0,1] 7 5 (fun _ g=>bp L oid g) (fun _ g=>kZ L oid g) 10000),(15,13,Jn [0,1,7,8,9] 10 5 (fun U g=>fm L (Er U 5) (Jd U 8) g) (fun _ g=>bK g) 16),(15,20,Jn [0,1,7,8,9] 11 5 (fun U g=>gp L (Er U 5) (Jd U 8) g) (fun _ g=>bK g) 16),(15,2000018,L3 [0,1,7,8,9] 5 (fun U=>eu L (Er U 5) (Jd U 8)))])) (an xV (an GF (an xi (an D2 (an B0 az))))) cM (IF L oid hq) (by kernel_rfl)
end Go.Proofs.Ytmfbohanboiklaa
