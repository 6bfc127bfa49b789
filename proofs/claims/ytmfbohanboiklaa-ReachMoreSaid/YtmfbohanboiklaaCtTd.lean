import Derived.Test.YtmfbohanboiklaaCtTc
import Derived.Test.YtmfbohanboiklaaSpHe
set_option linter.unusedSimpArgs false
set_option linter.unusedVariables false
namespace Go.Proofs.Ytmfbohanboiklaa
open Go.Sx
set_option maxRecDepth 100000
theorem IJ (L:List Sx.Obj) (oid:Int) (hQ:wc L oid):
 (∃g,bR g/\oid=oid/\0=g/\L=L/\ []=lD L oid g)/\∀(g:Int),bR g->(decide (g<16)=true->(0<=oid/\oid< ↑(aa L))/\(0<=g/\g< ↑16)/\oid.toNat<aa L/\true=true
  /\true=true/\((!!(decide (2<=(iK L oid g).kind)&&decide ((iK L oid g).kind<=10)))=true->c9 (lD L oid g))/\((!(decide (2<=(iK L oid g).kind)&&decide ((iK L oid g).kind<=10))||
  eR (lD L oid g) (bc (Key.mk (iK L oid g).kind (iK L oid g).oid (iK L oid g).count (iK L oid g).call (iK L oid g).rights 0)))=true->aO IntKind.i64 (g+1)/\∃g',bR g'/\(16-
  g').toNat<(16-g).toNat/\oid=oid/\g+1=g'/\L=L/\lD L oid g=lD L oid g')/\((!(decide (2<=(iK L oid g).kind)&&decide ((iK L oid g).kind<=10))||eR (lD L oid g) (bc
  (Key.mk (iK L oid g).kind (iK L oid g).oid (iK L oid g).count (iK L oid g).call (iK L oid g).rights 0)))=false->jG (aa (lD L oid g)) 40/\ep (aa (lD L oid g)) 40/\aO IntKind.i64
  (g+1)/\∃g',bR g'/\(16-g').toNat<(16-g).toNat/\oid=oid/\g+1=g'/\L=L/\bg (lD L oid g) [(iK L oid g).kind,(iK L oid g).oid,(iK L oid g).count,(iK L oid g).call,
  (iK L oid g).rights]=lD L oid g'))/\(decide (g<16)=false->(∃g_1,lN L oid g_1/\oid=oid/\0=g_1/\L=L/\lD L oid g=bq L oid g_1)/\∀(g_1:Int),lN L oid g_1->(decide
  (g_1<aJ (aa (bq L oid g_1)))=true->(0<=g_1/\g_1< ↑(aa (bq L oid g_1)))/\g_1.toNat<aa (bq L oid g_1)/\((decide (bw L oid g_1 0=2)=true->(∃g,bR g/\oid=oid/\g_1=
  g_1/\bw L oid g_1 0=bw L oid g_1 0/\0=g/\L=L/\bw L oid g_1 0=bw L oid g_1 0/\bw L oid g_1 1=bw L oid g_1 1/\bw L oid g_1 2=bw L oid g_1 2/\bw L oid g_1 3=bw L oid g_1 3/\
  bw L oid g_1 4=bw L oid g_1 4/\bq L oid g_1=fD L (bq L oid g_1) (ck L oid g_1) g)/\∀(g_2:Int),bR g_2->(decide (g_2<16)=true->vt L (ck L oid g_1) g_2/\true=true/\
  true=true/\((!!(decide (2<=(dc L (ck L oid g_1) g_2).kind)&&decide ((dc L (ck L oid g_1) g_2).kind<=10)))=true->c9 (fD L (bq L oid g_1) (ck L oid g_1) g_2))/\((!(decide (2<=
  (dc L (ck L oid g_1) g_2).kind)&&decide ((dc L (ck L oid g_1) g_2).kind<=10))||eR (fD L (bq L oid g_1) (ck L oid g_1) g_2) (bc (Key.mk (dc L (ck L oid g_1) g_2).kind (dc L
  (ck L oid g_1) g_2).oid (dc L (ck L oid g_1) g_2).count (dc L (ck L oid g_1) g_2).call (dc L (ck L oid g_1) g_2).rights 0)))=true->aO IntKind.i64 (g_2+1)/\∃g',bR g'/\(16-
  g').toNat<(16-g_2).toNat/\oid=oid/\g_1=g_1/\bw L oid g_1 0=bw L oid g_1 0/\g_2+1=g'/\L=L/\bw L oid g_1 0=bw L oid g_1 0/\bw L oid g_1 1=bw L oid g_1 1/\bw L oid g_1 2
  =bw L oid g_1 2/\bw L oid g_1 3=bw L oid g_1 3/\bw L oid g_1 4=bw L oid g_1 4/\fD L (bq L oid g_1) (ck L oid g_1) g_2=fD L (bq L oid g_1) (ck L oid g_1) g')/\((!(decide (2<=
  (dc L (ck L oid g_1) g_2).kind)&&decide ((dc L (ck L oid g_1) g_2).kind<=10))||eR (fD L (bq L oid g_1) (ck L oid g_1) g_2) (bc (Key.mk (dc L (ck L oid g_1) g_2).kind (dc L
  (ck L oid g_1) g_2).oid (dc L (ck L oid g_1) g_2).count (dc L (ck L oid g_1) g_2).call (dc L (ck L oid g_1) g_2).rights 0)))=false->jG (aa (fD L (bq L oid g_1) (ck L oid g_1)
  g_2)) 40/\ep (aa (fD L (bq L oid g_1) (ck L oid g_1) g_2)) 40/\aO IntKind.i64 (g_2+1)/\∃g',bR g'/\(16-g').toNat<(16-g_2).toNat/\oid=oid/\g_1=g_1/\bw L oid g_1 0=
  bw L oid g_1 0/\g_2+1=g'/\L=L/\bw L oid g_1 0=bw L oid g_1 0/\bw L oid g_1 1=bw L oid g_1 1/\bw L oid g_1 2=bw L oid g_1 2/\bw L oid g_1 3=bw L oid g_1 3/\bw L oid g_1 4
  =bw L oid g_1 4/\bg (fD L (bq L oid g_1) (ck L oid g_1) g_2) [(dc L (ck L oid g_1) g_2).kind,(dc L (ck L oid g_1) g_2).oid,(dc L (ck L oid g_1) g_2).count,(dc L (ck L oid
  g_1) g_2).call,(dc L (ck L oid g_1) g_2).rights]=fD L (bq L oid g_1) (ck L oid g_1) g'))/\(decide (g_2<16)=false->(decide (bw L oid g_1 4=0)=true->true=true/\true=true/\
  ((!!(decide ((2:Int)<=5)&&decide ((5:Int)<=10)))=true->c9 (fD L (bq L oid g_1) (ck L oid g_1) g_2))/\((!(decide ((2:Int)<=5)&&decide ((5:Int)<=10))||eR (fD L (bq L
  oid g_1) (ck L oid g_1) g_2) (bc (Key.mk 5 (bw L oid g_1 1) (bw L oid g_1 2) void.call void.rights 0)))=true->∃g:Unit,True/\oid=oid/\g_1=g_1/\bw L oid g_1 0=bw L oid g_1 0/\L=
  L/\bw L oid g_1 0=bw L oid g_1 0/\bw L oid g_1 1=bw L oid g_1 1/\bw L oid g_1 2=bw L oid g_1 2/\bw L oid g_1 3=bw L oid g_1 3/\bw L oid g_1 4=bw L oid g_1 4/\fD L (bq L
  oid g_1) (ck L oid g_1) g_2=eu L (bq L oid g_1) (ck L oid g_1))/\((!(decide ((2:Int)<=5)&&decide ((5:Int)<=10))||eR (fD L (bq L oid g_1) (ck L oid g_1) g_2) (bc (Key.mk 5
  (bw L oid g_1 1) (bw L oid g_1 2) void.call void.rights 0)))=false->jG (aa (fD L (bq L oid g_1) (ck L oid g_1) g_2)) 40/\ep (aa (fD L (bq L oid g_1) (ck L oid g_1) g_2)) 40/\∃
  g:Unit,True/\oid=oid/\g_1=g_1/\bw L oid g_1 0=bw L oid g_1 0/\L=L/\bw L oid g_1 0=bw L oid g_1 0/\bw L oid g_1 1=bw L oid g_1 1/\bw L oid g_1 2=bw L oid g_1 2/\bw L
  oid g_1 3=bw L oid g_1 3/\bw L oid g_1 4=bw L oid g_1 4/\bg (fD L (bq L oid g_1) (ck L oid g_1) g_2) [5,bw L oid g_1 1,bw L oid g_1 2,void.call,void.rights]=eu L (bq L oid
  g_1) (ck L oid g_1)))/\(decide (bw L oid g_1 4=0)=false->∃g:Unit,True/\oid=oid/\g_1=g_1/\bw L oid g_1 0=bw L oid g_1 0/\L=L/\bw L oid g_1 0=bw L oid g_1 0/\bw L oid g_1
  1=bw L oid g_1 1/\bw L oid g_1 2=bw L oid g_1 2/\bw L oid g_1 3=bw L oid g_1 3/\bw L oid g_1 4=bw L oid g_1 4/\fD L (bq L oid g_1) (ck L oid g_1) g_2=eu L (bq L oid g_1)
  (ck L oid g_1))))/\(decide (bw L oid g_1 0=2)=false->∃g:Unit,True/\oid=oid/\g_1=g_1/\bw L oid g_1 0=bw L oid g_1 0/\L=L/\bw L oid g_1 0=bw L oid g_1 0/\bw L oid g_1 1=
  bw L oid g_1 1/\bw L oid g_1 2=bw L oid g_1 2/\bw L oid g_1 3=bw L oid g_1 3/\bw L oid g_1 4=bw L oid g_1 4/\bq L oid g_1=eu L (bq L oid g_1) (ck L oid g_1)))/\∀(g_2:
  Unit),True->(decide (bw L oid g_1 0=5)=true->(∃g,bR g/\oid=oid/\g_1=g_1/\bw L oid g_1 0=bw L oid g_1 0/\0=g/\L=L/\bw L oid g_1 0=bw L oid g_1 0/\bw L oid g_1 1=
  bw L oid g_1 1/\bw L oid g_1 2=bw L oid g_1 2/\bw L oid g_1 3=bw L oid g_1 3/\bw L oid g_1 4=bw L oid g_1 4/\eu L (bq L oid g_1) (ck L oid g_1)=gu L (eu L (bq L oid g_1)
  (ck L oid g_1)) (ck L oid g_1) g)/\∀(g_3:Int),bR g_3->(decide (g_3<16)=true->(0<=bw L oid g_1 1/\bw L oid g_1 1< ↑(aa L))/\(0<=g_3/\g_3< ↑16)/\(bw L oid g_1 1).toNat<
  aa L/\true=true/\true=true/\((!!(decide (2<=(iK L (bw L oid g_1 1) g_3).kind)&&decide ((iK L (bw L oid g_1 1) g_3).kind<=10)))=true->c9 (gu L (eu L (bq L oid g_1) (ck L
  oid g_1)) (ck L oid g_1) g_3))/\((!(decide (2<=(iK L (bw L oid g_1 1) g_3).kind)&&decide ((iK L (bw L oid g_1 1) g_3).kind<=10))||eR (gu L (eu L (bq L oid g_1) (ck L oid g_1))
  (ck L oid g_1) g_3) (bc (Key.mk (iK L (bw L oid g_1 1) g_3).kind (iK L (bw L oid g_1 1) g_3).oid (iK L (bw L oid g_1 1) g_3).count (iK L (bw L oid g_1 1) g_3).call (iK L (bw L oid g_1 1)
  g_3).rights 0)))=true->aO IntKind.i64 (g_3+1)/\∃g',bR g'/\(16-g').toNat<(16-g_3).toNat/\oid=oid/\g_1=g_1/\bw L oid g_1 0=bw L oid g_1 0/\g_3+1=g'/\L=L/\bw L
  oid g_1 0=bw L oid g_1 0/\bw L oid g_1 1=bw L oid g_1 1/\bw L oid g_1 2=bw L oid g_1 2/\bw L oid g_1 3=bw L oid g_1 3/\bw L oid g_1 4=bw L oid g_1 4/\gu L (eu L (bq L oid
  g_1) (ck L oid g_1)) (ck L oid g_1) g_3=gu L (eu L (bq L oid g_1) (ck L oid g_1)) (ck L oid g_1) g')/\((!(decide (2<=(iK L (bw L oid g_1 1) g_3).kind)&&decide ((iK L (bw L oid g_1
  1) g_3).kind<=10))||eR (gu L (eu L (bq L oid g_1) (ck L oid g_1)) (ck L oid g_1) g_3) (bc (Key.mk (iK L (bw L oid g_1 1) g_3).kind (iK L (bw L oid g_1 1) g_3).oid (iK L (bw L oid
  g_1 1) g_3).count (iK L (bw L oid g_1 1) g_3).call (iK L (bw L oid g_1 1) g_3).rights 0)))=false->jG (aa (gu L (eu L (bq L oid g_1) (ck L oid g_1)) (ck L oid g_1) g_3)) 40/\ep
  (aa (gu L (eu L (bq L oid g_1) (ck L oid g_1)) (ck L oid g_1) g_3)) 40/\aO IntKind.i64 (g_3+1)/\∃g',bR g'/\(16-g').toNat<(16-g_3).toNat/\oid=oid/\g_1=g_1/\bw L oid
  g_1 0=bw L oid g_1 0/\g_3+1=g'/\L=L/\bw L oid g_1 0=bw L oid g_1 0/\bw L oid g_1 1=bw L oid g_1 1/\bw L oid g_1 2=bw L oid g_1 2/\bw L oid g_1 3=bw L oid g_1 3/\bw L
  oid g_1 4=bw L oid g_1 4/\bg (gu L (eu L (bq L oid g_1) (ck L oid g_1)) (ck L oid g_1) g_3) [(iK L (bw L oid g_1 1) g_3).kind,(iK L (bw L oid g_1 1) g_3).oid,(iK L (bw L oid g_1
  1) g_3).count,(iK L (bw L oid g_1 1) g_3).call,(iK L (bw L oid g_1 1) g_3).rights]=gu L (eu L (bq L oid g_1) (ck L oid g_1)) (ck L oid g_1) g'))/\(decide (g_3<16)=false->true=
  true/\true=true/\((!!(decide ((2:Int)<=6)&&decide ((6:Int)<=10)))=true->c9 (gu L (eu L (bq L oid g_1) (ck L oid g_1)) (ck L oid g_1) g_3))/\((!(decide ((2:Int)<=6)&&
  decide ((6:Int)<=10))||eR (gu L (eu L (bq L oid g_1) (ck L oid g_1)) (ck L oid g_1) g_3) (bc (Key.mk 6 (bw L oid g_1 1) (bw L oid g_1 2) void.call void.rights 0)))=true->aO
  IntKind.i64 (g_1+1)/\∃g',lN L oid g'/\(10000-g').toNat<(10000-g_1).toNat/\oid=oid/\g_1+1=g'/\L=L/\gu L (eu L (bq L oid g_1) (ck L oid g_1)) (ck L oid g_1) g_3=bq
  L oid g')/\((!(decide ((2:Int)<=6)&&decide ((6:Int)<=10))||eR (gu L (eu L (bq L oid g_1) (ck L oid g_1)) (ck L oid g_1) g_3) (bc (Key.mk 6 (bw L oid g_1 1) (bw L oid g_1 2)
  void.call void.rights 0)))=false->jG (aa (gu L (eu L (bq L oid g_1) (ck L oid g_1)) (ck L oid g_1) g_3)) 40/\ep (aa (gu L (eu L (bq L oid g_1) (ck L oid g_1)) (ck L oid
  g_1) g_3)) 40/\aO IntKind.i64 (g_1+1)/\∃g',lN L oid g'/\(10000-g').toNat<(10000-g_1).toNat/\oid=oid/\g_1+1=g'/\L=L/\bg (gu L (eu L (bq L oid g_1) (ck L oid g_1))
  (ck L oid g_1) g_3) [6,bw L oid g_1 1,bw L oid g_1 2,void.call,void.rights]=bq L oid g')))/\(decide (bw L oid g_1 0=5)=false->aO IntKind.i64 (g_1+1)/\∃g',lN L oid g'/\
  (10000-g').toNat<(10000-g_1).toNat/\oid=oid/\g_1+1=g'/\L=L/\eu L (bq L oid g_1) (ck L oid g_1)=bq L oid g'))/\(decide (g_1<aJ (aa (bq L oid g_1)))=false->rM
  (bq L oid g_1)/\∀(nid:Nat),some (V.sa nid)=some (V.sa nid)/\some [ah.arr (some 43) 5 (TL.qs 5 (gJ (bq L oid g_1)))]=some [ah.arr (some 43) 5 (TL.qs 5 (aI L oid))])):=by
 obtain⟨hL,hh⟩:=hQ;obtain⟨ho0,ho1⟩:=de.1 hh;refine⟨⟨0,⟨by omega,by omega⟩,rfl,rfl,rfl,rfl⟩,fun g hg=>⟨fun hlt=>?_,fun hge=>?_⟩⟩
 ·have hlt:=NU hlt;obtain⟨a1,a2,a3⟩:=JX (L:=L) (oid:=oid) hg;obtain⟨g0,g1⟩:=hg;have hm:aO IntKind.i64 (g+1):=by simp only[aO,bE];omega
  have hi:bR (g+1):=⟨by omega,by omega⟩
  have hnx:=GC g0 hh;refine⟨⟨ho0,ho1⟩,⟨g0,hlt⟩,by show oid.toNat<L.length;omega,rfl,rfl,fun _=>a1,fun h=>⟨hm,g+1,hi,by omega,rfl,rfl,rfl,?_⟩,fun h=>⟨a2,a3,hm,g+1,hi,by omega,rfl,rfl,rfl,?_⟩⟩
  ·rw[hnx];exact oh h
  ·rw[hnx];exact rY h
 have hge:=NT hge;have hg16:g=16:=by have:=hg.2;omega
 subst hg16;refine⟨⟨0,⟨by omega,Int.natCast_nonneg _,by omega⟩,rfl,rfl,rfl,rfl⟩,fun n hn=>⟨fun hlt=>?_,fun hge=>?_⟩⟩
 ·have hlt:=NU hlt;have hlt:n<((bq L oid n).length:Int):=hlt;obtain⟨e1,e2,e3⟩:=Lk hn.1 hlt;obtain⟨b1,b2,b3⟩:=yv hL oid n;obtain⟨i1,i2,i3⟩:=IF hL hn hlt;have hp:=HR _ (jQ _ _ e2);rw[<-e1]at hp;have hn0:=hn.1;clear e1 e2 hge;refine⟨⟨hn0,hlt⟩,by show n.toNat<(bq L oid n).length;omega,⟨fun h2=>?_,fun h2=>?_⟩,fun _ _=>⟨fun h5=>?_,fun h5=>?_⟩⟩
  ·have h2:(ck L oid n).kind=2:=NU h2;have hv:=hp (by rw[h2];rfl)
   obtain⟨v0,v1⟩:=de.1 hv;refine⟨⟨0,⟨by omega,by omega⟩,rfl,rfl,rfl,rfl,rfl,rfl,rfl,rfl,rfl,rfl,rfl⟩,fun i hi=>?_⟩
   obtain⟨c1,c2,c3⟩:=JK (L:=L) (k:=ck L oid n) b1 (by omega) hi
   refine⟨fun hlt=>?_,fun hge=>?_⟩
   ·have hlt:=NU hlt;obtain⟨g0,g1⟩:=hi;have hm:aO IntKind.i64 (i+1):=by simp only[aO,bE];omega
    have hi:bR (i+1):=⟨by omega,by omega⟩
    have hnx:=HF (L:=L) (F:=bq L oid n) (k:=ck L oid n) g0;refine⟨⟨g0,hlt,v0,v1⟩,rfl,rfl,fun _=>c1,fun h=>⟨hm,i+1,hi,by omega,rfl,rfl,rfl,rfl,rfl,rfl,rfl,rfl,rfl,rfl,?_⟩,fun h=>⟨c2,c3,hm,i+1,hi,by omega,rfl,rfl,rfl,rfl,rfl,rfl,rfl,rfl,rfl,rfl,?_⟩⟩
    ·rw[hnx];exact oh h
    ·rw[hnx];exact rY h
   ·have hge:=NT hge;have hi16:i=16:=by have:=hi.2;omega
    subst hi16;have hw:fD L (bq L oid n) (ck L oid n) 16=oi L (bq L oid n) (ck L oid n).oid (br (ck L oid n)) 16:=IG hv
    have hn2:eu L (bq L oid n) (ck L oid n)=if(ck L oid n).rights=0 then tj (fD L (bq L oid n) (ck L oid n) 16) (DS (ck L oid n))else fD L (bq L oid n) (ck L oid n) 16:=by
     rw[hw];unfold eu;rw[NX h2];rfl
    refine⟨fun h4=>?_,fun h4=>?_⟩
    ·have h4:(ck L oid n).rights=0:=NU h4;rw[NX h4]at hn2;refine⟨rfl,rfl,fun _=>c1,fun h=>⟨(),trivial,rfl,rfl,rfl,rfl,rfl,rfl,rfl,rfl,rfl,?_⟩,fun h=>⟨c2,c3,(),trivial,rfl,rfl,rfl,rfl,rfl,rfl,rfl,rfl,rfl,?_⟩⟩
     ·rw[hn2];exact oh (k:=DS (ck L oid n)) h
     ·rw[hn2];exact rY (k:=DS (ck L oid n)) h
    ·have h4:¬(ck L oid n).rights=0:=NT h4;rw[NW h4]at hn2;exact⟨(),trivial,rfl,rfl,rfl,rfl,rfl,rfl,rfl,rfl,rfl,hn2.symm⟩
  ·have h2:¬(ck L oid n).kind=2:=NT h2;refine⟨(),trivial,rfl,rfl,rfl,rfl,rfl,rfl,rfl,rfl,rfl,?_⟩;unfold eu;rw[NW h2]
  ·have h5:(ck L oid n).kind=5:=NU h5;have hv:=hp (by rw[h5];rfl)
   obtain⟨v0,v1⟩:=de.1 hv;obtain⟨m1,m2⟩:=I3 (L:=L) (k:=ck L oid n) b1 b2;refine⟨⟨0,⟨by omega,by omega⟩,rfl,rfl,rfl,rfl,rfl,rfl,rfl,rfl,rfl,rfl,rfl⟩,fun i hi=>?_⟩
   obtain⟨c1,c2,c3⟩:=Kk (L:=L) (k:=ck L oid n) m1 m2 hi;refine⟨fun hlt=>?_,fun hge=>?_⟩
   ·have hlt:=NU hlt;obtain⟨g0,g1⟩:=hi;have hm:aO IntKind.i64 (i+1):=by simp only[aO,bE];omega
    have hi:bR (i+1):=⟨by omega,by omega⟩
    have hnx:=zR (L:=L) (F:=eu L (bq L oid n) (ck L oid n)) (k:=ck L oid n) g0 hv;refine⟨⟨v0,v1⟩,⟨g0,hlt⟩,by show(ck L oid n).oid.toNat<L.length;omega,rfl,rfl,fun _=>c1,fun h=>⟨hm,i+1,hi,by omega,rfl,rfl,rfl,rfl,rfl,rfl,rfl,rfl,rfl,rfl,?_⟩,fun h=>⟨c2,c3,hm,i+1,hi,by omega,rfl,rfl,rfl,rfl,rfl,rfl,rfl,rfl,rfl,rfl,?_⟩⟩
    ·rw[hnx];exact oh h
    ·rw[hnx];exact rY h
   ·have hge:=NT hge;have hi16:i=16:=by have:=hi.2;omega
    subst hi16
    have hn5:C9 L (eu L (bq L oid n) (ck L oid n)) (ck L oid n)=tj (gu L (eu L (bq L oid n) (ck L oid n)) (ck L oid n) 16) (D6 (ck L oid n)):=by
     unfold C9;rw[NX h5];rfl
    refine⟨rfl,rfl,fun _=>c1,fun h=>⟨i2,n+1,i1,i3,rfl,rfl,rfl,?_⟩,fun h=>⟨c2,c3,i2,n+1,i1,i3,rfl,rfl,rfl,?_⟩⟩
    ·rw[e3,hn5];exact oh (k:=D6 (ck L oid n)) h
    ·rw[e3,hn5];exact rY (k:=D6 (ck L oid n)) h
  ·have h5:¬(ck L oid n).kind=5:=NT h5;refine⟨i2,n+1,i1,i3,rfl,rfl,rfl,?_⟩;rw[e3];unfold C9;rw[NW h5]
 ·have hge:=NT hge;have hge:¬n<((bq L oid n).length:Int):=hge;obtain⟨b1,b2,b3⟩:=yv hL oid n;refine⟨⟨b3,b1,b2⟩,fun nid=>⟨rfl,?_⟩⟩
  have hrc:la L oid=bq L oid n:=rq (by have:=hn.2.2;omega) (by have:=hn.1;unfold bq at hge;omega)
  unfold aI;rw[hrc]
theorem Ka:bW Try.prog 15 KW:=vr (π:=fun _=> [3]) (a8 ve (a8 mX dn)) (fun _=>by simp) (fun _ _=>rfl) fun a hq _=>by
  obtain⟨L,oid,_⟩:=a
  exact cE (inl:=(fun f=>f==28||f==54)) (ann:=(jb [(15,3,Mo [0,1] (fun g=> [(6,.it .i64 g)]) 5 vq 5 (fun g=> .qs 5 (lD L oid g)) bR 16),(15,7,JO [0,1] 7 5 (fun _ g=>bq L oid g) (fun _ g=>lN L oid g) 10000),(15,13,JO [0,1,7,8,9] 10 5 (fun U g=>fD L (E1 U 5) (JU U 8) g) (fun _ g=>bR g) 16),(15,20,JO [0,1,7,8,9] 11 5 (fun U g=>gu L (E1 U 5) (JU U 8) g) (fun _ g=>bR g) 16),(15,2000018,MY [0,1,7,8,9] 5 (fun U=>eu L (E1 U 5) (JU U 8)))])) (ak xb (ak Hb (ak xd (ak CZ (ak BR aA))))) cH (IJ L oid hq) (by kernel_rfl)
end Go.Proofs.Ytmfbohanboiklaa
