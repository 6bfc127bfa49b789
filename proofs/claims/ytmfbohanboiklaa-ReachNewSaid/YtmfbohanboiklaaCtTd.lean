import Derived.Test.YtmfbohanboiklaaCtTc
import Derived.Test.YtmfbohanboiklaaSpHe
set_option linter.unusedSimpArgs false
set_option linter.unusedVariables false
namespace Go.Proofs.Ytmfbohanboiklaa
open Go.Sx
set_option maxRecDepth 100000
theorem KF (L:List Sx.Obj) (oid:Int) (hQ:rJ L oid):
 (∃g,bP g/\oid=oid/\0=g/\L=L/\ []=lH L oid g)/\∀(g:Int),bP g->(decide (g<16)=true->(0<=oid/\oid< ↑(aa L))/\(0<=g/\g< ↑16)/\oid.toNat<aa L/\true=true
  /\true=true/\((!!(decide (2<=(jh L oid g).kind)&&decide ((jh L oid g).kind<=10)))=true->cm (lH L oid g))/\((!(decide (2<=(jh L oid g).kind)&&decide ((jh L oid g).kind<=10))||
  fb (lH L oid g) (bd (Key.mk (jh L oid g).kind (jh L oid g).oid (jh L oid g).count (jh L oid g).call (jh L oid g).rights 0)))=true->aU IntKind.i64 (g+1)/\∃g',bP g'/\(16-
  g').toNat<(16-g).toNat/\oid=oid/\g+1=g'/\L=L/\lH L oid g=lH L oid g')/\((!(decide (2<=(jh L oid g).kind)&&decide ((jh L oid g).kind<=10))||fb (lH L oid g) (bd
  (Key.mk (jh L oid g).kind (jh L oid g).oid (jh L oid g).count (jh L oid g).call (jh L oid g).rights 0)))=false->jR (aa (lH L oid g)) 40/\eC (aa (lH L oid g)) 40/\aU IntKind.i64
  (g+1)/\∃g',bP g'/\(16-g').toNat<(16-g).toNat/\oid=oid/\g+1=g'/\L=L/\bg (lH L oid g) [(jh L oid g).kind,(jh L oid g).oid,(jh L oid g).count,(jh L oid g).call,
  (jh L oid g).rights]=lH L oid g'))/\(decide (g<16)=false->(∃g_1,lW L oid g_1/\oid=oid/\0=g_1/\L=L/\lH L oid g=bu L oid g_1)/\∀(g_1:Int),lW L oid g_1->(decide
  (g_1<aG (aa (bu L oid g_1)))=true->(0<=g_1/\g_1< ↑(aa (bu L oid g_1)))/\g_1.toNat<aa (bu L oid g_1)/\((decide (bB L oid g_1 0=2)=true->(∃g,bP g/\oid=oid/\g_1=
  g_1/\bB L oid g_1 0=bB L oid g_1 0/\0=g/\L=L/\bB L oid g_1 0=bB L oid g_1 0/\bB L oid g_1 1=bB L oid g_1 1/\bB L oid g_1 2=bB L oid g_1 2/\bB L oid g_1 3=bB L oid g_1 3/\
  bB L oid g_1 4=bB L oid g_1 4/\bu L oid g_1=fH L (bu L oid g_1) (cr L oid g_1) g)/\∀(g_2:Int),bP g_2->(decide (g_2<16)=true->vv L (cr L oid g_1) g_2/\true=true/\
  true=true/\((!!(decide (2<=(df L (cr L oid g_1) g_2).kind)&&decide ((df L (cr L oid g_1) g_2).kind<=10)))=true->cm (fH L (bu L oid g_1) (cr L oid g_1) g_2))/\((!(decide (2<=
  (df L (cr L oid g_1) g_2).kind)&&decide ((df L (cr L oid g_1) g_2).kind<=10))||fb (fH L (bu L oid g_1) (cr L oid g_1) g_2) (bd (Key.mk (df L (cr L oid g_1) g_2).kind (df L
  (cr L oid g_1) g_2).oid (df L (cr L oid g_1) g_2).count (df L (cr L oid g_1) g_2).call (df L (cr L oid g_1) g_2).rights 0)))=true->aU IntKind.i64 (g_2+1)/\∃g',bP g'/\(16-
  g').toNat<(16-g_2).toNat/\oid=oid/\g_1=g_1/\bB L oid g_1 0=bB L oid g_1 0/\g_2+1=g'/\L=L/\bB L oid g_1 0=bB L oid g_1 0/\bB L oid g_1 1=bB L oid g_1 1/\bB L oid g_1 2
  =bB L oid g_1 2/\bB L oid g_1 3=bB L oid g_1 3/\bB L oid g_1 4=bB L oid g_1 4/\fH L (bu L oid g_1) (cr L oid g_1) g_2=fH L (bu L oid g_1) (cr L oid g_1) g')/\((!(decide (2<=
  (df L (cr L oid g_1) g_2).kind)&&decide ((df L (cr L oid g_1) g_2).kind<=10))||fb (fH L (bu L oid g_1) (cr L oid g_1) g_2) (bd (Key.mk (df L (cr L oid g_1) g_2).kind (df L
  (cr L oid g_1) g_2).oid (df L (cr L oid g_1) g_2).count (df L (cr L oid g_1) g_2).call (df L (cr L oid g_1) g_2).rights 0)))=false->jR (aa (fH L (bu L oid g_1) (cr L oid g_1)
  g_2)) 40/\eC (aa (fH L (bu L oid g_1) (cr L oid g_1) g_2)) 40/\aU IntKind.i64 (g_2+1)/\∃g',bP g'/\(16-g').toNat<(16-g_2).toNat/\oid=oid/\g_1=g_1/\bB L oid g_1 0=
  bB L oid g_1 0/\g_2+1=g'/\L=L/\bB L oid g_1 0=bB L oid g_1 0/\bB L oid g_1 1=bB L oid g_1 1/\bB L oid g_1 2=bB L oid g_1 2/\bB L oid g_1 3=bB L oid g_1 3/\bB L oid g_1 4
  =bB L oid g_1 4/\bg (fH L (bu L oid g_1) (cr L oid g_1) g_2) [(df L (cr L oid g_1) g_2).kind,(df L (cr L oid g_1) g_2).oid,(df L (cr L oid g_1) g_2).count,(df L (cr L oid
  g_1) g_2).call,(df L (cr L oid g_1) g_2).rights]=fH L (bu L oid g_1) (cr L oid g_1) g'))/\(decide (g_2<16)=false->(decide (bB L oid g_1 4=0)=true->true=true/\true=true/\
  ((!!(decide ((2:Int)<=5)&&decide ((5:Int)<=10)))=true->cm (fH L (bu L oid g_1) (cr L oid g_1) g_2))/\((!(decide ((2:Int)<=5)&&decide ((5:Int)<=10))||fb (fH L (bu L
  oid g_1) (cr L oid g_1) g_2) (bd (Key.mk 5 (bB L oid g_1 1) (bB L oid g_1 2) void.call void.rights 0)))=true->∃g:Unit,True/\oid=oid/\g_1=g_1/\bB L oid g_1 0=bB L oid g_1 0/\L=
  L/\bB L oid g_1 0=bB L oid g_1 0/\bB L oid g_1 1=bB L oid g_1 1/\bB L oid g_1 2=bB L oid g_1 2/\bB L oid g_1 3=bB L oid g_1 3/\bB L oid g_1 4=bB L oid g_1 4/\fH L (bu L
  oid g_1) (cr L oid g_1) g_2=ez L (bu L oid g_1) (cr L oid g_1))/\((!(decide ((2:Int)<=5)&&decide ((5:Int)<=10))||fb (fH L (bu L oid g_1) (cr L oid g_1) g_2) (bd (Key.mk 5
  (bB L oid g_1 1) (bB L oid g_1 2) void.call void.rights 0)))=false->jR (aa (fH L (bu L oid g_1) (cr L oid g_1) g_2)) 40/\eC (aa (fH L (bu L oid g_1) (cr L oid g_1) g_2)) 40/\∃
  g:Unit,True/\oid=oid/\g_1=g_1/\bB L oid g_1 0=bB L oid g_1 0/\L=L/\bB L oid g_1 0=bB L oid g_1 0/\bB L oid g_1 1=bB L oid g_1 1/\bB L oid g_1 2=bB L oid g_1 2/\bB L
  oid g_1 3=bB L oid g_1 3/\bB L oid g_1 4=bB L oid g_1 4/\bg (fH L (bu L oid g_1) (cr L oid g_1) g_2) [5,bB L oid g_1 1,bB L oid g_1 2,void.call,void.rights]=ez L (bu L oid
  g_1) (cr L oid g_1)))/\(decide (bB L oid g_1 4=0)=false->∃g:Unit,True/\oid=oid/\g_1=g_1/\bB L oid g_1 0=bB L oid g_1 0/\L=L/\bB L oid g_1 0=bB L oid g_1 0/\bB L oid g_1
  1=bB L oid g_1 1/\bB L oid g_1 2=bB L oid g_1 2/\bB L oid g_1 3=bB L oid g_1 3/\bB L oid g_1 4=bB L oid g_1 4/\fH L (bu L oid g_1) (cr L oid g_1) g_2=ez L (bu L oid g_1)
  (cr L oid g_1))))/\(decide (bB L oid g_1 0=2)=false->∃g:Unit,True/\oid=oid/\g_1=g_1/\bB L oid g_1 0=bB L oid g_1 0/\L=L/\bB L oid g_1 0=bB L oid g_1 0/\bB L oid g_1 1=
  bB L oid g_1 1/\bB L oid g_1 2=bB L oid g_1 2/\bB L oid g_1 3=bB L oid g_1 3/\bB L oid g_1 4=bB L oid g_1 4/\bu L oid g_1=ez L (bu L oid g_1) (cr L oid g_1)))/\∀(g_2:
  Unit),True->(decide (bB L oid g_1 0=5)=true->(∃g,bP g/\oid=oid/\g_1=g_1/\bB L oid g_1 0=bB L oid g_1 0/\0=g/\L=L/\bB L oid g_1 0=bB L oid g_1 0/\bB L oid g_1 1=
  bB L oid g_1 1/\bB L oid g_1 2=bB L oid g_1 2/\bB L oid g_1 3=bB L oid g_1 3/\bB L oid g_1 4=bB L oid g_1 4/\ez L (bu L oid g_1) (cr L oid g_1)=gG L (ez L (bu L oid g_1)
  (cr L oid g_1)) (cr L oid g_1) g)/\∀(g_3:Int),bP g_3->(decide (g_3<16)=true->(0<=bB L oid g_1 1/\bB L oid g_1 1< ↑(aa L))/\(0<=g_3/\g_3< ↑16)/\(bB L oid g_1 1).toNat<
  aa L/\true=true/\true=true/\((!!(decide (2<=(jh L (bB L oid g_1 1) g_3).kind)&&decide ((jh L (bB L oid g_1 1) g_3).kind<=10)))=true->cm (gG L (ez L (bu L oid g_1) (cr L
  oid g_1)) (cr L oid g_1) g_3))/\((!(decide (2<=(jh L (bB L oid g_1 1) g_3).kind)&&decide ((jh L (bB L oid g_1 1) g_3).kind<=10))||fb (gG L (ez L (bu L oid g_1) (cr L oid g_1))
  (cr L oid g_1) g_3) (bd (Key.mk (jh L (bB L oid g_1 1) g_3).kind (jh L (bB L oid g_1 1) g_3).oid (jh L (bB L oid g_1 1) g_3).count (jh L (bB L oid g_1 1) g_3).call (jh L (bB L oid g_1 1)
  g_3).rights 0)))=true->aU IntKind.i64 (g_3+1)/\∃g',bP g'/\(16-g').toNat<(16-g_3).toNat/\oid=oid/\g_1=g_1/\bB L oid g_1 0=bB L oid g_1 0/\g_3+1=g'/\L=L/\bB L
  oid g_1 0=bB L oid g_1 0/\bB L oid g_1 1=bB L oid g_1 1/\bB L oid g_1 2=bB L oid g_1 2/\bB L oid g_1 3=bB L oid g_1 3/\bB L oid g_1 4=bB L oid g_1 4/\gG L (ez L (bu L oid
  g_1) (cr L oid g_1)) (cr L oid g_1) g_3=gG L (ez L (bu L oid g_1) (cr L oid g_1)) (cr L oid g_1) g')/\((!(decide (2<=(jh L (bB L oid g_1 1) g_3).kind)&&decide ((jh L (bB L oid g_1
  1) g_3).kind<=10))||fb (gG L (ez L (bu L oid g_1) (cr L oid g_1)) (cr L oid g_1) g_3) (bd (Key.mk (jh L (bB L oid g_1 1) g_3).kind (jh L (bB L oid g_1 1) g_3).oid (jh L (bB L oid
  g_1 1) g_3).count (jh L (bB L oid g_1 1) g_3).call (jh L (bB L oid g_1 1) g_3).rights 0)))=false->jR (aa (gG L (ez L (bu L oid g_1) (cr L oid g_1)) (cr L oid g_1) g_3)) 40/\eC
  (aa (gG L (ez L (bu L oid g_1) (cr L oid g_1)) (cr L oid g_1) g_3)) 40/\aU IntKind.i64 (g_3+1)/\∃g',bP g'/\(16-g').toNat<(16-g_3).toNat/\oid=oid/\g_1=g_1/\bB L oid
  g_1 0=bB L oid g_1 0/\g_3+1=g'/\L=L/\bB L oid g_1 0=bB L oid g_1 0/\bB L oid g_1 1=bB L oid g_1 1/\bB L oid g_1 2=bB L oid g_1 2/\bB L oid g_1 3=bB L oid g_1 3/\bB L
  oid g_1 4=bB L oid g_1 4/\bg (gG L (ez L (bu L oid g_1) (cr L oid g_1)) (cr L oid g_1) g_3) [(jh L (bB L oid g_1 1) g_3).kind,(jh L (bB L oid g_1 1) g_3).oid,(jh L (bB L oid g_1
  1) g_3).count,(jh L (bB L oid g_1 1) g_3).call,(jh L (bB L oid g_1 1) g_3).rights]=gG L (ez L (bu L oid g_1) (cr L oid g_1)) (cr L oid g_1) g'))/\(decide (g_3<16)=false->true=
  true/\true=true/\((!!(decide ((2:Int)<=6)&&decide ((6:Int)<=10)))=true->cm (gG L (ez L (bu L oid g_1) (cr L oid g_1)) (cr L oid g_1) g_3))/\((!(decide ((2:Int)<=6)&&
  decide ((6:Int)<=10))||fb (gG L (ez L (bu L oid g_1) (cr L oid g_1)) (cr L oid g_1) g_3) (bd (Key.mk 6 (bB L oid g_1 1) (bB L oid g_1 2) void.call void.rights 0)))=true->aU
  IntKind.i64 (g_1+1)/\∃g',lW L oid g'/\(10000-g').toNat<(10000-g_1).toNat/\oid=oid/\g_1+1=g'/\L=L/\gG L (ez L (bu L oid g_1) (cr L oid g_1)) (cr L oid g_1) g_3=bu
  L oid g')/\((!(decide ((2:Int)<=6)&&decide ((6:Int)<=10))||fb (gG L (ez L (bu L oid g_1) (cr L oid g_1)) (cr L oid g_1) g_3) (bd (Key.mk 6 (bB L oid g_1 1) (bB L oid g_1 2)
  void.call void.rights 0)))=false->jR (aa (gG L (ez L (bu L oid g_1) (cr L oid g_1)) (cr L oid g_1) g_3)) 40/\eC (aa (gG L (ez L (bu L oid g_1) (cr L oid g_1)) (cr L oid
  g_1) g_3)) 40/\aU IntKind.i64 (g_1+1)/\∃g',lW L oid g'/\(10000-g').toNat<(10000-g_1).toNat/\oid=oid/\g_1+1=g'/\L=L/\bg (gG L (ez L (bu L oid g_1) (cr L oid g_1))
  (cr L oid g_1) g_3) [6,bB L oid g_1 1,bB L oid g_1 2,void.call,void.rights]=bu L oid g')))/\(decide (bB L oid g_1 0=5)=false->aU IntKind.i64 (g_1+1)/\∃g',lW L oid g'/\
  (10000-g').toNat<(10000-g_1).toNat/\oid=oid/\g_1+1=g'/\L=L/\ez L (bu L oid g_1) (cr L oid g_1)=bu L oid g'))/\(decide (g_1<aG (aa (bu L oid g_1)))=false->tw
  (bu L oid g_1)/\∀(nid:Nat),some (V.sa nid)=some (V.sa nid)/\some [ai.arr (some 43) 5 (TL.qs 5 (ia (bu L oid g_1)))]=some [ai.arr (some 43) 5 (TL.qs 5 (ah L oid))])):=by
 obtain⟨hL,hh⟩:=hQ;obtain⟨ho0,ho1⟩:=iB.1 hh;refine⟨⟨0,⟨by omega,by omega⟩,rfl,rfl,rfl,rfl⟩,fun g hg=>⟨fun hlt=>?_,fun hge=>?_⟩⟩
 ·have hlt:=N7 hlt;obtain⟨a1,a2,a3⟩:=Ji (L:=L) (oid:=oid) hg;obtain⟨g0,g1⟩:=hg;have hm:aU IntKind.i64 (g+1):=by simp only[aU,bG];omega
  have hi:bP (g+1):=⟨by omega,by omega⟩
  have hnx:=GW g0 hh;refine⟨⟨ho0,ho1⟩,⟨g0,hlt⟩,by show oid.toNat<L.length;omega,rfl,rfl,fun _=>a1,fun h=>⟨hm,g+1,hi,by omega,rfl,rfl,rfl,?_⟩,fun h=>⟨a2,a3,hm,g+1,hi,by omega,rfl,rfl,rfl,?_⟩⟩
  ·rw[hnx];exact ou h
  ·rw[hnx];exact sQ h
 have hge:=N6 hge;have hg16:g=16:=by have:=hg.2;omega
 subst hg16;refine⟨⟨0,⟨by omega,Int.natCast_nonneg _,by omega⟩,rfl,rfl,rfl,rfl⟩,fun n hn=>⟨fun hlt=>?_,fun hge=>?_⟩⟩
 ·have hlt:=N7 hlt;have hlt:n<((bu L oid n).length:Int):=hlt;obtain⟨e1,e2,e3⟩:=Lh hn.1 hlt;obtain⟨b1,b2,b3⟩:=yp hL oid n;obtain⟨i1,i2,i3⟩:=Jt hL hn hlt;have hp:=Af _ (kh _ _ e2);rw[<-e1]at hp;have hn0:=hn.1;clear e1 e2 hge;refine⟨⟨hn0,hlt⟩,by show n.toNat<(bu L oid n).length;omega,⟨fun h2=>?_,fun h2=>?_⟩,fun _ _=>⟨fun h5=>?_,fun h5=>?_⟩⟩
  ·have h2:(cr L oid n).kind=2:=N7 h2;have hv:=hp (by rw[h2];rfl)
   obtain⟨v0,v1⟩:=iB.1 hv;refine⟨⟨0,⟨by omega,by omega⟩,rfl,rfl,rfl,rfl,rfl,rfl,rfl,rfl,rfl,rfl,rfl⟩,fun i hi=>?_⟩
   obtain⟨c1,c2,c3⟩:=Kc (L:=L) (k:=cr L oid n) b1 (by omega) hi
   refine⟨fun hlt=>?_,fun hge=>?_⟩
   ·have hlt:=N7 hlt;obtain⟨g0,g1⟩:=hi;have hm:aU IntKind.i64 (i+1):=by simp only[aU,bG];omega
    have hi:bP (i+1):=⟨by omega,by omega⟩
    have hnx:=G3 (L:=L) (F:=bu L oid n) (k:=cr L oid n) g0;refine⟨⟨g0,hlt,v0,v1⟩,rfl,rfl,fun _=>c1,fun h=>⟨hm,i+1,hi,by omega,rfl,rfl,rfl,rfl,rfl,rfl,rfl,rfl,rfl,rfl,?_⟩,fun h=>⟨c2,c3,hm,i+1,hi,by omega,rfl,rfl,rfl,rfl,rfl,rfl,rfl,rfl,rfl,rfl,?_⟩⟩
    ·rw[hnx];exact ou h
    ·rw[hnx];exact sQ h
   ·have hge:=N6 hge;have hi16:i=16:=by have:=hi.2;omega
    subst hi16;have hw:fH L (bu L oid n) (cr L oid n) 16=oC L (bu L oid n) (cr L oid n).oid (bJ (cr L oid n)) 16:=KG hv
    have hn2:ez L (bu L oid n) (cr L oid n)=if(cr L oid n).rights=0 then sg (fH L (bu L oid n) (cr L oid n) 16) (D9 (cr L oid n))else fH L (bu L oid n) (cr L oid n) 16:=by
     rw[hw];unfold ez;rw[Oa h2];rfl
    refine⟨fun h4=>?_,fun h4=>?_⟩
    ·have h4:(cr L oid n).rights=0:=N7 h4;rw[Oa h4]at hn2;refine⟨rfl,rfl,fun _=>c1,fun h=>⟨(),trivial,rfl,rfl,rfl,rfl,rfl,rfl,rfl,rfl,rfl,?_⟩,fun h=>⟨c2,c3,(),trivial,rfl,rfl,rfl,rfl,rfl,rfl,rfl,rfl,rfl,?_⟩⟩
     ·rw[hn2];exact ou (k:=D9 (cr L oid n)) h
     ·rw[hn2];exact sQ (k:=D9 (cr L oid n)) h
    ·have h4:¬(cr L oid n).rights=0:=N6 h4;rw[N9 h4]at hn2;exact⟨(),trivial,rfl,rfl,rfl,rfl,rfl,rfl,rfl,rfl,rfl,hn2.symm⟩
  ·have h2:¬(cr L oid n).kind=2:=N6 h2;refine⟨(),trivial,rfl,rfl,rfl,rfl,rfl,rfl,rfl,rfl,rfl,?_⟩;unfold ez;rw[N9 h2]
  ·have h5:(cr L oid n).kind=5:=N7 h5;have hv:=hp (by rw[h5];rfl)
   obtain⟨v0,v1⟩:=iB.1 hv;obtain⟨m1,m2⟩:=Jl (L:=L) (k:=cr L oid n) b1 b2;refine⟨⟨0,⟨by omega,by omega⟩,rfl,rfl,rfl,rfl,rfl,rfl,rfl,rfl,rfl,rfl,rfl⟩,fun i hi=>?_⟩
   obtain⟨c1,c2,c3⟩:=KD (L:=L) (k:=cr L oid n) m1 m2 hi;refine⟨fun hlt=>?_,fun hge=>?_⟩
   ·have hlt:=N7 hlt;obtain⟨g0,g1⟩:=hi;have hm:aU IntKind.i64 (i+1):=by simp only[aU,bG];omega
    have hi:bP (i+1):=⟨by omega,by omega⟩
    have hnx:=z6 (L:=L) (F:=ez L (bu L oid n) (cr L oid n)) (k:=cr L oid n) g0 hv;refine⟨⟨v0,v1⟩,⟨g0,hlt⟩,by show(cr L oid n).oid.toNat<L.length;omega,rfl,rfl,fun _=>c1,fun h=>⟨hm,i+1,hi,by omega,rfl,rfl,rfl,rfl,rfl,rfl,rfl,rfl,rfl,rfl,?_⟩,fun h=>⟨c2,c3,hm,i+1,hi,by omega,rfl,rfl,rfl,rfl,rfl,rfl,rfl,rfl,rfl,rfl,?_⟩⟩
    ·rw[hnx];exact ou h
    ·rw[hnx];exact sQ h
   ·have hge:=N6 hge;have hi16:i=16:=by have:=hi.2;omega
    subst hi16
    have hn5:EE L (ez L (bu L oid n) (cr L oid n)) (cr L oid n)=sg (gG L (ez L (bu L oid n) (cr L oid n)) (cr L oid n) 16) (Fs (cr L oid n)):=by
     unfold EE;rw[Oa h5];rfl
    refine⟨rfl,rfl,fun _=>c1,fun h=>⟨i2,n+1,i1,i3,rfl,rfl,rfl,?_⟩,fun h=>⟨c2,c3,i2,n+1,i1,i3,rfl,rfl,rfl,?_⟩⟩
    ·rw[e3,hn5];exact ou (k:=Fs (cr L oid n)) h
    ·rw[e3,hn5];exact sQ (k:=Fs (cr L oid n)) h
  ·have h5:¬(cr L oid n).kind=5:=N6 h5;refine⟨i2,n+1,i1,i3,rfl,rfl,rfl,?_⟩;rw[e3];unfold EE;rw[N9 h5]
 ·have hge:=N6 hge;have hge:¬n<((bu L oid n).length:Int):=hge;obtain⟨b1,b2,b3⟩:=yp hL oid n;refine⟨⟨b3,b1,b2⟩,fun nid=>⟨rfl,?_⟩⟩
  have hrc:ny L oid=bu L oid n:=qV (by have:=hn.2.2;omega) (by have:=hn.1;unfold bu at hge;omega)
  unfold ah;rw[hrc]
theorem JP:bV Try.prog 15 LH:=qX (π:=fun _=> [3]) (aI sZ (aI jP cM)) (fun _=>by simp) (fun _ _=>rfl) fun a hq _=>by
  obtain⟨L,oid,_⟩:=a
  exact cT (inl:=(fun f=>f==28||f==54)) (ann:=(jM [(15,3,Mt [0,1] (fun g=> [(6,.it .i64 g)]) 5 qH 5 (fun g=> .qs 5 (lH L oid g)) bP 16),(15,7,I6 [0,1] 7 5 (fun _ g=>bu L oid g) (fun _ g=>lW L oid g) 10000),(15,13,I6 [0,1,7,8,9] 10 5 (fun U g=>fH L (ED U 5) (Hp U 8) g) (fun _ g=>bP g) 16),(15,20,I6 [0,1,7,8,9] 11 5 (fun U g=>gG L (ED U 5) (Hp U 8) g) (fun _ g=>bP g) 16),(15,2000018,MG [0,1,7,8,9] 5 (fun U=>ez L (ED U 5) (Hp U 8)))])) (an wE (an HH (an rN (an DF (an Cs aB))))) cP (KF L oid hq) (by kernel_rfl)
end Go.Proofs.Ytmfbohanboiklaa
