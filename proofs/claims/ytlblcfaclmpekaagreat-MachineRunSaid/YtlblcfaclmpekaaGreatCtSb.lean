import Derived.Test.YtlblcfaclmpekaaGreatCtSa
set_option linter.unusedSimpArgs false
set_option linter.unusedVariables false
namespace Go.Proofs.YtlblcfaclmpekaaGreat
open Go.Sx
set_option maxRecDepth 100000
theorem HH:
 true=true/\true=true/\(dW 6=false->true=true/\False)/\(dW 6=true->true=true/\true=true/\true=true/\true=true/\true=true/\true=true/\(ar (ai 6)/\
  aw (ByteArray.mk (Array.mk []))/\gF 0)/\(decide (eT 0 (k7.mk 1 0 0 1 1 (ByteArray.mk (Array.mk [])) (-1) (-1) (-1) false 0)=0)&&decide ((aK (ai 6) 0 (k7.mk 1 0 0 1 1
  (ByteArray.mk (Array.mk [])) (-1) (-1) (-1) false 0)).out=4)&&Ar (aK (ai 6) 0 (k7.mk 1 0 0 1 1 (ByteArray.mk (Array.mk [])) (-1) (-1) (-1) false 0)).ans.k0 (Key.mk 2 2 1 void.call
  void.rights void.value))=true):=by
 have st:aw (ByteArray.mk (Array.mk [])):=by unfold aw;decide
 have h1:ar (ai 6):=by unfold ar;kernel_rfl
 refine⟨rfl,rfl,fun h=>absurd h (by decide),fun _=>⟨rfl,rfl,rfl,rfl,rfl,rfl,⟨h1,st,by unfold gF;omega⟩,?_⟩⟩
 kernel_rfl
theorem H7:dC Tryz.prog 11 Oj:=Pn rfl (bP (inl:=(fun f=>f==12||f==29)) (ann:=aR) au (aE Ja (aE cw (aE z7 aA))) HH (by kernel_rfl))
theorem Q7 (x:List k7) (hx:tV x):
 (decide (40<b6 (aq x))=true->true=kX (az x))/\(decide (40<b6 (aq x))=false->(∃g,uZ x g/\0=g/\aq x=aq x/\sB x=sB x)/\∀(g:Int),uZ x g->(decide
  (g<b6 (aq x))=true->(0<=g/\g< ↑(aq x))/\g.toNat<aq x/\aM IntKind.i64 (cC (ak x g.toNat cR).data)/\(decide (100<cC (ak x g.toNat cR).data)=true->true=kX (az
  x))/\(decide (100<cC (ak x g.toNat cR).data)=false->aM IntKind.i64 (g+1)/\∃g',uZ x g'/\(b6 (aq x)-g').toNat<(b6 (aq x)-g).toNat/\g+1=g'/\aq x=aq x/\sB
  x=sB x))/\(decide (g<b6 (aq x))=false->false=kX (az x))):=by
 refine⟨fun h=>?_,fun h=>⟨⟨0,⟨by omega,by omega,rfl⟩,rfl,rfl,rfl⟩,fun g hg=>⟨fun hlt=>?_,fun hge=>?_⟩⟩⟩
 ·unfold kX az;simp only;rw[h];rfl
 ·obtain⟨g0,g1,g2⟩:=hg;have hlt:g<(aq x:Int):=VK hlt;have hs:=hx g.toNat (by omega)
  have h40:¬40<(aq x:Int):=VJ h;have e:T3 (Lu (ak x g.toNat cR))=cC (ak x g.toNat cR).data:=rfl;refine⟨⟨g0,hlt⟩,by omega,by unfold aw at hs;simp only[aM,cj,cC];omega,fun h1=>?_,fun h1=>⟨by simp only[aM,cj];omega,g+1,⟨by omega,by omega,?_⟩,by unfold b6;omega,rfl,rfl,rfl⟩⟩
  ·have h1:=VK h1;unfold kX az;simp only;rw[BK (F:=fun i=>Lu (ak x i cR)) (j:=g.toNat) (by omega) (by rw[e];exact h1) (aq x) (by omega),Bool.or_true]
  ·have h1:=VJ h1;rw[show(g+1).toNat=g.toNat+1 by omega]
   exact Gq g2 (by rw[e];exact h1)
 ·obtain⟨g0,g1,g2⟩:=hg;have hge:¬g<(aq x:Int):=VJ hge;rw[show g.toNat=aq x by omega]at g2
  unfold kX az;simp only;rw[h,g2];rfl
theorem P7:dC Tryz.prog 10 S0:=
 jY (aN QQ dX) (fun _=>rfl) fun a hq hok=>by
  obtain⟨_,_⟩:=a;obtain⟨x,rfl,hx⟩:=hq;exact bu (inl:=ca) (ann:=(kV [(10,4,T5 [0] (fun g=> [(3,.it .i64 g)]) (uZ x) (b6 (aq x)))])) au (Q7 x hx) (by kernel_rfl)
end Go.Proofs.YtlblcfaclmpekaaGreat
