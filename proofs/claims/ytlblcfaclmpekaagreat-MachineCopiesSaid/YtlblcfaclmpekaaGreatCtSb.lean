import Derived.Test.YtlblcfaclmpekaaGreatCtSa
set_option linter.unusedSimpArgs false
set_option linter.unusedVariables false
namespace Go.Proofs.YtlblcfaclmpekaaGreat
open Go.Sx
set_option maxRecDepth 100000
theorem IM:
 true=true/\true=true/\(fy 6=false->true=true/\False)/\(fy 6=true->true=true/\true=true/\true=true/\true=true/\true=true/\true=true/\(aw (ab 6)/\
  az (ByteArray.mk (Array.mk []))/\gF 0)/\(decide (g9 0 (k9.mk 1 0 0 1 1 (ByteArray.mk (Array.mk [])) (-1) (-1) (-1) false 0)=0)&&decide ((aM (ab 6) 0 (k9.mk 1 0 0 1 1
  (ByteArray.mk (Array.mk [])) (-1) (-1) (-1) false 0)).out=4)&&GR (aM (ab 6) 0 (k9.mk 1 0 0 1 1 (ByteArray.mk (Array.mk [])) (-1) (-1) (-1) false 0)).ans.k0 (Key.mk 2 2 1 void.call
  void.rights void.value))=true):=by
 have st:az (ByteArray.mk (Array.mk [])):=by unfold az;decide
 have h1:aw (ab 6):=by unfold aw;kernel_rfl
 refine⟨rfl,rfl,fun h=>absurd h (by decide),fun _=>⟨rfl,rfl,rfl,rfl,rfl,rfl,⟨h1,st,by unfold gF;omega⟩,?_⟩⟩
 kernel_rfl
theorem KV:dD Tryz.prog 11 On:=Ri rfl (bR (inl:=(fun f=>f==12||f==29)) (ann:=aV) ay (aF Jv (aF cx (aF Eo aB))) IM (by kernel_rfl))
theorem PY (x:List k9) (hx:pA x):
 (decide (40<bU (an x))=true->true=iS (ai x))/\(decide (40<bU (an x))=false->(∃g,uS x g/\0=g/\an x=an x/\BX x=BX x)/\∀(g:Int),uS x g->(decide
  (g<bU (an x))=true->(0<=g/\g< ↑(an x))/\g.toNat<an x/\aP IntKind.i64 (cC (aq x g.toNat gN).data)/\(decide (100<cC (aq x g.toNat gN).data)=true->true=iS (ai
  x))/\(decide (100<cC (aq x g.toNat gN).data)=false->aP IntKind.i64 (g+1)/\∃g',uS x g'/\(bU (an x)-g').toNat<(bU (an x)-g).toNat/\g+1=g'/\an x=an x/\BX
  x=BX x))/\(decide (g<bU (an x))=false->false=iS (ai x))):=by
 refine⟨fun h=>?_,fun h=>⟨⟨0,⟨by omega,by omega,rfl⟩,rfl,rfl,rfl⟩,fun g hg=>⟨fun hlt=>?_,fun hge=>?_⟩⟩⟩
 ·unfold iS ai;simp only;rw[h];rfl
 ·obtain⟨g0,g1,g2⟩:=hg;have hlt:g<(an x:Int):=VO hlt;have hs:=hx g.toNat (by omega)
  have h40:¬40<(an x:Int):=VN h;have e:TG (Lz (aq x g.toNat gN))=cC (aq x g.toNat gN).data:=rfl;refine⟨⟨g0,hlt⟩,by omega,by unfold az at hs;simp only[aP,cj,cC];omega,fun h1=>?_,fun h1=>⟨by simp only[aP,cj];omega,g+1,⟨by omega,by omega,?_⟩,by unfold bU;omega,rfl,rfl,rfl⟩⟩
  ·have h1:=VO h1;unfold iS ai;simp only;rw[BV (F:=fun i=>Lz (aq x i gN)) (j:=g.toNat) (by omega) (by rw[e];exact h1) (an x) (by omega),Bool.or_true]
  ·have h1:=VN h1;rw[show(g+1).toNat=g.toNat+1 by omega]
   exact FC g2 (by rw[e];exact h1)
 ·obtain⟨g0,g1,g2⟩:=hg;have hge:¬g<(an x:Int):=VN hge;rw[show g.toNat=an x by omega]at g2
  unfold iS ai;simp only;rw[h,g2];rfl
theorem P9:dD Tryz.prog 10 SA:=
 jH (aQ Qu dU) (fun _=>rfl) fun a hq hok=>by
  obtain⟨_,_⟩:=a;obtain⟨x,rfl,hx⟩:=hq;exact bx (inl:=ca) (ann:=(lr [(10,4,TV [0] (fun g=> [(3,.it .i64 g)]) (uS x) (bU (an x)))])) ay (PY x hx) (by kernel_rfl)
end Go.Proofs.YtlblcfaclmpekaaGreat
