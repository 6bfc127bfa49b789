import Derived.Test.YtlblcfaclmpekaaGreatCtSa
set_option linter.unusedSimpArgs false
set_option linter.unusedVariables false
namespace Go.Proofs.YtlblcfaclmpekaaGreat
open Go.Sx
set_option maxRecDepth 100000
theorem Ku:
 true=true/\true=true/\(ib 6=false->true=true/\False)/\(ib 6=true->true=true/\true=true/\true=true/\true=true/\true=true/\true=true/\(aq (vB 6)/\
  aw (ByteArray.mk (Array.mk []))/\gH 0)/\(decide (mz 0 (ke.mk 1 0 0 1 1 (ByteArray.mk (Array.mk [])) (-1) (-1) (-1) false 0)=0)&&decide ((aJ (vB 6) 0 (ke.mk 1 0 0 1 1
  (ByteArray.mk (Array.mk [])) (-1) (-1) (-1) false 0)).out=4)&&BC (aJ (vB 6) 0 (ke.mk 1 0 0 1 1 (ByteArray.mk (Array.mk [])) (-1) (-1) (-1) false 0)).ans.k0 (Key.mk 2 2 1 void.call
  void.rights void.value))=true):=by
 have st:aw (ByteArray.mk (Array.mk [])):=by unfold aw;decide
 have h1:aq (vB 6):=by unfold aq;kernel_rfl
 refine⟨rfl,rfl,fun h=>absurd h (by decide),fun _=>⟨rfl,rfl,rfl,rfl,rfl,rfl,⟨h1,st,by unfold gH;omega⟩,?_⟩⟩
 kernel_rfl
theorem L0:cV Tryz.prog 11 PS:=QI rfl (bK (inl:=(fun f=>f==12||f==29)) (ann:=aO) an (aC JP (aC cw (aC EM az))) Ku (by kernel_rfl))
theorem SR (x:List ke) (hx:Aq x):
 (decide (40<bH (ak x))=true->true=pj (oD x))/\(decide (40<bH (ak x))=false->(∃g,vu x g/\0=g/\ak x=ak x/\jg x=jg x)/\∀(g:Int),vu x g->(decide
  (g<bH (ak x))=true->(0<=g/\g< ↑(ak x))/\g.toNat<ak x/\aL IntKind.i64 (cE (ai x g.toNat nL).data)/\(decide (100<cE (ai x g.toNat nL).data)=true->true=pj (oD
  x))/\(decide (100<cE (ai x g.toNat nL).data)=false->aL IntKind.i64 (g+1)/\∃g',vu x g'/\(bH (ak x)-g').toNat<(bH (ak x)-g).toNat/\g+1=g'/\ak x=ak x/\jg
  x=jg x))/\(decide (g<bH (ak x))=false->false=pj (oD x))):=by
 refine⟨fun h=>?_,fun h=>⟨⟨0,⟨by omega,by omega,rfl⟩,rfl,rfl,rfl⟩,fun g hg=>⟨fun hlt=>?_,fun hge=>?_⟩⟩⟩
 ·unfold pj oD;simp only;rw[h];rfl
 ·obtain⟨g0,g1,g2⟩:=hg;have hlt:g<(ak x:Int):=Xs hlt;have hs:=hx g.toNat (by omega)
  have h40:¬40<(ak x:Int):=Xr h;have e:VA (Su (ai x g.toNat nL))=cE (ai x g.toNat nL).data:=rfl;refine⟨⟨g0,hlt⟩,by omega,by unfold aw at hs;simp only[aL,cg,cE];omega,fun h1=>?_,fun h1=>⟨by simp only[aL,cg];omega,g+1,⟨by omega,by omega,?_⟩,by unfold bH;omega,rfl,rfl,rfl⟩⟩
  ·have h1:=Xs h1;unfold pj oD;simp only;rw[A8 (F:=fun i=>Su (ai x i nL)) (j:=g.toNat) (by omega) (by rw[e];exact h1) (ak x) (by omega),Bool.or_true]
  ·have h1:=Xr h1;rw[show(g+1).toNat=g.toNat+1 by omega]
   exact GZ g2 (by rw[e];exact h1)
 ·obtain⟨g0,g1,g2⟩:=hg;have hge:¬g<(ak x:Int):=Xr hge;rw[show g.toNat=ak x by omega]at g2
  unfold pj oD;simp only;rw[h,g2];rfl
theorem SO:cV Tryz.prog 10 T9:=
 jT (aM QS dM) (fun _=>rfl) fun a hq hok=>by
  obtain⟨_,_⟩:=a;obtain⟨x,rfl,hx⟩:=hq;exact bd (inl:=bS) (ann:=(kg [(10,4,Uz [0] (fun g=> [(3,.it .i64 g)]) (vu x) (bH (ak x)))])) an (SR x hx) (by kernel_rfl)
end Go.Proofs.YtlblcfaclmpekaaGreat
