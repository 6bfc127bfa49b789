import Derived.Test.YtlblcfaclmpekaaGreatCtSa
set_option linter.unusedSimpArgs false
set_option linter.unusedVariables false
namespace Go.Proofs.YtlblcfaclmpekaaGreat
open Go.Sx
set_option maxRecDepth 100000
theorem HM:
 true=true/\true=true/\(fH 6=false->true=true/\False)/\(fH 6=true->true=true/\true=true/\true=true/\true=true/\true=true/\true=true/\(an (ew 6)/\
  au (ByteArray.mk (Array.mk []))/\jf 0)/\(decide (lF 0 (kh.mk 1 0 0 1 1 (ByteArray.mk (Array.mk [])) (-1) (-1) (-1) false 0)=0)&&decide ((aI (ew 6) 0 (kh.mk 1 0 0 1 1
  (ByteArray.mk (Array.mk [])) (-1) (-1) (-1) false 0)).out=4)&&Gi (aI (ew 6) 0 (kh.mk 1 0 0 1 1 (ByteArray.mk (Array.mk [])) (-1) (-1) (-1) false 0)).ans.k0 (Key.mk 2 2 1 void.call
  void.rights void.value))=true):=by
 have st:au (ByteArray.mk (Array.mk [])):=by unfold au;decide
 have h1:an (ew 6):=by unfold an;kernel_rfl
 refine⟨rfl,rfl,fun h=>absurd h (by decide),fun _=>⟨rfl,rfl,rfl,rfl,rfl,rfl,⟨h1,st,by unfold jf;omega⟩,?_⟩⟩
 kernel_rfl
theorem BB:dA Tryz.prog 11 Lm:=OX rfl (bL (inl:=(fun f=>f==12||f==29)) (ann:=aQ) aq (aB Cw (aB bY (aB Ey ay))) HM (by kernel_rfl))
theorem O5 (x:List kh) (hx:zG x):
 (decide (40<dJ (ar x))=true->true=ou (nO x))/\(decide (40<dJ (ar x))=false->(∃g,uO x g/\0=g/\ar x=ar x/\qc x=qc x)/\∀(g:Int),uO x g->(decide
  (g<dJ (ar x))=true->(0<=g/\g< ↑(ar x))/\g.toNat<ar x/\aL IntKind.i64 (ca (ai x g.toNat dB).data)/\(decide (100<ca (ai x g.toNat dB).data)=true->true=ou (nO
  x))/\(decide (100<ca (ai x g.toNat dB).data)=false->aL IntKind.i64 (g+1)/\∃g',uO x g'/\(dJ (ar x)-g').toNat<(dJ (ar x)-g).toNat/\g+1=g'/\ar x=ar x/\qc
  x=qc x))/\(decide (g<dJ (ar x))=false->false=ou (nO x))):=by
 refine⟨fun h=>?_,fun h=>⟨⟨0,⟨by omega,by omega,rfl⟩,rfl,rfl,rfl⟩,fun g hg=>⟨fun hlt=>?_,fun hge=>?_⟩⟩⟩
 ·unfold ou nO;simp only;rw[h];rfl
 ·obtain⟨g0,g1,g2⟩:=hg;have hlt:g<(ar x:Int):=UX hlt;have hs:=hx g.toNat (by omega)
  have h40:¬40<(ar x:Int):=UW h;have e:SS (KY (ai x g.toNat dB))=ca (ai x g.toNat dB).data:=rfl;refine⟨⟨g0,hlt⟩,by omega,by unfold au at hs;simp only[aL,b7,ca];omega,fun h1=>?_,fun h1=>⟨by simp only[aL,b7];omega,g+1,⟨by omega,by omega,?_⟩,by unfold dJ;omega,rfl,rfl,rfl⟩⟩
  ·have h1:=UX h1;unfold ou nO;simp only;rw[Bd (F:=fun i=>KY (ai x i dB)) (j:=g.toNat) (by omega) (by rw[e];exact h1) (ar x) (by omega),Bool.or_true]
  ·have h1:=UW h1;rw[show(g+1).toNat=g.toNat+1 by omega]
   exact F6 g2 (by rw[e];exact h1)
 ·obtain⟨g0,g1,g2⟩:=hg;have hge:¬g<(ar x:Int):=UW hge;rw[show g.toNat=ar x by omega]at g2
  unfold ou nO;simp only;rw[h,g2];rfl
theorem OT:dA Tryz.prog 10 Sw:=
 jB (aK Po dP) (fun _=>rfl) fun a hq hok=>by
  obtain⟨_,_⟩:=a;obtain⟨x,rfl,hx⟩:=hq;exact bx (inl:=cw) (ann:=(kW [(10,4,SX [0] (fun g=> [(3,.it .i64 g)]) (uO x) (dJ (ar x)))])) aq (O5 x hx) (by kernel_rfl)
end Go.Proofs.YtlblcfaclmpekaaGreat
