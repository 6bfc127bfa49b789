import Derived.Test.YtghpaegglbbocaaGreatCtRc
import Derived.Test.YtghpaegglbbocaaGreatCtRd
import Derived.Test.YtghpaegglbbocaaGreatSRl
import Derived.Test.YtghpaegglbbocaaGreatSxF
set_option linter.unusedSimpArgs false
set_option linter.unusedVariables false
namespace Go.Proofs.YtghpaegglbbocaaGreat
open Go.Sx
set_option maxRecDepth 100000
theorem LP (l:List Sx.Obj):
 ((decide (20<en (aE l))|| !ee l)=true->kR l=false/\Value.pointer none=Value.pointer none)/\((decide (20<en (aE l))|| !ee l)=false->true=true/\(ee l=false
   ->kR l=false/\Value.pointer none=Value.pointer none)/\(ee l=true->kR l=true/\∀(nid:Nat),some (V.lp nid 0)=some (V.lp nid 0)/\some [aw.store 40 75 l]=some [aw.store
   40 75 l])):=by
 refine⟨fun h=>⟨?_,rfl⟩,fun h=>⟨rfl,fun hr=>⟨?_,rfl⟩,fun hr=>⟨?_,fun nid=>⟨rfl,rfl⟩⟩⟩⟩
 ·unfold kR;unfold en at h;rw[Bool.or_eq_true,Ti,Bool.not_eq_true']at h;rcases h with h|h
  ·rw[decide_eq_false (by omega)];rfl
  ·rw[h];simp
 ·unfold kR;rw[hr];simp
 ·unfold kR;unfold en at h;rw[hr]at h⊢;rw[Bool.and_true,Ti];simp at h;omega
theorem Mq:ql Tryz.prog 13 OH:=
 Pc (aY Pk fz) (fun _=>rfl) (fun _=>by simp) fun a _ hok=>by
  obtain⟨l,_⟩:=a;exact cg (inl:=bM) (ann:=aL) (ab GR ak) (aG QN aA) (LP l) (by kernel_rfl)
theorem Hf:
 true=true/\(gF 1=false->true=true/\az (ByteArray.mk (Array.mk []))/\true=true/\az (ByteArray.mk (Array.mk []))/\(decide (fu [] 0 (Key.mk 1 void.oid void.count void.call
  void.rights 5) (aZ.mk 1 (ByteArray.mk (Array.mk [])) void void void)=0)&&decide (fu [] 0 (Key.mk 1 void.oid void.count void.call void.rights 5) (aZ.mk 2 (ByteArray.mk (Array.mk [])) void void
  void)=0)&& !gP [] 0 (Key.mk 1 void.oid void.count void.call void.rights 5) (aZ.mk 1 (ByteArray.mk (Array.mk [])) void void void)&&decide ((bX [] 0 (Key.mk 1 void.oid void.count void.call
  void.rights 5) (aZ.mk 1 (ByteArray.mk (Array.mk [])) void void void)).code=0)&&decide ((bX [] 0 (Key.mk 1 void.oid void.count void.call void.rights 5) (aZ.mk 1 (ByteArray.mk (Array.mk []))
  void void void)).k2.value=5)&&decide ((bX [] 0 (Key.mk 1 void.oid void.count void.call void.rights 5) (aZ.mk 2 (ByteArray.mk (Array.mk [])) void void void)).code=240))=true)/\(gF 1=
  true->true=true/\az (ByteArray.mk (Array.mk []))/\(an (gu 1)/\az (ByteArray.mk (Array.mk [])))/\true=true/\az (ByteArray.mk (Array.mk []))/\(an (jl (gu 1) 0
  (Key.mk 1 void.oid void.count void.call void.rights 5) (aZ.mk 1 (ByteArray.mk (Array.mk [])) void void void))/\az (ByteArray.mk (Array.mk [])))/\(decide (fu (gu 1) 0 (Key.mk 1 void.oid
  void.count void.call void.rights 5) (aZ.mk 1 (ByteArray.mk (Array.mk [])) void void void)=0)&&decide (fu (jl (gu 1) 0 (Key.mk 1 void.oid void.count void.call void.rights 5) (aZ.mk 1
  (ByteArray.mk (Array.mk [])) void void void)) 0 (Key.mk 1 void.oid void.count void.call void.rights 5) (aZ.mk 2 (ByteArray.mk (Array.mk [])) void void void)=0)&& !gP (gu 1) 0 (Key.mk 1
  void.oid void.count void.call void.rights 5) (aZ.mk 1 (ByteArray.mk (Array.mk [])) void void void)&&decide ((bX (gu 1) 0 (Key.mk 1 void.oid void.count void.call void.rights 5) (aZ.mk 1
  (ByteArray.mk (Array.mk [])) void void void)).code=0)&&decide ((bX (gu 1) 0 (Key.mk 1 void.oid void.count void.call void.rights 5) (aZ.mk 1 (ByteArray.mk (Array.mk [])) void void
  void)).k2.value=5)&&decide ((bX (jl (gu 1) 0 (Key.mk 1 void.oid void.count void.call void.rights 5) (aZ.mk 1 (ByteArray.mk (Array.mk [])) void void void)) 0 (Key.mk 1 void.oid void.count
  void.call void.rights 5) (aZ.mk 2 (ByteArray.mk (Array.mk [])) void void void)).code=240))=true):=by
 have st:az (ByteArray.mk (Array.mk [])):=by unfold az;decide
 have h1:an (gu 1):=by unfold an;kernel_rfl
 refine⟨rfl,fun h=>absurd h (by decide),fun _=>⟨rfl,st,⟨h1,st⟩,rfl,st,⟨OY h1,st⟩,?_⟩⟩
 kernel_rfl
theorem IU:cW Tryz.prog 11 MM:=Ob rfl (cg (inl:=bM) (ann:=aL) ak (aG Gp (aG M5 aA)) Hf (by kernel_rfl))
end Go.Proofs.YtghpaegglbbocaaGreat
