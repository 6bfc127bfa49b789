import Derived.Test.YtmfbohanboiklaaGreatDoorCN
import Derived.Test.YtmfbohanboiklaaGreatDoorCtTb
import Derived.Test.YtmfbohanboiklaaGreatDoorSpHc
namespace Go.Proofs.YtmfbohanboiklaaGreatDoor
open Go.Sx
theorem EC(L:List Sx.Obj)(oid:Int)(hL:pH L):
 ((!decide (bm L oid=0))=true->gn L oid=false/\Value.slice none 0 0=Value.slice none 0 0/\bm L oid=bm L oid)/\((!decide (bm L oid=0))=false->pH L/\gn L oid=
   true/\∀(nid:Nat),some (V.tp [V.sa nid,V.ci IntKind.i64 0])=some (V.tp [V.sa nid,V.ci IntKind.i64 0])/\some [aI.arr (some sL) 5 (TL.qs 5 (ka L oid))]=some [aI.arr (some sL) 5 (TL.qs 5
   (ka L oid))]):=by
 unfold gn;refine⟨fun h=>⟨by simpa using h,rfl,rfl⟩,fun h=>⟨hL,by simpa using h,fun nid=>⟨rfl,rfl⟩⟩⟩
theorem FD(oid:Int):
 ((!decide (bm [] oid=0))=true->gn [] oid=false/\Value.slice none 0 0=Value.slice none 0 0/\bm [] oid=bm [] oid)/\((!decide (bm [] oid=0))=false->False/\gn [] oid
   =true/\∀(nid:Nat),some (V.tp [V.sa nid,V.ci IntKind.i64 0])=some (V.tp [V.sa nid,V.ci IntKind.i64 0])/\some [aI.arr (some sL) 5 (TL.qs 5 (ka [] oid))]=some [aI.arr (some sL) 5 (TL.qs
   5 (ka [] oid))]):=by
 unfold gn;refine⟨fun h=>⟨by simpa using h,rfl,rfl⟩,fun h=>?_⟩
 rw[jE]at h;simp at h
theorem IC:p7 Tryz.prog 12 GC:=by
 unfold GC xC
 refine Hr (bL (C8 tS eS) (bL mD ea)) (fun _=>rfl) (fun _=>by simp) fun a hq _=>by
  obtain⟨o,oid,_⟩:=a;cases o with
  |none=>exact eH (inl:=cq) (ann:=cH) (aS rn (aS BS bf)) eF (FD oid) (by kernel_rfl)
  |some L=>exact eH (inl:=cq) (ann:=cH) (aS rn (aS BS bf)) eF (EC L oid hq) (by kernel_rfl)
theorem Cw(k:Sx.Key):
 Key.mk k.kind k.oid k.count k.call k.rights void.value=Key.mk k.kind k.oid k.count k.call k.rights 0:=by
 rfl
theorem wc:cI Tryz.prog 6 Fp:=kT (bL me ea) (fun _=>rfl) fun a _ _=>bG (inl:=cq) (ann:=cH) bf (Cw (nf a.1)) (by kernel_rfl)
end Go.Proofs.YtmfbohanboiklaaGreatDoor
