import Derived.Test.YtmfbohanboiklaaGreatCN
import Derived.Test.YtmfbohanboiklaaGreatCtTb
import Derived.Test.YtmfbohanboiklaaGreatSpHc
namespace Go.Proofs.YtmfbohanboiklaaGreat
open Go.Sx
theorem DY (L:List Sx.Obj) (oid:Int) (hL:ow L):
 ((!decide (aF L oid=0))=true->ef L oid=false/\Value.slice none 0 0=Value.slice none 0 0/\aF L oid=aF L oid)/\((!decide (aF L oid=0))=false->ow L/\ef L oid=
   true/\∀(nid:Nat),some (V.tp [V.sa nid,V.ci IntKind.i64 0])=some (V.tp [V.sa nid,V.ci IntKind.i64 0])/\some [ae.arr (some qZ) 5 (TL.qs 5 (eT L oid))]=some [ae.arr (some qZ) 5 (TL.qs 5
   (eT L oid))]):=by
 unfold ef;refine⟨fun h=>⟨by simpa using h,rfl,rfl⟩,fun h=>⟨hL,by simpa using h,fun nid=>⟨rfl,rfl⟩⟩⟩
theorem En (oid:Int):
 ((!decide (aF [] oid=0))=true->ef [] oid=false/\Value.slice none 0 0=Value.slice none 0 0/\aF [] oid=aF [] oid)/\((!decide (aF [] oid=0))=false->False/\ef [] oid
   =true/\∀(nid:Nat),some (V.tp [V.sa nid,V.ci IntKind.i64 0])=some (V.tp [V.sa nid,V.ci IntKind.i64 0])/\some [ae.arr (some qZ) 5 (TL.qs 5 (eT [] oid))]=some [ae.arr (some qZ) 5 (TL.qs
   5 (eT [] oid))]):=by
 unfold ef;refine⟨fun h=>⟨by simpa using h,rfl,rfl⟩,fun h=>?_⟩
 rw[iG]at h;simp at h
theorem zS:qX Tryz.prog 13 EA:=by
 unfold EA wu
 refine Fb (cF (A2 tS eS) (cF oD iC)) (fun _=>rfl) (fun _=>by simp) fun a hq _=>by
  obtain⟨o,oid,_⟩:=a;cases o with
  |none=>exact dM (inl:=cg) (ann:=cm) (az p5 (az Az aS)) dR (En oid) (by kernel_rfl)
  |some L=>exact dM (inl:=cg) (ann:=cm) (az p5 (az Az aS)) dR (DY L oid hq) (by kernel_rfl)
end Go.Proofs.YtmfbohanboiklaaGreat
