import Derived.Test.YtghpaegglbbocaaGreatCtRc
import Derived.Test.YtghpaegglbbocaaGreatCtRd
import Derived.Test.YtghpaegglbbocaaGreatSRl
import Derived.Test.YtghpaegglbbocaaGreatSxF
set_option linter.unusedSimpArgs false
set_option linter.unusedVariables false
namespace Go.Proofs.YtghpaegglbbocaaGreat
open Go.Sx
set_option maxRecDepth 100000
theorem QV (l:List Sx.Obj):
 ((decide (20<cw (aj l))|| !eZ l)=true->jO l=false/\Value.pointer none=Value.pointer none)/\((decide (20<cw (aj l))|| !eZ l)=false->true=true/\(eZ l=false
   ->jO l=false/\Value.pointer none=Value.pointer none)/\(eZ l=true->jO l=true/\∀(nid:Nat),some (V.lp nid 0)=some (V.lp nid 0)/\some [aH.store 40 75 l]=some [aH.store
   40 75 l])):=by
 refine⟨fun h=>⟨?_,rfl⟩,fun h=>⟨rfl,fun hr=>⟨?_,rfl⟩,fun hr=>⟨?_,fun nid=>⟨rfl,rfl⟩⟩⟩⟩
 ·unfold jO;unfold cw at h;rw[Bool.or_eq_true,XL,Bool.not_eq_true']at h;rcases h with h|h
  ·rw[decide_eq_false (by omega)];rfl
  ·rw[h];simp
 ·unfold jO;rw[hr];simp
 ·unfold jO;unfold cw at h;rw[hr]at h⊢;rw[Bool.and_true,XL];simp at h;omega
theorem Q5:ll Tryz.prog 13 Tl:=
 S7 (aJ jo cK) (fun _=>rfl) (fun _=>by simp) fun a _ hok=>by
  obtain⟨l,_⟩:=a;exact br (inl:=bn) (ann:=aP) (ae Mb an) (aF V6 aC) (QV l) (by kernel_rfl)
theorem Mg:
 true=true/\(iE 1=false->true=true/\aA (ByteArray.mk (Array.mk []))/\true=true/\aA (ByteArray.mk (Array.mk []))/\(decide (bP [] 0 (Key.mk 1 void.oid void.count void.call
  void.rights 5) (bm.mk 1 (ByteArray.mk (Array.mk [])) void void void)=0)&&decide (bP [] 0 (Key.mk 1 void.oid void.count void.call void.rights 5) (bm.mk 2 (ByteArray.mk (Array.mk [])) void void
  void)=0)&& !cM [] 0 (Key.mk 1 void.oid void.count void.call void.rights 5) (bm.mk 1 (ByteArray.mk (Array.mk [])) void void void)&&decide ((aB [] 0 (Key.mk 1 void.oid void.count void.call
  void.rights 5) (bm.mk 1 (ByteArray.mk (Array.mk [])) void void void)).code=0)&&decide ((aB [] 0 (Key.mk 1 void.oid void.count void.call void.rights 5) (bm.mk 1 (ByteArray.mk (Array.mk []))
  void void void)).k2.value=5)&&decide ((aB [] 0 (Key.mk 1 void.oid void.count void.call void.rights 5) (bm.mk 2 (ByteArray.mk (Array.mk [])) void void void)).code=240))=true)/\(iE 1=
  true->true=true/\aA (ByteArray.mk (Array.mk []))/\(aq (g8 1)/\aA (ByteArray.mk (Array.mk [])))/\true=true/\aA (ByteArray.mk (Array.mk []))/\(aq (fq (g8 1) 0
  (Key.mk 1 void.oid void.count void.call void.rights 5) (bm.mk 1 (ByteArray.mk (Array.mk [])) void void void))/\aA (ByteArray.mk (Array.mk [])))/\(decide (bP (g8 1) 0 (Key.mk 1 void.oid
  void.count void.call void.rights 5) (bm.mk 1 (ByteArray.mk (Array.mk [])) void void void)=0)&&decide (bP (fq (g8 1) 0 (Key.mk 1 void.oid void.count void.call void.rights 5) (bm.mk 1
  (ByteArray.mk (Array.mk [])) void void void)) 0 (Key.mk 1 void.oid void.count void.call void.rights 5) (bm.mk 2 (ByteArray.mk (Array.mk [])) void void void)=0)&& !cM (g8 1) 0 (Key.mk 1
  void.oid void.count void.call void.rights 5) (bm.mk 1 (ByteArray.mk (Array.mk [])) void void void)&&decide ((aB (g8 1) 0 (Key.mk 1 void.oid void.count void.call void.rights 5) (bm.mk 1
  (ByteArray.mk (Array.mk [])) void void void)).code=0)&&decide ((aB (g8 1) 0 (Key.mk 1 void.oid void.count void.call void.rights 5) (bm.mk 1 (ByteArray.mk (Array.mk [])) void void
  void)).k2.value=5)&&decide ((aB (fq (g8 1) 0 (Key.mk 1 void.oid void.count void.call void.rights 5) (bm.mk 1 (ByteArray.mk (Array.mk [])) void void void)) 0 (Key.mk 1 void.oid void.count
  void.call void.rights 5) (bm.mk 2 (ByteArray.mk (Array.mk [])) void void void)).code=240))=true):=by
 have st:aA (ByteArray.mk (Array.mk [])):=by unfold aA;decide
 have h1:aq (g8 1):=by unfold aq;kernel_rfl
 refine⟨rfl,fun h=>absurd h (by decide),fun _=>⟨rfl,st,⟨h1,st⟩,rfl,st,⟨Jb h1,st⟩,?_⟩⟩
 kernel_rfl
theorem IG:cj Tryz.prog 11 Pq:=Tt rfl (br (inl:=bn) (ann:=aP) an (aF Kt (aF Rq aC)) Mg (by kernel_rfl))
theorem Kv (L:List Sx.Obj) (a:SM) (hL:aq L) (ha:aA a.msg.data):
 true=true/\aA a.msg.data/\(aq L/\aA a.msg.data)/\true=true/\(aq L/\aA a.msg.data)/\(ey L a.now a.key a.msg=false->(decide ((aB L a.now a.key a.msg).code=
  (aB L a.now a.key a.msg).code)&&(yB (aB L a.now a.key a.msg).data (aB L a.now a.key a.msg).data&&(wC (aB L a.now a.key a.msg).k0 (aB L a.now a.key a.msg).k0&&(wC (aB L a.now
  a.key a.msg).k1 (aB L a.now a.key a.msg).k1&&(wC (aB L a.now a.key a.msg).k2 (aB L a.now a.key a.msg).k2&&true))&&true))&&cM L a.now a.key a.msg==cM L a.now a.key a.msg&&
  decide (bP L a.now a.key a.msg=bP L a.now a.key a.msg))=true/\uT L a=false/\fq L a.now a.key a.msg=L)/\(ey L a.now a.key a.msg=true->(decide ((aB L a.now a.key
  a.msg).code=(aB L a.now a.key a.msg).code)&&(yB (aB L a.now a.key a.msg).data (aB L a.now a.key a.msg).data&&(wC (aB L a.now a.key a.msg).k0 (aB L a.now a.key a.msg).k0&&(wC
  (aB L a.now a.key a.msg).k1 (aB L a.now a.key a.msg).k1&&(wC (aB L a.now a.key a.msg).k2 (aB L a.now a.key a.msg).k2&&true))&&true))&&cM L a.now a.key a.msg==cM L a.now
  a.key a.msg&&decide (bP L a.now a.key a.msg=bP L a.now a.key a.msg))=true/\uT L a=true/\fq L a.now a.key a.msg=ly L a/\fq L a.now a.key a.msg=ly L a):=by
 rw[Hk,yb,yb,yb];simp only[decide_true,Bool.and_true,beq_self_eq_true];exact⟨trivial,ha,⟨hL,ha⟩,trivial,⟨hL,ha⟩,fun h=>⟨trivial,h,RJ h⟩,fun h=>⟨trivial,h,rfl,rfl⟩⟩
theorem HC (L:List Sx.Obj) (a:SM) (hL:aq L) (ha:aA a.msg.data):ai Tryz.prog 18 [.lp 0 0,.sa 1,RM a] [.store tS eS L,.ro (.arr none 163 (.ob L))] (U3 (uT L a) L (ly L a)) (fun _ _=>False):=
 br (inl:=bn) (ann:=aP) an (aF SR (aF Rq aC)) (Kv L a hL ha) (by kernel_rfl)
theorem PA:ll Tryz.prog 18 Qq:=T5 Nn (fun _=>rfl) fun L x hL=>HC L x hL.1 hL.2
end Go.Proofs.YtghpaegglbbocaaGreat
