import Derived.Test.YtghpaegglbbocaaGreatCtRc
import Derived.Test.YtghpaegglbbocaaGreatCtRd
import Derived.Test.YtghpaegglbbocaaGreatSRl
import Derived.Test.YtghpaegglbbocaaGreatSxF
set_option linter.unusedSimpArgs false
set_option linter.unusedVariables false
namespace Go.Proofs.YtghpaegglbbocaaGreat
open Go.Sx
set_option maxRecDepth 100000
theorem Qx (l:List Sx.Obj):
 ((decide (20<b9 (aj l))|| !fb l)=true->fC l=false/\Value.pointer none=Value.pointer none)/\((decide (20<b9 (aj l))|| !fb l)=false->true=true/\(fb l=false
   ->fC l=false/\Value.pointer none=Value.pointer none)/\(fb l=true->fC l=true/\∀(nid:Nat),some (V.lp nid 0)=some (V.lp nid 0)/\some [aI.store 40 75 l]=some [aI.store
   40 75 l])):=by
 refine⟨fun h=>⟨?_,rfl⟩,fun h=>⟨rfl,fun hr=>⟨?_,rfl⟩,fun hr=>⟨?_,fun nid=>⟨rfl,rfl⟩⟩⟩⟩
 ·unfold fC;unfold b9 at h;rw[Bool.or_eq_true,Yp,Bool.not_eq_true']at h;rcases h with h|h
  ·rw[decide_eq_false (by omega)];rfl
  ·rw[h];simp
 ·unfold fC;rw[hr];simp
 ·unfold fC;unfold b9 at h;rw[hr]at h⊢;rw[Bool.and_true,Yp];simp at h;omega
theorem wj:lG Tryz.prog 13 Ub:=
 SK (aJ ju cF) (fun _=>rfl) (fun _=>by simp) fun a _ hok=>by
  obtain⟨l,_⟩:=a;exact bp (inl:=bn) (ann:=aP) (ab NA ak) (aD VW aC) (Qx l) (by kernel_rfl)
theorem Kx:
 true=true/\(iF 1=false->true=true/\aw (ByteArray.mk (Array.mk []))/\true=true/\aw (ByteArray.mk (Array.mk []))/\(decide (bI [] 0 (Key.mk 1 void.oid void.count void.call
  void.rights 5) (bm.mk 1 (ByteArray.mk (Array.mk [])) void void void)=0)&&decide (bI [] 0 (Key.mk 1 void.oid void.count void.call void.rights 5) (bm.mk 2 (ByteArray.mk (Array.mk [])) void void
  void)=0)&& !cz [] 0 (Key.mk 1 void.oid void.count void.call void.rights 5) (bm.mk 1 (ByteArray.mk (Array.mk [])) void void void)&&decide ((aB [] 0 (Key.mk 1 void.oid void.count void.call
  void.rights 5) (bm.mk 1 (ByteArray.mk (Array.mk [])) void void void)).code=0)&&decide ((aB [] 0 (Key.mk 1 void.oid void.count void.call void.rights 5) (bm.mk 1 (ByteArray.mk (Array.mk []))
  void void void)).k2.value=5)&&decide ((aB [] 0 (Key.mk 1 void.oid void.count void.call void.rights 5) (bm.mk 2 (ByteArray.mk (Array.mk [])) void void void)).code=240))=true)/\(iF 1=
  true->true=true/\aw (ByteArray.mk (Array.mk []))/\(aq (ib 1)/\aw (ByteArray.mk (Array.mk [])))/\true=true/\aw (ByteArray.mk (Array.mk []))/\(aq (fo (ib 1) 0
  (Key.mk 1 void.oid void.count void.call void.rights 5) (bm.mk 1 (ByteArray.mk (Array.mk [])) void void void))/\aw (ByteArray.mk (Array.mk [])))/\(decide (bI (ib 1) 0 (Key.mk 1 void.oid
  void.count void.call void.rights 5) (bm.mk 1 (ByteArray.mk (Array.mk [])) void void void)=0)&&decide (bI (fo (ib 1) 0 (Key.mk 1 void.oid void.count void.call void.rights 5) (bm.mk 1
  (ByteArray.mk (Array.mk [])) void void void)) 0 (Key.mk 1 void.oid void.count void.call void.rights 5) (bm.mk 2 (ByteArray.mk (Array.mk [])) void void void)=0)&& !cz (ib 1) 0 (Key.mk 1
  void.oid void.count void.call void.rights 5) (bm.mk 1 (ByteArray.mk (Array.mk [])) void void void)&&decide ((aB (ib 1) 0 (Key.mk 1 void.oid void.count void.call void.rights 5) (bm.mk 1
  (ByteArray.mk (Array.mk [])) void void void)).code=0)&&decide ((aB (ib 1) 0 (Key.mk 1 void.oid void.count void.call void.rights 5) (bm.mk 1 (ByteArray.mk (Array.mk [])) void void
  void)).k2.value=5)&&decide ((aB (fo (ib 1) 0 (Key.mk 1 void.oid void.count void.call void.rights 5) (bm.mk 1 (ByteArray.mk (Array.mk [])) void void void)) 0 (Key.mk 1 void.oid void.count
  void.call void.rights 5) (bm.mk 2 (ByteArray.mk (Array.mk [])) void void void)).code=240))=true):=by
 have st:aw (ByteArray.mk (Array.mk [])):=by unfold aw;decide
 have h1:aq (ib 1):=by unfold aq;kernel_rfl
 refine⟨rfl,fun h=>absurd h (by decide),fun _=>⟨rfl,st,⟨h1,st⟩,rfl,st,⟨Jp h1,st⟩,?_⟩⟩
 kernel_rfl
theorem qs:ck Tryz.prog 11 P0:=Tn rfl (bp (inl:=bn) (ann:=aP) ak (aD Nf (aD Ni aC)) Kx (by kernel_rfl))
theorem N3 (x:List uq) (hx:∀i,i<aj x->aw (ah x i gY).msg.data):
 (decide (30<b9 (aj x))=true->true=jh (asks x))/\(decide (30<b9 (aj x))=false->(∃g,wk x g/\0=g/\aj x=aj x/\DM x=DM x)/\∀(g:Int),wk x g->(decide
  (g<b9 (aj x))=true->(0<=g/\g< ↑(aj x))/\g.toNat<aj x/\aG IntKind.i64 (bW (ah x g.toNat gY).msg.data)/\(decide (100<bW (ah x g.toNat gY).msg.data)=true->true=
  jh (asks x))/\(decide (100<bW (ah x g.toNat gY).msg.data)=false->aG IntKind.i64 (g+1)/\∃g',wk x g'/\(b9 (aj x)-g').toNat<(b9 (aj x)-g).toNat/\g+1=g'/\aj
  x=aj x/\DM x=DM x))/\(decide (g<b9 (aj x))=false->false=jh (asks x))):=by
 refine⟨fun h=>?_,fun h=>⟨⟨0,⟨by omega,by omega,rfl⟩,rfl,rfl,rfl⟩,fun g hg=>⟨fun hlt=>?_,fun hge=>?_⟩⟩⟩
 ·unfold jh asks;simp only;rw[h];rfl
 ·obtain⟨g0,g1,g2⟩:=hg;have hlt:g<(aj x:Int):=Ys hlt;have hs:=hx g.toNat (by omega)
  have h30:¬30<(aj x:Int):=Yr h;have e:QL (rM (ah x g.toNat gY))=bW (ah x g.toNat gY).msg.data:=rfl;refine⟨⟨g0,hlt⟩,by omega,by unfold aw at hs;simp only[aG,bY,bW];omega,fun h1=>?_,fun h1=>⟨by simp only[aG,bY];omega,g+1,⟨by omega,by omega,?_⟩,by unfold b9;omega,rfl,rfl,rfl⟩⟩
  ·have h1:=Ys h1;unfold jh asks;simp only;rw[z7 (F:=fun i=>rM (ah x i gY)) (j:=g.toNat) (by omega) (by rw[e];exact h1) (aj x) (by omega),Bool.or_true]
  ·have h1:=Yr h1;rw[show(g+1).toNat=g.toNat+1 by omega]
   exact Er g2 (by rw[e];exact h1)
 ·obtain⟨g0,g1,g2⟩:=hg;have hge:¬g<(aj x:Int):=Yr hge;rw[show g.toNat=aj x by omega]at g2
  unfold jh asks;simp only;rw[h,g2];rfl
theorem Gz:ck Tryz.prog 10 QJ:=
 eO (aJ Tb cF) (fun _=>rfl) fun a hq hok=>by
  obtain⟨_,_⟩:=a;obtain⟨x,rfl,hx⟩:=hq;exact aV (inl:=bn) (ann:=(iz [(10,4,Ra [0] (fun g=> [(3,.it .i64 g)]) (wk x) (b9 (aj x)))])) ak (N3 x hx) (by kernel_rfl)
theorem Jg (L:List Sx.Obj) (a:uq) (hL:aq L) (ha:aw a.msg.data):
 true=true/\aw a.msg.data/\(aq L/\aw a.msg.data)/\true=true/\(aq L/\aw a.msg.data)/\(eC L a.now a.key a.msg=false->(decide ((aB L a.now a.key a.msg).code=
  (aB L a.now a.key a.msg).code)&&(vW (aB L a.now a.key a.msg).data (aB L a.now a.key a.msg).data&&(tL (aB L a.now a.key a.msg).k0 (aB L a.now a.key a.msg).k0&&(tL (aB L a.now
  a.key a.msg).k1 (aB L a.now a.key a.msg).k1&&(tL (aB L a.now a.key a.msg).k2 (aB L a.now a.key a.msg).k2&&true))&&true))&&cz L a.now a.key a.msg==cz L a.now a.key a.msg&&
  decide (bI L a.now a.key a.msg=bI L a.now a.key a.msg))=true/\ky L a=false/\fo L a.now a.key a.msg=L)/\(eC L a.now a.key a.msg=true->(decide ((aB L a.now a.key
  a.msg).code=(aB L a.now a.key a.msg).code)&&(vW (aB L a.now a.key a.msg).data (aB L a.now a.key a.msg).data&&(tL (aB L a.now a.key a.msg).k0 (aB L a.now a.key a.msg).k0&&(tL
  (aB L a.now a.key a.msg).k1 (aB L a.now a.key a.msg).k1&&(tL (aB L a.now a.key a.msg).k2 (aB L a.now a.key a.msg).k2&&true))&&true))&&cz L a.now a.key a.msg==cz L a.now
  a.key a.msg&&decide (bI L a.now a.key a.msg=bI L a.now a.key a.msg))=true/\ky L a=true/\fo L a.now a.key a.msg=fa L a/\fo L a.now a.key a.msg=fa L a):=by
 rw[HR,yr,yr,yr];simp only[decide_true,Bool.and_true,beq_self_eq_true];exact⟨trivial,ha,⟨hL,ha⟩,trivial,⟨hL,ha⟩,fun h=>⟨trivial,h,Ue h⟩,fun h=>⟨trivial,h,rfl,rfl⟩⟩
theorem Jc (L:List Sx.Obj) (a:uq) (hL:aq L) (ha:aw a.msg.data):ai Tryz.prog 18 [.lp 0 0,.sa 1,rM a] [.store tS eS L,.ro (.arr none 163 (.ob L))] (VJ (ky L a) L (fa L a)) (fun _ _=>False):=
 bp (inl:=bn) (ann:=aP) ak (aD SP (aD Ni aC)) (Jg L a hL ha) (by kernel_rfl)
theorem wa:lG Tryz.prog 18 PB:=UE Q5 (fun _=>rfl) fun L x hL=>Jc L x hL.1 hL.2
end Go.Proofs.YtghpaegglbbocaaGreat
