import Derived.Test.YtghpaegglbbocaaGreatCtRc
import Derived.Test.YtghpaegglbbocaaGreatCtRd
import Derived.Test.YtghpaegglbbocaaGreatSRl
import Derived.Test.YtghpaegglbbocaaGreatSxF
set_option linter.unusedSimpArgs false
set_option linter.unusedVariables false
namespace Go.Proofs.YtghpaegglbbocaaGreat
open Go.Sx
set_option maxRecDepth 100000
theorem N4 (l:List Sx.Obj):
 ((decide (20<b9 (aj l))|| !fb l)=true->fA l=false/\Value.pointer none=Value.pointer none)/\((decide (20<b9 (aj l))|| !fb l)=false->true=true/\(fb l=false
   ->fA l=false/\Value.pointer none=Value.pointer none)/\(fb l=true->fA l=true/\∀(nid:Nat),some (V.lp nid 0)=some (V.lp nid 0)/\some [aI.store 40 75 l]=some [aI.store
   40 75 l])):=by
 refine⟨fun h=>⟨?_,rfl⟩,fun h=>⟨rfl,fun hr=>⟨?_,rfl⟩,fun hr=>⟨?_,fun nid=>⟨rfl,rfl⟩⟩⟩⟩
 ·unfold fA;unfold b9 at h;rw[Bool.or_eq_true,Yk,Bool.not_eq_true']at h;rcases h with h|h
  ·rw[decide_eq_false (by omega)];rfl
  ·rw[h];simp
 ·unfold fA;rw[hr];simp
 ·unfold fA;unfold b9 at h;rw[hr]at h⊢;rw[Bool.and_true,Yk];simp at h;omega
theorem wN:lF Tryz.prog 13 T8:=
 Tq (aJ js cF) (fun _=>rfl) (fun _=>by simp) fun a _ hok=>by
  obtain⟨l,_⟩:=a;exact bn (inl:=bp) (ann:=aP) (ab Jl ak) (aD Wo aC) (N4 l) (by kernel_rfl)
theorem KJ:
 true=true/\(iE 1=false->true=true/\aw (ByteArray.mk (Array.mk []))/\true=true/\aw (ByteArray.mk (Array.mk []))/\(decide (bI [] 0 (Key.mk 1 void.oid void.count void.call
  void.rights 5) (bm.mk 1 (ByteArray.mk (Array.mk [])) void void void)=0)&&decide (bI [] 0 (Key.mk 1 void.oid void.count void.call void.rights 5) (bm.mk 2 (ByteArray.mk (Array.mk [])) void void
  void)=0)&& !cA [] 0 (Key.mk 1 void.oid void.count void.call void.rights 5) (bm.mk 1 (ByteArray.mk (Array.mk [])) void void void)&&decide ((aB [] 0 (Key.mk 1 void.oid void.count void.call
  void.rights 5) (bm.mk 1 (ByteArray.mk (Array.mk [])) void void void)).code=0)&&decide ((aB [] 0 (Key.mk 1 void.oid void.count void.call void.rights 5) (bm.mk 1 (ByteArray.mk (Array.mk []))
  void void void)).k2.value=5)&&decide ((aB [] 0 (Key.mk 1 void.oid void.count void.call void.rights 5) (bm.mk 2 (ByteArray.mk (Array.mk [])) void void void)).code=240))=true)/\(iE 1=
  true->true=true/\aw (ByteArray.mk (Array.mk []))/\(aq (ie 1)/\aw (ByteArray.mk (Array.mk [])))/\true=true/\aw (ByteArray.mk (Array.mk []))/\(aq (fm (ie 1) 0
  (Key.mk 1 void.oid void.count void.call void.rights 5) (bm.mk 1 (ByteArray.mk (Array.mk [])) void void void))/\aw (ByteArray.mk (Array.mk [])))/\(decide (bI (ie 1) 0 (Key.mk 1 void.oid
  void.count void.call void.rights 5) (bm.mk 1 (ByteArray.mk (Array.mk [])) void void void)=0)&&decide (bI (fm (ie 1) 0 (Key.mk 1 void.oid void.count void.call void.rights 5) (bm.mk 1
  (ByteArray.mk (Array.mk [])) void void void)) 0 (Key.mk 1 void.oid void.count void.call void.rights 5) (bm.mk 2 (ByteArray.mk (Array.mk [])) void void void)=0)&& !cA (ie 1) 0 (Key.mk 1
  void.oid void.count void.call void.rights 5) (bm.mk 1 (ByteArray.mk (Array.mk [])) void void void)&&decide ((aB (ie 1) 0 (Key.mk 1 void.oid void.count void.call void.rights 5) (bm.mk 1
  (ByteArray.mk (Array.mk [])) void void void)).code=0)&&decide ((aB (ie 1) 0 (Key.mk 1 void.oid void.count void.call void.rights 5) (bm.mk 1 (ByteArray.mk (Array.mk [])) void void
  void)).k2.value=5)&&decide ((aB (fm (ie 1) 0 (Key.mk 1 void.oid void.count void.call void.rights 5) (bm.mk 1 (ByteArray.mk (Array.mk [])) void void void)) 0 (Key.mk 1 void.oid void.count
  void.call void.rights 5) (bm.mk 2 (ByteArray.mk (Array.mk [])) void void void)).code=240))=true):=by
 have st:aw (ByteArray.mk (Array.mk [])):=by unfold aw;decide
 have h1:aq (ie 1):=by unfold aq;kernel_rfl
 refine⟨rfl,fun h=>absurd h (by decide),fun _=>⟨rfl,st,⟨h1,st⟩,rfl,st,⟨M9 h1,st⟩,?_⟩⟩
 kernel_rfl
theorem qd:ck Tryz.prog 11 O9:=Tf rfl (bn (inl:=bp) (ann:=aP) ak (aD LI (aD Lb aC)) KJ (by kernel_rfl))
theorem NW (x:List sJ) (hx:∀i,i<aj x->aw (ah x i g8).msg.data):
 (decide (30<b9 (aj x))=true->true=jg (asks x))/\(decide (30<b9 (aj x))=false->(∃g,wM x g/\0=g/\aj x=aj x/\DF x=DF x)/\∀(g:Int),wM x g->(decide
  (g<b9 (aj x))=true->(0<=g/\g< ↑(aj x))/\g.toNat<aj x/\aG IntKind.i64 (bW (ah x g.toNat g8).msg.data)/\(decide (100<bW (ah x g.toNat g8).msg.data)=true->true=
  jg (asks x))/\(decide (100<bW (ah x g.toNat g8).msg.data)=false->aG IntKind.i64 (g+1)/\∃g',wM x g'/\(b9 (aj x)-g').toNat<(b9 (aj x)-g).toNat/\g+1=g'/\aj
  x=aj x/\DF x=DF x))/\(decide (g<b9 (aj x))=false->false=jg (asks x))):=by
 refine⟨fun h=>?_,fun h=>⟨⟨0,⟨by omega,by omega,rfl⟩,rfl,rfl,rfl⟩,fun g hg=>⟨fun hlt=>?_,fun hge=>?_⟩⟩⟩
 ·unfold jg asks;simp only;rw[h];rfl
 ·obtain⟨g0,g1,g2⟩:=hg;have hlt:g<(aj x:Int):=Yn hlt;have hs:=hx g.toNat (by omega)
  have h30:¬30<(aj x:Int):=Ym h;have e:Rt (rQ (ah x g.toNat g8))=bW (ah x g.toNat g8).msg.data:=rfl;refine⟨⟨g0,hlt⟩,by omega,by unfold aw at hs;simp only[aG,bY,bW];omega,fun h1=>?_,fun h1=>⟨by simp only[aG,bY];omega,g+1,⟨by omega,by omega,?_⟩,by unfold b9;omega,rfl,rfl,rfl⟩⟩
  ·have h1:=Yn h1;unfold jg asks;simp only;rw[zK (F:=fun i=>rQ (ah x i g8)) (j:=g.toNat) (by omega) (by rw[e];exact h1) (aj x) (by omega),Bool.or_true]
  ·have h1:=Ym h1;rw[show(g+1).toNat=g.toNat+1 by omega]
   exact D3 g2 (by rw[e];exact h1)
 ·obtain⟨g0,g1,g2⟩:=hg;have hge:¬g<(aj x:Int):=Ym hge;rw[show g.toNat=aj x by omega]at g2
  unfold jg asks;simp only;rw[h,g2];rfl
theorem FV:ck Tryz.prog 10 P9:=
 eP (aJ UG cF) (fun _=>rfl) fun a hq hok=>by
  obtain⟨_,_⟩:=a;obtain⟨x,rfl,hx⟩:=hq;exact aV (inl:=bp) (ann:=(iy [(10,4,Og [0] (fun g=> [(3,.it .i64 g)]) (wM x) (b9 (aj x)))])) ak (NW x hx) (by kernel_rfl)
theorem KO (L:List Sx.Obj) (a:sJ) (hL:aq L) (ha:aw a.msg.data):
 true=true/\aw a.msg.data/\(aq L/\aw a.msg.data)/\true=true/\(aq L/\aw a.msg.data)/\(ey L a.now a.key a.msg=false->(decide ((aB L a.now a.key a.msg).code=
  (aB L a.now a.key a.msg).code)&&(vP (aB L a.now a.key a.msg).data (aB L a.now a.key a.msg).data&&(tE (aB L a.now a.key a.msg).k0 (aB L a.now a.key a.msg).k0&&(tE (aB L a.now
  a.key a.msg).k1 (aB L a.now a.key a.msg).k1&&(tE (aB L a.now a.key a.msg).k2 (aB L a.now a.key a.msg).k2&&true))&&true))&&cA L a.now a.key a.msg==cA L a.now a.key a.msg&&
  decide (bI L a.now a.key a.msg=bI L a.now a.key a.msg))=true/\kC L a=false/\fm L a.now a.key a.msg=L)/\(ey L a.now a.key a.msg=true->(decide ((aB L a.now a.key
  a.msg).code=(aB L a.now a.key a.msg).code)&&(vP (aB L a.now a.key a.msg).data (aB L a.now a.key a.msg).data&&(tE (aB L a.now a.key a.msg).k0 (aB L a.now a.key a.msg).k0&&(tE
  (aB L a.now a.key a.msg).k1 (aB L a.now a.key a.msg).k1&&(tE (aB L a.now a.key a.msg).k2 (aB L a.now a.key a.msg).k2&&true))&&true))&&cA L a.now a.key a.msg==cA L a.now
  a.key a.msg&&decide (bI L a.now a.key a.msg=bI L a.now a.key a.msg))=true/\kC L a=true/\fm L a.now a.key a.msg=fa L a/\fm L a.now a.key a.msg=fa L a):=by
 rw[Hc,xJ,xJ,xJ];simp only[decide_true,Bool.and_true,beq_self_eq_true];exact⟨trivial,ha,⟨hL,ha⟩,trivial,⟨hL,ha⟩,fun h=>⟨trivial,h,Ue h⟩,fun h=>⟨trivial,h,rfl,rfl⟩⟩
theorem JM (L:List Sx.Obj) (a:sJ) (hL:aq L) (ha:aw a.msg.data):ai Tryz.prog 18 [.lp 0 0,.sa 1,rQ a] [.store tS eS L,.ro (.arr none 163 (.ob L))] (Wz (kC L a) L (fa L a)) (fun _ _=>False):=
 bn (inl:=bp) (ann:=aP) ak (aD S3 (aD Lb aC)) (KO L a hL ha) (by kernel_rfl)
theorem we:lF Tryz.prog 18 Od:=Um Pd (fun _=>rfl) fun L x hL=>JM L x hL.1 hL.2
end Go.Proofs.YtghpaegglbbocaaGreat
