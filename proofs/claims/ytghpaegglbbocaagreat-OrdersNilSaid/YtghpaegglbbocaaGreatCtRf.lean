import Derived.Test.YtghpaegglbbocaaGreatCtRc
import Derived.Test.YtghpaegglbbocaaGreatCtRd
import Derived.Test.YtghpaegglbbocaaGreatSRl
import Derived.Test.YtghpaegglbbocaaGreatSxF
namespace Go.Proofs.YtghpaegglbbocaaGreat
open Go.Sx
set_option maxRecDepth 100000
theorem OL (l:List Sx.Obj):
 ((decide (20<b9 (ai l))|| !fb l)=true->fE l=false/\Value.pointer none=Value.pointer none)/\((decide (20<b9 (ai l))|| !fb l)=false->true=true/\(fb l=false
   ->fE l=false/\Value.pointer none=Value.pointer none)/\(fb l=true->fE l=true/\∀(nid:Nat),some (V.lp nid 0)=some (V.lp nid 0)/\some [aI.store 40 75 l]=some [aI.store
   40 75 l])):=by
 refine⟨fun h=>⟨?_,rfl⟩,fun h=>⟨rfl,fun hr=>⟨?_,rfl⟩,fun hr=>⟨?_,fun nid=>⟨rfl,rfl⟩⟩⟩⟩
 ·unfold fE;unfold b9 at h;rw[Bool.or_eq_true,Yk,Bool.not_eq_true']at h;rcases h with h|h
  ·rw[decide_eq_false (by omega)];rfl
  ·rw[h];simp
 ·unfold fE;rw[hr];simp
 ·unfold fE;unfold b9 at h;rw[hr]at h⊢;rw[Bool.and_true,Yk];simp at h;omega
theorem wI:lA Tryz.prog 13 TQ:=
 SJ (aJ js cF) (fun _=>rfl) (fun _=>by simp) fun a _ hok=>by
  obtain⟨l,_⟩:=a;exact bn (inl:=bp) (ann:=aP) (ab Il ak) (aD VU aC) (OL l) (by kernel_rfl)
theorem K2:
 true=true/\(iL 1=false->true=true/\aw (ByteArray.mk (Array.mk []))/\true=true/\aw (ByteArray.mk (Array.mk []))/\(decide (bJ [] 0 (Key.mk 1 void.oid void.count void.call
  void.rights 5) (bm.mk 1 (ByteArray.mk (Array.mk [])) void void void)=0)&&decide (bJ [] 0 (Key.mk 1 void.oid void.count void.call void.rights 5) (bm.mk 2 (ByteArray.mk (Array.mk [])) void void
  void)=0)&& !cA [] 0 (Key.mk 1 void.oid void.count void.call void.rights 5) (bm.mk 1 (ByteArray.mk (Array.mk [])) void void void)&&decide ((aB [] 0 (Key.mk 1 void.oid void.count void.call
  void.rights 5) (bm.mk 1 (ByteArray.mk (Array.mk [])) void void void)).code=0)&&decide ((aB [] 0 (Key.mk 1 void.oid void.count void.call void.rights 5) (bm.mk 1 (ByteArray.mk (Array.mk []))
  void void void)).k2.value=5)&&decide ((aB [] 0 (Key.mk 1 void.oid void.count void.call void.rights 5) (bm.mk 2 (ByteArray.mk (Array.mk [])) void void void)).code=240))=true)/\(iL 1=
  true->true=true/\aw (ByteArray.mk (Array.mk []))/\(aq (hJ 1)/\aw (ByteArray.mk (Array.mk [])))/\true=true/\aw (ByteArray.mk (Array.mk []))/\(aq (fo (hJ 1) 0
  (Key.mk 1 void.oid void.count void.call void.rights 5) (bm.mk 1 (ByteArray.mk (Array.mk [])) void void void))/\aw (ByteArray.mk (Array.mk [])))/\(decide (bJ (hJ 1) 0 (Key.mk 1 void.oid
  void.count void.call void.rights 5) (bm.mk 1 (ByteArray.mk (Array.mk [])) void void void)=0)&&decide (bJ (fo (hJ 1) 0 (Key.mk 1 void.oid void.count void.call void.rights 5) (bm.mk 1
  (ByteArray.mk (Array.mk [])) void void void)) 0 (Key.mk 1 void.oid void.count void.call void.rights 5) (bm.mk 2 (ByteArray.mk (Array.mk [])) void void void)=0)&& !cA (hJ 1) 0 (Key.mk 1
  void.oid void.count void.call void.rights 5) (bm.mk 1 (ByteArray.mk (Array.mk [])) void void void)&&decide ((aB (hJ 1) 0 (Key.mk 1 void.oid void.count void.call void.rights 5) (bm.mk 1
  (ByteArray.mk (Array.mk [])) void void void)).code=0)&&decide ((aB (hJ 1) 0 (Key.mk 1 void.oid void.count void.call void.rights 5) (bm.mk 1 (ByteArray.mk (Array.mk [])) void void
  void)).k2.value=5)&&decide ((aB (fo (hJ 1) 0 (Key.mk 1 void.oid void.count void.call void.rights 5) (bm.mk 1 (ByteArray.mk (Array.mk [])) void void void)) 0 (Key.mk 1 void.oid void.count
  void.call void.rights 5) (bm.mk 2 (ByteArray.mk (Array.mk [])) void void void)).code=240))=true):=by
 have st:aw (ByteArray.mk (Array.mk [])):=by unfold aw;decide
 have h1:aq (hJ 1):=by unfold aq;kernel_rfl
 refine⟨rfl,fun h=>absurd h (by decide),fun _=>⟨rfl,st,⟨h1,st⟩,rfl,st,⟨NG h1,st⟩,?_⟩⟩
 kernel_rfl
theorem pR:ck Tryz.prog 11 OO:=S0 rfl (bn (inl:=bp) (ann:=aP) ak (aD Nt (aD NN aC)) K2 (by kernel_rfl))
theorem Rf (x:List tx) (hx:∀i,i<ai x->aw (ah x i gX).msg.data):
 (decide (30<b9 (ai x))=true->true=jh (asks x))/\(decide (30<b9 (ai x))=false->(∃g,wB x g/\0=g/\ai x=ai x/\DF x=DF x)/\∀(g:Int),wB x g->(decide
  (g<b9 (ai x))=true->(0<=g/\g< ↑(ai x))/\g.toNat<ai x/\aG IntKind.i64 (bW (ah x g.toNat gX).msg.data)/\(decide (100<bW (ah x g.toNat gX).msg.data)=true->true=
  jh (asks x))/\(decide (100<bW (ah x g.toNat gX).msg.data)=false->aG IntKind.i64 (g+1)/\∃g',wB x g'/\(b9 (ai x)-g').toNat<(b9 (ai x)-g).toNat/\g+1=g'/\ai
  x=ai x/\DF x=DF x))/\(decide (g<b9 (ai x))=false->false=jh (asks x))):=by
 refine⟨fun h=>?_,fun h=>⟨⟨0,⟨by omega,by omega,rfl⟩,rfl,rfl,rfl⟩,fun g hg=>⟨fun hlt=>?_,fun hge=>?_⟩⟩⟩
 ·unfold jh asks;simp only;rw[h];rfl
 ·obtain⟨g0,g1,g2⟩:=hg;have hlt:g<(ai x:Int):=Yn hlt;have hs:=hx g.toNat (by omega)
  have h30:¬30<(ai x:Int):=Ym h;have e:O7 (se (ah x g.toNat gX))=bW (ah x g.toNat gX).msg.data:=rfl;refine⟨⟨g0,hlt⟩,by omega,by unfold aw at hs;simp only[aG,bY,bW];omega,fun h1=>?_,fun h1=>⟨by simp only[aG,bY];omega,g+1,⟨by omega,by omega,?_⟩,by unfold b9;omega,rfl,rfl,rfl⟩⟩
  ·have h1:=Yn h1;unfold jh asks;simp only;rw[zj (F:=fun i=>se (ah x i gX)) (j:=g.toNat) (by omega) (by rw[e];exact h1) (ai x) (by omega),Bool.or_true]
  ·have h1:=Ym h1;rw[show(g+1).toNat=g.toNat+1 by omega]
   exact EB g2 (by rw[e];exact h1)
 ·obtain⟨g0,g1,g2⟩:=hg;have hge:¬g<(ai x:Int):=Ym hge;rw[show g.toNat=ai x by omega]at g2
  unfold jh asks;simp only;rw[h,g2];rfl
theorem Fl:ck Tryz.prog 10 PI:=
 eW (aJ T2 cF) (fun _=>rfl) fun a hq hok=>by
  obtain⟨_,_⟩:=a;obtain⟨x,rfl,hx⟩:=hq;exact aV (inl:=bp) (ann:=(iB [(10,4,Rk [0] (fun g=> [(3,.it .i64 g)]) (wB x) (b9 (ai x)))])) ak (Rf x hx) (by kernel_rfl)
theorem Mr (L:List Sx.Obj) (a:tx) (hL:aq L) (ha:aw a.msg.data):
 true=true/\aw a.msg.data/\(aq L/\aw a.msg.data)/\true=true/\(aq L/\aw a.msg.data)/\(ey L a.now a.key a.msg=false->(decide ((aB L a.now a.key a.msg).code=
  (aB L a.now a.key a.msg).code)&&(vP (aB L a.now a.key a.msg).data (aB L a.now a.key a.msg).data&&(tR (aB L a.now a.key a.msg).k0 (aB L a.now a.key a.msg).k0&&(tR (aB L a.now
  a.key a.msg).k1 (aB L a.now a.key a.msg).k1&&(tR (aB L a.now a.key a.msg).k2 (aB L a.now a.key a.msg).k2&&true))&&true))&&cA L a.now a.key a.msg==cA L a.now a.key a.msg&&
  decide (bJ L a.now a.key a.msg=bJ L a.now a.key a.msg))=true/\km L a=false/\fo L a.now a.key a.msg=L)/\(ey L a.now a.key a.msg=true->(decide ((aB L a.now a.key
  a.msg).code=(aB L a.now a.key a.msg).code)&&(vP (aB L a.now a.key a.msg).data (aB L a.now a.key a.msg).data&&(tR (aB L a.now a.key a.msg).k0 (aB L a.now a.key a.msg).k0&&(tR
  (aB L a.now a.key a.msg).k1 (aB L a.now a.key a.msg).k1&&(tR (aB L a.now a.key a.msg).k2 (aB L a.now a.key a.msg).k2&&true))&&true))&&cA L a.now a.key a.msg==cA L a.now
  a.key a.msg&&decide (bJ L a.now a.key a.msg=bJ L a.now a.key a.msg))=true/\km L a=true/\fo L a.now a.key a.msg=fa L a/\fo L a.now a.key a.msg=fa L a):=by
 rw[HJ,yx,yx,yx];simp only[decide_true,Bool.and_true,beq_self_eq_true];exact⟨trivial,ha,⟨hL,ha⟩,trivial,⟨hL,ha⟩,fun h=>⟨trivial,h,SN h⟩,fun h=>⟨trivial,h,rfl,rfl⟩⟩
theorem Mm (L:List Sx.Obj) (a:tx) (hL:aq L) (ha:aw a.msg.data):aj Tryz.prog 18 [.lp 0 0,.sa 1,se a] [.store tS eS L,.ro (.arr none 163 (.ob L))] (V7 (km L a) L (fa L a)) (fun _ _=>False):=
 bn (inl:=bp) (ann:=aP) ak (aD Uk (aD NN aC)) (Mr L a hL ha) (by kernel_rfl)
theorem vZ:lA Tryz.prog 18 PL:=Sm Rb (fun _=>rfl) fun L x hL=>Mm L x hL.1 hL.2
end Go.Proofs.YtghpaegglbbocaaGreat
